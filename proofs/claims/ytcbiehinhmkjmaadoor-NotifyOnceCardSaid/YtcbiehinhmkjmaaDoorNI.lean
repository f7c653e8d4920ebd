import Derived.Test.YtcbiehinhmkjmaaDoorNH
import Derived.Test.YtcbiehinhmkjmaaDoorEC2
namespace Go.Proofs.YtcbiehinhmkjmaaDoor.NB
open Go.RowKit Go.Proofs.YtcbiehinhmkjmaaDoorW.PrintWords Go.Proofs.YtcbiehinhmkjmaaDoorW.PrintLast Go.Proofs.YtcbiehinhmkjmaaDoorW.PrintMore
open Go.Proofs.YtcbiehinhmkjmaaDoor.PB
set_option linter.unusedVariables false
set_option linter.unusedSimpArgs false

open Go.Proofs.YtcbiehinhmkjmaaDoor.PE.L (Tab Check_loop_true chkI anyE efEq effV retB RetI)
/-- May a reply be? -/
def Rep (go : Bool) (ret : Int) : Prop := -4095 ≤ ret ∧ ret ≤ 2147483647 ∧ (go = true → ret = 0)
instance (go : Bool) (ret : Int) : Decidable (Rep go ret) := by unfold Rep; infer_instance
theorem rep_f (go : Bool) (ret : Int) : effect_CheckReply.f go ret = some (if Rep go ret then 0 else 310) := by
  unfold effect_CheckReply.f effect_ret.f Rep
  by_cases h1 : -4095 ≤ ret <;> by_cases h2 : ret ≤ 2147483647 <;> by_cases h3 : ret = 0 <;> cases go <;> simp_all
  all_goals (repeat' split) <;> first | rfl | omega
abbrev EffV (ru : Bool) (re as_ : Int) : Value := .agg #[.int .i64 0, .bool ru, .int .i64 re, .bool false, .int .u16 0, .bool false, .int .i64 as_]
def behE (go : Bool) (ret : Int) : Int := if Rep go ret then 0 else 310
def behRu (go : Bool) (ret : Int) : Bool := decide (Rep go ret) && go
def behRe (go : Bool) (ret : Int) : Int := if Rep go ret then ret else 0
set_option maxRecDepth 100000 in
set_option maxHeartbeats 4000000 in
theorem behind_w (go : Bool) (ret : Int) (w : World) (hT : Tab w) : Calls Tryd.prog 35 #[EffV false 0 2, .agg #[.bool go, .int .i64 ret]] w fun e w' => e = .returned (.tuple #[EffV (behRu go ret) (behRe go ret) 0, .int .i64 (behE go ret)]) ∧ Below w.heap.size w w' := by
  have HF := Lib.hid (show effect_CheckReply.f go ret = some (behE go ret) from rep_f go ret)
  have HCK := Lib.hid (show chkI (anyE ⟨0, false, 0, false, 0, false, 2⟩) = 0 by decide)
  have hB : Below w.heap.size w (((w.alloc (.cells #[.int .i64 0, .bool false, .int .i64 0, .bool false, .int .u16 0, .bool false, .int .i64 2] 45)).alloc (.cells #[.bool go, .int .i64 ret] 42)).alloc (.cells #[.int .i64 0, .bool false, .int .i64 0, .bool false, .int .u16 0, .bool false, .int .i64 0] 45)) := (((Below.refl _ w).alloc (Nat.le_refl _) _).alloc (by simp) _).alloc (by simp only [World.size_alloc]; omega) _
  have HB1 := Lib.hid hB
  have HT1 := Lib.hid (hT.below hB)
  have HE1 := Lib.hid (al_keep (o := (.cells #[.int .i64 0, .bool false, .int .i64 0, .bool false, .int .u16 0, .bool false, .int .i64 0] 45)) (al_keep (o := (.cells #[.bool go, .int .i64 ret] 42)) (al_new w (.cells #[.int .i64 0, .bool false, .int .i64 0, .bool false, .int .u16 0, .bool false, .int .i64 2] 45))))
  have hr := al_keep (o := (.cells #[.int .i64 0, .bool false, .int .i64 0, .bool false, .int .u16 0, .bool false, .int .i64 0] 45)) (al_new (w.alloc (.cells #[.int .i64 0, .bool false, .int .i64 0, .bool false, .int .u16 0, .bool false, .int .i64 2] 45)) (.cells #[.bool go, .int .i64 ret] 42))
  have hz := al_new ((w.alloc (.cells #[.int .i64 0, .bool false, .int .i64 0, .bool false, .int .u16 0, .bool false, .int .i64 2] 45)).alloc (.cells #[.bool go, .int .i64 ret] 42)) (.cells #[.int .i64 0, .bool false, .int .i64 0, .bool false, .int .u16 0, .bool false, .int .i64 0] 45)
  simp only [World.size_alloc] at hr hz
  have HR1 := Lib.hid hr
  have HZ1 := Lib.hid hz
  clear hB hr hz hT
  by_cases h : Rep go ret
  · skip
    have HV := Lib.hid (show behE go ret = 0 from if_pos h)
    have H2 := Lib.hid (show behRu go ret = go by unfold behRu; rw [decide_eq_true h, Bool.true_and])
    have H3 := Lib.hid (show behRe go ret = ret from if_pos h)
    clear h
    go_enter Tryd.func35, Tryd.ntmps35
    go_wp2_with (first | (go_at_call 47; (with_reducible refine (Check_loop_true 0 false 0 false 0 false 2 _ (by decide) (by decide) HT1.out ⟨by decide⟩ (by decide)).mono ?_); rintro e w2 ⟨he, hb⟩; rw [HCK.out] at he; subst he; have HB2 := Lib.hid (HB1.out.trans (hb.mono HB1.out.size)); have HE2 := Lib.hid ((hb.block _ (blk_lt HE1.out)).trans HE1.out); have HR2 := Lib.hid ((hb.block _ (blk_lt HR1.out)).trans HR1.out); have HZ2 := Lib.hid ((hb.block _ (blk_lt HZ1.out)).trans HZ1.out); clear hb; have r0 := blk_cell HR2.out 0; have r1 := blk_cell HR2.out 1) | (go_at_call 48; (with_reducible refine (effect_CheckReply.calls go ret (behE go ret) _ HF.out).mono ?_); rintro e w3 ⟨he, hb⟩; rw [HV.out] at he; subst he; have HB3 := Lib.hid (HB2.out.trans (hb.mono HB2.out.size)); have HE3 := Lib.hid ((hb.block _ (blk_lt HE2.out)).trans HE2.out); have HR3 := Lib.hid ((hb.block _ (blk_lt HR2.out)).trans HR2.out); have HZ3 := Lib.hid ((hb.block _ (blk_lt HZ2.out)).trans HZ2.out); clear hb r0 r1; have e6 := blk_cell HE3.out 6; have r0 := blk_cell HR3.out 0; have r1 := blk_cell HR3.out 1; have z0 := blk_cell HZ3.out 0; have zf0 := blk_frozen HZ3.out 0; have z1 := blk_cell HZ3.out 1; have zf1 := blk_frozen HZ3.out 1; have z2 := blk_cell HZ3.out 2; have zf2 := blk_frozen HZ3.out 2; have z3 := blk_cell HZ3.out 3; have zf3 := blk_frozen HZ3.out 3; have z4 := blk_cell HZ3.out 4; have zf4 := blk_frozen HZ3.out 4; have z5 := blk_cell HZ3.out 5; have zf5 := blk_frozen HZ3.out 5; have z6 := blk_cell HZ3.out 6; have zf6 := blk_frozen HZ3.out 6; have zl := blk_lt HZ3.out))
    refine bodyPost_ret (v := .tuple #[.agg #[.int .i64 0, .bool go, .int .i64 ret, .bool false, .int .u16 0, .bool false, .int .i64 0], .int .i64 0]) (by simp [results, Tryd.results35, go_sem, z0, z1, z2, z3, z4, z5, z6, zl]) rfl ⟨by rw [HV.out, H2.out, H3.out], ?_⟩
    (repeat (with_reducible first | exact HB3.out | refine Below.setCell ?_ (by dsimp only; omega) _))
  · skip
    have HV := Lib.hid (show behE go ret = 310 from if_neg h)
    have H2 := Lib.hid (show behRu go ret = false by unfold behRu; rw [decide_eq_false h, Bool.false_and])
    have H3 := Lib.hid (show behRe go ret = 0 from if_neg h)
    clear h
    go_enter Tryd.func35, Tryd.ntmps35
    go_wp2_with (first | (go_at_call 47; (with_reducible refine (Check_loop_true 0 false 0 false 0 false 2 _ (by decide) (by decide) HT1.out ⟨by decide⟩ (by decide)).mono ?_); rintro e w2 ⟨he, hb⟩; rw [HCK.out] at he; subst he; have HB2 := Lib.hid (HB1.out.trans (hb.mono HB1.out.size)); have HE2 := Lib.hid ((hb.block _ (blk_lt HE1.out)).trans HE1.out); have HR2 := Lib.hid ((hb.block _ (blk_lt HR1.out)).trans HR1.out); have HZ2 := Lib.hid ((hb.block _ (blk_lt HZ1.out)).trans HZ1.out); clear hb; have r0 := blk_cell HR2.out 0; have r1 := blk_cell HR2.out 1) | (go_at_call 48; (with_reducible refine (effect_CheckReply.calls go ret (behE go ret) _ HF.out).mono ?_); rintro e w3 ⟨he, hb⟩; rw [HV.out] at he; subst he; have HB3 := Lib.hid (HB2.out.trans (hb.mono HB2.out.size)); have HE3 := Lib.hid ((hb.block _ (blk_lt HE2.out)).trans HE2.out); have HR3 := Lib.hid ((hb.block _ (blk_lt HR2.out)).trans HR2.out); have HZ3 := Lib.hid ((hb.block _ (blk_lt HZ2.out)).trans HZ2.out); clear hb r0 r1; have e6 := blk_cell HE3.out 6; have r0 := blk_cell HR3.out 0; have r1 := blk_cell HR3.out 1; have z0 := blk_cell HZ3.out 0; have zf0 := blk_frozen HZ3.out 0; have z1 := blk_cell HZ3.out 1; have zf1 := blk_frozen HZ3.out 1; have z2 := blk_cell HZ3.out 2; have zf2 := blk_frozen HZ3.out 2; have z3 := blk_cell HZ3.out 3; have zf3 := blk_frozen HZ3.out 3; have z4 := blk_cell HZ3.out 4; have zf4 := blk_frozen HZ3.out 4; have z5 := blk_cell HZ3.out 5; have zf5 := blk_frozen HZ3.out 5; have z6 := blk_cell HZ3.out 6; have zf6 := blk_frozen HZ3.out 6; have zl := blk_lt HZ3.out))
    refine bodyPost_ret (v := .tuple #[.agg #[.int .i64 0, .bool false, .int .i64 0, .bool false, .int .u16 0, .bool false, .int .i64 0], .int .i64 310]) (by simp [results, Tryd.results35, go_sem, z0, z1, z2, z3, z4, z5, z6, zl]) rfl ⟨by rw [HV.out, H2.out, H3.out], ?_⟩
    (repeat (with_reducible first | exact HB3.out | refine Below.setCell ?_ (by dsimp only; omega) _))

theorem half_ (a b : Nat) (h : a + b ≤ 1000) : IntKind.i64.wrap (IntKind.u64.wrap (wrap64 ((a : Int) + (b : Int))) / 2) = (((a + b) / 2 : Nat) : Int) := by
  have e1 : wrap64 ((a : Int) + (b : Int)) = ((a + b : Nat) : Int) := by unfold wrap64; omega
  have e2 : IntKind.u64.wrap ((a + b : Nat) : Int) = ((a + b : Nat) : Int) := by simp [IntKind.wrap, IntKind.signed, IntKind.bits]; omega
  rw [e1, e2, i64_w]
  unfold wrap64
  omega
def cmpV (a b : Int) : Int := if a < b then -1 else if a > b then 1 else 0
theorem c1_f (x : S36) (b : Int) : notify_by_c1.f x.f0 x.f1 x.f2.f0 x.f2.f1 x.f2.f2 x.f2.f3.f0 x.f2.f3.f1 x.f2.f3.f2 x.f2.f3.f3 x.f2.f3.f4 x.f2.f3.f5 x.f3 b = some (cmpV x.f0 b) := by
  unfold notify_by_c1.f cmp_Compare_uint64.f cmp_isNaN_uint64.f cmpV
  simp only [bne_self_eq_false, Option.bind_some, Bool.false_eq_true, if_false]
  split
  · rfl
  · split <;> rfl
theorem cmp_lt {a b : Int} (h : a < b) : cmpV a b = -1 := if_pos h
theorem cmp_gt {a b : Int} (h : b < a) : cmpV a b = 1 := (if_neg (by omega)).trans (if_pos h)
theorem cmp_eq {a b : Int} (h : a = b) : cmpV a b = 0 := (if_neg (by omega)).trans (if_neg (by omega))
theorem by_step (k : Nat) (l : List S36) (ck n : Int) (lo hi m : Nat) (p1 : (lo : Int) < (hi : Int)) (p2 : wrap64 (IntKind.u64.wrap (wrap64 ((lo : Int) + (hi : Int))) / 2) = (m : Int)) (p3 : (0 : Int) ≤ (m : Int)) (p4 : (m : Int) < (l.length : Int)) (p5 : wrap64 ((m : Int) + 1) = ((m + 1 : Nat) : Int)) :
    api_Notice_uint64.l0 (k + 1) l ck n lo hi = if cmpV (ckOf l m) ck < 0 then api_Notice_uint64.l0 k l ck n ((m + 1 : Nat) : Int) hi else api_Notice_uint64.l0 k l ck n lo m := by
  rw [api_Notice_uint64.l0, if_pos p1, p2, if_pos p3, if_pos p4, c1_f, Option.bind_some, p5]
theorem by_end (k : Nat) (l : List S36) (ck n : Int) (lo hi : Int) (p1 : ¬ lo < hi) :
    api_Notice_uint64.l0 (k + 1) l ck n lo hi = if lo < n then (if 0 ≤ lo then (if lo < (l.length : Int) then some (lo, (cmpV (ckOf l lo) ck == 0)) else none) else none) else some (lo, false) := by
  rw [api_Notice_uint64.l0, if_neg p1, c1_f]
  rfl
theorem half_m (lo hi : Nat) (h : lo + hi ≤ 1000) : wrap64 (IntKind.u64.wrap (wrap64 ((lo : Int) + (hi : Int))) / 2) = (((lo + hi) / 2 : Nat) : Int) := by
  have e := half_ lo hi h
  rw [i64_w] at e
  exact e
theorem w_succ (m : Nat) (h : m ≤ 1000) : wrap64 ((m : Int) + 1) = ((m + 1 : Nat) : Int) := by unfold wrap64; omega
theorem by_loop (l : List S36) (ck : Int) (hl : l.length ≤ 100) (hs : ∀ i j : Nat, i < j → j < l.length → ckOf l i < ckOf l j) : ∀ (d lo hi k : Nat), hi = lo + d → hi ≤ l.length → d < k → (∀ q : Nat, q < lo → ckOf l q < ck) → (∀ q : Nat, hi ≤ q → q < l.length → ck ≤ ckOf l q) →
    ∃ (i : Nat) (b : Bool), api_Notice_uint64.l0 k l ck (l.length : Int) lo hi = some ((i : Int), b) ∧ (b = true → i < l.length ∧ ckOf l i = ck) ∧ (b = false → ∀ q : Nat, q < l.length → ckOf l q ≠ ck) := by
  intro d
  induction d using Nat.strongRecOn with
  | _ d ih =>
    intro lo hi k hhi hle hk hlo hhi2
    obtain ⟨k, rfl⟩ : ∃ n, k = n + 1 := ⟨k - 1, by omega⟩
    rcases Nat.lt_or_ge lo hi with h | h
    · obtain ⟨m, hm⟩ : ∃ m, m = (lo + hi) / 2 := ⟨_, rfl⟩
      have hm1 : lo ≤ m := by omega
      have hm2 : m < hi := by omega
      have hm3 : m < l.length := by omega
      rw [by_step k l ck _ lo hi m (Int.ofNat_lt.2 h) (by rw [half_m lo hi (by omega), hm]) (Int.natCast_nonneg m) (Int.ofNat_lt.2 hm3) (w_succ m (by omega))]
      rcases Int.lt_or_le (ckOf l m) ck with hc | hc
      · rw [cmp_lt hc, if_pos (by decide)]
        refine ih (hi - (m + 1)) (by omega) (m + 1) hi k (by omega) hle (by omega) (fun q hq => ?_) hhi2
        rcases Nat.lt_or_ge q m with h1 | h1
        · exact Int.lt_trans (hs q m h1 hm3) hc
        · obtain rfl : q = m := by omega
          exact hc
      · have hn : ¬ cmpV (ckOf l m) ck < 0 := by
          rcases Int.lt_or_eq_of_le hc with h1 | h1
          · rw [cmp_gt h1]; decide
          · rw [cmp_eq h1.symm]; decide
        rw [if_neg hn]
        refine ih (m - lo) (by omega) lo m k (by omega) (by omega) (by omega) hlo (fun q hq hq2 => ?_)
        rcases Nat.lt_or_ge m q with h1 | h1
        · exact Int.le_trans hc (Int.le_of_lt (hs m q h1 hq2))
        · obtain rfl : q = m := by omega
          exact hc
    · obtain rfl : lo = hi := by omega
      rw [by_end k l ck _ lo lo (Int.lt_irrefl _)]
      rcases Nat.lt_or_ge lo l.length with h2 | h2
      · rw [if_pos (Int.ofNat_lt.2 h2), if_pos (Int.natCast_nonneg lo), if_pos (Int.ofNat_lt.2 h2)]
        rcases Int.lt_or_eq_of_le (hhi2 lo (Nat.le_refl _) h2) with h3 | h3
        · refine ⟨lo, false, by rw [cmp_gt h3]; rfl, fun h => (by cases h), fun _ q hq e => ?_⟩
          rcases Nat.lt_or_ge q lo with h4 | h4
          · exact absurd e (Int.ne_of_lt (hlo q h4))
          · rcases Nat.lt_or_ge lo q with h5 | h5
            · exact absurd e.symm (Int.ne_of_lt (Int.lt_trans h3 (hs lo q h5 hq)))
            · obtain rfl : q = lo := by omega
              exact absurd e.symm (Int.ne_of_lt h3)
        · exact ⟨lo, true, by rw [cmp_eq h3.symm]; rfl, fun _ => ⟨h2, h3.symm⟩, fun h => by cases h⟩
      · rw [if_neg (fun h => absurd (Int.ofNat_lt.1 h) (Nat.not_lt.2 h2))]
        exact ⟨lo, false, rfl, fun h => (by cases h), fun _ q hq e => absurd e (Int.ne_of_lt (hlo q (Nat.lt_of_lt_of_le hq h2)))⟩
theorem by_f (k : Nat) (hk : 200 < k) (nx : Int) (l : List S36) (ck : Int) (hl : l.length ≤ 100) (hs : ∀ i j : Nat, i < j → j < l.length → ckOf l i < ckOf l j) :
    ∃ (i : Nat) (b : Bool), notify_by.f k nx l ck = some ((i : Int), b) ∧ (b = true → i < l.length ∧ ckOf l i = ck) ∧ (b = false → ∀ q : Nat, q < l.length → ckOf l q ≠ ck) := by
  obtain ⟨i, b, h, h1, h2⟩ := by_loop l ck hl hs l.length 0 l.length k (by omega) (Nat.le_refl _) (by omega) (fun q hq => absurd hq (Nat.not_lt_zero _)) (fun q hq hq2 => absurd hq2 (by omega))
  refine ⟨i, b, ?_, h1, h2⟩
  unfold notify_by.f api_Notice_uint64.f
  rw [show ((0 : Int)) = ((0 : Nat) : Int) from rfl, h]
  rfl
theorem dok_sorted {nx : Int} {l : List S36} (h : Dok nx l) : ∀ i j : Nat, i < j → j < l.length → ckOf l i < ckOf l j := by
  intro i j
  induction j with
  | zero => intro hij; omega
  | succ j ih =>
    intro hij hj
    have h1 := (h.2.2.2 (j + 1) hj).2.2.1 (by omega)
    rw [show (((j + 1 : Nat) : Int) - 1) = ((j : Nat) : Int) by omega] at h1
    rcases Nat.lt_or_ge i j with h2 | h2
    · exact Int.lt_trans (ih h2 (by omega)) h1
    · obtain rfl : i = j := by omega
      exact h1
end Go.Proofs.YtcbiehinhmkjmaaDoor.NB
