import Derived.Test.YtcbiehinhmkjmaaDoorNM
import Derived.Test.YtcbiehinhmkjmaaDoorNK
namespace Go.Proofs.YtcbiehinhmkjmaaDoor.NB
open Go.RowKit Go.Proofs.YtcbiehinhmkjmaaDoorW.PrintWords Go.Proofs.YtcbiehinhmkjmaaDoorW.PrintLast Go.Proofs.YtcbiehinhmkjmaaDoorW.PrintMore
open Go.Proofs.YtcbiehinhmkjmaaDoor.PB
set_option linter.unusedVariables false
set_option linter.unusedSimpArgs false
open Go.Proofs.YtcbiehinhmkjmaaDoor.PE.L (Tab)

theorem by_ex_loop (l : List S36) (ck : Int) (hl : l.length ≤ 100) : ∀ (d lo hi k : Nat), hi = lo + d → hi ≤ l.length → d < k →
    ∃ (i : Nat) (b : Bool), api_Notice_uint64.l0 k l ck (l.length : Int) lo hi = some ((i : Int), b) ∧ (b = true → i < l.length ∧ ckOf l i = ck) := by
  intro d
  induction d using Nat.strongRecOn with
  | _ d ih =>
    intro lo hi k hhi hle hk
    obtain ⟨k, rfl⟩ : ∃ n, k = n + 1 := ⟨k - 1, by omega⟩
    rcases Nat.lt_or_ge lo hi with h | h
    · obtain ⟨m, hm⟩ : ∃ m, m = (lo + hi) / 2 := ⟨_, rfl⟩
      have hm1 : lo ≤ m := by omega
      have hm2 : m < hi := by omega
      have hm3 : m < l.length := by omega
      rw [by_step k l ck _ lo hi m (Int.ofNat_lt.2 h) (by rw [half_m lo hi (by omega), hm]) (Int.natCast_nonneg m) (Int.ofNat_lt.2 hm3) (w_succ m (by omega))]
      split
      · exact ih (hi - (m + 1)) (by omega) (m + 1) hi k (by omega) hle (by omega)
      · exact ih (m - lo) (by omega) lo m k (by omega) (by omega) (by omega)
    · obtain rfl : lo = hi := by omega
      rw [by_end k l ck _ lo lo (Int.lt_irrefl _)]
      rcases Nat.lt_or_ge lo l.length with h2 | h2
      · rw [if_pos (Int.ofNat_lt.2 h2), if_pos (Int.natCast_nonneg lo), if_pos (Int.ofNat_lt.2 h2)]
        refine ⟨lo, _, rfl, fun h => ⟨h2, ?_⟩⟩
        rw [beq_iff_eq] at h
        unfold cmpV at h
        split at h
        · cases h
        · split at h
          · cases h
          · omega
      · rw [if_neg (fun h => absurd (Int.ofNat_lt.1 h) (Nat.not_lt.2 h2))]
        exact ⟨lo, false, rfl, fun h => by cases h⟩
theorem by_ex (k : Nat) (hk : 200 < k) (nx : Int) (l : List S36) (ck : Int) (hl : l.length ≤ 100) :
    ∃ (i : Nat) (b : Bool), notify_by.f k nx l ck = some ((i : Int), b) ∧ (b = true → i < l.length ∧ ckOf l i = ck) := by
  obtain ⟨i, b, h, h1⟩ := by_ex_loop l ck hl l.length 0 l.length k (by omega) (Nat.le_refl _) (by omega)
  refine ⟨i, b, ?_, h1⟩
  unfold notify_by.f api_Notice_uint64.f
  rw [show ((0 : Int)) = ((0 : Nat) : Int) from rfl, h]
  rfl
def validV (nx : Int) (l : List S36) (ck : Int) : Bool := decide (Dok nx l ∧ ansI l ck ≠ -1 ∧ (rd_T36 l (ansI l ck)).f3 = true)
set_option maxRecDepth 100000 in
set_option maxHeartbeats 4000000 in
theorem valid_w (nx : Int) (A : Option Addr) (c : Nat) (l : List S36) (ck : Int) (hl : l.length ≤ 100) (hc : l.length ≤ c) (w : World) (hr : Kd.C k36 w A l.length l) :
    Calls Tryd.prog 20 #[.agg #[.int .u64 nx, .slice A l.length c], .int .u64 ck] w fun e w' => e = .returned (.bool (validV nx l ck)) ∧ Below w.heap.size w w' := by
  obtain ⟨i, b, hby, hb1, hb2⟩ : ∃ (i : Nat) (b : Bool), notify_by.f 1000 nx l ck = some ((i : Int), b) ∧ (b = true → i < l.length ∧ ckOf l i = ck) ∧ (Dok nx l → b = false → ∀ q : Nat, q < l.length → ckOf l q ≠ ck) := by
    by_cases h : Dok nx l
    · obtain ⟨i, b, h1, h2, h3⟩ := by_f 1000 (by decide) nx l ck hl (dok_sorted h)
      exact ⟨i, b, h1, h2, fun _ => h3⟩
    · obtain ⟨i, b, h1, h2⟩ := by_ex 1000 (by decide) nx l ck hl
      exact ⟨i, b, h1, h2, fun h4 => absurd h4 h⟩
  obtain ⟨m, hm⟩ : ∃ m, m = l.length := ⟨_, rfl⟩
  have HM := Lib.hid hm
  have hB1 : Below w.heap.size w (w.alloc (.cells #[.int .u64 nx, .slice A m c] 25)) := bel_al (Below.refl _ _) _
  have HB1 := Lib.hid hB1
  have HC1 := Lib.hid (Kd.C_below hr hB1)
  have HX1 := Lib.hid (al_new w (.cells #[.int .u64 nx, .slice A m c] 25))
  have HBY : Hid (∀ W : World, Kd.C k36 W A m l → Calls Tryd.prog 34 #[.agg #[.int .u64 nx, .slice A m c], .int .u64 ck] W fun e w' => e = .returned (.tuple #[.int .i64 (i : Int), .bool b]) ∧ Below W.heap.size W w') := by
    rw [hm]
    exact Lib.hid (fun W h => notify_by.calls 1000 nx A c l ck (i : Int) b W h hc hby)
  have HCK : Hid (∀ W : World, Kd.C k36 W A m l → Calls Tryd.prog 21 #[.agg #[.int .u64 nx, .slice A m c]] W fun e w' => e = .returned (.int .i64 (chkV nx l)) ∧ Below W.heap.size W w') := by
    rw [hm]
    exact Lib.hid (fun W h => check_w nx A c l hc W h)
  rw [← hm] at HC1 ⊢
  clear hr hB1 hc hm hby
  by_cases hok : Dok nx l
  case neg =>
    have HV := Lib.hid (chk_no hok)
    have HR := Lib.hid (show validV nx l ck = false from decide_eq_false (fun h => hok h.1))
    clear hok hb1 hb2
    go_enter Tryd.func20, Tryd.ntmps20
    go_wp2_with (first | (go_at_call 34; (with_reducible refine (HBY.out _ HC1.out).mono ?_); rintro e w2 ⟨rfl, hb⟩; have HB2 := Lib.hid (HB1.out.trans (hb.mono HB1.out.size)); have HX2 := Lib.hid ((hb.block _ (blk_lt HX1.out)).trans HX1.out); have HC2 := Lib.hid (Kd.C_below HC1.out hb); have HB12 := Lib.hid hb; clear hb; have y0 := blk_cell HX2.out 0; have y1 := blk_cell HX2.out 1) | (go_at_call 21; (with_reducible refine (HCK.out _ HC2.out).mono ?_); rintro e w3 ⟨he, hb⟩; rw [HV.out] at he; subst he; have HB3 := Lib.hid (HB2.out.trans (hb.mono HB2.out.size)); have HX3 := Lib.hid ((hb.block _ (blk_lt HX2.out)).trans HX2.out); clear y0 y1; have y1 := blk_cell HX3.out 1; clear hb))
    go_ret
    exact ⟨by rw [HR.out]; rfl, HB3.out⟩
  have HV := Lib.hid (chk_ok hok)
  cases b with
  | false =>
    have HR := Lib.hid (show validV nx l ck = false from decide_eq_false (fun h => h.2.1 (idx_miss (fun q hq => by simpa using hb2 hok rfl q hq))))
    clear hok hb1 hb2
    go_enter Tryd.func20, Tryd.ntmps20
    go_wp2_with (first | (go_at_call 34; (with_reducible refine (HBY.out _ HC1.out).mono ?_); rintro e w2 ⟨rfl, hb⟩; have HB2 := Lib.hid (HB1.out.trans (hb.mono HB1.out.size)); have HX2 := Lib.hid ((hb.block _ (blk_lt HX1.out)).trans HX1.out); have HC2 := Lib.hid (Kd.C_below HC1.out hb); have HB12 := Lib.hid hb; clear hb; have y0 := blk_cell HX2.out 0; have y1 := blk_cell HX2.out 1) | (go_at_call 21; (with_reducible refine (HCK.out _ HC2.out).mono ?_); rintro e w3 ⟨he, hb⟩; rw [HV.out] at he; subst he; have HB3 := Lib.hid (HB2.out.trans (hb.mono HB2.out.size)); have HX3 := Lib.hid ((hb.block _ (blk_lt HX2.out)).trans HX2.out); clear y0 y1; have y1 := blk_cell HX3.out 1; clear hb))
    go_ret
    exact ⟨by rw [HR.out]; rfl, HB3.out⟩
  | true =>
    obtain ⟨hil, hic⟩ := hb1 rfl
    have hs := dok_sorted hok
    have hI : ansI l ck = i := idx_hit hil (by simpa using hic) (fun q hq => by have := hs q i hq hil; have h2 : ckOf l (i : Int) = ck := hic; rw [h2] at this; simpa using Int.ne_of_lt this)
    have hne : ¬ (i : Int) = -1 := by omega
    have HR := Lib.hid (show validV nx l ck = (rd_T36 l (i : Int)).f3 by unfold validV; rw [hI]; cases h : (rd_T36 l (i : Int)).f3 <;> simp [hok, hne])
    have hi0 : (0 : Int) ≤ (i : Int) := by omega
    have hi1 : (i : Int) < (m : Int) := by have := HM.out; omega
    obtain ⟨ad, hA, _, _, _, _, _, _, _, _, _, _, _, hx11⟩ := at_T36 HC1.out (i : Int) hi0 hi1
    rw [Int.toNat_natCast] at hx11
    have HX11 := Lib.hid hx11
    subst hA
    clear hok hb1 hb2 hs hI hne hil hic hx11
    go_enter Tryd.func20, Tryd.ntmps20
    go_wp2_with (first | (go_at_call 34; (with_reducible refine (HBY.out _ HC1.out).mono ?_); rintro e w2 ⟨rfl, hb⟩; have HB2 := Lib.hid (HB1.out.trans (hb.mono HB1.out.size)); have HX2 := Lib.hid ((hb.block _ (blk_lt HX1.out)).trans HX1.out); have HC2 := Lib.hid (Kd.C_below HC1.out hb); have HB12 := Lib.hid hb; clear hb; have y0 := blk_cell HX2.out 0; have y1 := blk_cell HX2.out 1) | (go_at_call 21; (with_reducible refine (HCK.out _ HC2.out).mono ?_); rintro e w3 ⟨he, hb⟩; rw [HV.out] at he; subst he; have HB3 := Lib.hid (HB2.out.trans (hb.mono HB2.out.size)); have HX3 := Lib.hid ((hb.block _ (blk_lt HX2.out)).trans HX2.out); clear y0 y1; have y1 := blk_cell HX3.out 1; have g11 := ((hb.cell (World.block_lt_of_cell? _ _ ((HB12.out.cell (World.block_lt_of_cell? _ _ HX11.out)).trans HX11.out))).trans ((HB12.out.cell (World.block_lt_of_cell? _ _ HX11.out)).trans HX11.out)); clear hb))
    go_ret
    exact ⟨by rw [HR.out]; rfl, HB3.out⟩
end Go.Proofs.YtcbiehinhmkjmaaDoor.NB
