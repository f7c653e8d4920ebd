import Derived.Test.YtcbiehinhmkjmaaDoorNY
import Derived.Test.YtcbiehinhmkjmaaDoorPBr
namespace Go.Proofs.YtcbiehinhmkjmaaDoor.NB
open Go.RowKit Go.Proofs.YtcbiehinhmkjmaaDoorW.PrintWords Go.Proofs.YtcbiehinhmkjmaaDoorW.PrintLast Go.Proofs.YtcbiehinhmkjmaaDoorW.PrintMore
open Go.Proofs.YtcbiehinhmkjmaaDoor.PB
set_option linter.unusedVariables false
set_option linter.unusedSimpArgs false
def rans.T11 : Bool × List (List Nat × List Nat) := (true, [([], []), ([], []), ([0, 1], [0, 1]), ([], []), ([3], [3]), ([], []), ([4, 5], [4, 5]), ([6], [6]), ([7], [7]), ([], []), ([9], [9]), ([], []), ([11], [11]), ([10, 12], [10, 12]), ([2, 2, 0, 1, 2], [2]), ([8, 14, 0, 1, 2, 3, 4, 5, 6, 7, 8, 14], [8]), ([13, 15, 0, 1, 2, 3, 4, 5, 6, 7, 8, 9, 10, 11, 12, 13, 14, 15], [13]), ([16, 0, 1, 2, 3, 4, 5, 6, 7, 8, 9, 10, 11, 12, 13, 14, 15, 16], [])])
def rans.B11 : List Nat := [0, 0, 3, 0, 8, 0, 56, 120, 248, 0, 512, 0, 2048, 7680, 7, 16895, 65535, 131071]
theorem rans.tab11 : rtab .any (opsOf Tryd.f16 11) = rans.T11 := by kernel_rfl
theorem rans.bits11 : waitsOk rans.T11.2 rans.B11 = true := by kernel_rfl

theorem rrep_f (go : Bool) (ret : Int) : wicketgateref21_RightReply.f go ret = some (decide (Rep go ret)) := by
  unfold wicketgateref21_RightReply.f
  by_cases h1 : ret ≥ -4095
  · rw [if_pos h1]
    by_cases h2 : ret ≤ 2147483647
    · rw [if_pos h2]
      cases go
      · rw [if_neg Bool.false_ne_true, decide_eq_true (show Rep false ret from ⟨h1, h2, fun h => by cases h⟩)]
      · rw [if_pos rfl]
        by_cases h3 : ret = 0
        · rw [decide_eq_true (show Rep true ret from ⟨h1, h2, fun _ => h3⟩), h3]
          rfl
        · rw [decide_eq_false (fun h : Rep true ret => h3 (h.2.2 rfl))]
          congr 1
          simpa using h3
    · rw [if_neg h2, decide_eq_false (fun h : Rep go ret => h2 h.2.1)]
  · rw [if_neg h1, decide_eq_false (fun h : Rep go ret => h1 h.1)]
set_option maxRecDepth 100000 in
set_option maxHeartbeats 4000000 in
theorem rans_w (nx : Int) (A : Option Addr) (c : Nat) (l : List S36) (ck : Int) (go : Bool) (ret : Int) (hl : l.length ≤ 100) (hc : l.length ≤ c) (w : World) (hr : Kd.C k36 w A l.length l) :
    Calls Tryd.prog 16 #[.agg #[.int .u64 nx, .slice A l.length c], .int .u64 ck, .agg #[.bool go, .int .i64 ret]] w fun e w' => ∃ v : Value, e = .returned (.tuple #[.agg #[.int .u64 (ansR nx l ck go ret).1, v], .int .i64 (ansR nx l ck go ret).2.2.2.1, .agg #[.int .i64 0, .bool (ansR nx l ck go ret).2.2.2.2.1, .int .i64 (ansR nx l ck go ret).2.2.2.2.2, .bool false, .int .u16 0, .bool false, .int .i64 0], .int .i64 (ansR nx l ck go ret).2.2.1]) ∧ Kd.R k36 36 w' w.heap.size (fun _ => True) v (ansR nx l ck go ret).2.1 ∧ Below w.heap.size w w' := by
  obtain ⟨m, hm⟩ : ∃ m, m = l.length := ⟨_, rfl⟩
  have HM := Lib.hid hm
  have HL := Lib.hid hl
  have hB1 : Below w.heap.size w ((((w.alloc (.cells #[.int .u64 nx, .slice A m c] 25)).alloc (.cells #[.bool go, .int .i64 ret] 42)).alloc (.cells #[.int .u64 0, .slice none 0 0] 25)).alloc (.cells #[.int .i64 0, .bool false, .int .i64 0, .bool false, .int .u16 0, .bool false, .int .i64 0] 45)) := (bel_al (bel_al (bel_al (bel_al (Below.refl w.heap.size w) (.cells #[.int .u64 nx, .slice A m c] 25)) (.cells #[.bool go, .int .i64 ret] 42)) (.cells #[.int .u64 0, .slice none 0 0] 25)) (.cells #[.int .i64 0, .bool false, .int .i64 0, .bool false, .int .u16 0, .bool false, .int .i64 0] 45))
  have HB1 := Lib.hid hB1
  have HC1 := Lib.hid (Kd.C_below hr hB1)
  have HC0 := Lib.hid hr
  have HRC : Hid (∀ (W : World) (b : Bool), wicketgateref25_Right.f 30000 nx l = some b → Kd.C k36 W A m l → Calls Tryd.prog 23 #[.agg #[.int .u64 nx, .slice A m c]] W fun e w' => e = .returned (.bool b) ∧ Below W.heap.size W w') := by
    rw [hm]
    exact Lib.hid (fun W b hb h => wicketgateref25_Right.calls 30000 nx A c l b W h hc hb)
  have HWO : Hid (∀ (W : World) (p : Nat), wicketgateref25_without.f 1000 nx l p = some (nx, cut l p) → Kd.C k36 W A m l → Calls Tryd.prog 29 #[.agg #[.int .u64 nx, .slice A m c], .int .i64 p] W fun e w' => ∃ v : Value, e = .returned (.agg #[.int .u64 nx, v]) ∧ Kd.R k36 36 w' W.heap.size (fun _ => True) v (cut l p) ∧ Below W.heap.size W w') := by
    rw [hm]
    exact Lib.hid (fun W p hb h => wicketgateref25_without.calls 1000 nx A c l (p : Int) nx (cut l p) W h hc hb)
  have h0 := (al_keep (o := .cells #[.int .i64 0, .bool false, .int .i64 0, .bool false, .int .u16 0, .bool false, .int .i64 0] 45) (al_keep (o := .cells #[.int .u64 0, .slice none 0 0] 25) (al_keep (o := .cells #[.bool go, .int .i64 ret] 42) (al_new w (.cells #[.int .u64 nx, .slice A m c] 25)))))
  (try simp only [World.size_alloc] at h0)
  have H0 := Lib.hid h0
  clear h0
  have h1 := (al_keep (o := .cells #[.int .i64 0, .bool false, .int .i64 0, .bool false, .int .u16 0, .bool false, .int .i64 0] 45) (al_keep (o := .cells #[.int .u64 0, .slice none 0 0] 25) (al_new (w.alloc (.cells #[.int .u64 nx, .slice A m c] 25)) (.cells #[.bool go, .int .i64 ret] 42))))
  (try simp only [World.size_alloc] at h1)
  have H1 := Lib.hid h1
  clear h1
  have h2 := (al_keep (o := .cells #[.int .i64 0, .bool false, .int .i64 0, .bool false, .int .u16 0, .bool false, .int .i64 0] 45) (al_new ((w.alloc (.cells #[.int .u64 nx, .slice A m c] 25)).alloc (.cells #[.bool go, .int .i64 ret] 42)) (.cells #[.int .u64 0, .slice none 0 0] 25)))
  (try simp only [World.size_alloc] at h2)
  have H2 := Lib.hid h2
  clear h2
  have h3 := (al_new (((w.alloc (.cells #[.int .u64 nx, .slice A m c] 25)).alloc (.cells #[.bool go, .int .i64 ret] 42)).alloc (.cells #[.int .u64 0, .slice none 0 0] 25)) (.cells #[.int .i64 0, .bool false, .int .i64 0, .bool false, .int .u16 0, .bool false, .int .i64 0] 45))
  (try simp only [World.size_alloc] at h3)
  have H3 := Lib.hid h3
  clear h3
  rw [← hm] at HC1 HC0 ⊢
  clear hr hB1 hc hl hm
  by_cases hok : Dok nx l
  case neg =>
    have HRF := Lib.hid (show wicketgateref25_Right.f 30000 nx l = some false by rw [right_f 30000 (by decide) nx l HL.out, decide_eq_false hok])
    have HR := Lib.hid (show (ansR nx l ck go ret) = _ from if_neg hok)
    clear hok
    go_enter Tryd.func16, Tryd.ntmps16
    go_wp2_with (first | (go_at_call 23; (with_reducible refine (HRC.out _ false HRF.out HC1.out).mono ?_); rintro e w2 ⟨rfl, hb⟩; have HB2 := Lib.hid (HB1.out.trans (hb.mono HB1.out.size)); have HC2 := Lib.hid (Kd.C_below HC1.out hb); have HK0 := Lib.hid ((hb.block _ (blk_lt H0.out)).trans H0.out); have HK1 := Lib.hid ((hb.block _ (blk_lt H1.out)).trans H1.out); have HK2 := Lib.hid ((hb.block _ (blk_lt H2.out)).trans H2.out); have HK3 := Lib.hid ((hb.block _ (blk_lt H3.out)).trans H3.out); clear hb; have p0 := blk_cell HK2.out 0; have pf0 := blk_frozen HK2.out 0; have p1 := blk_cell HK2.out 1; have pf1 := blk_frozen HK2.out 1; have z0 := blk_cell HK3.out 0; have zf0 := blk_frozen HK3.out 0; have z1 := blk_cell HK3.out 1; have zf1 := blk_frozen HK3.out 1; have z2 := blk_cell HK3.out 2; have zf2 := blk_frozen HK3.out 2; have z3 := blk_cell HK3.out 3; have zf3 := blk_frozen HK3.out 3; have z4 := blk_cell HK3.out 4; have zf4 := blk_frozen HK3.out 4; have z5 := blk_cell HK3.out 5; have zf5 := blk_frozen HK3.out 5; have z6 := blk_cell HK3.out 6; have zf6 := blk_frozen HK3.out 6; have pl := blk_lt HK2.out; have zl := blk_lt HK3.out))
    refine bodyPost_ret (v := .tuple #[.agg #[.int .u64 0, .slice none 0 0], .int .i64 0, .agg #[.int .i64 0, .bool false, .int .i64 0, .bool false, .int .u16 0, .bool false, .int .i64 0], .int .i64 350]) (by simp [results, Tryd.results16, go_sem, p0, p1, z0, z1, z2, z3, z4, z5, z6, pl, zl]) rfl ?_
    refine ⟨.slice none 0 0, by rw [HR.out], by rw [HR.out]; exact Kd.R_nil _ _ _ _ _, ?_⟩
    (repeat (with_reducible first | exact HB2.out | exact HB3.out | exact HB4.out | refine Below.setCell ?_ (by dsimp only; omega) _))
  have HRF := Lib.hid (show wicketgateref25_Right.f 30000 nx l = some true by rw [right_f 30000 (by decide) nx l HL.out, decide_eq_true hok])
  have HOK := Lib.hid hok
  clear hok
  go_enter Tryd.func16, Tryd.ntmps16
  go_wp2_with (first | (go_at_call 23; (with_reducible refine (HRC.out _ true HRF.out HC1.out).mono ?_); rintro e w2 ⟨rfl, hb⟩; have HB2 := Lib.hid (HB1.out.trans (hb.mono HB1.out.size)); have HC2 := Lib.hid (Kd.C_below HC1.out hb); have HK0 := Lib.hid ((hb.block _ (blk_lt H0.out)).trans H0.out); have HK1 := Lib.hid ((hb.block _ (blk_lt H1.out)).trans H1.out); have HK2 := Lib.hid ((hb.block _ (blk_lt H2.out)).trans H2.out); have HK3 := Lib.hid ((hb.block _ (blk_lt H3.out)).trans H3.out); clear hb; skip))
  go_loopw [10] (fun i wr => ∃ (k : Nat) (j : Int), i = .int .i64 j ∧ Hid (j = (k : Int)) ∧ 0 ≤ j ∧ j ≤ (m : Int) ∧ Hid (wr = w2) ∧ Hid (∀ q : Nat, q < k → ((rd_T36 l (q : Int)).f0 == ck) = false)) (fun i _ => (m - intOf i).toNat)
  case atStart => exact ⟨0, 0, rfl, Lib.hid rfl, by omega, by omega, Lib.hid rfl, Lib.hid (fun q hq => absurd hq (Nat.not_lt_zero _))⟩
  case round =>
    obtain ⟨k, j, rfl, HJ, hj0, hj1, HWR, KO⟩ := hrel
    obtain rfl := HWR.out
    have x0 := blk_cell HK0.out 0
    have x1 := blk_cell HK0.out 1
    have xl := blk_lt HK0.out
    by_cases hlt : j < (m : Int)
    · obtain ⟨ad, hA, hx0, hx1, _, _, _, _, _, _, _, _, _, hx11⟩ := at_T36 HC2.out j hj0 hlt
      subst hA
      obtain ⟨x, hx⟩ : ∃ x, x = rd_T36 l j := ⟨_, rfl⟩
      rw [← hx] at hx0 hx1 hx11
      have HXK := Lib.hid hx
      clear hx
      by_cases hck : x.f0 = ck
      · have HI := Lib.hid (show ansI l ck = k from idx_hit (by have := HJ.out; have := HM.out; omega) (by rw [← HJ.out, ← HXK.out]; simpa using hck) KO.out)
        have hcb : (x.f0 != ck) = false := by simpa using hck
        have hne : ¬ (k : Int) = -1 := by omega
        have HNE := Lib.hid hne
        have hxe : rd_T36 l (ansI l ck) = x := by rw [HI.out, HXK.out, HJ.out]
        have HXE := Lib.hid hxe
        have r0 := blk_cell HK1.out 0
        have r1 := blk_cell HK1.out 1
        have rl := blk_lt HK1.out
        clear hck hne hxe
        by_cases hrep : Rep go ret
        case neg =>
          have HRP := Lib.hid (show wicketgateref21_RightReply.f go ret = some false by rw [rrep_f, decide_eq_false hrep])
          have hE : ansE l ck go ret = 310 := by unfold ansE; rw [HI.out, if_neg HNE.out, if_neg hrep]
          have HR := Lib.hid (show (ansR nx l ck go ret) = (0, [], 310, 0, false, 0) by unfold ansR ansT ansG ansV; rw [if_pos HOK.out, hE, if_neg (by decide), if_neg (by decide), if_neg (by decide)]; rfl)
          clear hrep hE
          go_wp2_with (first | (go_at_call 37; (with_reducible refine (wicketgateref21_RightReply.calls go ret false _ HRP.out).mono ?_); rintro e w3 ⟨rfl, hb⟩; have hb' := hb; have HB3 := Lib.hid (HB2.out.trans (hb'.mono HB2.out.size)); clear x0 x1 xl r0 r1 rl; have HQ2 := Lib.hid ((hb'.block _ (blk_lt HK2.out)).trans HK2.out); have HQ3 := Lib.hid ((hb'.block _ (blk_lt HK3.out)).trans HK3.out); have HQ0 := Lib.hid ((hb'.block _ (blk_lt HK0.out)).trans HK0.out); have HQ1 := Lib.hid ((hb'.block _ (blk_lt HK1.out)).trans HK1.out); have g0 := (hb'.cell (World.block_lt_of_cell? _ _ hx0)).trans hx0; have g1 := (hb'.cell (World.block_lt_of_cell? _ _ hx1)).trans hx1; have g11 := (hb'.cell (World.block_lt_of_cell? _ _ hx11)).trans hx11; clear hb hb' hx0 hx1 hx11; have x1 := blk_cell HQ0.out 1; have xl := blk_lt HQ0.out; have p0 := blk_cell HQ2.out 0; have pf0 := blk_frozen HQ2.out 0; have p1 := blk_cell HQ2.out 1; have pf1 := blk_frozen HQ2.out 1; have z0 := blk_cell HQ3.out 0; have zf0 := blk_frozen HQ3.out 0; have z1 := blk_cell HQ3.out 1; have zf1 := blk_frozen HQ3.out 1; have z2 := blk_cell HQ3.out 2; have zf2 := blk_frozen HQ3.out 2; have z3 := blk_cell HQ3.out 3; have zf3 := blk_frozen HQ3.out 3; have z4 := blk_cell HQ3.out 4; have zf4 := blk_frozen HQ3.out 4; have z5 := blk_cell HQ3.out 5; have zf5 := blk_frozen HQ3.out 5; have z6 := blk_cell HQ3.out 6; have zf6 := blk_frozen HQ3.out 6; have pl := blk_lt HQ2.out; have zl := blk_lt HQ3.out))
          refine bodyPost_ret (v := .tuple #[.agg #[.int .u64 0, .slice none 0 0], .int .i64 0, .agg #[.int .i64 0, .bool false, .int .i64 0, .bool false, .int .u16 0, .bool false, .int .i64 0], .int .i64 310]) (by simp [results, Tryd.results16, go_sem, p0, p1, z0, z1, z2, z3, z4, z5, z6, pl, zl]) rfl ?_
          refine ⟨.slice none 0 0, by rw [HR.out], by rw [HR.out]; exact Kd.R_nil _ _ _ _ _, ?_⟩
          (repeat (with_reducible first | exact HB2.out | exact HB3.out | exact HB4.out | refine Below.setCell ?_ (by dsimp only; omega) _))
        have HRP := Lib.hid (show wicketgateref21_RightReply.f go ret = some true by rw [rrep_f, decide_eq_true hrep])
        cases htk : x.f3 with
        | false =>
          have hE : ansE l ck go ret = 2 := by unfold ansE; rw [if_neg (by rw [HI.out]; exact HNE.out), if_pos hrep, HXE.out, htk]; rfl
          have HR := Lib.hid (show (ansR nx l ck go ret) = (0, [], 2, 0, false, 0) by unfold ansR ansT ansG ansV; rw [if_pos HOK.out, hE, if_neg (by decide), if_neg (by decide), if_neg (by decide)]; rfl)
          rw [htk] at hx11
          clear hrep hE htk
          go_wp2_with (first | (go_at_call 37; (with_reducible refine (wicketgateref21_RightReply.calls go ret true _ HRP.out).mono ?_); rintro e w3 ⟨rfl, hb⟩; have hb' := hb; have HB3 := Lib.hid (HB2.out.trans (hb'.mono HB2.out.size)); clear x0 x1 xl r0 r1 rl; have HQ2 := Lib.hid ((hb'.block _ (blk_lt HK2.out)).trans HK2.out); have HQ3 := Lib.hid ((hb'.block _ (blk_lt HK3.out)).trans HK3.out); have HQ0 := Lib.hid ((hb'.block _ (blk_lt HK0.out)).trans HK0.out); have HQ1 := Lib.hid ((hb'.block _ (blk_lt HK1.out)).trans HK1.out); have g0 := (hb'.cell (World.block_lt_of_cell? _ _ hx0)).trans hx0; have g1 := (hb'.cell (World.block_lt_of_cell? _ _ hx1)).trans hx1; have g11 := (hb'.cell (World.block_lt_of_cell? _ _ hx11)).trans hx11; clear hb hb' hx0 hx1 hx11; have x1 := blk_cell HQ0.out 1; have xl := blk_lt HQ0.out; have p0 := blk_cell HQ2.out 0; have pf0 := blk_frozen HQ2.out 0; have p1 := blk_cell HQ2.out 1; have pf1 := blk_frozen HQ2.out 1; have z0 := blk_cell HQ3.out 0; have zf0 := blk_frozen HQ3.out 0; have z1 := blk_cell HQ3.out 1; have zf1 := blk_frozen HQ3.out 1; have z2 := blk_cell HQ3.out 2; have zf2 := blk_frozen HQ3.out 2; have z3 := blk_cell HQ3.out 3; have zf3 := blk_frozen HQ3.out 3; have z4 := blk_cell HQ3.out 4; have zf4 := blk_frozen HQ3.out 4; have z5 := blk_cell HQ3.out 5; have zf5 := blk_frozen HQ3.out 5; have z6 := blk_cell HQ3.out 6; have zf6 := blk_frozen HQ3.out 6; have pl := blk_lt HQ2.out; have zl := blk_lt HQ3.out))
          refine bodyPost_ret (v := .tuple #[.agg #[.int .u64 0, .slice none 0 0], .int .i64 0, .agg #[.int .i64 0, .bool false, .int .i64 0, .bool false, .int .u16 0, .bool false, .int .i64 0], .int .i64 2]) (by simp [results, Tryd.results16, go_sem, p0, p1, z0, z1, z2, z3, z4, z5, z6, pl, zl]) rfl ?_
          refine ⟨.slice none 0 0, by rw [HR.out], by rw [HR.out]; exact Kd.R_nil _ _ _ _ _, ?_⟩
          (repeat (with_reducible first | exact HB2.out | exact HB3.out | exact HB4.out | refine Below.setCell ?_ (by dsimp only; omega) _))
        | true =>
          have hE : ansE l ck go ret = 0 := by unfold ansE; rw [if_neg (by rw [HI.out]; exact HNE.out), if_pos hrep, HXE.out, htk]; rfl
          have HR := Lib.hid (show (ansR nx l ck go ret) = (nx, cut l k, 0, x.f1, go, ret) by unfold ansR ansT ansG ansV ansL; rw [if_pos HOK.out, if_pos hE, if_pos hE, hE, if_pos rfl]; unfold tidOf; rw [HXE.out, HI.out, Int.toNat_natCast]; rfl)
          have HWF := Lib.hid (without_f 1000 (by decide) nx l k HL.out)
          rw [htk] at hx11
          clear hrep hE htk
          obtain ⟨ad0, hA0, hy0, _⟩ := at_T36 HC0.out j hj0 hlt
          obtain rfl := Option.some.inj hA0
          have hbA := World.block_lt_of_cell? _ _ hy0
          clear hy0 hA0
          go_wp2_with (first | (go_at_call 37; (with_reducible refine (wicketgateref21_RightReply.calls go ret true _ HRP.out).mono ?_); rintro e w3 ⟨rfl, hb⟩; have hb' := hb; have HB3 := Lib.hid (HB2.out.trans (hb'.mono HB2.out.size)); clear x0 x1 xl r0 r1 rl; have HQ2 := Lib.hid ((hb'.block _ (blk_lt HK2.out)).trans HK2.out); have HQ3 := Lib.hid ((hb'.block _ (blk_lt HK3.out)).trans HK3.out); have HQ0 := Lib.hid ((hb'.block _ (blk_lt HK0.out)).trans HK0.out); have HQ1 := Lib.hid ((hb'.block _ (blk_lt HK1.out)).trans HK1.out); have g0 := (hb'.cell (World.block_lt_of_cell? _ _ hx0)).trans hx0; have g1 := (hb'.cell (World.block_lt_of_cell? _ _ hx1)).trans hx1; have g11 := (hb'.cell (World.block_lt_of_cell? _ _ hx11)).trans hx11; clear hb hb' hx0 hx1 hx11; have x1 := blk_cell HQ0.out 1; have xl := blk_lt HQ0.out; have p0 := blk_cell HQ2.out 0; have pf0 := blk_frozen HQ2.out 0; have p1 := blk_cell HQ2.out 1; have pf1 := blk_frozen HQ2.out 1; have z0 := blk_cell HQ3.out 0; have zf0 := blk_frozen HQ3.out 0; have z1 := blk_cell HQ3.out 1; have zf1 := blk_frozen HQ3.out 1; have z2 := blk_cell HQ3.out 2; have zf2 := blk_frozen HQ3.out 2; have z3 := blk_cell HQ3.out 3; have zf3 := blk_frozen HQ3.out 3; have z4 := blk_cell HQ3.out 4; have zf4 := blk_frozen HQ3.out 4; have z5 := blk_cell HQ3.out 5; have zf5 := blk_frozen HQ3.out 5; have z6 := blk_cell HQ3.out 6; have zf6 := blk_frozen HQ3.out 6; have pl := blk_lt HQ2.out; have zl := blk_lt HQ3.out))
          clear g0 g11 x1 xl p0 pf0 p1 pf1 z0 zf0 z1 zf1 z2 zf2 z3 zf3 z4 zf4 z5 zf5 z6 zf6 pl zl
          have hsz3 := HB3.out.size
          have HC3 := Lib.hid (Kd.C_drew (Kd.C_below HC0.out HB3.out))
          have HG1 : Hid (World.cell? w3.drew ⟨(ad.add (j.toNat * 12)).block, (ad.add (j.toNat * 12)).off + 1, none⟩ = some (.int .i64 x.f1)) := g1
          have HY0 := Lib.hid (blk_drew HQ0.out)
          have HY1 := Lib.hid (blk_drew HQ1.out)
          have HY2 := Lib.hid (blk_drew HQ2.out)
          have HY3 := Lib.hid (blk_drew HQ3.out)
          have HB4 := Lib.hid (below_drew HB3.out)
          have hs4 : w.heap.size + 1 + 1 + 1 < w3.drew.heap.size := blk_lt HY3.out
          have hbA4 : (ad.add (j.toNat * 12)).block < w3.drew.heap.size := Nat.lt_of_lt_of_le hbA HB4.out.size
          clear g1 hsz3
          refine start_ (n := 18) (S := fun w' => ∀ q, q < w3.drew.heap.size → q ≠ w.heap.size + 1 + 1 → q ≠ w.heap.size + 1 + 1 + 1 → w'.heap[q]? = w3.drew.heap[q]?) (ds := [16]) #[false, false, false, false, false, false, false, false, false, false, false, false, false, false, false, false, false, false] (by kernel_rfl) rfl rfl (fun _ _ _ _ => rfl) (fun hHeld => ?_); refine with_tabW rans.tab11 rans.bits11 (fun HT_ HW_ => ?_)
          generalize w3.drew = w4 at HC3 HG1 HY0 HY1 HY2 HY3 HB4 hs4 hbA4 hHeld ⊢
          have HWJ := Lib.hid (HWO.out w4 k HWF.out HC3.out)
          rw [← HJ.out] at HWJ
          refine pure_ (i := 1) (N := some 46) (v := ?_) (a' := ?_) #[false, true, false, false, false, false, false, false, false, false, false, false, false, false, false, false, false, false] rfl rfl (any_of HT_.out (by kernel_rfl)) (fun _ _ _ h => h) (Or.inl ⟨by rfl, ?_⟩) ?_ ?_
          rotate_left
          · intro w'
            go_simp
            with_reducible rfl
          rotate_left
          · (try simp only [Act.put, List.setIfInBounds_toArray, List.set_cons_zero, List.set_cons_succ])
            rfl
          refine pure_ (i := 3) (N := some 48) (v := ?_) (a' := ?_) #[false, true, false, true, false, false, false, false, false, false, false, false, false, false, false, false, false, false] rfl rfl (any_of HT_.out (by kernel_rfl)) (fun _ _ _ h => h) (Or.inl ⟨by rfl, ?_⟩) ?_ ?_
          rotate_left
          · intro w'
            go_simp
            with_reducible rfl
          rotate_left
          · (try simp only [Act.put, List.setIfInBounds_toArray, List.set_cons_zero, List.set_cons_succ])
            rfl
          refine pure_ (i := 5) (N := some 50) (v := ?_) (a' := ?_) #[false, true, false, true, false, true, false, false, false, false, false, false, false, false, false, false, false, false] rfl rfl (any_of HT_.out (by kernel_rfl)) (fun _ _ _ h => h) (Or.inl ⟨by rfl, ?_⟩) ?_ ?_
          rotate_left
          · intro w'
            go_simp
            with_reducible rfl
          rotate_left
          · (try simp only [Act.put, List.setIfInBounds_toArray, List.set_cons_zero, List.set_cons_succ])
            rfl
          refine pure_ (i := 9) (N := some 54) (v := ?_) (a' := ?_) #[false, true, false, true, false, true, false, false, false, true, false, false, false, false, false, false, false, false] rfl rfl (any_of HT_.out (by kernel_rfl)) (fun _ _ _ h => h) (Or.inl ⟨by rfl, ?_⟩) ?_ ?_
          rotate_left
          · intro w'
            go_simp
            with_reducible rfl
          rotate_left
          · (try simp only [Act.put, List.setIfInBounds_toArray, List.set_cons_zero, List.set_cons_succ])
            rfl
          refine pure_ (i := 11) (N := some 56) (v := ?_) (a' := ?_) #[false, true, false, true, false, true, false, false, false, true, false, true, false, false, false, false, false, false] rfl rfl (any_of HT_.out (by kernel_rfl)) (fun _ _ _ h => h) (Or.inl ⟨by rfl, ?_⟩) ?_ ?_
          rotate_left
          · intro w'
            go_simp
            with_reducible rfl
          rotate_left
          · (try simp only [Act.put, List.setIfInBounds_toArray, List.set_cons_zero, List.set_cons_succ])
            rfl
          refine take_ (i := 0) (N := some 45) (v := ?_) (a' := ?_) #[true, true, false, true, false, true, false, false, false, true, false, true, false, false, false, false, false, false] rfl rfl (take_ofW HT_.out HW_.out (by kernel_rfl)) (fun _ _ _ h => h) (Or.inl ⟨by rfl, ?_⟩) hHeld ?_ ?_
          rotate_left
          · intro w' hS_
            have hx_0 : w'.cell? ⟨w.heap.size, 0, none⟩ = _ := blk_cell ((hS_ _ (by omega) (by omega) (by omega)).trans HY0.out) 0
            have hx_1 : w'.cell? ⟨w.heap.size, 1, none⟩ = _ := blk_cell ((hS_ _ (by omega) (by omega) (by omega)).trans HY0.out) 1
            go_simp
            with_reducible rfl
          rotate_left
          · (try simp only [Act.put, List.setIfInBounds_toArray, List.set_cons_zero, List.set_cons_succ])
            rfl
          refine take_ (i := 4) (N := some 49) (v := ?_) (a' := ?_) #[true, true, false, true, true, true, false, false, false, true, false, true, false, false, false, false, false, false] rfl rfl (take_ofW HT_.out HW_.out (by kernel_rfl)) (fun _ _ _ h => h) (Or.inl ⟨by rfl, ?_⟩) hHeld ?_ ?_
          rotate_left
          · intro w' hS_
            have hx_1 : w'.cell? ⟨w.heap.size, 1, none⟩ = _ := blk_cell ((hS_ _ (by omega) (by omega) (by omega)).trans HY0.out) 1
            go_simp
            with_reducible rfl
          rotate_left
          · (try simp only [Act.put, List.setIfInBounds_toArray, List.set_cons_zero, List.set_cons_succ])
            rfl
          refine pure_ (i := 6) (N := some 51) (v := ?_) (a' := ?_) #[true, true, false, true, true, true, true, false, false, true, false, true, false, false, false, false, false, false] rfl rfl (any_of HT_.out (by kernel_rfl)) (fun _ _ _ h => h) (Or.inl ⟨by rfl, ?_⟩) ?_ ?_
          rotate_left
          · intro w'
            go_simp
            with_reducible rfl
          rotate_left
          · (try simp only [Act.put, List.setIfInBounds_toArray, List.set_cons_zero, List.set_cons_succ])
            rfl
          refine pure_ (i := 7) (N := some 52) (v := ?_) (a' := ?_) #[true, true, false, true, true, true, true, true, false, true, false, true, false, false, false, false, false, false] rfl rfl (any_of HT_.out (by kernel_rfl)) (fun _ _ _ h => h) (Or.inl ⟨by rfl, ?_⟩) ?_ ?_
          rotate_left
          · intro w'
            go_simp
            with_reducible rfl
          rotate_left
          · (try simp only [Act.put, List.setIfInBounds_toArray, List.set_cons_zero, List.set_cons_succ])
            rfl
          refine take_ (i := 8) (N := some 53) (v := ?_) (a' := ?_) #[true, true, false, true, true, true, true, true, true, true, false, true, false, false, false, false, false, false] rfl rfl (take_ofW HT_.out HW_.out (by kernel_rfl)) (fun _ _ _ h => h) (Or.inl ⟨by rfl, ?_⟩) hHeld ?_ ?_
          rotate_left
          · intro w' hS_
            have hx_ : World.cell? w' ⟨(ad.add (j.toNat * 12)).block, (ad.add (j.toNat * 12)).off + 1, none⟩ = some (.int .i64 x.f1) := by have hg := HG1.out; unfold World.cell? at hg ⊢; rw [hS_ _ hbA4 (by omega) (by omega)]; exact hg
            go_simp
            with_reducible rfl
          rotate_left
          · (try simp only [Act.put, List.setIfInBounds_toArray, List.set_cons_zero, List.set_cons_succ])
            rfl
          refine take_ (i := 10) (N := some 55) (v := ?_) (a' := ?_) #[true, true, false, true, true, true, true, true, true, true, true, true, false, false, false, false, false, false] rfl rfl (take_ofW HT_.out HW_.out (by kernel_rfl)) (fun _ _ _ h => h) (Or.inl ⟨by rfl, ?_⟩) hHeld ?_ ?_
          rotate_left
          · intro w' hS_
            have hx_0 : w'.cell? ⟨w.heap.size + 1, 0, none⟩ = _ := blk_cell ((hS_ _ (by omega) (by omega) (by omega)).trans HY1.out) 0
            go_simp
            with_reducible rfl
          rotate_left
          · (try simp only [Act.put, List.setIfInBounds_toArray, List.set_cons_zero, List.set_cons_succ])
            rfl
          refine take_ (i := 12) (N := some 57) (v := ?_) (a' := ?_) #[true, true, false, true, true, true, true, true, true, true, true, true, true, false, false, false, false, false] rfl rfl (take_ofW HT_.out HW_.out (by kernel_rfl)) (fun _ _ _ h => h) (Or.inl ⟨by rfl, ?_⟩) hHeld ?_ ?_
          rotate_left
          · intro w' hS_
            have hx_1 : w'.cell? ⟨w.heap.size + 1, 1, none⟩ = _ := blk_cell ((hS_ _ (by omega) (by omega) (by omega)).trans HY1.out) 1
            go_simp
            with_reducible rfl
          rotate_left
          · (try simp only [Act.put, List.setIfInBounds_toArray, List.set_cons_zero, List.set_cons_succ])
            rfl
          refine pure_ (i := 13) (N := some 58) (v := ?_) (a' := ?_) #[true, true, false, true, true, true, true, true, true, true, true, true, true, true, false, false, false, false] rfl rfl (any_of HT_.out (by kernel_rfl)) (fun _ _ _ h => h) (Or.inl ⟨by rfl, ?_⟩) ?_ ?_
          rotate_left
          · intro w'
            go_simp
            with_reducible rfl
          rotate_left
          · (try simp only [Act.put, List.setIfInBounds_toArray, List.set_cons_zero, List.set_cons_succ])
            rfl
          refine one_ (i := 2) (N := some 47) #[true, true, true, true, true, true, true, true, true, true, true, true, true, true, false, false, false, false] rfl rfl (one_of HT_.out (by kernel_rfl)) (by decide) (fun K hK => ?_)
          refine goes_ Tryd.func29 (by kernel_rfl) rfl #[.agg #[.int .u64 nx, .slice (some ad) m c], .int .i64 j] (by rfl) rfl rfl (by (try simp only [List.map_toArray, List.map_cons, List.map_nil]); first | done | rfl) ?_
          refine (HWJ.out).mono ?_
          rintro e w5 ⟨v5, rfl, hR5, hb5⟩
          refine ⟨_, rfl, ?_⟩
          obtain ⟨A5, c5, rfl⟩ := Kd.R_slice hR5
          obtain ⟨n5, hn5⟩ : ∃ n, n = (cut l k).length := ⟨_, rfl⟩
          rw [← hn5] at hR5 ⊢
          clear hn5
          have HB5 := Lib.hid (HB4.out.trans (hb5.mono HB4.out.size))
          have HR5 := Lib.hid (Kd.R_mono (Kd.R_bound hR5) (fun q hq => (show w.heap.size + 1 + 1 + 1 < q by have := hq.2.1; omega)))
          have HZ2 := Lib.hid ((hb5.block _ (by omega)).trans HY2.out)
          have HZ3 := Lib.hid ((hb5.block _ (by omega)).trans HY3.out)
          have p0 := blk_cell HZ2.out 0
          have pf0 := blk_frozen HZ2.out 0
          have p1 := blk_cell HZ2.out 1
          have pf1 := blk_frozen HZ2.out 1
          have z0 := blk_cell HZ3.out 0
          have zf0 := blk_frozen HZ3.out 0
          have z1 := blk_cell HZ3.out 1
          have zf1 := blk_frozen HZ3.out 1
          have z2 := blk_cell HZ3.out 2
          have zf2 := blk_frozen HZ3.out 2
          have z3 := blk_cell HZ3.out 3
          have zf3 := blk_frozen HZ3.out 3
          have z4 := blk_cell HZ3.out 4
          have zf4 := blk_frozen HZ3.out 4
          have z5 := blk_cell HZ3.out 5
          have zf5 := blk_frozen HZ3.out 5
          have z6 := blk_cell HZ3.out 6
          have zf6 := blk_frozen HZ3.out 6
          have pl := blk_lt HZ2.out
          have zl := blk_lt HZ3.out
          have HN : ∀ q, q < w4.heap.size → q ≠ w.heap.size + 1 + 1 → q ≠ w.heap.size + 1 + 1 + 1 → w5.heap[q]? = w4.heap[q]? := fun q h n1 n2 => hb5.block q h
          clear hR5 hb5
          clear hHeld
          refine hK.out _ _ (HN) (fun hHeld => ?_)
          clear hK K
          refine norm_ (a' := ?_) ?_ ?_
          rotate_left
          · show Act.put _ (some 47) _ = _
            (try simp only [Act.put, List.setIfInBounds_toArray, List.set_cons_zero, List.set_cons_succ])
            rfl
          refine one_ (i := 14) (N := none) #[true, true, true, true, true, true, true, true, true, true, true, true, true, true, true, false, false, false] rfl rfl (one_of HT_.out (by kernel_rfl)) (by decide) (fun K hK => ?_)
          refine skip_ (w1 := ?_) (by rfl) rfl ?_ ?_
          rotate_left
          · go_simp
            with_reducible rfl
          refine hK.out _ _ (fun q h n1 n2 => ((Below.heap_setCell _ _ _ _ n1).trans (Below.heap_setCell _ _ _ _ n1)).trans (HN q h n1 n2)) (fun hHeld => ?_)
          clear hK K
          refine pure_ (i := 15) (N := some 7) (v := ?_) (a' := ?_) #[true, true, true, true, true, true, true, true, true, true, true, true, true, true, true, true, false, false] rfl rfl (any_of HT_.out (by kernel_rfl)) (fun _ _ _ h => h) (Or.inl ⟨by rfl, ?_⟩) ?_ ?_
          rotate_left
          · intro w'
            go_simp
            with_reducible rfl
          rotate_left
          · (try simp only [Act.put, List.setIfInBounds_toArray, List.set_cons_zero, List.set_cons_succ])
            rfl
          refine last_ (i := 16) (N := none) #[true, true, true, true, true, true, true, true, true, true, true, true, true, true, true, true, true, false] rfl rfl (one_of HT_.out (by kernel_rfl)) (by decide) (fun K hK => ?_)
          refine skip_ (w1 := ?_) (by rfl) rfl ?_ ?_
          rotate_left
          · go_simp
            with_reducible rfl
          refine hK.out _ _ ?_
          clear hK K
          refine pure_ (i := 17) (N := some 9) (v := ?_) (a' := ?_) #[true, true, true, true, true, true, true, true, true, true, true, true, true, true, true, true, true, true] rfl rfl (any_of HT_.out (by kernel_rfl)) (fun _ _ _ h => h) (Or.inl ⟨by rfl, ?_⟩) ?_ ?_
          rotate_left
          · intro w'
            go_simp
            with_reducible rfl
          rotate_left
          · (try simp only [Act.put, List.setIfInBounds_toArray, List.set_cons_zero, List.set_cons_succ])
            rfl
          refine done_ (done_of HT_.out (by kernel_rfl)) ?_
          clear HT_ HW_
          (try clear hHeld)
          go_wp2_with fail
          refine bodyPost_ret (v := .tuple #[.agg #[.int .u64 nx, .slice A5 n5 c5], .int .i64 x.f1, .agg #[.int .i64 0, .bool go, .int .i64 ret, .bool false, .int .u16 0, .bool false, .int .i64 0], .int .i64 0]) (by simp [results, Tryd.results16, go_sem, p0, p1, z0, z1, z2, z3, z4, z5, z6, pl, zl]) rfl ?_
          refine ⟨.slice A5 n5 c5, by rw [HR.out], ?_, ?_⟩
          · rw [HR.out]
            refine Kd.R_mono (ok := fun q => w.heap.size + 1 + 1 + 1 < q) (Kd.R_lower (base := w4.heap.size) ?_ (by have := HB4.out.size; omega)) (fun _ _ => trivial)
            (repeat (with_reducible first | exact HR5.out | refine Kd.R_far ?_ (fun q hq e => by dsimp only at e; omega) _))
          · (repeat (with_reducible first | exact HB5.out | refine Below.setCell ?_ (by dsimp only; omega) _))
      · have hcb : (x.f0 != ck) = true := by simpa using hck
        have HNC := Lib.hid (show (x.f0 == ck) = false by simpa using hck)
        clear hck
        have hwj : wrap64 (j + 1) = j + 1 := by have := HM.out; have := HL.out; unfold wrap64; omega
        go_wp2_with fail
        refine ⟨⟨k + 1, j + 1, by rw [hwj], Lib.hid (by have := HJ.out; omega), by omega, by omega, Lib.hid trivial, Lib.hid (fun q hq => ?_)⟩, by rw [hwj]; simp [intOf]; omega⟩
        rcases Nat.lt_or_ge q k with h | h
        · exact KO.out q h
        · obtain rfl : q = k := by omega
          rw [← HJ.out, ← HXK.out]
          exact HNC.out
    · have hI : ansI l ck = -1 := idx_miss (fun q hq => KO.out q (by have := HJ.out; have := HM.out; omega))
      have hE : ansE l ck go ret = 4 := if_pos hI
      have HR := Lib.hid (show (ansR nx l ck go ret) = (0, [], 4, 0, false, 0) by unfold ansR ansT ansG ansV; rw [if_pos HOK.out, hE, if_neg (by decide), if_neg (by decide), if_neg (by decide)]; rfl)
      clear hI hE
      have p0 := blk_cell HK2.out 0; have pf0 := blk_frozen HK2.out 0; have p1 := blk_cell HK2.out 1; have pf1 := blk_frozen HK2.out 1; have z0 := blk_cell HK3.out 0; have zf0 := blk_frozen HK3.out 0; have z1 := blk_cell HK3.out 1; have zf1 := blk_frozen HK3.out 1; have z2 := blk_cell HK3.out 2; have zf2 := blk_frozen HK3.out 2; have z3 := blk_cell HK3.out 3; have zf3 := blk_frozen HK3.out 3; have z4 := blk_cell HK3.out 4; have zf4 := blk_frozen HK3.out 4; have z5 := blk_cell HK3.out 5; have zf5 := blk_frozen HK3.out 5; have z6 := blk_cell HK3.out 6; have zf6 := blk_frozen HK3.out 6; have pl := blk_lt HK2.out; have zl := blk_lt HK3.out
      go_wp2_with fail
      refine bodyPost_ret (v := .tuple #[.agg #[.int .u64 0, .slice none 0 0], .int .i64 0, .agg #[.int .i64 0, .bool false, .int .i64 0, .bool false, .int .u16 0, .bool false, .int .i64 0], .int .i64 4]) (by simp [results, Tryd.results16, go_sem, p0, p1, z0, z1, z2, z3, z4, z5, z6, pl, zl]) rfl ?_
      refine ⟨.slice none 0 0, by rw [HR.out], by rw [HR.out]; exact Kd.R_nil _ _ _ _ _, ?_⟩
      (repeat (with_reducible first | exact HB2.out | exact HB3.out | exact HB4.out | refine Below.setCell ?_ (by dsimp only; omega) _))
end Go.Proofs.YtcbiehinhmkjmaaDoor.NB
