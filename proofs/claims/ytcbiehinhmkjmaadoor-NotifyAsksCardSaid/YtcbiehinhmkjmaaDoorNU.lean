import Derived.Test.YtcbiehinhmkjmaaDoorNY
namespace Go.Proofs.YtcbiehinhmkjmaaDoor.NB
open Go.RowKit Go.Proofs.YtcbiehinhmkjmaaDoorW.PrintWords Go.Proofs.YtcbiehinhmkjmaaDoorW.PrintLast Go.Proofs.YtcbiehinhmkjmaaDoorW.PrintMore
open Go.Proofs.YtcbiehinhmkjmaaDoor.PB
set_option linter.unusedVariables false
set_option linter.unusedSimpArgs false
def rtk.T9 : Bool × List (List Nat × List Nat) := (true, [([], []), ([], []), ([1], [1]), ([], []), ([2, 3], [2, 3]), ([4], [4]), ([0, 0], [0]), ([5, 6, 0, 1, 2, 3, 4, 5, 6], [5]), ([7, 0, 1, 2, 3, 4, 5, 6, 7], [])])
def rtk.B9 : List Nat := [0, 0, 2, 0, 14, 30, 1, 127, 255]
theorem rtk.tab9 : rtab .any (opsOf Tryd.f13 9) = rtk.T9 := by kernel_rfl
theorem rtk.bits9 : waitsOk rtk.T9.2 rtk.B9 = true := by kernel_rfl

theorem without_all (nx : Int) (l : List S36) (hl : l.length ≤ 100) : ∀ (d i k : Nat), i + d = l.length → d < k → wicketgateref25_without.l0 k (-1) i nx l nx (l.take i) = some (nx, l) := by
  intro d
  induction d with
  | zero =>
    intro i k hi hk
    obtain ⟨k, rfl⟩ : ∃ n, k = n + 1 := ⟨k - 1, by omega⟩
    obtain rfl : i = l.length := by omega
    rw [wicketgateref25_without.l0, if_neg (Int.lt_irrefl _), List.take_length]
  | succ d ih =>
    intro i k hi hk
    obtain ⟨k, rfl⟩ : ∃ n, k = n + 1 := ⟨k - 1, by omega⟩
    have hil : i < l.length := by omega
    have hz := ih (i + 1) k (by omega) (by omega)
    have e : l.take (i + 1) = l.take i ++ [l[i]] := by rw [List.take_add_one, List.getElem?_eq_getElem hil]; rfl
    rw [e] at hz
    have hle : (l.take i).length ≤ 100 := by rw [List.length_take]; omega
    rw [wicketgateref25_without.l0, if_pos (Int.ofNat_lt.2 hil), w_succ i (by omega), if_neg (by omega), if_pos (Int.natCast_nonneg i), if_pos (by omega), ← hz, ← rd_at hil]
theorem without_n (k : Nat) (hk : 200 < k) (nx : Int) (l : List S36) (hl : l.length ≤ 100) : wicketgateref25_without.f k nx l (-1) = some (nx, l) := by
  unfold wicketgateref25_without.f
  have h := without_all nx l hl l.length 0 k (by omega) (by omega)
  rw [List.take_zero] at h
  rw [show (0 : Int) = ((0 : Nat) : Int) from rfl, h]
set_option maxRecDepth 100000 in
set_option maxHeartbeats 4000000 in
theorem rtake_w (nx : Int) (A : Option Addr) (c : Nat) (l : List S36) (hl : l.length ≤ 100) (hc : l.length ≤ c) (w : World) (hr : Kd.C k36 w A l.length l) :
    Calls Tryd.prog 13 #[.agg #[.int .u64 nx, .slice A l.length c]] w fun e w' => ∃ v : Value, e = .returned (.tuple #[.agg #[.int .u64 (takeR nx l).1, v], .agg #[.int .u64 (takeR nx l).2.2.2.f0, .int .i64 (takeR nx l).2.2.2.f1, .int .u32 (takeR nx l).2.2.2.f2.f0, .int .u32 (takeR nx l).2.2.2.f2.f1, .int .u64 (takeR nx l).2.2.2.f2.f2, .int .u64 (takeR nx l).2.2.2.f2.f3.f0, .int .u64 (takeR nx l).2.2.2.f2.f3.f1, .int .u64 (takeR nx l).2.2.2.f2.f3.f2, .int .u64 (takeR nx l).2.2.2.f2.f3.f3, .int .u64 (takeR nx l).2.2.2.f2.f3.f4, .int .u64 (takeR nx l).2.2.2.f2.f3.f5, .bool (takeR nx l).2.2.2.f3], .int .i64 (takeR nx l).2.2.1]) ∧ Kd.R k36 36 w' w.heap.size (fun _ => True) v (takeR nx l).2.1 ∧ Below w.heap.size w w' := by
  obtain ⟨m, hm⟩ : ∃ m, m = l.length := ⟨_, rfl⟩
  have HM := Lib.hid hm
  have HL := Lib.hid hl
  have hB1 : Below w.heap.size w (((w.alloc (.cells #[.int .u64 nx, .slice A m c] 25)).alloc (.cells #[.int .u64 0, .slice none 0 0] 25)).alloc (.cells #[.int .u64 0, .int .i64 0, .int .u32 0, .int .u32 0, .int .u64 0, .int .u64 0, .int .u64 0, .int .u64 0, .int .u64 0, .int .u64 0, .int .u64 0, .bool false] 36)) := (bel_al (bel_al (bel_al (Below.refl w.heap.size w) (.cells #[.int .u64 nx, .slice A m c] 25)) (.cells #[.int .u64 0, .slice none 0 0] 25)) (.cells #[.int .u64 0, .int .i64 0, .int .u32 0, .int .u32 0, .int .u64 0, .int .u64 0, .int .u64 0, .int .u64 0, .int .u64 0, .int .u64 0, .int .u64 0, .bool false] 36))
  have HB1 := Lib.hid hB1
  have HC1 := Lib.hid (Kd.C_below hr hB1)
  have HRC : Hid (∀ (W : World) (b : Bool), wicketgateref25_Right.f 30000 nx l = some b → Kd.C k36 W A m l → Calls Tryd.prog 23 #[.agg #[.int .u64 nx, .slice A m c]] W fun e w' => e = .returned (.bool b) ∧ Below W.heap.size W w') := by
    rw [hm]
    exact Lib.hid (fun W b hb h => wicketgateref25_Right.calls 30000 nx A c l b W h hc hb)
  have HWO : Hid (∀ (W : World), wicketgateref25_without.f 1000 nx l (-1) = some (nx, l) → Kd.C k36 W A m l → Calls Tryd.prog 29 #[.agg #[.int .u64 nx, .slice A m c], .int .i64 (-1)] W fun e w' => ∃ v : Value, e = .returned (.agg #[.int .u64 nx, v]) ∧ Kd.R k36 36 w' W.heap.size (fun _ => True) v l ∧ Below W.heap.size W w') := by
    rw [hm]
    exact Lib.hid (fun W hb h => wicketgateref25_without.calls 1000 nx A c l (-1) nx l W h hc hb)
  have h0 := (al_keep (o := .cells #[.int .u64 0, .int .i64 0, .int .u32 0, .int .u32 0, .int .u64 0, .int .u64 0, .int .u64 0, .int .u64 0, .int .u64 0, .int .u64 0, .int .u64 0, .bool false] 36) (al_keep (o := .cells #[.int .u64 0, .slice none 0 0] 25) (al_new w (.cells #[.int .u64 nx, .slice A m c] 25))))
  (try simp only [World.size_alloc] at h0)
  have H0 := Lib.hid h0
  clear h0
  have h1 := (al_keep (o := .cells #[.int .u64 0, .int .i64 0, .int .u32 0, .int .u32 0, .int .u64 0, .int .u64 0, .int .u64 0, .int .u64 0, .int .u64 0, .int .u64 0, .int .u64 0, .bool false] 36) (al_new (w.alloc (.cells #[.int .u64 nx, .slice A m c] 25)) (.cells #[.int .u64 0, .slice none 0 0] 25)))
  (try simp only [World.size_alloc] at h1)
  have H1 := Lib.hid h1
  clear h1
  have h2 := (al_new ((w.alloc (.cells #[.int .u64 nx, .slice A m c] 25)).alloc (.cells #[.int .u64 0, .slice none 0 0] 25)) (.cells #[.int .u64 0, .int .i64 0, .int .u32 0, .int .u32 0, .int .u64 0, .int .u64 0, .int .u64 0, .int .u64 0, .int .u64 0, .int .u64 0, .int .u64 0, .bool false] 36))
  (try simp only [World.size_alloc] at h2)
  have H2 := Lib.hid h2
  clear h2
  rw [← hm] at HC1 ⊢
  clear hr hB1 hc hl hm
  by_cases hok : Dok nx l
  case neg =>
    have HRF := Lib.hid (show wicketgateref25_Right.f 30000 nx l = some false by rw [right_f 30000 (by decide) nx l HL.out, decide_eq_false hok])
    have HR := Lib.hid (show (takeR nx l) = _ from if_neg hok)
    clear hok
    go_enter Tryd.func13, Tryd.ntmps13
    go_wp2_with (first | (go_at_call 23; (with_reducible refine (HRC.out _ false HRF.out HC1.out).mono ?_); rintro e w2 ⟨rfl, hb⟩; have HB2 := Lib.hid (HB1.out.trans (hb.mono HB1.out.size)); have HC2 := Lib.hid (Kd.C_below HC1.out hb); have HK0 := Lib.hid ((hb.block _ (blk_lt H0.out)).trans H0.out); have HK1 := Lib.hid ((hb.block _ (blk_lt H1.out)).trans H1.out); have HK2 := Lib.hid ((hb.block _ (blk_lt H2.out)).trans H2.out); clear hb; have p0 := blk_cell HK1.out 0; have pf0 := blk_frozen HK1.out 0; have p1 := blk_cell HK1.out 1; have pf1 := blk_frozen HK1.out 1; have z0 := blk_cell HK2.out 0; have zf0 := blk_frozen HK2.out 0; have z1 := blk_cell HK2.out 1; have zf1 := blk_frozen HK2.out 1; have z2 := blk_cell HK2.out 2; have zf2 := blk_frozen HK2.out 2; have z3 := blk_cell HK2.out 3; have zf3 := blk_frozen HK2.out 3; have z4 := blk_cell HK2.out 4; have zf4 := blk_frozen HK2.out 4; have z5 := blk_cell HK2.out 5; have zf5 := blk_frozen HK2.out 5; have z6 := blk_cell HK2.out 6; have zf6 := blk_frozen HK2.out 6; have z7 := blk_cell HK2.out 7; have zf7 := blk_frozen HK2.out 7; have z8 := blk_cell HK2.out 8; have zf8 := blk_frozen HK2.out 8; have z9 := blk_cell HK2.out 9; have zf9 := blk_frozen HK2.out 9; have z10 := blk_cell HK2.out 10; have zf10 := blk_frozen HK2.out 10; have z11 := blk_cell HK2.out 11; have zf11 := blk_frozen HK2.out 11; have pl := blk_lt HK1.out; have zl := blk_lt HK2.out))
    refine bodyPost_ret (v := .tuple #[.agg #[.int .u64 0, .slice none 0 0], .agg #[.int .u64 0, .int .i64 0, .int .u32 0, .int .u32 0, .int .u64 0, .int .u64 0, .int .u64 0, .int .u64 0, .int .u64 0, .int .u64 0, .int .u64 0, .bool false], .int .i64 350]) (by simp [results, Tryd.results13, go_sem, p0, p1, z0, z1, z2, z3, z4, z5, z6, z7, z8, z9, z10, z11, pl, zl]) rfl ?_
    refine ⟨.slice none 0 0, by rw [HR.out]; rfl, by rw [HR.out]; exact Kd.R_nil _ _ _ _ _, ?_⟩
    (repeat (with_reducible first | exact HB2.out | refine Below.setCell ?_ (by dsimp only; omega) _))
  have HRF := Lib.hid (show wicketgateref25_Right.f 30000 nx l = some true by rw [right_f 30000 (by decide) nx l HL.out, decide_eq_true hok])
  have HOK := Lib.hid hok
  clear hok
  go_enter Tryd.func13, Tryd.ntmps13
  go_wp2_with (first | (go_at_call 23; (with_reducible refine (HRC.out _ true HRF.out HC1.out).mono ?_); rintro e w2 ⟨rfl, hb⟩; have HB2 := Lib.hid (HB1.out.trans (hb.mono HB1.out.size)); have HC2 := Lib.hid (Kd.C_below HC1.out hb); have HK0 := Lib.hid ((hb.block _ (blk_lt H0.out)).trans H0.out); have HK1 := Lib.hid ((hb.block _ (blk_lt H1.out)).trans H1.out); have HK2 := Lib.hid ((hb.block _ (blk_lt H2.out)).trans H2.out); clear hb; skip))
  go_loopw [5] (fun i wr => ∃ (k : Nat) (j : Int), i = .int .i64 j ∧ Hid (j = (k : Int)) ∧ 0 ≤ j ∧ j ≤ (m : Int) ∧ Hid (wr = w2) ∧ Hid (∀ q : Nat, q < k → (!(rd_T36 l (q : Int)).f3) = false)) (fun i _ => (m - intOf i).toNat)
  case atStart => exact ⟨0, 0, rfl, Lib.hid rfl, by omega, by omega, Lib.hid rfl, Lib.hid (fun q hq => absurd hq (Nat.not_lt_zero _))⟩
  case round =>
    obtain ⟨k, j, rfl, HJ, hj0, hj1, HWR, KO⟩ := hrel
    obtain rfl := HWR.out
    have x0 := blk_cell HK0.out 0
    have x1 := blk_cell HK0.out 1
    have xl := blk_lt HK0.out
    by_cases hlt : j < (m : Int)
    · obtain ⟨ad, hA, _, _, _, _, _, _, _, _, _, _, _, hx11⟩ := at_T36 HC2.out j hj0 hlt
      subst hA
      obtain ⟨x, hx⟩ : ∃ x, x = rd_T36 l j := ⟨_, rfl⟩
      rw [← hx] at hx11
      have HXK := Lib.hid hx
      clear hx
      cases htk : x.f3 with
      | false =>
        have HI := Lib.hid (show takeI l = ((j.toNat : Nat) : Int) from (show takeI l = (k : Int) from idx_hit (by have := HJ.out; have := HM.out; omega) (by rw [← HJ.out, ← HXK.out, htk]; rfl) KO.out).trans (by have := HJ.out; omega))
        have hne : ¬ ((j.toNat : Nat) : Int) = -1 := by omega
        have HXE := Lib.hid (show x = rd_T36 l ((j.toNat : Nat) : Int) by rw [HXK.out, show ((j.toNat : Nat) : Int) = j by omega])
        have HKL := Lib.hid (show j.toNat < l.length by have := HJ.out; have := HM.out; omega)
        have hE : takeE l = 0 := by unfold takeE; rw [HI.out, if_neg hne]
        have HR := Lib.hid (show (takeR nx l) = (nx, l.set j.toNat (tk x), 0, tk x) by unfold takeR takeL tookV; rw [if_pos HOK.out, if_pos hE, HI.out, if_neg hne, ← HXE.out, Int.toNat_natCast])
        have HWF := Lib.hid (without_n 1000 (by decide) nx l HL.out)
        rw [htk] at hx11
        have HTK := Lib.hid htk
        clear hne hE htk
        go_wp2_with (first | (go_at_call 29; (with_reducible refine (HWO.out _ HWF.out HC2.out).mono ?_); rintro e w5 ⟨v5, rfl, hR5, hb5⟩; obtain ⟨g, c5, hv5, hbg, hgs, _⟩ := Kd.R_form hR5 (by have := HM.out; omega); subst hv5; rw [← HM.out] at hR5 ⊢; have HR5 := Lib.hid hR5; have HB5 := Lib.hid (HB2.out.trans (hb5.mono HB2.out.size)); have HKA := Lib.hid ((hb5.block _ (blk_lt HK1.out)).trans HK1.out); have HKB := Lib.hid ((hb5.block _ (blk_lt HK2.out)).trans HK2.out); have hel := elem hR5 HKL.out; rw [← HXE.out] at hel; obtain ⟨_, _, _, _, _, _, _, _, _, _, _, e11, ef⟩ := hel; clear hR5 hb5 x0 x1 xl hx11; have hs2 : w.heap.size + 1 + 1 < wr.heap.size := (blk_lt HK2.out)))
        have hy8 := al_new (w5.setCell ⟨g, j.toNat * 12 + 11, none⟩ (.bool true)) (.cells #[.int .u64 nx, .slice (some ⟨g, 0, none⟩) m c5] 25)
        rw [World.size_setCell] at hy8
        have HY8 := Lib.hid (blk_drew hy8)
        have hR8 := Kd.R_alloc (tk_set HR5.out HKL.out) (.cells #[.int .u64 nx, .slice (some ⟨g, 0, none⟩) m c5] 25)
        have HR8 := Lib.hid (Kd.R_drew hR8)
        have hel := elem (Kd.R_drew hR8) (by rw [List.length_set]; exact HKL.out)
        rw [show rd_T36 (l.set j.toNat (tk (rd_T36 l ((j.toNat : Nat) : Int)))) ((j.toNat : Nat) : Int) = tk x by rw [rd_at (by rw [List.length_set]; exact HKL.out), List.getElem_set_self, HXE.out]] at hel
        obtain ⟨l0, l1, l2, l3, l4, l5, l6, l7, l8, l9, l10, l11, _⟩ := hel
        have HE0 := Lib.hid l0
        have HE1 := Lib.hid l1
        have HE2 := Lib.hid l2
        have HE3 := Lib.hid l3
        have HE4 := Lib.hid l4
        have HE5 := Lib.hid l5
        have HE6 := Lib.hid l6
        have HE7 := Lib.hid l7
        have HE8 := Lib.hid l8
        have HE9 := Lib.hid l9
        have HE10 := Lib.hid l10
        have HE11 := Lib.hid l11
        clear l0 l1 l2 l3 l4 l5 l6 l7 l8 l9 l10 l11 hR8 e11 ef hy8
        have HB8 := Lib.hid (below_drew (bel_al (HB5.out.setCell (p := ⟨g, j.toNat * 12 + 11, none⟩) (by have := HB2.out.size; dsimp only; omega) (.bool true)) (.cells #[.int .u64 nx, .slice (some ⟨g, 0, none⟩) m c5] 25)))
        have HK81 := Lib.hid (blk_drew (al_keep (o := (.cells #[.int .u64 nx, .slice (some ⟨g, 0, none⟩) m c5] 25)) (blk_far HKA.out (p := ⟨g, j.toNat * 12 + 11, none⟩) (by dsimp only; omega) (.bool true))))
        have HK82 := Lib.hid (blk_drew (al_keep (o := (.cells #[.int .u64 nx, .slice (some ⟨g, 0, none⟩) m c5] 25)) (blk_far HKB.out (p := ⟨g, j.toNat * 12 + 11, none⟩) (by dsimp only; omega) (.bool true))))
        have hgR : g ≠ w.heap.size + 1 := by omega
        have hgR2 : g ≠ w.heap.size + 1 + 1 := by omega
        have hY1 : w5.heap.size ≠ w.heap.size + 1 := by omega
        have hY2 : w5.heap.size ≠ w.heap.size + 1 + 1 := by omega
        have hgw : w.heap.size ≤ g := by omega
        refine start_ (n := 9) (S := fun w' => ∀ q, q ≠ w.heap.size + 1 → q ≠ w.heap.size + 1 + 1 → w'.heap[q]? = ((w5.setCell ⟨g, j.toNat * 12 + 11, none⟩ (.bool true)).alloc (.cells #[.int .u64 nx, .slice (some ⟨g, 0, none⟩) m c5] 25)).drew.heap[q]?) (ds := [7]) #[false, false, false, false, false, false, false, false, false] (by kernel_rfl) rfl rfl (fun _ _ _ => rfl) (fun hHeld => ?_); refine with_tabW rtk.tab9 rtk.bits9 (fun HT_ HW_ => ?_)
        generalize ((w5.setCell ⟨g, j.toNat * 12 + 11, none⟩ (.bool true)).alloc (.cells #[.int .u64 nx, .slice (some ⟨g, 0, none⟩) m c5] 25)).drew = w8 at HY8 HR8 HB8 HK81 HK82 HE0 HE1 HE2 HE3 HE4 HE5 HE6 HE7 HE8 HE9 HE10 HE11 hHeld ⊢
        have p0 := blk_cell HK81.out 0
        have pf0 := blk_frozen HK81.out 0
        have p1 := blk_cell HK81.out 1
        have pf1 := blk_frozen HK81.out 1
        have z0 := blk_cell HK82.out 0
        have zf0 := blk_frozen HK82.out 0
        have z1 := blk_cell HK82.out 1
        have zf1 := blk_frozen HK82.out 1
        have z2 := blk_cell HK82.out 2
        have zf2 := blk_frozen HK82.out 2
        have z3 := blk_cell HK82.out 3
        have zf3 := blk_frozen HK82.out 3
        have z4 := blk_cell HK82.out 4
        have zf4 := blk_frozen HK82.out 4
        have z5 := blk_cell HK82.out 5
        have zf5 := blk_frozen HK82.out 5
        have z6 := blk_cell HK82.out 6
        have zf6 := blk_frozen HK82.out 6
        have z7 := blk_cell HK82.out 7
        have zf7 := blk_frozen HK82.out 7
        have z8 := blk_cell HK82.out 8
        have zf8 := blk_frozen HK82.out 8
        have z9 := blk_cell HK82.out 9
        have zf9 := blk_frozen HK82.out 9
        have z10 := blk_cell HK82.out 10
        have zf10 := blk_frozen HK82.out 10
        have z11 := blk_cell HK82.out 11
        have zf11 := blk_frozen HK82.out 11
        have pl := blk_lt HK81.out
        have zl := blk_lt HK82.out
        refine pure_ (i := 1) (N := some 34) (v := ?_) (a' := ?_) #[false, true, false, false, false, false, false, false, false] rfl rfl (any_of HT_.out (by kernel_rfl)) (fun _ _ _ h => h) (Or.inl ⟨by rfl, ?_⟩) ?_ ?_
        rotate_left
        · intro w'
          go_simp
          with_reducible rfl
        rotate_left
        · (try simp only [Act.put, List.setIfInBounds_toArray, List.set_cons_zero, List.set_cons_succ])
          rfl
        refine pure_ (i := 3) (N := some 36) (v := ?_) (a' := ?_) #[false, true, false, true, false, false, false, false, false] rfl rfl (any_of HT_.out (by kernel_rfl)) (fun _ _ _ h => h) (Or.inl ⟨by rfl, ?_⟩) ?_ ?_
        rotate_left
        · intro w'
          go_simp
          with_reducible rfl
        rotate_left
        · (try simp only [Act.put, List.setIfInBounds_toArray, List.set_cons_zero, List.set_cons_succ])
          rfl
        refine take_ (i := 0) (N := some 33) (v := ?_) (a' := ?_) #[true, true, false, true, false, false, false, false, false] rfl rfl (take_ofW HT_.out HW_.out (by kernel_rfl)) (fun _ _ _ h => h) (Or.inl ⟨by rfl, ?_⟩) hHeld ?_ ?_
        rotate_left
        · intro w' hS_
          have hx_0 : w'.cell? ⟨w5.heap.size, 0, none⟩ = _ := blk_cell ((hS_ _ hY1 hY2).trans HY8.out) 0
          have hx_1 : w'.cell? ⟨w5.heap.size, 1, none⟩ = _ := blk_cell ((hS_ _ hY1 hY2).trans HY8.out) 1
          go_simp
          with_reducible rfl
        rotate_left
        · (try simp only [Act.put, List.setIfInBounds_toArray, List.set_cons_zero, List.set_cons_succ])
          rfl
        refine take_ (i := 2) (N := some 35) (v := ?_) (a' := ?_) #[true, true, true, true, false, false, false, false, false] rfl rfl (take_ofW HT_.out HW_.out (by kernel_rfl)) (fun _ _ _ h => h) (Or.inl ⟨by rfl, ?_⟩) hHeld ?_ ?_
        rotate_left
        · intro w' hS_
          have hx_1 : w'.cell? ⟨w5.heap.size, 1, none⟩ = _ := blk_cell ((hS_ _ hY1 hY2).trans HY8.out) 1
          go_simp
          with_reducible rfl
        rotate_left
        · (try simp only [Act.put, List.setIfInBounds_toArray, List.set_cons_zero, List.set_cons_succ])
          rfl
        refine pure_ (i := 4) (N := some 37) (v := ?_) (a' := ?_) #[true, true, true, true, true, false, false, false, false] rfl rfl (any_of HT_.out (by kernel_rfl)) (fun _ _ _ h => h) (Or.inl ⟨by rfl, ?_⟩) ?_ ?_
        rotate_left
        · intro w'
          go_simp
          with_reducible rfl
        rotate_left
        · (try simp only [Act.put, List.setIfInBounds_toArray, List.set_cons_zero, List.set_cons_succ])
          rfl
        refine take_ (i := 5) (N := some 38) (v := ?_) (a' := ?_) #[true, true, true, true, true, true, false, false, false] rfl rfl (take_ofW HT_.out HW_.out (by kernel_rfl)) (fun _ _ _ h => h) (Or.inl ⟨by rfl, ?_⟩) hHeld ?_ ?_
        rotate_left
        · intro w' hS_
          have hx_0 : w'.cell? ⟨g, j.toNat * 12, none⟩ = _ := (by unfold World.cell?; rw [hS_ g hgR hgR2] : w'.cell? ⟨g, j.toNat * 12, none⟩ = w8.cell? ⟨g, j.toNat * 12, none⟩).trans HE0.out
          have hx_1 : w'.cell? ⟨g, j.toNat * 12 + 1, none⟩ = _ := (by unfold World.cell?; rw [hS_ g hgR hgR2] : w'.cell? ⟨g, j.toNat * 12 + 1, none⟩ = w8.cell? ⟨g, j.toNat * 12 + 1, none⟩).trans HE1.out
          have hx_2 : w'.cell? ⟨g, j.toNat * 12 + 2, none⟩ = _ := (by unfold World.cell?; rw [hS_ g hgR hgR2] : w'.cell? ⟨g, j.toNat * 12 + 2, none⟩ = w8.cell? ⟨g, j.toNat * 12 + 2, none⟩).trans HE2.out
          have hx_3 : w'.cell? ⟨g, j.toNat * 12 + 3, none⟩ = _ := (by unfold World.cell?; rw [hS_ g hgR hgR2] : w'.cell? ⟨g, j.toNat * 12 + 3, none⟩ = w8.cell? ⟨g, j.toNat * 12 + 3, none⟩).trans HE3.out
          have hx_4 : w'.cell? ⟨g, j.toNat * 12 + 4, none⟩ = _ := (by unfold World.cell?; rw [hS_ g hgR hgR2] : w'.cell? ⟨g, j.toNat * 12 + 4, none⟩ = w8.cell? ⟨g, j.toNat * 12 + 4, none⟩).trans HE4.out
          have hx_5 : w'.cell? ⟨g, j.toNat * 12 + 5, none⟩ = _ := (by unfold World.cell?; rw [hS_ g hgR hgR2] : w'.cell? ⟨g, j.toNat * 12 + 5, none⟩ = w8.cell? ⟨g, j.toNat * 12 + 5, none⟩).trans HE5.out
          have hx_6 : w'.cell? ⟨g, j.toNat * 12 + 6, none⟩ = _ := (by unfold World.cell?; rw [hS_ g hgR hgR2] : w'.cell? ⟨g, j.toNat * 12 + 6, none⟩ = w8.cell? ⟨g, j.toNat * 12 + 6, none⟩).trans HE6.out
          have hx_7 : w'.cell? ⟨g, j.toNat * 12 + 7, none⟩ = _ := (by unfold World.cell?; rw [hS_ g hgR hgR2] : w'.cell? ⟨g, j.toNat * 12 + 7, none⟩ = w8.cell? ⟨g, j.toNat * 12 + 7, none⟩).trans HE7.out
          have hx_8 : w'.cell? ⟨g, j.toNat * 12 + 8, none⟩ = _ := (by unfold World.cell?; rw [hS_ g hgR hgR2] : w'.cell? ⟨g, j.toNat * 12 + 8, none⟩ = w8.cell? ⟨g, j.toNat * 12 + 8, none⟩).trans HE8.out
          have hx_9 : w'.cell? ⟨g, j.toNat * 12 + 9, none⟩ = _ := (by unfold World.cell?; rw [hS_ g hgR hgR2] : w'.cell? ⟨g, j.toNat * 12 + 9, none⟩ = w8.cell? ⟨g, j.toNat * 12 + 9, none⟩).trans HE9.out
          have hx_10 : w'.cell? ⟨g, j.toNat * 12 + 10, none⟩ = _ := (by unfold World.cell?; rw [hS_ g hgR hgR2] : w'.cell? ⟨g, j.toNat * 12 + 10, none⟩ = w8.cell? ⟨g, j.toNat * 12 + 10, none⟩).trans HE10.out
          have hx_11 : w'.cell? ⟨g, j.toNat * 12 + 11, none⟩ = _ := (by unfold World.cell?; rw [hS_ g hgR hgR2] : w'.cell? ⟨g, j.toNat * 12 + 11, none⟩ = w8.cell? ⟨g, j.toNat * 12 + 11, none⟩).trans HE11.out
          go_simp
          with_reducible rfl
        rotate_left
        · (try simp only [Act.put, List.setIfInBounds_toArray, List.set_cons_zero, List.set_cons_succ])
          rfl
        refine one_ (i := 6) (N := none) #[true, true, true, true, true, true, true, false, false] rfl rfl (one_of HT_.out (by kernel_rfl)) (by decide) (fun K hK => ?_)
        refine skip_ (w1 := ?_) (by rfl) rfl ?_ ?_
        rotate_left
        · go_simp
          with_reducible rfl
        refine hK.out _ _ (fun q n1 n2 => (Below.heap_setCell _ _ _ _ n1).trans (Below.heap_setCell _ _ _ _ n1)) (fun hHeld => ?_)
        clear hK K
        refine last_ (i := 7) (N := none) #[true, true, true, true, true, true, true, true, false] rfl rfl (one_of HT_.out (by kernel_rfl)) (by decide) (fun K hK => ?_)
        refine skip_ (w1 := ?_) (by rfl) rfl ?_ ?_
        rotate_left
        · go_simp
          with_reducible rfl
        refine hK.out _ _ ?_
        clear hK K
        refine pure_ (i := 8) (N := some 4) (v := ?_) (a' := ?_) #[true, true, true, true, true, true, true, true, true] rfl rfl (any_of HT_.out (by kernel_rfl)) (fun _ _ _ h => h) (Or.inl ⟨by rfl, ?_⟩) ?_ ?_
        rotate_left
        · intro w'
          go_simp
          with_reducible rfl
        rotate_left
        · (try simp only [Act.put, List.setIfInBounds_toArray, List.set_cons_zero, List.set_cons_succ])
          rfl
        refine done_ (done_of HT_.out (by kernel_rfl)) ?_
        clear HT_ HW_
        (try clear hHeld)
        go_wp2_with fail
        refine bodyPost_ret (v := .tuple #[.agg #[.int .u64 nx, .slice (some ⟨g, 0, none⟩) m c5], .agg #[.int .u64 (tk x).f0, .int .i64 (tk x).f1, .int .u32 (tk x).f2.f0, .int .u32 (tk x).f2.f1, .int .u64 (tk x).f2.f2, .int .u64 (tk x).f2.f3.f0, .int .u64 (tk x).f2.f3.f1, .int .u64 (tk x).f2.f3.f2, .int .u64 (tk x).f2.f3.f3, .int .u64 (tk x).f2.f3.f4, .int .u64 (tk x).f2.f3.f5, .bool (tk x).f3], .int .i64 0]) (by simp [results, Tryd.results13, go_sem, p0, p1, z0, z1, z2, z3, z4, z5, z6, z7, z8, z9, z10, z11, pl, zl]) rfl ?_
        refine ⟨.slice (some ⟨g, 0, none⟩) m c5, by rw [HR.out], ?_, ?_⟩
        · rw [HR.out, HXE.out]
          refine Kd.R_mono (ok := fun q => w.heap.size + 1 + 1 < q) (Kd.R_lower (base := wr.heap.size) ?_ (by omega)) (fun _ _ => trivial)
          exact R_far12 (Kd.R_far (Kd.R_far (Kd.R_mono (Kd.R_bound HR8.out) (fun q hq => (show w.heap.size + 1 + 1 < q by have := hq.2.1; omega))) (fun q hq e => by dsimp only at e; omega) _) (fun q hq e => by dsimp only at e; omega) _) (fun q hq => by omega) _ _ _ _ _ _ _ _ _ _ _ _
        · (repeat (with_reducible first | exact HB8.out | refine Below.setCell ?_ (by dsimp only; omega) _))
      | true =>
        have HNC := Lib.hid (show (!x.f3) = false by rw [htk]; rfl)
        rw [htk] at hx11
        clear htk
        have hwj : wrap64 (j + 1) = j + 1 := by have := HM.out; have := HL.out; unfold wrap64; omega
        go_wp2_with fail
        refine ⟨⟨k + 1, j + 1, by rw [hwj], Lib.hid (by have := HJ.out; omega), by omega, by omega, Lib.hid trivial, Lib.hid (fun q hq => ?_)⟩, by rw [hwj]; simp [intOf]; omega⟩
        rcases Nat.lt_or_ge q k with h | h
        · exact KO.out q h
        · obtain rfl : q = k := by omega
          rw [← HJ.out, ← HXK.out]
          exact HNC.out
    · have hI : takeI l = -1 := idx_miss (fun q hq => KO.out q (by have := HJ.out; have := HM.out; omega))
      have hE : takeE l = 4 := if_pos hI
      have HR := Lib.hid (show (takeR nx l) = (0, [], 4, z36) by unfold takeR tookV; rw [if_pos HOK.out, hE, if_neg (by decide), if_pos hI])
      clear hI hE
      have p0 := blk_cell HK1.out 0; have pf0 := blk_frozen HK1.out 0; have p1 := blk_cell HK1.out 1; have pf1 := blk_frozen HK1.out 1; have z0 := blk_cell HK2.out 0; have zf0 := blk_frozen HK2.out 0; have z1 := blk_cell HK2.out 1; have zf1 := blk_frozen HK2.out 1; have z2 := blk_cell HK2.out 2; have zf2 := blk_frozen HK2.out 2; have z3 := blk_cell HK2.out 3; have zf3 := blk_frozen HK2.out 3; have z4 := blk_cell HK2.out 4; have zf4 := blk_frozen HK2.out 4; have z5 := blk_cell HK2.out 5; have zf5 := blk_frozen HK2.out 5; have z6 := blk_cell HK2.out 6; have zf6 := blk_frozen HK2.out 6; have z7 := blk_cell HK2.out 7; have zf7 := blk_frozen HK2.out 7; have z8 := blk_cell HK2.out 8; have zf8 := blk_frozen HK2.out 8; have z9 := blk_cell HK2.out 9; have zf9 := blk_frozen HK2.out 9; have z10 := blk_cell HK2.out 10; have zf10 := blk_frozen HK2.out 10; have z11 := blk_cell HK2.out 11; have zf11 := blk_frozen HK2.out 11; have pl := blk_lt HK1.out; have zl := blk_lt HK2.out
      go_wp2_with fail
      refine bodyPost_ret (v := .tuple #[.agg #[.int .u64 0, .slice none 0 0], .agg #[.int .u64 0, .int .i64 0, .int .u32 0, .int .u32 0, .int .u64 0, .int .u64 0, .int .u64 0, .int .u64 0, .int .u64 0, .int .u64 0, .int .u64 0, .bool false], .int .i64 4]) (by simp [results, Tryd.results13, go_sem, p0, p1, z0, z1, z2, z3, z4, z5, z6, z7, z8, z9, z10, z11, pl, zl]) rfl ?_
      refine ⟨.slice none 0 0, by rw [HR.out]; rfl, by rw [HR.out]; exact Kd.R_nil _ _ _ _ _, ?_⟩
      (repeat (with_reducible first | exact HB2.out | refine Below.setCell ?_ (by dsimp only; omega) _))
end Go.Proofs.YtcbiehinhmkjmaaDoor.NB
