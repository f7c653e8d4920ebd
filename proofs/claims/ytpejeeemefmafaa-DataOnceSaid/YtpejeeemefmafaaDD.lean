import Derived.Test.YtpejeeemefmafaaDC
namespace Go.Proofs.Ytpejeeemefmafaa.RD
open Go.RowKit Go.Proofs.YtpejeeemefmafaaW.PrintWords Go.Proofs.YtpejeeemefmafaaW.PrintLast Go.Proofs.YtpejeeemefmafaaW.PrintMore
open Go.Proofs.Ytpejeeemefmafaa.PE.L (below_drewN' below_drew')
open PH
set_option linter.unusedVariables false
set_option linter.unusedSimpArgs false
theorem num_mod4 {l : List Int} (hl : Bytes l) (i : Nat) (h : i + 4 ≤ l.length) : num ((l.drop i).take 4) % 18446744073709551616 = w4 l i := Int.emod_eq_of_lt (w4_r hl i h).1 (by have := (w4_r hl i h).2; unfold w4 at this; omega)
theorem u32_id {x : Int} (h : u32R x) : IntKind.u32.wrap x = x := by
  obtain ⟨h0, h1⟩ := h
  simp [IntKind.wrap, IntKind.bits, IntKind.signed]; omega
theorem num_mod8 {l : List Int} (hl : Bytes l) (i : Nat) (h : i + 8 ≤ l.length) : num ((l.drop i).take 8) % 18446744073709551616 = w8 l i := Int.emod_eq_of_lt (w8_r hl i h).1 (w8_r hl i h).2
theorem num4_c (A : Option Addr) (c : Nat) (l : List Int) (i : Nat) (w : World) (hx : Kd.C (Kd.int .u8) w A 4 ((l.drop i).take 4)) (hc : 4 ≤ c) (hl : Bytes l) (h : i + 4 ≤ l.length) : Calls Try.prog 25 #[.slice A 4 c] w fun e w' => e = .returned (.int .u64 (w4 l i)) ∧ Drawn0 w w' := by
  have h' := number_c A 4 c _ w hx hc ((hl.drop i).take 4) (by omega)
  rw [num_mod4 hl i h] at h'
  exact h'
theorem num8_c (A : Option Addr) (c : Nat) (l : List Int) (i : Nat) (w : World) (hx : Kd.C (Kd.int .u8) w A 8 ((l.drop i).take 8)) (hc : 8 ≤ c) (hl : Bytes l) (h : i + 8 ≤ l.length) : Calls Try.prog 25 #[.slice A 8 c] w fun e w' => e = .returned (.int .u64 (w8 l i)) ∧ Drawn0 w w' := by
  have h' := number_c A 8 c _ w hx hc ((hl.drop i).take 8) (by omega)
  rw [num_mod8 hl i h] at h'
  exact h'
theorem cut_win (A : Option Addr) (n c : Nat) (l : List Int) (k : IntKind) (i m : Nat) (hn : l.length = n) (h : i + m ≤ n) (hc : n ≤ c) :
    ∃ A' c', (∀ W : World, (Instr.slice 22 (.slice A n c) (some (.int k (i : Int))) (some (.int k ((i + m : Nat) : Int))) none).run Try.prog W = .ok (.slice A' m c') W) ∧ (∀ W : World, Kd.C (Kd.int .u8) W A n l → Kd.C (Kd.int .u8) W A' m ((l.drop i).take m)) ∧ m ≤ c' := by
  subst hn
  obtain ⟨q, hi, _, hsz, _⟩ := info_parts PH.info5
  have h1 := cut_mid (P := Try.prog) 22 5 k k Try.underlying22 hi 1 hsz A l.length c (i : Int) ((i + m : Nat) : Int) (by omega) (by omega) (by omega) hc
  rw [Int.toNat_natCast, Int.toNat_natCast, Nat.add_sub_cancel_left] at h1
  refine ⟨_, _, h1, fun W hC => ?_, by omega⟩
  have hd := Kd.C_mid (lo := i) (hi := i + m) (c := c) hC (by omega) h hc
  have e : (l.take (i + m)).drop i = (l.drop i).take m := by rw [List.drop_take]; congr 1; omega
  rw [e, take_len l i m h] at hd
  exact hd
def refof.T1 : Bool × List (List Nat × List Nat) := (true, [([], []), ([0], [0]), ([1], [1]), ([2], [2]), ([], []), ([4], [4]), ([5, 2], [5]), ([6], [6]), ([], []), ([8], [8]), ([9, 6], [9]), ([3, 7, 10], [3, 7, 10]), ([], []), ([12, 11, 10, 0, 1, 2, 3, 4, 5, 6, 7, 8, 9, 10, 11, 12], [11, 12])])
def refof.B1 : List Nat := [0, 1, 3, 7, 0, 16, 55, 119, 0, 256, 887, 2047, 0, 8191]
theorem refof.tab1 : rtab .any (opsOf Try.f54 1) = refof.T1 := by kernel_rfl
theorem refof.bits1 : waitsOk refof.T1.2 refof.B1 = true := by kernel_rfl
set_option maxHeartbeats 4000000 in
set_option maxRecDepth 100000 in
theorem of_c (A : Option Addr) (c : Nat) (l : List Int) (hl : Bytes l) (w : World) (hC : Kd.C (Kd.int .u8) w A 64 l) (hc : 64 ≤ c) : Calls Try.prog 54 #[.slice A 64 c] w fun e w' => e = .returned (.agg #[.int .u32 (w4 l 0), .int .u32 (w4 l 4), .int .u64 (w8 l 8), .int .u64 (w8 l 16), .int .u64 (w8 l 24), .int .u64 (w8 l 32), .int .u64 (w8 l 40), .int .u64 (w8 l 48), .int .u64 (w8 l 56)]) ∧ Below w.heap.size w w' := by
  have HL := Aside0.mk hl
  have HC0 := Aside0.mk hC
  have HC1 := HC0
  clear hl hC
  have HLEN := Aside0.mk (Kd.C_len HC0.out)
  go_enter Try.func54, Try.ntmps54
  have HX := Aside0.mk (heap_alloc_new w (.cells #[.int .u32 0, .int .u32 0, .int .u64 0, .int .u64 0, .int .u64 0, .int .u64 0, .int .u64 0, .int .u64 0, .int .u64 0] 58))
  have HB := Aside0.mk (below_alloc (Below.refl w.heap.size w) (.cells #[.int .u32 0, .int .u32 0, .int .u64 0, .int .u64 0, .int .u64 0, .int .u64 0, .int .u64 0, .int .u64 0, .int .u64 0] 58))
  go_upto_region 1 with fail
  go_cut [3] (fun v3 wc => ∃ X2 : Nat, v3 = .pointer (some ⟨X2, 0, none⟩) ∧ Aside0 (w.heap.size < X2) ∧ Aside0 (wc.heap[X2]? = some (.cells (dcs l 0).toArray 58 (0, 0))) ∧ Aside0 (wc.heap[w.heap.size]? = some (.cells #[.int .u32 0, .int .u32 0, .int .u64 0, .int .u64 0, .int .u64 0, .int .u64 0, .int .u64 0, .int .u64 0, .int .u64 0] 58 (0, 0))) ∧ Aside0 (Below w.heap.size w wc))
  case first =>
    have hw0 := u32_id (w4_r HL.out 0 (by rw [HLEN.out]; omega))
    have hw4 := u32_id (w4_r HL.out 4 (by rw [HLEN.out]; omega))
    replace HX := Aside0.mk (blk_drew HX.out)
    replace HB := Aside0.mk (below_drew' HB.out)
    replace HC0 := Aside0.mk (Kd.C_drew (Kd.C_alloc HC0.out (.cells #[.int .u32 0, .int .u32 0, .int .u64 0, .int .u64 0, .int .u64 0, .int .u64 0, .int .u64 0, .int .u64 0, .int .u64 0] 58)))
    obtain ⟨B0, d0, hr0, hd0, hq0⟩ := cut_win A 64 c l .i64 0 4 HLEN.out (by omega) hc
    have HD0 := Aside0.mk hd0
    clear hd0
    replace hr0 : ∀ W : World, (Instr.slice 22 (.slice A 64 c) (some (.int .i64 0)) (some (.int .i64 4)) none).run Try.prog W = .ok (.slice B0 4 d0) W := hr0
    obtain ⟨B1, d1, hr1, hd1, hq1⟩ := cut_win A 64 c l .i64 4 4 HLEN.out (by omega) hc
    have HD1 := Aside0.mk hd1
    clear hd1
    replace hr1 : ∀ W : World, (Instr.slice 22 (.slice A 64 c) (some (.int .i64 4)) (some (.int .i64 8)) none).run Try.prog W = .ok (.slice B1 4 d1) W := hr1
    obtain ⟨B2, d2, hr2, hd2, hq2⟩ := cut_win A 64 c l .i64 8 8 HLEN.out (by omega) hc
    have HD2 := Aside0.mk hd2
    clear hd2
    replace hr2 : ∀ W : World, (Instr.slice 22 (.slice A 64 c) (some (.int .i64 8)) (some (.int .i64 16)) none).run Try.prog W = .ok (.slice B2 8 d2) W := hr2
    refine start_ (n := 14) (S := fun w' => True) (ds := []) #[false, false, false, false, false, false, false, false, false, false, false, false, false, false] (by kernel_rfl) rfl rfl trivial (fun hHeld => ?_); refine with_tabW refof.tab1 refof.bits1 (fun HT_ HW_ => ?_)
    generalize World.drew _ = W9 at HB HX HC0 hHeld ⊢
    refine pure_ (i := 0) (N := some 5) (v := ?_) (a' := ?_) #[true, false, false, false, false, false, false, false, false, false, false, false, false, false] rfl rfl (any_of HT_.out (by kernel_rfl)) (fun _ _ _ h => h) (Or.inl ⟨by rfl, ?_⟩) ?_ ?_
    rotate_left
    · intro w'
      go_simp
      with_reducible rfl
    rotate_left
    · (try simp only [Act.put, List.setIfInBounds_toArray, List.set_cons_zero, List.set_cons_succ])
      rfl
    refine pure_ (i := 1) (N := some 6) (v := ?_) (a' := ?_) #[true, true, false, false, false, false, false, false, false, false, false, false, false, false] rfl rfl (any_of HT_.out (by kernel_rfl)) (fun _ _ _ h => h) (Or.inl ⟨by rfl, ?_⟩) ?_ ?_
    rotate_left
    · intro w'
      go_simp
      with_reducible rfl
    rotate_left
    · (try simp only [Act.put, List.setIfInBounds_toArray, List.set_cons_zero, List.set_cons_succ])
      rfl
    refine pure_ (i := 4) (N := some 9) (v := ?_) (a' := ?_) #[true, true, false, false, true, false, false, false, false, false, false, false, false, false] rfl rfl (any_of HT_.out (by kernel_rfl)) (fun _ _ _ h => h) (Or.inl ⟨by rfl, ?_⟩) ?_ ?_
    rotate_left
    · intro w'
      go_simp
      with_reducible rfl
    rotate_left
    · (try simp only [Act.put, List.setIfInBounds_toArray, List.set_cons_zero, List.set_cons_succ])
      rfl
    refine pure_ (i := 5) (N := some 10) (v := ?_) (a' := ?_) #[true, true, false, false, true, true, false, false, false, false, false, false, false, false] rfl rfl (any_of HT_.out (by kernel_rfl)) (fun _ _ _ h => h) (Or.inl ⟨by rfl, ?_⟩) ?_ ?_
    rotate_left
    · intro w'
      go_simp
      with_reducible rfl
    rotate_left
    · (try simp only [Act.put, List.setIfInBounds_toArray, List.set_cons_zero, List.set_cons_succ])
      rfl
    refine pure_ (i := 8) (N := some 13) (v := ?_) (a' := ?_) #[true, true, false, false, true, true, false, false, true, false, false, false, false, false] rfl rfl (any_of HT_.out (by kernel_rfl)) (fun _ _ _ h => h) (Or.inl ⟨by rfl, ?_⟩) ?_ ?_
    rotate_left
    · intro w'
      go_simp
      with_reducible rfl
    rotate_left
    · (try simp only [Act.put, List.setIfInBounds_toArray, List.set_cons_zero, List.set_cons_succ])
      rfl
    refine pure_ (i := 9) (N := some 14) (v := ?_) (a' := ?_) #[true, true, false, false, true, true, false, false, true, true, false, false, false, false] rfl rfl (any_of HT_.out (by kernel_rfl)) (fun _ _ _ h => h) (Or.inl ⟨by rfl, ?_⟩) ?_ ?_
    rotate_left
    · intro w'
      go_simp
      with_reducible rfl
    rotate_left
    · (try simp only [Act.put, List.setIfInBounds_toArray, List.set_cons_zero, List.set_cons_succ])
      rfl
    refine two_ (i := 2) (j := 12) (Ni := some 7) (Nj := some 3) #[true, true, true, false, true, true, false, false, true, true, false, false, false, false] #[true, true, false, false, true, true, false, false, true, true, false, false, true, false] rfl rfl rfl rfl (two_of HT_.out (by kernel_rfl)) (by decide) (by decide) (fun K hK => ?_) (fun K hK => ?_)
    · skip
      refine goes_ Try.func25 (by kernel_rfl) rfl #[.slice B0 4 d0] (by rfl) rfl rfl (by (try simp only [List.map_toArray, List.map_cons, List.map_nil]); first | done | rfl) ?_
      refine (num4_c B0 d0 l 0 _ (HD0.out _ HC0.out) hq0 HL.out (by rw [HLEN.out]; omega)).mono ?_
      rintro e w' ⟨rfl, hD⟩
      refine ⟨_, rfl, ?_⟩
      have hB := hD.below
      replace HC0 := Aside0.mk (Kd.C_below HC0.out hB)
      replace HX := Aside0.mk ((hB.block _ (blk_lt HX.out)).trans HX.out)
      try replace HY := Aside0.mk ((hB.block _ (blk_lt HY.out)).trans HY.out)
      replace HB := Aside0.mk (HB.out.trans (hB.mono HB.out.size))
      clear hB hD
      clear hHeld
      refine hK.out _ _ trivial (fun hHeld => ?_)
      clear hK K
      refine norm_ (a' := ?_) ?_ ?_
      rotate_left
      · show Act.put _ (some 7) _ = _
        (try simp only [Act.put, List.setIfInBounds_toArray, List.set_cons_zero, List.set_cons_succ])
        rfl
      refine pure_ (i := 3) (N := some 8) (v := ?_) (a' := ?_) #[true, true, true, true, true, true, false, false, true, true, false, false, false, false] rfl rfl (any_of HT_.out (by kernel_rfl)) (fun _ _ _ h => h) (Or.inl ⟨by rfl, ?_⟩) ?_ ?_
      rotate_left
      · intro w'
        go_simp
        with_reducible rfl
      rotate_left
      · (try simp only [Act.put, List.setIfInBounds_toArray, List.set_cons_zero, List.set_cons_succ])
        rfl
      refine two_ (i := 6) (j := 12) (Ni := some 11) (Nj := some 3) #[true, true, true, true, true, true, true, false, true, true, false, false, false, false] #[true, true, true, true, true, true, false, false, true, true, false, false, true, false] rfl rfl rfl rfl (two_of HT_.out (by kernel_rfl)) (by decide) (by decide) (fun K hK => ?_) (fun K hK => ?_)
      · skip
        refine goes_ Try.func25 (by kernel_rfl) rfl #[.slice B1 4 d1] (by rfl) rfl rfl (by (try simp only [List.map_toArray, List.map_cons, List.map_nil]); first | done | rfl) ?_
        refine (num4_c B1 d1 l 4 _ (HD1.out _ HC0.out) hq1 HL.out (by rw [HLEN.out]; omega)).mono ?_
        rintro e w' ⟨rfl, hD⟩
        refine ⟨_, rfl, ?_⟩
        have hB := hD.below
        replace HC0 := Aside0.mk (Kd.C_below HC0.out hB)
        replace HX := Aside0.mk ((hB.block _ (blk_lt HX.out)).trans HX.out)
        try replace HY := Aside0.mk ((hB.block _ (blk_lt HY.out)).trans HY.out)
        replace HB := Aside0.mk (HB.out.trans (hB.mono HB.out.size))
        clear hB hD
        clear hHeld
        refine hK.out _ _ trivial (fun hHeld => ?_)
        clear hK K
        refine norm_ (a' := ?_) ?_ ?_
        rotate_left
        · show Act.put _ (some 11) _ = _
          (try simp only [Act.put, List.setIfInBounds_toArray, List.set_cons_zero, List.set_cons_succ])
          rfl
        refine pure_ (i := 7) (N := some 12) (v := ?_) (a' := ?_) #[true, true, true, true, true, true, true, true, true, true, false, false, false, false] rfl rfl (any_of HT_.out (by kernel_rfl)) (fun _ _ _ h => h) (Or.inl ⟨by rfl, ?_⟩) ?_ ?_
        rotate_left
        · intro w'
          go_simp
          with_reducible rfl
        rotate_left
        · (try simp only [Act.put, List.setIfInBounds_toArray, List.set_cons_zero, List.set_cons_succ])
          rfl
        refine two_ (i := 10) (j := 12) (Ni := some 15) (Nj := some 3) #[true, true, true, true, true, true, true, true, true, true, true, false, false, false] #[true, true, true, true, true, true, true, true, true, true, false, false, true, false] rfl rfl rfl rfl (two_of HT_.out (by kernel_rfl)) (by decide) (by decide) (fun K hK => ?_) (fun K hK => ?_)
        · skip
          refine goes_ Try.func25 (by kernel_rfl) rfl #[.slice B2 8 d2] (by rfl) rfl rfl (by (try simp only [List.map_toArray, List.map_cons, List.map_nil]); first | done | rfl) ?_
          refine (num8_c B2 d2 l 8 _ (HD2.out _ HC0.out) hq2 HL.out (by rw [HLEN.out]; omega)).mono ?_
          rintro e w' ⟨rfl, hD⟩
          refine ⟨_, rfl, ?_⟩
          have hB := hD.below
          replace HC0 := Aside0.mk (Kd.C_below HC0.out hB)
          replace HX := Aside0.mk ((hB.block _ (blk_lt HX.out)).trans HX.out)
          try replace HY := Aside0.mk ((hB.block _ (blk_lt HY.out)).trans HY.out)
          replace HB := Aside0.mk (HB.out.trans (hB.mono HB.out.size))
          clear hB hD
          clear hHeld
          refine hK.out _ _ trivial (fun hHeld => ?_)
          clear hK K
          refine norm_ (a' := ?_) ?_ ?_
          rotate_left
          · show Act.put _ (some 15) _ = _
            (try simp only [Act.put, List.setIfInBounds_toArray, List.set_cons_zero, List.set_cons_succ])
            rfl
          refine pure_ (i := 11) (N := some 16) (v := ?_) (a' := ?_) #[true, true, true, true, true, true, true, true, true, true, true, true, false, false] rfl rfl (any_of HT_.out (by kernel_rfl)) (fun _ _ _ h => h) (Or.inl ⟨by rfl, ?_⟩) ?_ ?_
          rotate_left
          · intro w'
            go_simp
            with_reducible rfl
          rotate_left
          · (try simp only [Act.put, List.setIfInBounds_toArray, List.set_cons_zero, List.set_cons_succ])
            rfl
          refine one_ (i := 12) (N := some 3) #[true, true, true, true, true, true, true, true, true, true, true, true, true, false] rfl rfl (one_of HT_.out (by kernel_rfl)) (by decide) (fun K hK => ?_)
          refine value_ (v := ?_) (w1 := ?_) (by rfl) rfl ?_ ?_
          rotate_left 2
          · go_simp
            (constructor <;> with_reducible rfl)
          have HXY := Aside0.mk (blk_lt HX.out)
          clear hHeld
          refine hK.out _ _ trivial (fun hHeld => ?_)
          clear hK K
          refine norm_ (a' := ?_) ?_ ?_
          rotate_left
          · show Act.put _ (some 3) _ = _
            (try simp only [Act.put, List.setIfInBounds_toArray, List.set_cons_zero, List.set_cons_succ])
            rfl
          refine one_ (i := 13) (N := none) #[true, true, true, true, true, true, true, true, true, true, true, true, true, true] rfl rfl (one_of HT_.out (by kernel_rfl)) (by decide) (fun K hK => ?_)
          refine skip_ (w1 := ?_) (by rfl) rfl ?_ ?_
          rotate_left
          · go_simp
            rfl
          have HY := Aside0.mk (heap_alloc_new w' (.cells #[.int .u32 (w4 l 0), .int .u32 (w4 l 4), .int .u64 (w8 l 8), .int .u64 0, .int .u64 0, .int .u64 0, .int .u64 0, .int .u64 0, .int .u64 0] 58))
          replace HX := Aside0.mk (blk_alloc HX.out (.cells #[.int .u32 (w4 l 0), .int .u32 (w4 l 4), .int .u64 (w8 l 8), .int .u64 0, .int .u64 0, .int .u64 0, .int .u64 0, .int .u64 0, .int .u64 0] 58))
          replace HB := Aside0.mk (below_alloc HB.out (.cells #[.int .u32 (w4 l 0), .int .u32 (w4 l 4), .int .u64 (w8 l 8), .int .u64 0, .int .u64 0, .int .u64 0, .int .u64 0, .int .u64 0, .int .u64 0] 58))
          clear hHeld
          refine hK.out _ _ trivial (fun hHeld => ?_)
          clear hK K
          refine done_ (done_of HT_.out (by kernel_rfl)) ?_
          go_wp2_with fail
          go_meet
          have HY2 := HY.out
          try simp only [List.setIfInBounds_toArray, List.set_cons_zero, List.set_cons_succ] at HY2
          case rel => exact ⟨_, rfl, HXY, ⟨HY2⟩, HX, HB⟩
        · skip
          refine value_ (v := ?_) (w1 := ?_) (by rfl) rfl ?_ ?_
          rotate_left 2
          · go_simp
            (constructor <;> with_reducible rfl)
          have HY := Aside0.mk (heap_alloc_new w' (.cells #[.int .u32 0, .int .u32 0, .int .u64 0, .int .u64 0, .int .u64 0, .int .u64 0, .int .u64 0, .int .u64 0, .int .u64 0] 58))
          have HXY := Aside0.mk (blk_lt HX.out)
          replace HX := Aside0.mk (blk_alloc HX.out (.cells #[.int .u32 0, .int .u32 0, .int .u64 0, .int .u64 0, .int .u64 0, .int .u64 0, .int .u64 0, .int .u64 0, .int .u64 0] 58))
          replace HC0 := Aside0.mk (Kd.C_alloc HC0.out (.cells #[.int .u32 0, .int .u32 0, .int .u64 0, .int .u64 0, .int .u64 0, .int .u64 0, .int .u64 0, .int .u64 0, .int .u64 0] 58))
          replace HB := Aside0.mk (below_alloc HB.out (.cells #[.int .u32 0, .int .u32 0, .int .u64 0, .int .u64 0, .int .u64 0, .int .u64 0, .int .u64 0, .int .u64 0, .int .u64 0] 58))
          clear hHeld
          refine hK.out _ _ trivial (fun hHeld => ?_)
          clear hK K
          refine norm_ (a' := ?_) ?_ ?_
          rotate_left
          · show Act.put _ (some 3) _ = _
            (try simp only [Act.put, List.setIfInBounds_toArray, List.set_cons_zero, List.set_cons_succ])
            rfl
          refine one_ (i := 10) (N := some 15) #[true, true, true, true, true, true, true, true, true, true, true, false, true, false] rfl rfl (one_of HT_.out (by kernel_rfl)) (by decide) (fun K hK => ?_)
          refine goes_ Try.func25 (by kernel_rfl) rfl #[.slice B2 8 d2] (by rfl) rfl rfl (by (try simp only [List.map_toArray, List.map_cons, List.map_nil]); first | done | rfl) ?_
          refine (num8_c B2 d2 l 8 _ (HD2.out _ HC0.out) hq2 HL.out (by rw [HLEN.out]; omega)).mono ?_
          rintro e w' ⟨rfl, hD⟩
          refine ⟨_, rfl, ?_⟩
          have hB := hD.below
          replace HC0 := Aside0.mk (Kd.C_below HC0.out hB)
          replace HX := Aside0.mk ((hB.block _ (blk_lt HX.out)).trans HX.out)
          try replace HY := Aside0.mk ((hB.block _ (blk_lt HY.out)).trans HY.out)
          replace HB := Aside0.mk (HB.out.trans (hB.mono HB.out.size))
          clear hB hD
          clear hHeld
          refine hK.out _ _ trivial (fun hHeld => ?_)
          clear hK K
          refine norm_ (a' := ?_) ?_ ?_
          rotate_left
          · show Act.put _ (some 15) _ = _
            (try simp only [Act.put, List.setIfInBounds_toArray, List.set_cons_zero, List.set_cons_succ])
            rfl
          refine pure_ (i := 11) (N := some 16) (v := ?_) (a' := ?_) #[true, true, true, true, true, true, true, true, true, true, true, true, true, false] rfl rfl (any_of HT_.out (by kernel_rfl)) (fun _ _ _ h => h) (Or.inl ⟨by rfl, ?_⟩) ?_ ?_
          rotate_left
          · intro w'
            go_simp
            with_reducible rfl
          rotate_left
          · (try simp only [Act.put, List.setIfInBounds_toArray, List.set_cons_zero, List.set_cons_succ])
            rfl
          refine one_ (i := 13) (N := none) #[true, true, true, true, true, true, true, true, true, true, true, true, true, true] rfl rfl (one_of HT_.out (by kernel_rfl)) (by decide) (fun K hK => ?_)
          have hz0 := blk_cell HY.out 0
          simp only [List.getElem?_toArray, List.getElem?_cons_zero, List.getElem?_cons_succ] at hz0
          have hf0 := blk_frozen HY.out 0
          have hz1 := blk_cell HY.out 1
          simp only [List.getElem?_toArray, List.getElem?_cons_zero, List.getElem?_cons_succ] at hz1
          have hf1 := blk_frozen HY.out 1
          have hz2 := blk_cell HY.out 2
          simp only [List.getElem?_toArray, List.getElem?_cons_zero, List.getElem?_cons_succ] at hz2
          have hf2 := blk_frozen HY.out 2
          have hz3 := blk_cell HY.out 3
          simp only [List.getElem?_toArray, List.getElem?_cons_zero, List.getElem?_cons_succ] at hz3
          have hf3 := blk_frozen HY.out 3
          have hz4 := blk_cell HY.out 4
          simp only [List.getElem?_toArray, List.getElem?_cons_zero, List.getElem?_cons_succ] at hz4
          have hf4 := blk_frozen HY.out 4
          have hz5 := blk_cell HY.out 5
          simp only [List.getElem?_toArray, List.getElem?_cons_zero, List.getElem?_cons_succ] at hz5
          have hf5 := blk_frozen HY.out 5
          have hz6 := blk_cell HY.out 6
          simp only [List.getElem?_toArray, List.getElem?_cons_zero, List.getElem?_cons_succ] at hz6
          have hf6 := blk_frozen HY.out 6
          have hz7 := blk_cell HY.out 7
          simp only [List.getElem?_toArray, List.getElem?_cons_zero, List.getElem?_cons_succ] at hz7
          have hf7 := blk_frozen HY.out 7
          have hz8 := blk_cell HY.out 8
          simp only [List.getElem?_toArray, List.getElem?_cons_zero, List.getElem?_cons_succ] at hz8
          have hf8 := blk_frozen HY.out 8
          refine skip_ (w1 := ?_) (by rfl) rfl ?_ ?_
          rotate_left
          · go_simp
            rfl
          have q0 := HX.out
          have s0 := HB.out
          have q1 := blk_far q0 (p := ⟨_, 0, none⟩) (Nat.ne_of_lt HXY.out) (.int .u32 (w4 l 0))
          have q2 := blk_far q1 (p := ⟨_, 1, none⟩) (Nat.ne_of_lt HXY.out) (.int .u32 (w4 l 4))
          have q3 := blk_far q2 (p := ⟨_, 2, none⟩) (Nat.ne_of_lt HXY.out) (.int .u64 (w8 l 8))
          have q4 := blk_far q3 (p := ⟨_, 3, none⟩) (Nat.ne_of_lt HXY.out) (.int .u64 0)
          have q5 := blk_far q4 (p := ⟨_, 4, none⟩) (Nat.ne_of_lt HXY.out) (.int .u64 0)
          have q6 := blk_far q5 (p := ⟨_, 5, none⟩) (Nat.ne_of_lt HXY.out) (.int .u64 0)
          have q7 := blk_far q6 (p := ⟨_, 6, none⟩) (Nat.ne_of_lt HXY.out) (.int .u64 0)
          have q8 := blk_far q7 (p := ⟨_, 7, none⟩) (Nat.ne_of_lt HXY.out) (.int .u64 0)
          have q9 := blk_far q8 (p := ⟨_, 8, none⟩) (Nat.ne_of_lt HXY.out) (.int .u64 0)
          have s1 := bset (j := 0) s0 (Nat.le_of_lt HXY.out) (.int .u32 (w4 l 0))
          have s2 := bset (j := 1) s1 (Nat.le_of_lt HXY.out) (.int .u32 (w4 l 4))
          have s3 := bset (j := 2) s2 (Nat.le_of_lt HXY.out) (.int .u64 (w8 l 8))
          have s4 := bset (j := 3) s3 (Nat.le_of_lt HXY.out) (.int .u64 0)
          have s5 := bset (j := 4) s4 (Nat.le_of_lt HXY.out) (.int .u64 0)
          have s6 := bset (j := 5) s5 (Nat.le_of_lt HXY.out) (.int .u64 0)
          have s7 := bset (j := 6) s6 (Nat.le_of_lt HXY.out) (.int .u64 0)
          have s8 := bset (j := 7) s7 (Nat.le_of_lt HXY.out) (.int .u64 0)
          have s9 := bset (j := 8) s8 (Nat.le_of_lt HXY.out) (.int .u64 0)
          replace HX := Aside0.mk q9
          replace HB := Aside0.mk s9
          clear q0 q1 q2 q3 q4 q5 q6 q7 q8 q9 s0 s1 s2 s3 s4 s5 s6 s7 s8 s9
          have b0 := HY.out
          have b1 := blk_set b0 0 (.int .u32 (w4 l 0))
          have b2 := blk_set b1 1 (.int .u32 (w4 l 4))
          have b3 := blk_set b2 2 (.int .u64 (w8 l 8))
          have b4 := blk_set b3 3 (.int .u64 0)
          have b5 := blk_set b4 4 (.int .u64 0)
          have b6 := blk_set b5 5 (.int .u64 0)
          have b7 := blk_set b6 6 (.int .u64 0)
          have b8 := blk_set b7 7 (.int .u64 0)
          have b9 := blk_set b8 8 (.int .u64 0)
          replace HY := Aside0.mk b9
          clear b0 b1 b2 b3 b4 b5 b6 b7 b8 b9
          clear hz0 hf0 hz1 hf1 hz2 hf2 hz3 hf3 hz4 hf4 hz5 hf5 hz6 hf6 hz7 hf7 hz8 hf8
          clear hHeld
          refine hK.out _ _ trivial (fun hHeld => ?_)
          clear hK K
          refine done_ (done_of HT_.out (by kernel_rfl)) ?_
          go_wp2_with fail
          go_meet
          have HY2 := HY.out
          try simp only [List.setIfInBounds_toArray, List.set_cons_zero, List.set_cons_succ] at HY2
          case rel => exact ⟨_, rfl, HXY, ⟨HY2⟩, HX, HB⟩
      · skip
        refine value_ (v := ?_) (w1 := ?_) (by rfl) rfl ?_ ?_
        rotate_left 2
        · go_simp
          (constructor <;> with_reducible rfl)
        have HY := Aside0.mk (heap_alloc_new w' (.cells #[.int .u32 0, .int .u32 0, .int .u64 0, .int .u64 0, .int .u64 0, .int .u64 0, .int .u64 0, .int .u64 0, .int .u64 0] 58))
        have HXY := Aside0.mk (blk_lt HX.out)
        replace HX := Aside0.mk (blk_alloc HX.out (.cells #[.int .u32 0, .int .u32 0, .int .u64 0, .int .u64 0, .int .u64 0, .int .u64 0, .int .u64 0, .int .u64 0, .int .u64 0] 58))
        replace HC0 := Aside0.mk (Kd.C_alloc HC0.out (.cells #[.int .u32 0, .int .u32 0, .int .u64 0, .int .u64 0, .int .u64 0, .int .u64 0, .int .u64 0, .int .u64 0, .int .u64 0] 58))
        replace HB := Aside0.mk (below_alloc HB.out (.cells #[.int .u32 0, .int .u32 0, .int .u64 0, .int .u64 0, .int .u64 0, .int .u64 0, .int .u64 0, .int .u64 0, .int .u64 0] 58))
        clear hHeld
        refine hK.out _ _ trivial (fun hHeld => ?_)
        clear hK K
        refine norm_ (a' := ?_) ?_ ?_
        rotate_left
        · show Act.put _ (some 3) _ = _
          (try simp only [Act.put, List.setIfInBounds_toArray, List.set_cons_zero, List.set_cons_succ])
          rfl
        refine one_ (i := 6) (N := some 11) #[true, true, true, true, true, true, true, false, true, true, false, false, true, false] rfl rfl (one_of HT_.out (by kernel_rfl)) (by decide) (fun K hK => ?_)
        refine goes_ Try.func25 (by kernel_rfl) rfl #[.slice B1 4 d1] (by rfl) rfl rfl (by (try simp only [List.map_toArray, List.map_cons, List.map_nil]); first | done | rfl) ?_
        refine (num4_c B1 d1 l 4 _ (HD1.out _ HC0.out) hq1 HL.out (by rw [HLEN.out]; omega)).mono ?_
        rintro e w' ⟨rfl, hD⟩
        refine ⟨_, rfl, ?_⟩
        have hB := hD.below
        replace HC0 := Aside0.mk (Kd.C_below HC0.out hB)
        replace HX := Aside0.mk ((hB.block _ (blk_lt HX.out)).trans HX.out)
        try replace HY := Aside0.mk ((hB.block _ (blk_lt HY.out)).trans HY.out)
        replace HB := Aside0.mk (HB.out.trans (hB.mono HB.out.size))
        clear hB hD
        clear hHeld
        refine hK.out _ _ trivial (fun hHeld => ?_)
        clear hK K
        refine norm_ (a' := ?_) ?_ ?_
        rotate_left
        · show Act.put _ (some 11) _ = _
          (try simp only [Act.put, List.setIfInBounds_toArray, List.set_cons_zero, List.set_cons_succ])
          rfl
        refine pure_ (i := 7) (N := some 12) (v := ?_) (a' := ?_) #[true, true, true, true, true, true, true, true, true, true, false, false, true, false] rfl rfl (any_of HT_.out (by kernel_rfl)) (fun _ _ _ h => h) (Or.inl ⟨by rfl, ?_⟩) ?_ ?_
        rotate_left
        · intro w'
          go_simp
          with_reducible rfl
        rotate_left
        · (try simp only [Act.put, List.setIfInBounds_toArray, List.set_cons_zero, List.set_cons_succ])
          rfl
        refine one_ (i := 10) (N := some 15) #[true, true, true, true, true, true, true, true, true, true, true, false, true, false] rfl rfl (one_of HT_.out (by kernel_rfl)) (by decide) (fun K hK => ?_)
        refine goes_ Try.func25 (by kernel_rfl) rfl #[.slice B2 8 d2] (by rfl) rfl rfl (by (try simp only [List.map_toArray, List.map_cons, List.map_nil]); first | done | rfl) ?_
        refine (num8_c B2 d2 l 8 _ (HD2.out _ HC0.out) hq2 HL.out (by rw [HLEN.out]; omega)).mono ?_
        rintro e w' ⟨rfl, hD⟩
        refine ⟨_, rfl, ?_⟩
        have hB := hD.below
        replace HC0 := Aside0.mk (Kd.C_below HC0.out hB)
        replace HX := Aside0.mk ((hB.block _ (blk_lt HX.out)).trans HX.out)
        try replace HY := Aside0.mk ((hB.block _ (blk_lt HY.out)).trans HY.out)
        replace HB := Aside0.mk (HB.out.trans (hB.mono HB.out.size))
        clear hB hD
        clear hHeld
        refine hK.out _ _ trivial (fun hHeld => ?_)
        clear hK K
        refine norm_ (a' := ?_) ?_ ?_
        rotate_left
        · show Act.put _ (some 15) _ = _
          (try simp only [Act.put, List.setIfInBounds_toArray, List.set_cons_zero, List.set_cons_succ])
          rfl
        refine pure_ (i := 11) (N := some 16) (v := ?_) (a' := ?_) #[true, true, true, true, true, true, true, true, true, true, true, true, true, false] rfl rfl (any_of HT_.out (by kernel_rfl)) (fun _ _ _ h => h) (Or.inl ⟨by rfl, ?_⟩) ?_ ?_
        rotate_left
        · intro w'
          go_simp
          with_reducible rfl
        rotate_left
        · (try simp only [Act.put, List.setIfInBounds_toArray, List.set_cons_zero, List.set_cons_succ])
          rfl
        refine one_ (i := 13) (N := none) #[true, true, true, true, true, true, true, true, true, true, true, true, true, true] rfl rfl (one_of HT_.out (by kernel_rfl)) (by decide) (fun K hK => ?_)
        have hz0 := blk_cell HY.out 0
        simp only [List.getElem?_toArray, List.getElem?_cons_zero, List.getElem?_cons_succ] at hz0
        have hf0 := blk_frozen HY.out 0
        have hz1 := blk_cell HY.out 1
        simp only [List.getElem?_toArray, List.getElem?_cons_zero, List.getElem?_cons_succ] at hz1
        have hf1 := blk_frozen HY.out 1
        have hz2 := blk_cell HY.out 2
        simp only [List.getElem?_toArray, List.getElem?_cons_zero, List.getElem?_cons_succ] at hz2
        have hf2 := blk_frozen HY.out 2
        have hz3 := blk_cell HY.out 3
        simp only [List.getElem?_toArray, List.getElem?_cons_zero, List.getElem?_cons_succ] at hz3
        have hf3 := blk_frozen HY.out 3
        have hz4 := blk_cell HY.out 4
        simp only [List.getElem?_toArray, List.getElem?_cons_zero, List.getElem?_cons_succ] at hz4
        have hf4 := blk_frozen HY.out 4
        have hz5 := blk_cell HY.out 5
        simp only [List.getElem?_toArray, List.getElem?_cons_zero, List.getElem?_cons_succ] at hz5
        have hf5 := blk_frozen HY.out 5
        have hz6 := blk_cell HY.out 6
        simp only [List.getElem?_toArray, List.getElem?_cons_zero, List.getElem?_cons_succ] at hz6
        have hf6 := blk_frozen HY.out 6
        have hz7 := blk_cell HY.out 7
        simp only [List.getElem?_toArray, List.getElem?_cons_zero, List.getElem?_cons_succ] at hz7
        have hf7 := blk_frozen HY.out 7
        have hz8 := blk_cell HY.out 8
        simp only [List.getElem?_toArray, List.getElem?_cons_zero, List.getElem?_cons_succ] at hz8
        have hf8 := blk_frozen HY.out 8
        refine skip_ (w1 := ?_) (by rfl) rfl ?_ ?_
        rotate_left
        · go_simp
          rfl
        have q0 := HX.out
        have s0 := HB.out
        have q1 := blk_far q0 (p := ⟨_, 0, none⟩) (Nat.ne_of_lt HXY.out) (.int .u32 (w4 l 0))
        have q2 := blk_far q1 (p := ⟨_, 1, none⟩) (Nat.ne_of_lt HXY.out) (.int .u32 (w4 l 4))
        have q3 := blk_far q2 (p := ⟨_, 2, none⟩) (Nat.ne_of_lt HXY.out) (.int .u64 (w8 l 8))
        have q4 := blk_far q3 (p := ⟨_, 3, none⟩) (Nat.ne_of_lt HXY.out) (.int .u64 0)
        have q5 := blk_far q4 (p := ⟨_, 4, none⟩) (Nat.ne_of_lt HXY.out) (.int .u64 0)
        have q6 := blk_far q5 (p := ⟨_, 5, none⟩) (Nat.ne_of_lt HXY.out) (.int .u64 0)
        have q7 := blk_far q6 (p := ⟨_, 6, none⟩) (Nat.ne_of_lt HXY.out) (.int .u64 0)
        have q8 := blk_far q7 (p := ⟨_, 7, none⟩) (Nat.ne_of_lt HXY.out) (.int .u64 0)
        have q9 := blk_far q8 (p := ⟨_, 8, none⟩) (Nat.ne_of_lt HXY.out) (.int .u64 0)
        have s1 := bset (j := 0) s0 (Nat.le_of_lt HXY.out) (.int .u32 (w4 l 0))
        have s2 := bset (j := 1) s1 (Nat.le_of_lt HXY.out) (.int .u32 (w4 l 4))
        have s3 := bset (j := 2) s2 (Nat.le_of_lt HXY.out) (.int .u64 (w8 l 8))
        have s4 := bset (j := 3) s3 (Nat.le_of_lt HXY.out) (.int .u64 0)
        have s5 := bset (j := 4) s4 (Nat.le_of_lt HXY.out) (.int .u64 0)
        have s6 := bset (j := 5) s5 (Nat.le_of_lt HXY.out) (.int .u64 0)
        have s7 := bset (j := 6) s6 (Nat.le_of_lt HXY.out) (.int .u64 0)
        have s8 := bset (j := 7) s7 (Nat.le_of_lt HXY.out) (.int .u64 0)
        have s9 := bset (j := 8) s8 (Nat.le_of_lt HXY.out) (.int .u64 0)
        replace HX := Aside0.mk q9
        replace HB := Aside0.mk s9
        clear q0 q1 q2 q3 q4 q5 q6 q7 q8 q9 s0 s1 s2 s3 s4 s5 s6 s7 s8 s9
        have b0 := HY.out
        have b1 := blk_set b0 0 (.int .u32 (w4 l 0))
        have b2 := blk_set b1 1 (.int .u32 (w4 l 4))
        have b3 := blk_set b2 2 (.int .u64 (w8 l 8))
        have b4 := blk_set b3 3 (.int .u64 0)
        have b5 := blk_set b4 4 (.int .u64 0)
        have b6 := blk_set b5 5 (.int .u64 0)
        have b7 := blk_set b6 6 (.int .u64 0)
        have b8 := blk_set b7 7 (.int .u64 0)
        have b9 := blk_set b8 8 (.int .u64 0)
        replace HY := Aside0.mk b9
        clear b0 b1 b2 b3 b4 b5 b6 b7 b8 b9
        clear hz0 hf0 hz1 hf1 hz2 hf2 hz3 hf3 hz4 hf4 hz5 hf5 hz6 hf6 hz7 hf7 hz8 hf8
        clear hHeld
        refine hK.out _ _ trivial (fun hHeld => ?_)
        clear hK K
        refine done_ (done_of HT_.out (by kernel_rfl)) ?_
        go_wp2_with fail
        go_meet
        have HY2 := HY.out
        try simp only [List.setIfInBounds_toArray, List.set_cons_zero, List.set_cons_succ] at HY2
        case rel => exact ⟨_, rfl, HXY, ⟨HY2⟩, HX, HB⟩
    · skip
      refine value_ (v := ?_) (w1 := ?_) (by rfl) rfl ?_ ?_
      rotate_left 2
      · go_simp
        (constructor <;> with_reducible rfl)
      have HY := Aside0.mk (heap_alloc_new W9 (.cells #[.int .u32 0, .int .u32 0, .int .u64 0, .int .u64 0, .int .u64 0, .int .u64 0, .int .u64 0, .int .u64 0, .int .u64 0] 58))
      have HXY := Aside0.mk (blk_lt HX.out)
      replace HX := Aside0.mk (blk_alloc HX.out (.cells #[.int .u32 0, .int .u32 0, .int .u64 0, .int .u64 0, .int .u64 0, .int .u64 0, .int .u64 0, .int .u64 0, .int .u64 0] 58))
      replace HC0 := Aside0.mk (Kd.C_alloc HC0.out (.cells #[.int .u32 0, .int .u32 0, .int .u64 0, .int .u64 0, .int .u64 0, .int .u64 0, .int .u64 0, .int .u64 0, .int .u64 0] 58))
      replace HB := Aside0.mk (below_alloc HB.out (.cells #[.int .u32 0, .int .u32 0, .int .u64 0, .int .u64 0, .int .u64 0, .int .u64 0, .int .u64 0, .int .u64 0, .int .u64 0] 58))
      clear hHeld
      refine hK.out _ _ trivial (fun hHeld => ?_)
      clear hK K
      refine norm_ (a' := ?_) ?_ ?_
      rotate_left
      · show Act.put _ (some 3) _ = _
        (try simp only [Act.put, List.setIfInBounds_toArray, List.set_cons_zero, List.set_cons_succ])
        rfl
      refine one_ (i := 2) (N := some 7) #[true, true, true, false, true, true, false, false, true, true, false, false, true, false] rfl rfl (one_of HT_.out (by kernel_rfl)) (by decide) (fun K hK => ?_)
      refine goes_ Try.func25 (by kernel_rfl) rfl #[.slice B0 4 d0] (by rfl) rfl rfl (by (try simp only [List.map_toArray, List.map_cons, List.map_nil]); first | done | rfl) ?_
      refine (num4_c B0 d0 l 0 _ (HD0.out _ HC0.out) hq0 HL.out (by rw [HLEN.out]; omega)).mono ?_
      rintro e w' ⟨rfl, hD⟩
      refine ⟨_, rfl, ?_⟩
      have hB := hD.below
      replace HC0 := Aside0.mk (Kd.C_below HC0.out hB)
      replace HX := Aside0.mk ((hB.block _ (blk_lt HX.out)).trans HX.out)
      try replace HY := Aside0.mk ((hB.block _ (blk_lt HY.out)).trans HY.out)
      replace HB := Aside0.mk (HB.out.trans (hB.mono HB.out.size))
      clear hB hD
      clear hHeld
      refine hK.out _ _ trivial (fun hHeld => ?_)
      clear hK K
      refine norm_ (a' := ?_) ?_ ?_
      rotate_left
      · show Act.put _ (some 7) _ = _
        (try simp only [Act.put, List.setIfInBounds_toArray, List.set_cons_zero, List.set_cons_succ])
        rfl
      refine pure_ (i := 3) (N := some 8) (v := ?_) (a' := ?_) #[true, true, true, true, true, true, false, false, true, true, false, false, true, false] rfl rfl (any_of HT_.out (by kernel_rfl)) (fun _ _ _ h => h) (Or.inl ⟨by rfl, ?_⟩) ?_ ?_
      rotate_left
      · intro w'
        go_simp
        with_reducible rfl
      rotate_left
      · (try simp only [Act.put, List.setIfInBounds_toArray, List.set_cons_zero, List.set_cons_succ])
        rfl
      refine one_ (i := 6) (N := some 11) #[true, true, true, true, true, true, true, false, true, true, false, false, true, false] rfl rfl (one_of HT_.out (by kernel_rfl)) (by decide) (fun K hK => ?_)
      refine goes_ Try.func25 (by kernel_rfl) rfl #[.slice B1 4 d1] (by rfl) rfl rfl (by (try simp only [List.map_toArray, List.map_cons, List.map_nil]); first | done | rfl) ?_
      refine (num4_c B1 d1 l 4 _ (HD1.out _ HC0.out) hq1 HL.out (by rw [HLEN.out]; omega)).mono ?_
      rintro e w' ⟨rfl, hD⟩
      refine ⟨_, rfl, ?_⟩
      have hB := hD.below
      replace HC0 := Aside0.mk (Kd.C_below HC0.out hB)
      replace HX := Aside0.mk ((hB.block _ (blk_lt HX.out)).trans HX.out)
      try replace HY := Aside0.mk ((hB.block _ (blk_lt HY.out)).trans HY.out)
      replace HB := Aside0.mk (HB.out.trans (hB.mono HB.out.size))
      clear hB hD
      clear hHeld
      refine hK.out _ _ trivial (fun hHeld => ?_)
      clear hK K
      refine norm_ (a' := ?_) ?_ ?_
      rotate_left
      · show Act.put _ (some 11) _ = _
        (try simp only [Act.put, List.setIfInBounds_toArray, List.set_cons_zero, List.set_cons_succ])
        rfl
      refine pure_ (i := 7) (N := some 12) (v := ?_) (a' := ?_) #[true, true, true, true, true, true, true, true, true, true, false, false, true, false] rfl rfl (any_of HT_.out (by kernel_rfl)) (fun _ _ _ h => h) (Or.inl ⟨by rfl, ?_⟩) ?_ ?_
      rotate_left
      · intro w'
        go_simp
        with_reducible rfl
      rotate_left
      · (try simp only [Act.put, List.setIfInBounds_toArray, List.set_cons_zero, List.set_cons_succ])
        rfl
      refine one_ (i := 10) (N := some 15) #[true, true, true, true, true, true, true, true, true, true, true, false, true, false] rfl rfl (one_of HT_.out (by kernel_rfl)) (by decide) (fun K hK => ?_)
      refine goes_ Try.func25 (by kernel_rfl) rfl #[.slice B2 8 d2] (by rfl) rfl rfl (by (try simp only [List.map_toArray, List.map_cons, List.map_nil]); first | done | rfl) ?_
      refine (num8_c B2 d2 l 8 _ (HD2.out _ HC0.out) hq2 HL.out (by rw [HLEN.out]; omega)).mono ?_
      rintro e w' ⟨rfl, hD⟩
      refine ⟨_, rfl, ?_⟩
      have hB := hD.below
      replace HC0 := Aside0.mk (Kd.C_below HC0.out hB)
      replace HX := Aside0.mk ((hB.block _ (blk_lt HX.out)).trans HX.out)
      try replace HY := Aside0.mk ((hB.block _ (blk_lt HY.out)).trans HY.out)
      replace HB := Aside0.mk (HB.out.trans (hB.mono HB.out.size))
      clear hB hD
      clear hHeld
      refine hK.out _ _ trivial (fun hHeld => ?_)
      clear hK K
      refine norm_ (a' := ?_) ?_ ?_
      rotate_left
      · show Act.put _ (some 15) _ = _
        (try simp only [Act.put, List.setIfInBounds_toArray, List.set_cons_zero, List.set_cons_succ])
        rfl
      refine pure_ (i := 11) (N := some 16) (v := ?_) (a' := ?_) #[true, true, true, true, true, true, true, true, true, true, true, true, true, false] rfl rfl (any_of HT_.out (by kernel_rfl)) (fun _ _ _ h => h) (Or.inl ⟨by rfl, ?_⟩) ?_ ?_
      rotate_left
      · intro w'
        go_simp
        with_reducible rfl
      rotate_left
      · (try simp only [Act.put, List.setIfInBounds_toArray, List.set_cons_zero, List.set_cons_succ])
        rfl
      refine one_ (i := 13) (N := none) #[true, true, true, true, true, true, true, true, true, true, true, true, true, true] rfl rfl (one_of HT_.out (by kernel_rfl)) (by decide) (fun K hK => ?_)
      have hz0 := blk_cell HY.out 0
      simp only [List.getElem?_toArray, List.getElem?_cons_zero, List.getElem?_cons_succ] at hz0
      have hf0 := blk_frozen HY.out 0
      have hz1 := blk_cell HY.out 1
      simp only [List.getElem?_toArray, List.getElem?_cons_zero, List.getElem?_cons_succ] at hz1
      have hf1 := blk_frozen HY.out 1
      have hz2 := blk_cell HY.out 2
      simp only [List.getElem?_toArray, List.getElem?_cons_zero, List.getElem?_cons_succ] at hz2
      have hf2 := blk_frozen HY.out 2
      have hz3 := blk_cell HY.out 3
      simp only [List.getElem?_toArray, List.getElem?_cons_zero, List.getElem?_cons_succ] at hz3
      have hf3 := blk_frozen HY.out 3
      have hz4 := blk_cell HY.out 4
      simp only [List.getElem?_toArray, List.getElem?_cons_zero, List.getElem?_cons_succ] at hz4
      have hf4 := blk_frozen HY.out 4
      have hz5 := blk_cell HY.out 5
      simp only [List.getElem?_toArray, List.getElem?_cons_zero, List.getElem?_cons_succ] at hz5
      have hf5 := blk_frozen HY.out 5
      have hz6 := blk_cell HY.out 6
      simp only [List.getElem?_toArray, List.getElem?_cons_zero, List.getElem?_cons_succ] at hz6
      have hf6 := blk_frozen HY.out 6
      have hz7 := blk_cell HY.out 7
      simp only [List.getElem?_toArray, List.getElem?_cons_zero, List.getElem?_cons_succ] at hz7
      have hf7 := blk_frozen HY.out 7
      have hz8 := blk_cell HY.out 8
      simp only [List.getElem?_toArray, List.getElem?_cons_zero, List.getElem?_cons_succ] at hz8
      have hf8 := blk_frozen HY.out 8
      refine skip_ (w1 := ?_) (by rfl) rfl ?_ ?_
      rotate_left
      · go_simp
        rfl
      have q0 := HX.out
      have s0 := HB.out
      have q1 := blk_far q0 (p := ⟨_, 0, none⟩) (Nat.ne_of_lt HXY.out) (.int .u32 (w4 l 0))
      have q2 := blk_far q1 (p := ⟨_, 1, none⟩) (Nat.ne_of_lt HXY.out) (.int .u32 (w4 l 4))
      have q3 := blk_far q2 (p := ⟨_, 2, none⟩) (Nat.ne_of_lt HXY.out) (.int .u64 (w8 l 8))
      have q4 := blk_far q3 (p := ⟨_, 3, none⟩) (Nat.ne_of_lt HXY.out) (.int .u64 0)
      have q5 := blk_far q4 (p := ⟨_, 4, none⟩) (Nat.ne_of_lt HXY.out) (.int .u64 0)
      have q6 := blk_far q5 (p := ⟨_, 5, none⟩) (Nat.ne_of_lt HXY.out) (.int .u64 0)
      have q7 := blk_far q6 (p := ⟨_, 6, none⟩) (Nat.ne_of_lt HXY.out) (.int .u64 0)
      have q8 := blk_far q7 (p := ⟨_, 7, none⟩) (Nat.ne_of_lt HXY.out) (.int .u64 0)
      have q9 := blk_far q8 (p := ⟨_, 8, none⟩) (Nat.ne_of_lt HXY.out) (.int .u64 0)
      have s1 := bset (j := 0) s0 (Nat.le_of_lt HXY.out) (.int .u32 (w4 l 0))
      have s2 := bset (j := 1) s1 (Nat.le_of_lt HXY.out) (.int .u32 (w4 l 4))
      have s3 := bset (j := 2) s2 (Nat.le_of_lt HXY.out) (.int .u64 (w8 l 8))
      have s4 := bset (j := 3) s3 (Nat.le_of_lt HXY.out) (.int .u64 0)
      have s5 := bset (j := 4) s4 (Nat.le_of_lt HXY.out) (.int .u64 0)
      have s6 := bset (j := 5) s5 (Nat.le_of_lt HXY.out) (.int .u64 0)
      have s7 := bset (j := 6) s6 (Nat.le_of_lt HXY.out) (.int .u64 0)
      have s8 := bset (j := 7) s7 (Nat.le_of_lt HXY.out) (.int .u64 0)
      have s9 := bset (j := 8) s8 (Nat.le_of_lt HXY.out) (.int .u64 0)
      replace HX := Aside0.mk q9
      replace HB := Aside0.mk s9
      clear q0 q1 q2 q3 q4 q5 q6 q7 q8 q9 s0 s1 s2 s3 s4 s5 s6 s7 s8 s9
      have b0 := HY.out
      have b1 := blk_set b0 0 (.int .u32 (w4 l 0))
      have b2 := blk_set b1 1 (.int .u32 (w4 l 4))
      have b3 := blk_set b2 2 (.int .u64 (w8 l 8))
      have b4 := blk_set b3 3 (.int .u64 0)
      have b5 := blk_set b4 4 (.int .u64 0)
      have b6 := blk_set b5 5 (.int .u64 0)
      have b7 := blk_set b6 6 (.int .u64 0)
      have b8 := blk_set b7 7 (.int .u64 0)
      have b9 := blk_set b8 8 (.int .u64 0)
      replace HY := Aside0.mk b9
      clear b0 b1 b2 b3 b4 b5 b6 b7 b8 b9
      clear hz0 hf0 hz1 hf1 hz2 hf2 hz3 hf3 hz4 hf4 hz5 hf5 hz6 hf6 hz7 hf7 hz8 hf8
      clear hHeld
      refine hK.out _ _ trivial (fun hHeld => ?_)
      clear hK K
      refine done_ (done_of HT_.out (by kernel_rfl)) ?_
      go_wp2_with fail
      go_meet
      have HY2 := HY.out
      try simp only [List.setIfInBounds_toArray, List.set_cons_zero, List.set_cons_succ] at HY2
      case rel => exact ⟨_, rfl, HXY, ⟨HY2⟩, HX, HB⟩
  case rest =>
    clear HX HB
    obtain ⟨X2, rfl, HXY, HY, HX, HB⟩ := hcut
    have hxy := HXY.out
    go_wp2_with fail
    go_loopw [4] (fun v4 wr => ∃ k : Nat, k ≤ 6 ∧ v4 = .int .i64 k ∧ Aside0 (wr.heap[X2]? = some (.cells (dcs l k).toArray 58 (0, 0))) ∧ Aside0 (wr.heap[w.heap.size]? = some (.cells #[.int .u32 0, .int .u32 0, .int .u64 0, .int .u64 0, .int .u64 0, .int .u64 0, .int .u64 0, .int .u64 0, .int .u64 0] 58 (0, 0))) ∧ Aside0 (Below w.heap.size w wr)) (fun v4 _ => 6 - (intOf v4).toNat)
    case atStart => exact ⟨0, by omega, rfl, HY, HX, HB⟩
    case round =>
      clear HX HY HB
      obtain ⟨k, hk, rfl, HY, HX, HB⟩ := hrel
      by_cases hlt : k < 6
      · obtain rfl | rfl | rfl | rfl | rfl | rfl : k = 0 ∨ k = 1 ∨ k = 2 ∨ k = 3 ∨ k = 4 ∨ k = 5 := by omega
        · obtain ⟨Bk, dk, hrk, hdk, hqk⟩ := cut_win A 64 c l .i64 16 8 HLEN.out (by omega) hc
          have HDk := Aside0.mk hdk
          clear hdk
          replace hrk : ∀ W : World, (Instr.slice 22 (.slice A 64 c) (some (.int .i64 16)) (some (.int .i64 24)) none).run Try.prog W = .ok (.slice Bk 8 dk) W := hrk
          go_wp2_with fail
          clear hrk
          refine (num8_c Bk dk l 16 _ (HDk.out _ (Kd.C_below HC1.out HB.out)) hqk HL.out (by rw [HLEN.out]; omega)).mono ?_
          rintro e w' ⟨rfl, hD⟩
          have hB := hD.below
          replace HX := Aside0.mk ((hB.block _ (blk_lt HX.out)).trans HX.out)
          replace HY := Aside0.mk ((hB.block _ (blk_lt HY.out)).trans HY.out)
          replace HB := Aside0.mk (HB.out.trans (hB.mono HB.out.size))
          clear hB hD
          have hck : World.cell? _ ⟨_, 3, none⟩ = some (.int .u64 0) := blk_cell HY.out 3
          have hfk : World.frozen? _ ⟨_, 3, none⟩ = false := blk_frozen HY.out 3
          go_wp2
          go_roundw
          case rel => exact ⟨1, by omega, rfl, ⟨by have := blk_set HY.out 3 (.int .u64 (w8 l 16)); simpa [dcs] using this⟩, ⟨(Below.heap_setCell _ _ _ _ (Nat.ne_of_lt hxy)).trans HX.out⟩, ⟨Below.setCell HB.out (Nat.le_of_lt hxy) _⟩⟩
          case measure => simp [intOf]
        · obtain ⟨Bk, dk, hrk, hdk, hqk⟩ := cut_win A 64 c l .i64 24 8 HLEN.out (by omega) hc
          have HDk := Aside0.mk hdk
          clear hdk
          replace hrk : ∀ W : World, (Instr.slice 22 (.slice A 64 c) (some (.int .i64 24)) (some (.int .i64 32)) none).run Try.prog W = .ok (.slice Bk 8 dk) W := hrk
          go_wp2_with fail
          clear hrk
          refine (num8_c Bk dk l 24 _ (HDk.out _ (Kd.C_below HC1.out HB.out)) hqk HL.out (by rw [HLEN.out]; omega)).mono ?_
          rintro e w' ⟨rfl, hD⟩
          have hB := hD.below
          replace HX := Aside0.mk ((hB.block _ (blk_lt HX.out)).trans HX.out)
          replace HY := Aside0.mk ((hB.block _ (blk_lt HY.out)).trans HY.out)
          replace HB := Aside0.mk (HB.out.trans (hB.mono HB.out.size))
          clear hB hD
          have hck : World.cell? _ ⟨_, 4, none⟩ = some (.int .u64 0) := blk_cell HY.out 4
          have hfk : World.frozen? _ ⟨_, 4, none⟩ = false := blk_frozen HY.out 4
          go_wp2
          go_roundw
          case rel => exact ⟨2, by omega, rfl, ⟨by have := blk_set HY.out 4 (.int .u64 (w8 l 24)); simpa [dcs] using this⟩, ⟨(Below.heap_setCell _ _ _ _ (Nat.ne_of_lt hxy)).trans HX.out⟩, ⟨Below.setCell HB.out (Nat.le_of_lt hxy) _⟩⟩
          case measure => simp [intOf]
        · obtain ⟨Bk, dk, hrk, hdk, hqk⟩ := cut_win A 64 c l .i64 32 8 HLEN.out (by omega) hc
          have HDk := Aside0.mk hdk
          clear hdk
          replace hrk : ∀ W : World, (Instr.slice 22 (.slice A 64 c) (some (.int .i64 32)) (some (.int .i64 40)) none).run Try.prog W = .ok (.slice Bk 8 dk) W := hrk
          go_wp2_with fail
          clear hrk
          refine (num8_c Bk dk l 32 _ (HDk.out _ (Kd.C_below HC1.out HB.out)) hqk HL.out (by rw [HLEN.out]; omega)).mono ?_
          rintro e w' ⟨rfl, hD⟩
          have hB := hD.below
          replace HX := Aside0.mk ((hB.block _ (blk_lt HX.out)).trans HX.out)
          replace HY := Aside0.mk ((hB.block _ (blk_lt HY.out)).trans HY.out)
          replace HB := Aside0.mk (HB.out.trans (hB.mono HB.out.size))
          clear hB hD
          have hck : World.cell? _ ⟨_, 5, none⟩ = some (.int .u64 0) := blk_cell HY.out 5
          have hfk : World.frozen? _ ⟨_, 5, none⟩ = false := blk_frozen HY.out 5
          go_wp2
          go_roundw
          case rel => exact ⟨3, by omega, rfl, ⟨by have := blk_set HY.out 5 (.int .u64 (w8 l 32)); simpa [dcs] using this⟩, ⟨(Below.heap_setCell _ _ _ _ (Nat.ne_of_lt hxy)).trans HX.out⟩, ⟨Below.setCell HB.out (Nat.le_of_lt hxy) _⟩⟩
          case measure => simp [intOf]
        · obtain ⟨Bk, dk, hrk, hdk, hqk⟩ := cut_win A 64 c l .i64 40 8 HLEN.out (by omega) hc
          have HDk := Aside0.mk hdk
          clear hdk
          replace hrk : ∀ W : World, (Instr.slice 22 (.slice A 64 c) (some (.int .i64 40)) (some (.int .i64 48)) none).run Try.prog W = .ok (.slice Bk 8 dk) W := hrk
          go_wp2_with fail
          clear hrk
          refine (num8_c Bk dk l 40 _ (HDk.out _ (Kd.C_below HC1.out HB.out)) hqk HL.out (by rw [HLEN.out]; omega)).mono ?_
          rintro e w' ⟨rfl, hD⟩
          have hB := hD.below
          replace HX := Aside0.mk ((hB.block _ (blk_lt HX.out)).trans HX.out)
          replace HY := Aside0.mk ((hB.block _ (blk_lt HY.out)).trans HY.out)
          replace HB := Aside0.mk (HB.out.trans (hB.mono HB.out.size))
          clear hB hD
          have hck : World.cell? _ ⟨_, 6, none⟩ = some (.int .u64 0) := blk_cell HY.out 6
          have hfk : World.frozen? _ ⟨_, 6, none⟩ = false := blk_frozen HY.out 6
          go_wp2
          go_roundw
          case rel => exact ⟨4, by omega, rfl, ⟨by have := blk_set HY.out 6 (.int .u64 (w8 l 40)); simpa [dcs] using this⟩, ⟨(Below.heap_setCell _ _ _ _ (Nat.ne_of_lt hxy)).trans HX.out⟩, ⟨Below.setCell HB.out (Nat.le_of_lt hxy) _⟩⟩
          case measure => simp [intOf]
        · obtain ⟨Bk, dk, hrk, hdk, hqk⟩ := cut_win A 64 c l .i64 48 8 HLEN.out (by omega) hc
          have HDk := Aside0.mk hdk
          clear hdk
          replace hrk : ∀ W : World, (Instr.slice 22 (.slice A 64 c) (some (.int .i64 48)) (some (.int .i64 56)) none).run Try.prog W = .ok (.slice Bk 8 dk) W := hrk
          go_wp2_with fail
          clear hrk
          refine (num8_c Bk dk l 48 _ (HDk.out _ (Kd.C_below HC1.out HB.out)) hqk HL.out (by rw [HLEN.out]; omega)).mono ?_
          rintro e w' ⟨rfl, hD⟩
          have hB := hD.below
          replace HX := Aside0.mk ((hB.block _ (blk_lt HX.out)).trans HX.out)
          replace HY := Aside0.mk ((hB.block _ (blk_lt HY.out)).trans HY.out)
          replace HB := Aside0.mk (HB.out.trans (hB.mono HB.out.size))
          clear hB hD
          have hck : World.cell? _ ⟨_, 7, none⟩ = some (.int .u64 0) := blk_cell HY.out 7
          have hfk : World.frozen? _ ⟨_, 7, none⟩ = false := blk_frozen HY.out 7
          go_wp2
          go_roundw
          case rel => exact ⟨5, by omega, rfl, ⟨by have := blk_set HY.out 7 (.int .u64 (w8 l 48)); simpa [dcs] using this⟩, ⟨(Below.heap_setCell _ _ _ _ (Nat.ne_of_lt hxy)).trans HX.out⟩, ⟨Below.setCell HB.out (Nat.le_of_lt hxy) _⟩⟩
          case measure => simp [intOf]
        · obtain ⟨Bk, dk, hrk, hdk, hqk⟩ := cut_win A 64 c l .i64 56 8 HLEN.out (by omega) hc
          have HDk := Aside0.mk hdk
          clear hdk
          replace hrk : ∀ W : World, (Instr.slice 22 (.slice A 64 c) (some (.int .i64 56)) (some (.int .i64 64)) none).run Try.prog W = .ok (.slice Bk 8 dk) W := hrk
          go_wp2_with fail
          clear hrk
          refine (num8_c Bk dk l 56 _ (HDk.out _ (Kd.C_below HC1.out HB.out)) hqk HL.out (by rw [HLEN.out]; omega)).mono ?_
          rintro e w' ⟨rfl, hD⟩
          have hB := hD.below
          replace HX := Aside0.mk ((hB.block _ (blk_lt HX.out)).trans HX.out)
          replace HY := Aside0.mk ((hB.block _ (blk_lt HY.out)).trans HY.out)
          replace HB := Aside0.mk (HB.out.trans (hB.mono HB.out.size))
          clear hB hD
          have hck : World.cell? _ ⟨_, 8, none⟩ = some (.int .u64 0) := blk_cell HY.out 8
          have hfk : World.frozen? _ ⟨_, 8, none⟩ = false := blk_frozen HY.out 8
          go_wp2
          go_roundw
          case rel => exact ⟨6, by omega, rfl, ⟨by have := blk_set HY.out 8 (.int .u64 (w8 l 56)); simpa [dcs] using this⟩, ⟨(Below.heap_setCell _ _ _ _ (Nat.ne_of_lt hxy)).trans HX.out⟩, ⟨Below.setCell HB.out (Nat.le_of_lt hxy) _⟩⟩
          case measure => simp [intOf]
      · obtain rfl : k = 6 := by omega
        have hz0 : World.cell? _ ⟨w.heap.size, 0, none⟩ = some (.int .u32 0) := blk_cell HX.out 0
        have hzf0 : World.frozen? _ ⟨w.heap.size, 0, none⟩ = false := blk_frozen HX.out 0
        have hz1 : World.cell? _ ⟨w.heap.size, 1, none⟩ = some (.int .u32 0) := blk_cell HX.out 1
        have hzf1 : World.frozen? _ ⟨w.heap.size, 1, none⟩ = false := blk_frozen HX.out 1
        have hz2 : World.cell? _ ⟨w.heap.size, 2, none⟩ = some (.int .u64 0) := blk_cell HX.out 2
        have hzf2 : World.frozen? _ ⟨w.heap.size, 2, none⟩ = false := blk_frozen HX.out 2
        have hz3 : World.cell? _ ⟨w.heap.size, 3, none⟩ = some (.int .u64 0) := blk_cell HX.out 3
        have hzf3 : World.frozen? _ ⟨w.heap.size, 3, none⟩ = false := blk_frozen HX.out 3
        have hz4 : World.cell? _ ⟨w.heap.size, 4, none⟩ = some (.int .u64 0) := blk_cell HX.out 4
        have hzf4 : World.frozen? _ ⟨w.heap.size, 4, none⟩ = false := blk_frozen HX.out 4
        have hz5 : World.cell? _ ⟨w.heap.size, 5, none⟩ = some (.int .u64 0) := blk_cell HX.out 5
        have hzf5 : World.frozen? _ ⟨w.heap.size, 5, none⟩ = false := blk_frozen HX.out 5
        have hz6 : World.cell? _ ⟨w.heap.size, 6, none⟩ = some (.int .u64 0) := blk_cell HX.out 6
        have hzf6 : World.frozen? _ ⟨w.heap.size, 6, none⟩ = false := blk_frozen HX.out 6
        have hz7 : World.cell? _ ⟨w.heap.size, 7, none⟩ = some (.int .u64 0) := blk_cell HX.out 7
        have hzf7 : World.frozen? _ ⟨w.heap.size, 7, none⟩ = false := blk_frozen HX.out 7
        have hz8 : World.cell? _ ⟨w.heap.size, 8, none⟩ = some (.int .u64 0) := blk_cell HX.out 8
        have hzf8 : World.frozen? _ ⟨w.heap.size, 8, none⟩ = false := blk_frozen HX.out 8
        have hy0 : World.cell? _ ⟨_, 0, none⟩ = some (.int .u32 (w4 l 0)) := blk_cell HY.out 0
        have hy1 : World.cell? _ ⟨_, 1, none⟩ = some (.int .u32 (w4 l 4)) := blk_cell HY.out 1
        have hy2 : World.cell? _ ⟨_, 2, none⟩ = some (.int .u64 (w8 l 8)) := blk_cell HY.out 2
        have hy3 : World.cell? _ ⟨_, 3, none⟩ = some (.int .u64 (w8 l 16)) := blk_cell HY.out 3
        have hy4 : World.cell? _ ⟨_, 4, none⟩ = some (.int .u64 (w8 l 24)) := blk_cell HY.out 4
        have hy5 : World.cell? _ ⟨_, 5, none⟩ = some (.int .u64 (w8 l 32)) := blk_cell HY.out 5
        have hy6 : World.cell? _ ⟨_, 6, none⟩ = some (.int .u64 (w8 l 40)) := blk_cell HY.out 6
        have hy7 : World.cell? _ ⟨_, 7, none⟩ = some (.int .u64 (w8 l 48)) := blk_cell HY.out 7
        have hy8 : World.cell? _ ⟨_, 8, none⟩ = some (.int .u64 (w8 l 56)) := blk_cell HY.out 8
        go_wp2
        refine bodyPost_ret (results_cell_row rfl _ _ w.heap.size 58 #[.int .u32 (w4 l 0), .int .u32 (w4 l 4), .int .u64 (w8 l 8), .int .u64 (w8 l 16), .int .u64 (w8 l 24), .int .u64 (w8 l 32), .int .u64 (w8 l 40), .int .u64 (w8 l 48), .int .u64 (w8 l 56)] (0, 0) _ rfl ?hb Try.underlying58 rfl (by kernel_rfl)) rfl ?_
        case hb =>
          have b0 := HX.out
          have b1 := blk_set b0 0 (.int .u32 (w4 l 0))
          have b2 := blk_set b1 1 (.int .u32 (w4 l 4))
          have b3 := blk_set b2 2 (.int .u64 (w8 l 8))
          have b4 := blk_set b3 3 (.int .u64 (w8 l 16))
          have b5 := blk_set b4 4 (.int .u64 (w8 l 24))
          have b6 := blk_set b5 5 (.int .u64 (w8 l 32))
          have b7 := blk_set b6 6 (.int .u64 (w8 l 40))
          have b8 := blk_set b7 7 (.int .u64 (w8 l 48))
          have b9 := blk_set b8 8 (.int .u64 (w8 l 56))
          simpa using b9
        refine ⟨rfl, ?_⟩
        repeat (first | (with_reducible exact HB.out) | (with_reducible refine bset ?_ (Nat.le_refl _) _))
end Go.Proofs.Ytpejeeemefmafaa.RD
