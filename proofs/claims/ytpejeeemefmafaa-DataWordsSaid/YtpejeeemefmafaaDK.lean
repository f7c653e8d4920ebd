import Derived.Test.YtpejeeemefmafaaDI
namespace Go.Proofs.Ytpejeeemefmafaa.RD
open Go.RowKit Go.Proofs.YtpejeeemefmafaaW.PrintWords Go.Proofs.YtpejeeemefmafaaW.PrintLast Go.Proofs.YtpejeeemefmafaaW.PrintMore
open Go.Proofs.Ytpejeeemefmafaa.PE.L (below_drewN' below_drew')
open PH
set_option linter.unusedVariables false
set_option linter.unusedSimpArgs false
def RowPostR (n : Nat) (l : List Int) (b0 : Nat) (w : World) (e : Ending) (w' : World) : Prop := ∃ A c, e = .returned (.slice A n c) ∧ n ≤ c ∧ Kd.R (Kd.int .u8) 5 w' b0 (fun _ => True) (.slice A n c) l ∧ Below w.heap.size w w'
theorem R_C {W : World} {b n c : Nat} {ok : Nat → Prop} {A : Option Addr} {l : List Int} (h : Kd.R (Kd.int .u8) 5 W b ok (.slice A n c) l) : Kd.C (Kd.int .u8) W A n l := by
  obtain ⟨rfl, _, hC⟩ := Kd.R_reads' h
  exact hC
theorem low_o (x : Int) (hx : 0 ≤ x) (n : Nat) (hn : n ≤ 8) (hp : 0 < n) (w : World) : Calls Try.prog 21 #[.int .u64 x, .int .i64 (n : Int)] w (OutPost n (bs n x) w) :=
  (wicketgateref01_Low.calls 20 x n (bs n x) w (by
    have h := low_l0 x hx n 20 0 n [] (by omega) hn (by simp) (by omega)
    simpa [wicketgateref01_Low.f] using h)).mono fun _ _ h => outpost (bs_length _ _) hp h
theorem both_r (b0 : Nat) (A B : Option Addr) (n m c d p : Nat) (x y : List Int) (w : World) (hb0 : b0 ≤ w.heap.size) (hx : Kd.C (Kd.int .u8) w A n x) (hc : n ≤ c) (hy : Kd.C (Kd.int .u8) w B m y) (hd : m ≤ d) (hn : n < 3000) (hm : m < 3000) (hp : p = n + m) :
    Calls Try.prog 55 #[.slice A n c, .slice B m d] w (RowPostR p (x ++ y) b0 w) := by
  obtain rfl := Kd.C_len hx
  obtain rfl := Kd.C_len hy
  refine (wicketgateref01_Both.calls A c x B d y _ w hx hc hy hd (both_f x y hn hm)).mono fun e w' h => ?_
  obtain ⟨v, rfl, hR, hB⟩ := h
  obtain ⟨A', c', rfl, hc', _⟩ := Kd.R_reads hR
  have e : (x ++ y).length = p := by simp [hp]
  rw [e] at hR hc' ⊢
  exact ⟨A', c', rfl, hc', Kd.R_lower hR hb0, hB⟩
set_option maxHeartbeats 4000000 in
set_option maxRecDepth 100000 in
theorem rbytes_r (d : Dt) (ok : d.Ok) (w : World) : Calls Try.prog 39 #[.agg #[.int .u32 d.nr, .int .u32 d.ar, .int .u64 d.ip, .int .u64 d.a0, .int .u64 d.a1, .int .u64 d.a2, .int .u64 d.a3, .int .u64 d.a4, .int .u64 d.a5]] w (RowPostR 64 d.bytes w.heap.size w) := by
  unfold RowPostR
  have OK := Aside0.mk ok
  clear ok
  go_enter Try.func39, Try.ntmps39
  go_wp2_with fail
  have HX := Aside0.mk (heap_alloc_new w (.cells #[.int .u32 d.nr, .int .u32 d.ar, .int .u64 d.ip, .int .u64 d.a0, .int .u64 d.a1, .int .u64 d.a2, .int .u64 d.a3, .int .u64 d.a4, .int .u64 d.a5] 58))
  have HB := Aside0.mk (below_alloc (Below.refl w.heap.size w) (.cells #[.int .u32 d.nr, .int .u32 d.ar, .int .u64 d.ip, .int .u64 d.a0, .int .u64 d.a1, .int .u64 d.a2, .int .u64 d.a3, .int .u64 d.a4, .int .u64 d.a5] 58))
  have HXd := HX.out
  replace HB := Aside0.mk (below_drew' HB.out)
  clear HX
  refine start_ (n := 10) (S := fun w' => w'.heap[w.heap.size]? = some (.cells #[.int .u32 d.nr, .int .u32 d.ar, .int .u64 d.ip, .int .u64 d.a0, .int .u64 d.a1, .int .u64 d.a2, .int .u64 d.a3, .int .u64 d.a4, .int .u64 d.a5] 58 (0, 0))) (ds := []) #[false, false, false, false, false, false, false, false, false, false] (by kernel_rfl) rfl rfl (HXd) (fun hHeld => ?_); refine with_tabW rbytes.tab1 rbytes.bits1 (fun HT_ HW_ => ?_)
  clear HXd
  generalize World.drew _ = W9 at HB hHeld ⊢
  refine pure_ (i := 0) (N := some 5) (v := ?_) (a' := ?_) #[true, false, false, false, false, false, false, false, false, false] rfl rfl (any_of HT_.out (by kernel_rfl)) (fun _ _ _ h => h) (Or.inl ⟨by rfl, ?_⟩) ?_ ?_
  rotate_left
  · intro w'
    go_simp
    with_reducible rfl
  rotate_left
  · (try simp only [Act.put, List.setIfInBounds_toArray, List.set_cons_zero, List.set_cons_succ])
    rfl
  refine pure_ (i := 4) (N := some 9) (v := ?_) (a' := ?_) #[true, false, false, false, true, false, false, false, false, false] rfl rfl (any_of HT_.out (by kernel_rfl)) (fun _ _ _ h => h) (Or.inl ⟨by rfl, ?_⟩) ?_ ?_
  rotate_left
  · intro w'
    go_simp
    with_reducible rfl
  rotate_left
  · (try simp only [Act.put, List.setIfInBounds_toArray, List.set_cons_zero, List.set_cons_succ])
    rfl
  refine take_ (i := 1) (N := some 6) (v := ?_) (a' := ?_) #[true, true, false, false, true, false, false, false, false, false] rfl rfl (take_ofW HT_.out HW_.out (by kernel_rfl)) (fun _ _ _ h => h) (Or.inl ⟨by rfl, ?_⟩) hHeld ?_ ?_
  rotate_left
  · intro w' hS_
    have hx_ : w'.cell? ⟨w.heap.size, 0, none⟩ = some (.int .u32 d.nr) := blk_cell hS_ 0
    go_simp
    with_reducible rfl
  rotate_left
  · (try simp only [Act.put, List.setIfInBounds_toArray, List.set_cons_zero, List.set_cons_succ])
    rfl
  refine pure_ (i := 2) (N := some 7) (v := ?_) (a' := ?_) #[true, true, true, false, true, false, false, false, false, false] rfl rfl (any_of HT_.out (by kernel_rfl)) (fun _ _ _ h => h) (Or.inl ⟨by rfl, ?_⟩) ?_ ?_
  rotate_left
  · intro w'
    go_simp
    with_reducible rfl
  rotate_left
  · (try simp only [Act.put, List.setIfInBounds_toArray, List.set_cons_zero, List.set_cons_succ])
    rfl
  refine take_ (i := 5) (N := some 10) (v := ?_) (a' := ?_) #[true, true, true, false, true, true, false, false, false, false] rfl rfl (take_ofW HT_.out HW_.out (by kernel_rfl)) (fun _ _ _ h => h) (Or.inl ⟨by rfl, ?_⟩) hHeld ?_ ?_
  rotate_left
  · intro w' hS_
    have hx_ : w'.cell? ⟨w.heap.size, 1, none⟩ = some (.int .u32 d.ar) := blk_cell hS_ 1
    go_simp
    with_reducible rfl
  rotate_left
  · (try simp only [Act.put, List.setIfInBounds_toArray, List.set_cons_zero, List.set_cons_succ])
    rfl
  refine pure_ (i := 6) (N := some 11) (v := ?_) (a' := ?_) #[true, true, true, false, true, true, true, false, false, false] rfl rfl (any_of HT_.out (by kernel_rfl)) (fun _ _ _ h => h) (Or.inl ⟨by rfl, ?_⟩) ?_ ?_
  rotate_left
  · intro w'
    go_simp
    with_reducible rfl
  rotate_left
  · (try simp only [Act.put, List.setIfInBounds_toArray, List.set_cons_zero, List.set_cons_succ])
    rfl
  refine one_ (i := 3) (N := some 8) #[true, true, true, true, true, true, true, false, false, false] rfl rfl (one_of HT_.out (by kernel_rfl)) (by decide) (fun K hK => ?_)
  refine goes_ Try.func21 (by kernel_rfl) rfl #[.int .u64 (IntKind.u64.wrap d.nr), .int .i64 4] (by rfl) rfl rfl (by (try simp only [List.map_toArray, List.map_cons, List.map_nil]); first | done | rfl) ?_
  refine (low_w d.nr (u32_64 OK.out.hnr) 4 (by omega) _).mono ?_
  rintro e w' ⟨A1, c1, rfl, l1, hC, hB⟩
  refine ⟨_, rfl, ?_⟩
  have HXn := Aside0.mk ((hB.block _ (blk_lt hHeld)).trans hHeld)
  replace HB := Aside0.mk (HB.out.trans (hB.mono HB.out.size))
  have H1 := Aside0.mk hC
  clear hC hB
  clear hHeld
  refine hK.out _ _ (HXn.out) (fun hHeld => ?_)
  clear hK K
  refine norm_ (a' := ?_) ?_ ?_
  rotate_left
  · show Act.put _ (some 8) _ = _
    (try simp only [Act.put, List.setIfInBounds_toArray, List.set_cons_zero, List.set_cons_succ])
    rfl
  refine one_ (i := 7) (N := some 12) #[true, true, true, true, true, true, true, true, false, false] rfl rfl (one_of HT_.out (by kernel_rfl)) (by decide) (fun K hK => ?_)
  refine goes_ Try.func21 (by kernel_rfl) rfl #[.int .u64 (IntKind.u64.wrap d.ar), .int .i64 4] (by rfl) rfl rfl (by (try simp only [List.map_toArray, List.map_cons, List.map_nil]); first | done | rfl) ?_
  refine (low_w d.ar (u32_64 OK.out.har) 4 (by omega) _).mono ?_
  rintro e w' ⟨A2, c2, rfl, l2, hC, hB⟩
  refine ⟨_, rfl, ?_⟩
  clear HXn
  have HXn := Aside0.mk ((hB.block _ (blk_lt hHeld)).trans hHeld)
  replace HB := Aside0.mk (HB.out.trans (hB.mono HB.out.size))
  replace H1 := Aside0.mk (Kd.C_below H1.out hB)
  have H2 := Aside0.mk hC
  clear hC hB
  clear hHeld
  refine hK.out _ _ (HXn.out) (fun hHeld => ?_)
  clear hK K
  refine norm_ (a' := ?_) ?_ ?_
  rotate_left
  · show Act.put _ (some 12) _ = _
    (try simp only [Act.put, List.setIfInBounds_toArray, List.set_cons_zero, List.set_cons_succ])
    rfl
  refine one_ (i := 8) (N := some 13) #[true, true, true, true, true, true, true, true, true, false] rfl rfl (one_of HT_.out (by kernel_rfl)) (by decide) (fun K hK => ?_)
  refine goes_ Try.func55 (by kernel_rfl) rfl #[.slice A1 4 c1, .slice A2 4 c2] (by rfl) rfl rfl (by (try simp only [List.map_toArray, List.map_cons, List.map_nil]); first | done | rfl) ?_
  refine (both_c A1 A2 4 4 c1 c2 8 _ _ _ H1.out l1 H2.out l2 (by omega) (by omega) rfl).mono ?_
  rintro e w' ⟨A3, c3, rfl, l3, hC, hB⟩
  refine ⟨_, rfl, ?_⟩
  clear HXn
  have HXn := Aside0.mk ((hB.block _ (blk_lt hHeld)).trans hHeld)
  replace HB := Aside0.mk (HB.out.trans (hB.mono HB.out.size))
  have H3 := Aside0.mk hC
  clear hC hB H1 H2
  clear hHeld
  refine hK.out _ _ (HXn.out) (fun hHeld => ?_)
  clear hK K
  refine norm_ (a' := ?_) ?_ ?_
  rotate_left
  · show Act.put _ (some 13) _ = _
    (try simp only [Act.put, List.setIfInBounds_toArray, List.set_cons_zero, List.set_cons_succ])
    rfl
  refine pure_ (i := 9) (N := some 3) (v := ?_) (a' := ?_) #[true, true, true, true, true, true, true, true, true, true] rfl rfl (any_of HT_.out (by kernel_rfl)) (fun _ _ _ h => h) (Or.inl ⟨by rfl, ?_⟩) ?_ ?_
  rotate_left
  · intro w'
    go_simp
    with_reducible rfl
  rotate_left
  · (try simp only [Act.put, List.setIfInBounds_toArray, List.set_cons_zero, List.set_cons_succ])
    rfl
  refine done_ (done_of HT_.out (by kernel_rfl)) ?_
  have HX := Aside0.mk hHeld
  clear hHeld HXn
  have hc2 : World.cell? _ ⟨w.heap.size, 2, none⟩ = some (.int .u64 d.ip) := blk_cell HX.out 2
  go_wp2_with fail
  clear hc2
  refine (low_c d.ip OK.out.hip.1 8 (by omega) _).mono ?_
  rintro e w' ⟨A4, c4, rfl, l4, hC, hB⟩
  replace HX := Aside0.mk ((hB.block _ (blk_lt HX.out)).trans HX.out)
  replace HB := Aside0.mk (HB.out.trans (hB.mono HB.out.size))
  replace H3 := Aside0.mk (Kd.C_below H3.out hB)
  clear hB
  have H4 := Aside0.mk hC
  clear hC
  go_wp2_with fail
  refine (both_r w.heap.size A3 A4 8 8 c3 c4 16 _ _ _ HB.out.size H3.out l3 H4.out l4 (by omega) (by omega) rfl).mono ?_
  rintro e w' ⟨A5, c5, rfl, l5, hC, hB⟩
  replace HX := Aside0.mk ((hB.block _ (blk_lt HX.out)).trans HX.out)
  replace HB := Aside0.mk (HB.out.trans (hB.mono HB.out.size))
  clear hB
  have H5 := Aside0.mk hC
  clear hC H3 H4
  go_wp2_with fail
  go_loopw [3, 4] (fun v3 v4 wr => ∃ (k : Nat) (A : Option Addr) (c : Nat), k ≤ 6 ∧ v4 = .int .i64 k ∧ v3 = .slice A (16 + 8 * k) c ∧ 16 + 8 * k ≤ c ∧ Aside0 (Kd.R (Kd.int .u8) 5 wr w.heap.size (fun _ => True) (.slice A (16 + 8 * k) c) (d.pre k)) ∧ Aside0 (wr.heap[w.heap.size]? = some (.cells #[.int .u32 d.nr, .int .u32 d.ar, .int .u64 d.ip, .int .u64 d.a0, .int .u64 d.a1, .int .u64 d.a2, .int .u64 d.a3, .int .u64 d.a4, .int .u64 d.a5] 58 (0, 0))) ∧ Aside0 (Below w.heap.size w wr)) (fun _ v4 _ => 6 - (intOf v4).toNat)
  case atStart => exact ⟨0, A5, c5, by omega, rfl, rfl, l5, H5, HX, HB⟩
  case round =>
    clear H5 HB HX
    obtain ⟨k, A, c, hk, rfl, rfl, hc, HC, HX, HB⟩ := hrel
    by_cases hlt : k < 6
    · obtain rfl | rfl | rfl | rfl | rfl | rfl : k = 0 ∨ k = 1 ∨ k = 2 ∨ k = 3 ∨ k = 4 ∨ k = 5 := by omega
      · have hck : World.cell? _ ⟨w.heap.size, 3, none⟩ = some (.int .u64 d.a0) := blk_cell HX.out 3
        go_wp2_with fail
        clear hck
        refine (low_c d.a0 OK.out.ha0.1 8 (by omega) _).mono ?_
        rintro e w' ⟨A4, c4, rfl, l4, hC, hB⟩
        replace HX := Aside0.mk ((hB.block _ (blk_lt HX.out)).trans HX.out)
        replace HB := Aside0.mk (HB.out.trans (hB.mono HB.out.size))
        replace HC := Aside0.mk (Kd.R_below HC.out hB)
        clear hB
        have H4 := Aside0.mk hC
        clear hC
        go_wp2_with fail
        refine (both_r w.heap.size A A4 16 8 c c4 24 (d.pre 0) _ _ HB.out.size (R_C HC.out) (by omega) H4.out l4 (by omega) (by omega) rfl).mono ?_
        rintro e w' ⟨A', c', rfl, l', hC, hB⟩
        replace HX := Aside0.mk ((hB.block _ (blk_lt HX.out)).trans HX.out)
        replace HB := Aside0.mk (HB.out.trans (hB.mono HB.out.size))
        clear hB
        go_wp2
        go_roundw
        case rel => exact ⟨1, A', c', by omega, rfl, rfl, by omega, ⟨hC⟩, HX, HB⟩
        case measure => simp [intOf]
      · have hck : World.cell? _ ⟨w.heap.size, 4, none⟩ = some (.int .u64 d.a1) := blk_cell HX.out 4
        go_wp2_with fail
        clear hck
        refine (low_c d.a1 OK.out.ha1.1 8 (by omega) _).mono ?_
        rintro e w' ⟨A4, c4, rfl, l4, hC, hB⟩
        replace HX := Aside0.mk ((hB.block _ (blk_lt HX.out)).trans HX.out)
        replace HB := Aside0.mk (HB.out.trans (hB.mono HB.out.size))
        replace HC := Aside0.mk (Kd.R_below HC.out hB)
        clear hB
        have H4 := Aside0.mk hC
        clear hC
        go_wp2_with fail
        refine (both_r w.heap.size A A4 24 8 c c4 32 (d.pre 1) _ _ HB.out.size (R_C HC.out) (by omega) H4.out l4 (by omega) (by omega) rfl).mono ?_
        rintro e w' ⟨A', c', rfl, l', hC, hB⟩
        replace HX := Aside0.mk ((hB.block _ (blk_lt HX.out)).trans HX.out)
        replace HB := Aside0.mk (HB.out.trans (hB.mono HB.out.size))
        clear hB
        go_wp2
        go_roundw
        case rel => exact ⟨2, A', c', by omega, rfl, rfl, by omega, ⟨hC⟩, HX, HB⟩
        case measure => simp [intOf]
      · have hck : World.cell? _ ⟨w.heap.size, 5, none⟩ = some (.int .u64 d.a2) := blk_cell HX.out 5
        go_wp2_with fail
        clear hck
        refine (low_c d.a2 OK.out.ha2.1 8 (by omega) _).mono ?_
        rintro e w' ⟨A4, c4, rfl, l4, hC, hB⟩
        replace HX := Aside0.mk ((hB.block _ (blk_lt HX.out)).trans HX.out)
        replace HB := Aside0.mk (HB.out.trans (hB.mono HB.out.size))
        replace HC := Aside0.mk (Kd.R_below HC.out hB)
        clear hB
        have H4 := Aside0.mk hC
        clear hC
        go_wp2_with fail
        refine (both_r w.heap.size A A4 32 8 c c4 40 (d.pre 2) _ _ HB.out.size (R_C HC.out) (by omega) H4.out l4 (by omega) (by omega) rfl).mono ?_
        rintro e w' ⟨A', c', rfl, l', hC, hB⟩
        replace HX := Aside0.mk ((hB.block _ (blk_lt HX.out)).trans HX.out)
        replace HB := Aside0.mk (HB.out.trans (hB.mono HB.out.size))
        clear hB
        go_wp2
        go_roundw
        case rel => exact ⟨3, A', c', by omega, rfl, rfl, by omega, ⟨hC⟩, HX, HB⟩
        case measure => simp [intOf]
      · have hck : World.cell? _ ⟨w.heap.size, 6, none⟩ = some (.int .u64 d.a3) := blk_cell HX.out 6
        go_wp2_with fail
        clear hck
        refine (low_c d.a3 OK.out.ha3.1 8 (by omega) _).mono ?_
        rintro e w' ⟨A4, c4, rfl, l4, hC, hB⟩
        replace HX := Aside0.mk ((hB.block _ (blk_lt HX.out)).trans HX.out)
        replace HB := Aside0.mk (HB.out.trans (hB.mono HB.out.size))
        replace HC := Aside0.mk (Kd.R_below HC.out hB)
        clear hB
        have H4 := Aside0.mk hC
        clear hC
        go_wp2_with fail
        refine (both_r w.heap.size A A4 40 8 c c4 48 (d.pre 3) _ _ HB.out.size (R_C HC.out) (by omega) H4.out l4 (by omega) (by omega) rfl).mono ?_
        rintro e w' ⟨A', c', rfl, l', hC, hB⟩
        replace HX := Aside0.mk ((hB.block _ (blk_lt HX.out)).trans HX.out)
        replace HB := Aside0.mk (HB.out.trans (hB.mono HB.out.size))
        clear hB
        go_wp2
        go_roundw
        case rel => exact ⟨4, A', c', by omega, rfl, rfl, by omega, ⟨hC⟩, HX, HB⟩
        case measure => simp [intOf]
      · have hck : World.cell? _ ⟨w.heap.size, 7, none⟩ = some (.int .u64 d.a4) := blk_cell HX.out 7
        go_wp2_with fail
        clear hck
        refine (low_c d.a4 OK.out.ha4.1 8 (by omega) _).mono ?_
        rintro e w' ⟨A4, c4, rfl, l4, hC, hB⟩
        replace HX := Aside0.mk ((hB.block _ (blk_lt HX.out)).trans HX.out)
        replace HB := Aside0.mk (HB.out.trans (hB.mono HB.out.size))
        replace HC := Aside0.mk (Kd.R_below HC.out hB)
        clear hB
        have H4 := Aside0.mk hC
        clear hC
        go_wp2_with fail
        refine (both_r w.heap.size A A4 48 8 c c4 56 (d.pre 4) _ _ HB.out.size (R_C HC.out) (by omega) H4.out l4 (by omega) (by omega) rfl).mono ?_
        rintro e w' ⟨A', c', rfl, l', hC, hB⟩
        replace HX := Aside0.mk ((hB.block _ (blk_lt HX.out)).trans HX.out)
        replace HB := Aside0.mk (HB.out.trans (hB.mono HB.out.size))
        clear hB
        go_wp2
        go_roundw
        case rel => exact ⟨5, A', c', by omega, rfl, rfl, by omega, ⟨hC⟩, HX, HB⟩
        case measure => simp [intOf]
      · have hck : World.cell? _ ⟨w.heap.size, 8, none⟩ = some (.int .u64 d.a5) := blk_cell HX.out 8
        go_wp2_with fail
        clear hck
        refine (low_c d.a5 OK.out.ha5.1 8 (by omega) _).mono ?_
        rintro e w' ⟨A4, c4, rfl, l4, hC, hB⟩
        replace HX := Aside0.mk ((hB.block _ (blk_lt HX.out)).trans HX.out)
        replace HB := Aside0.mk (HB.out.trans (hB.mono HB.out.size))
        replace HC := Aside0.mk (Kd.R_below HC.out hB)
        clear hB
        have H4 := Aside0.mk hC
        clear hC
        go_wp2_with fail
        refine (both_r w.heap.size A A4 56 8 c c4 64 (d.pre 5) _ _ HB.out.size (R_C HC.out) (by omega) H4.out l4 (by omega) (by omega) rfl).mono ?_
        rintro e w' ⟨A', c', rfl, l', hC, hB⟩
        replace HX := Aside0.mk ((hB.block _ (blk_lt HX.out)).trans HX.out)
        replace HB := Aside0.mk (HB.out.trans (hB.mono HB.out.size))
        clear hB
        go_wp2
        go_roundw
        case rel => exact ⟨6, A', c', by omega, rfl, rfl, by omega, ⟨hC⟩, HX, HB⟩
        case measure => simp [intOf]
    · obtain rfl : k = 6 := by omega
      go_wp2
      go_ret
      exact ⟨A, c, rfl, by omega, HC.out, HB.out⟩
theorem ys_set (l : List Int) (o k : Nat) (x : Int) (h : o + 4 ≤ l.length) (hk : k < 4) : (l.take o ++ (bs 4 x).take k ++ l.drop (o + k)).set (o + k) ((bs 4 x)[k]?.getD 0) = l.take o ++ (bs 4 x).take (k + 1) ++ l.drop (o + (k + 1)) := by
  have e1 : (l.take o ++ (bs 4 x).take k).length = o + k := by simp [bs_length]; omega
  have e2 : l.drop (o + k) = l[o + k]'(by omega) :: l.drop (o + (k + 1)) := by rw [List.drop_eq_getElem_cons (by omega)]; rfl
  rw [e2, List.set_append_right _ _ (by omega), e1, Nat.sub_self, List.set_cons_zero]
  have e3 : (bs 4 x).take (k + 1) = (bs 4 x).take k ++ [(bs 4 x)[k]?.getD 0] := by
    rw [List.take_add_one]; congr 1; rw [List.getElem?_eq_getElem (by rw [bs_length]; omega)]; rfl
  rw [e3]; simp
set_option maxHeartbeats 4000000 in
set_option maxRecDepth 100000 in
theorem rwith_ok (d : Dt) (ok : d.Ok) (o : Nat) (ho : u32R (o : Int)) (hg : (o : Int) % 4 = 0 ∧ (o : Int) ≤ 60) (x : Int) (hx : u32R x) (w : World) : Calls Try.prog 43 #[.agg #[.int .u32 d.nr, .int .u32 d.ar, .int .u64 d.ip, .int .u64 d.a0, .int .u64 d.a1, .int .u64 d.a2, .int .u64 d.a3, .int .u64 d.a4, .int .u64 d.a5], .int .u32 (o : Int), .int .u32 x] w fun e w' => e = .returned (.tuple #[.agg #[.int .u32 (w4 (put4 d.bytes o x) 0), .int .u32 (w4 (put4 d.bytes o x) 4), .int .u64 (w8 (put4 d.bytes o x) 8), .int .u64 (w8 (put4 d.bytes o x) 16), .int .u64 (w8 (put4 d.bytes o x) 24), .int .u64 (w8 (put4 d.bytes o x) 32), .int .u64 (w8 (put4 d.bytes o x) 40), .int .u64 (w8 (put4 d.bytes o x) 48), .int .u64 (w8 (put4 d.bytes o x) 56)], .int .i64 0]) ∧ Below w.heap.size w w' := by
  have OK := Aside0.mk ok
  have HXR := Aside0.mk hx
  have h60 : o ≤ 60 := by omega
  have HP := Aside0.mk (fun W => right_ok ho hg W)
  have hx0 := hx.1
  have hx1 := hx.2
  clear ok hx ho hg
  go_enter Try.func43, Try.ntmps43
  have HX0 := Aside0.mk (heap_alloc_new w (.cells #[.int .u32 d.nr, .int .u32 d.ar, .int .u64 d.ip, .int .u64 d.a0, .int .u64 d.a1, .int .u64 d.a2, .int .u64 d.a3, .int .u64 d.a4, .int .u64 d.a5] 58))
  have HX1 := Aside0.mk (heap_alloc_new (w.alloc (.cells #[.int .u32 d.nr, .int .u32 d.ar, .int .u64 d.ip, .int .u64 d.a0, .int .u64 d.a1, .int .u64 d.a2, .int .u64 d.a3, .int .u64 d.a4, .int .u64 d.a5] 58)) (.cells #[.int .u32 0, .int .u32 0, .int .u64 0, .int .u64 0, .int .u64 0, .int .u64 0, .int .u64 0, .int .u64 0, .int .u64 0] 58))
  replace HX0 := Aside0.mk (blk_alloc HX0.out (.cells #[.int .u32 0, .int .u32 0, .int .u64 0, .int .u64 0, .int .u64 0, .int .u64 0, .int .u64 0, .int .u64 0, .int .u64 0] 58))
  have HB := Aside0.mk (below_alloc (below_alloc (Below.refl w.heap.size w) (.cells #[.int .u32 d.nr, .int .u32 d.ar, .int .u64 d.ip, .int .u64 d.a0, .int .u64 d.a1, .int .u64 d.a2, .int .u64 d.a3, .int .u64 d.a4, .int .u64 d.a5] 58)) (.cells #[.int .u32 0, .int .u32 0, .int .u64 0, .int .u64 0, .int .u64 0, .int .u64 0, .int .u64 0, .int .u64 0, .int .u64 0] 58))
  have hs1 : (w.alloc (.cells #[.int .u32 d.nr, .int .u32 d.ar, .int .u64 d.ip, .int .u64 d.a0, .int .u64 d.a1, .int .u64 d.a2, .int .u64 d.a3, .int .u64 d.a4, .int .u64 d.a5] 58)).heap.size = w.heap.size + 1 := by simp
  rw [hs1] at HX1
  clear hs1
  go_wp2_with fail
  refine (HP.out _).mono ?_
  rintro e w1 ⟨rfl, hD⟩
  have hB := hD.below
  clear hD HP
  replace HX0 := Aside0.mk ((hB.block _ (blk_lt HX0.out)).trans HX0.out)
  replace HX1 := Aside0.mk ((hB.block _ (blk_lt HX1.out)).trans HX1.out)
  replace HB := Aside0.mk (HB.out.trans (hB.mono HB.out.size))
  clear hB
  have hc0 : World.cell? _ ⟨w.heap.size, 0, none⟩ = some (.int .u32 d.nr) := blk_cell HX0.out 0
  have hc1 : World.cell? _ ⟨w.heap.size, 1, none⟩ = some (.int .u32 d.ar) := blk_cell HX0.out 1
  have hc2 : World.cell? _ ⟨w.heap.size, 2, none⟩ = some (.int .u64 d.ip) := blk_cell HX0.out 2
  have hc3 : World.cell? _ ⟨w.heap.size, 3, none⟩ = some (.int .u64 d.a0) := blk_cell HX0.out 3
  have hc4 : World.cell? _ ⟨w.heap.size, 4, none⟩ = some (.int .u64 d.a1) := blk_cell HX0.out 4
  have hc5 : World.cell? _ ⟨w.heap.size, 5, none⟩ = some (.int .u64 d.a2) := blk_cell HX0.out 5
  have hc6 : World.cell? _ ⟨w.heap.size, 6, none⟩ = some (.int .u64 d.a3) := blk_cell HX0.out 6
  have hc7 : World.cell? _ ⟨w.heap.size, 7, none⟩ = some (.int .u64 d.a4) := blk_cell HX0.out 7
  have hc8 : World.cell? _ ⟨w.heap.size, 8, none⟩ = some (.int .u64 d.a5) := blk_cell HX0.out 8
  go_wp2_with fail
  clear hc0 hc1 hc2 hc3 hc4 hc5 hc6 hc7 hc8
  have hsz := blk_lt HX1.out
  refine (rbytes_r d OK.out _).mono ?_
  rintro e w2 ⟨A, c, rfl, hc, hR, hB⟩
  replace HX1 := Aside0.mk ((hB.block _ (blk_lt HX1.out)).trans HX1.out)
  replace HB := Aside0.mk (HB.out.trans (hB.mono HB.out.size))
  clear hB
  have HR := Aside0.mk hR
  clear hR HX0
  obtain ⟨b, cap, e, hb1, hbl, _⟩ := Kd.R_form HR.out (by rw [bytes_len]; omega)
  rw [bytes_len] at e
  injection e with e1 e2 e3
  subst e1
  subst e3
  go_wp2_with fail
  refine (low_o x hx0 4 (by omega) (by omega) _).mono ?_
  rintro e w3 ⟨b2, c2, rfl, hc2, hb2, _, hR2, hB⟩
  replace HX1 := Aside0.mk ((hB.block _ (blk_lt HX1.out)).trans HX1.out)
  replace HR := Aside0.mk (Kd.R_below HR.out hB)
  replace HB := Aside0.mk (HB.out.trans (hB.mono HB.out.size))
  clear hB
  have hbb : b ≠ b2 := by omega
  have H2 := Aside0.mk (Kd.R_lower (base' := 0) hR2 (Nat.zero_le _))
  clear hR2
  go_wp2_with fail
  go_loopw [10] (fun v10 wr => ∃ k : Nat, k ≤ 4 ∧ v10 = .int .i64 k ∧ Aside0 (Kd.R (Kd.int .u8) 5 wr w1.heap.size (fun _ => True) (.slice (some ⟨b, 0, none⟩) 64 c) (d.bytes.take o ++ (bs 4 x).take k ++ d.bytes.drop (o + k))) ∧ Aside0 (Kd.R (Kd.int .u8) 5 wr 0 (fun q => q = b2) (.slice (some ⟨b2, 0, none⟩) 4 c2) (bs 4 x)) ∧ Aside0 (wr.heap[w.heap.size + 1]? = some (.cells #[.int .u32 0, .int .u32 0, .int .u64 0, .int .u64 0, .int .u64 0, .int .u64 0, .int .u64 0, .int .u64 0, .int .u64 0] 58 (0, 0))) ∧ Aside0 (Below w.heap.size w wr)) (fun v10 _ => 4 - (intOf v10).toNat)
  case atStart => exact ⟨0, by omega, rfl, ⟨by have h := HR.out; simpa using h⟩, H2, HX1, HB⟩
  case round =>
    clear HR H2 HX1 HB
    obtain ⟨k, hk, rfl, HR, H2, HX1, HB⟩ := hrel
    by_cases hlt : k < 4
    · obtain ⟨hw, _⟩ := Kd.R_celln 0 H2.out (k : Int) (by omega) (by omega)
      rw [Int.toNat_natCast, show rdOf 0 (bs 4 x) (k : Int) = (bs 4 x)[k]?.getD 0 by simp [rdOf, List.getD_eq_getElem?_getD]] at hw
      obtain ⟨hcc, hff⟩ := Kd.R_celln 0 HR.out ((o + k : Nat) : Int) (by omega) (by omega)
      rw [Int.toNat_natCast] at hcc hff
      have b0 : (0 : Int) ≤ o + k := by omega
      have b1 : (o : Int) + k < 64 := by omega
      have b2 : ((o : Int) + k).toNat = o + k := by omega
      have hne : b ≠ w.heap.size + 1 := by omega
      go_wp2
      go_roundw
      case rel => exact ⟨k + 1, by omega, by simp, ⟨by rw [← ys_set d.bytes o k x (by rw [bytes_len]; omega) hlt]; exact R_putk HR.out (o + k) _⟩, ⟨Kd.R_far H2.out (fun q hq => by show q ≠ b; omega) _⟩, ⟨(Below.heap_setCell _ _ _ _ (fun e => hne e.symm)).trans HX1.out⟩, ⟨Below.setCell HB.out (by show w.heap.size ≤ b; omega) _⟩⟩
      case measure => simp [intOf]; omega
    · obtain rfl : k = 4 := by omega
      have HC3 := Aside0.mk (show Kd.C (Kd.int .u8) wr (some ⟨b, 0, none⟩) 64 (put4 d.bytes o x) by have h := R_C HR.out; rw [List.take_of_length_le (l := bs 4 x) (by rw [bs_length]; omega)] at h; exact h)
      go_wp2_with fail
      refine (of_c (some ⟨b, 0, none⟩) c _ (put4_bytes (bytes_b d) o x) _ HC3.out hc).mono ?_
      rintro e v8 ⟨rfl, hB⟩
      replace HX1 := Aside0.mk ((hB.block _ (blk_lt HX1.out)).trans HX1.out)
      replace HB := Aside0.mk (HB.out.trans (hB.mono HB.out.size))
      clear hB
      have hz0 : World.cell? _ ⟨w.heap.size + 1, 0, none⟩ = some (.int .u32 0) := blk_cell HX1.out 0
      have hzf0 : World.frozen? _ ⟨w.heap.size + 1, 0, none⟩ = false := blk_frozen HX1.out 0
      have hz1 : World.cell? _ ⟨w.heap.size + 1, 1, none⟩ = some (.int .u32 0) := blk_cell HX1.out 1
      have hzf1 : World.frozen? _ ⟨w.heap.size + 1, 1, none⟩ = false := blk_frozen HX1.out 1
      have hz2 : World.cell? _ ⟨w.heap.size + 1, 2, none⟩ = some (.int .u64 0) := blk_cell HX1.out 2
      have hzf2 : World.frozen? _ ⟨w.heap.size + 1, 2, none⟩ = false := blk_frozen HX1.out 2
      have hz3 : World.cell? _ ⟨w.heap.size + 1, 3, none⟩ = some (.int .u64 0) := blk_cell HX1.out 3
      have hzf3 : World.frozen? _ ⟨w.heap.size + 1, 3, none⟩ = false := blk_frozen HX1.out 3
      have hz4 : World.cell? _ ⟨w.heap.size + 1, 4, none⟩ = some (.int .u64 0) := blk_cell HX1.out 4
      have hzf4 : World.frozen? _ ⟨w.heap.size + 1, 4, none⟩ = false := blk_frozen HX1.out 4
      have hz5 : World.cell? _ ⟨w.heap.size + 1, 5, none⟩ = some (.int .u64 0) := blk_cell HX1.out 5
      have hzf5 : World.frozen? _ ⟨w.heap.size + 1, 5, none⟩ = false := blk_frozen HX1.out 5
      have hz6 : World.cell? _ ⟨w.heap.size + 1, 6, none⟩ = some (.int .u64 0) := blk_cell HX1.out 6
      have hzf6 : World.frozen? _ ⟨w.heap.size + 1, 6, none⟩ = false := blk_frozen HX1.out 6
      have hz7 : World.cell? _ ⟨w.heap.size + 1, 7, none⟩ = some (.int .u64 0) := blk_cell HX1.out 7
      have hzf7 : World.frozen? _ ⟨w.heap.size + 1, 7, none⟩ = false := blk_frozen HX1.out 7
      have hz8 : World.cell? _ ⟨w.heap.size + 1, 8, none⟩ = some (.int .u64 0) := blk_cell HX1.out 8
      have hzf8 : World.frozen? _ ⟨w.heap.size + 1, 8, none⟩ = false := blk_frozen HX1.out 8
      go_wp2
      refine bodyPost_ret (results_ct rfl _ _ (w.heap.size + 1) 58 #[.int .u32 (w4 (put4 d.bytes o x) 0), .int .u32 (w4 (put4 d.bytes o x) 4), .int .u64 (w8 (put4 d.bytes o x) 8), .int .u64 (w8 (put4 d.bytes o x) 16), .int .u64 (w8 (put4 d.bytes o x) 24), .int .u64 (w8 (put4 d.bytes o x) 32), .int .u64 (w8 (put4 d.bytes o x) 40), .int .u64 (w8 (put4 d.bytes o x) 48), .int .u64 (w8 (put4 d.bytes o x) 56)] (0, 0) _ rfl ?hb Try.underlying58 rfl (by kernel_rfl)) rfl ?_
      case hb =>
        have b0 := HX1.out
        have b1 := blk_set b0 0 (.int .u32 (w4 (put4 d.bytes o x) 0))
        have b2 := blk_set b1 1 (.int .u32 (w4 (put4 d.bytes o x) 4))
        have b3 := blk_set b2 2 (.int .u64 (w8 (put4 d.bytes o x) 8))
        have b4 := blk_set b3 3 (.int .u64 (w8 (put4 d.bytes o x) 16))
        have b5 := blk_set b4 4 (.int .u64 (w8 (put4 d.bytes o x) 24))
        have b6 := blk_set b5 5 (.int .u64 (w8 (put4 d.bytes o x) 32))
        have b7 := blk_set b6 6 (.int .u64 (w8 (put4 d.bytes o x) 40))
        have b8 := blk_set b7 7 (.int .u64 (w8 (put4 d.bytes o x) 48))
        have b9 := blk_set b8 8 (.int .u64 (w8 (put4 d.bytes o x) 56))
        simpa using b9
      refine ⟨rfl, ?_⟩
      repeat (first | (with_reducible exact HB.out) | (with_reducible refine bset ?_ (Nat.le_succ _) _))
end Go.Proofs.Ytpejeeemefmafaa.RD
