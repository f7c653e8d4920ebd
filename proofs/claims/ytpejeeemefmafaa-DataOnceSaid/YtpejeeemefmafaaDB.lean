import Derived.Test.YtpejeeemefmafaaDA
namespace Go.Proofs.Ytpejeeemefmafaa.RD
open Go.RowKit Go.Proofs.YtpejeeemefmafaaW.PrintWords Go.Proofs.YtpejeeemefmafaaW.PrintLast Go.Proofs.YtpejeeemefmafaaW.PrintMore
open Go.Proofs.Ytpejeeemefmafaa.PE.L (below_drewN' below_drew')
open PH
set_option linter.unusedVariables false
set_option linter.unusedSimpArgs false
theorem both_f (x y : List Int) (hx : x.length < 3000) (hy : y.length < 3000) : wicketgateref01_Both.f x y = some (x ++ y) := by
  unfold wicketgateref01_Both.f
  simp only [Option.bind_some, List.length_nil, List.nil_append]
  rw [if_pos (by omega)]
  (try simp only [Option.bind_some])
  rw [if_pos (by omega)]
theorem both_c (A B : Option Addr) (n m c d p : Nat) (x y : List Int) (w : World) (hx : Kd.C (Kd.int .u8) w A n x) (hc : n ≤ c) (hy : Kd.C (Kd.int .u8) w B m y) (hd : m ≤ d) (hn : n < 3000) (hm : m < 3000) (hp : p = n + m) :
    Calls Try.prog 55 #[.slice A n c, .slice B m d] w (RowPost p (x ++ y) w) := by
  obtain rfl := Kd.C_len hx
  obtain rfl := Kd.C_len hy
  exact (wicketgateref01_Both.calls A c x B d y _ w hx hc hy hd (both_f x y hn hm)).mono fun _ _ h => rowpost (by simp [hp]) h
theorem low_w (x : Int) (h : u64R x) (n : Nat) (hn : n ≤ 8) (w : World) : Calls Try.prog 21 #[.int .u64 (IntKind.u64.wrap x), .int .i64 (n : Int)] w (RowPost n (bs n x) w) := by
  rw [u64_id h.1 h.2]
  exact low_c x h.1 n hn w
theorem bset {B b j : Nat} {w W : World} (h : Below B w W) (hb : B ≤ b) (v : Value) : Below B w (W.setCell ⟨b, j, none⟩ v) := Below.setCell h hb v
theorem u32_64 {x : Int} (h : u32R x) : u64R x := ⟨h.1, by have := h.2; omega⟩
def rbytes.T1 : Bool × List (List Nat × List Nat) := (true, [([], []), ([0], [0]), ([1], [1]), ([2], [2]), ([], []), ([4], [4]), ([5], [5]), ([6, 3], [6]), ([3, 7, 7], [3, 7]), ([8, 8, 0, 1, 2, 3, 4, 5, 6, 7, 8], [8])])
def rbytes.B1 : List Nat := [0, 1, 3, 7, 0, 16, 48, 127, 255, 511]
theorem rbytes.tab1 : rtab .any (opsOf Try.f39 1) = rbytes.T1 := by kernel_rfl
theorem rbytes.bits1 : waitsOk rbytes.T1.2 rbytes.B1 = true := by kernel_rfl
set_option maxHeartbeats 4000000 in
set_option maxRecDepth 100000 in
theorem rbytes_c (d : Dt) (ok : d.Ok) (w : World) : Calls Try.prog 39 #[.agg #[.int .u32 d.nr, .int .u32 d.ar, .int .u64 d.ip, .int .u64 d.a0, .int .u64 d.a1, .int .u64 d.a2, .int .u64 d.a3, .int .u64 d.a4, .int .u64 d.a5]] w (RowPost 64 d.bytes w) := by
  unfold RowPost
  have OK := Aside0.mk ok
  clear ok
  go_enter Try.func39, Try.ntmps39
  go_wp2_with fail
  have HX := Aside0.mk (heap_alloc_new w (.cells #[.int .u32 d.nr, .int .u32 d.ar, .int .u64 d.ip, .int .u64 d.a0, .int .u64 d.a1, .int .u64 d.a2, .int .u64 d.a3, .int .u64 d.a4, .int .u64 d.a5] 58))
  have HB := Aside0.mk (below_alloc (Below.refl w.heap.size w) (.cells #[.int .u32 d.nr, .int .u32 d.ar, .int .u64 d.ip, .int .u64 d.a0, .int .u64 d.a1, .int .u64 d.a2, .int .u64 d.a3, .int .u64 d.a4, .int .u64 d.a5] 58))
  have HXd := HX.out
  replace HB := Aside0.mk (below_drew' HB.out)
  clear HX
  refine start_ (n := 10) (S := fun w' => w'.heap[w.heap.size]? = some (.cells #[.int .u32 d.nr, .int .u32 d.ar, .int .u64 d.ip, .int .u64 d.a0, .int .u64 d.a1, .int .u64 d.a2, .int .u64 d.a3, .int .u64 d.a4, .int .u64 d.a5] 58 (0, 0))) (ds := []) #[false, false, false, false, false, false, false, false, false, false] (by kernel_rfl) rfl rfl (HXd) (fun hHeld => ?_); refine with_tabW rbytes.tab1 rbytes.bits1 (fun HT_ HW_ => ?_)
  clear HXd
  generalize World.drew _ = W9 at HB hHeld ⊢
  refine pure_ (i := 0) (N := some 5) (v := ?_) (a' := ?_) #[true, false, false, false, false, false, false, false, false, false] rfl rfl (any_of HT_.out (by kernel_rfl)) (fun _ _ _ h => h) (Or.inl ⟨by rfl, ?_⟩) ?_ ?_
  rotate_left
  · intro w'
    go_simp
    with_reducible rfl
  rotate_left
  · (try simp only [Act.put, List.setIfInBounds_toArray, List.set_cons_zero, List.set_cons_succ])
    rfl
  refine pure_ (i := 4) (N := some 9) (v := ?_) (a' := ?_) #[true, false, false, false, true, false, false, false, false, false] rfl rfl (any_of HT_.out (by kernel_rfl)) (fun _ _ _ h => h) (Or.inl ⟨by rfl, ?_⟩) ?_ ?_
  rotate_left
  · intro w'
    go_simp
    with_reducible rfl
  rotate_left
  · (try simp only [Act.put, List.setIfInBounds_toArray, List.set_cons_zero, List.set_cons_succ])
    rfl
  refine take_ (i := 1) (N := some 6) (v := ?_) (a' := ?_) #[true, true, false, false, true, false, false, false, false, false] rfl rfl (take_ofW HT_.out HW_.out (by kernel_rfl)) (fun _ _ _ h => h) (Or.inl ⟨by rfl, ?_⟩) hHeld ?_ ?_
  rotate_left
  · intro w' hS_
    have hx_ : w'.cell? ⟨w.heap.size, 0, none⟩ = some (.int .u32 d.nr) := blk_cell hS_ 0
    go_simp
    with_reducible rfl
  rotate_left
  · (try simp only [Act.put, List.setIfInBounds_toArray, List.set_cons_zero, List.set_cons_succ])
    rfl
  refine pure_ (i := 2) (N := some 7) (v := ?_) (a' := ?_) #[true, true, true, false, true, false, false, false, false, false] rfl rfl (any_of HT_.out (by kernel_rfl)) (fun _ _ _ h => h) (Or.inl ⟨by rfl, ?_⟩) ?_ ?_
  rotate_left
  · intro w'
    go_simp
    with_reducible rfl
  rotate_left
  · (try simp only [Act.put, List.setIfInBounds_toArray, List.set_cons_zero, List.set_cons_succ])
    rfl
  refine take_ (i := 5) (N := some 10) (v := ?_) (a' := ?_) #[true, true, true, false, true, true, false, false, false, false] rfl rfl (take_ofW HT_.out HW_.out (by kernel_rfl)) (fun _ _ _ h => h) (Or.inl ⟨by rfl, ?_⟩) hHeld ?_ ?_
  rotate_left
  · intro w' hS_
    have hx_ : w'.cell? ⟨w.heap.size, 1, none⟩ = some (.int .u32 d.ar) := blk_cell hS_ 1
    go_simp
    with_reducible rfl
  rotate_left
  · (try simp only [Act.put, List.setIfInBounds_toArray, List.set_cons_zero, List.set_cons_succ])
    rfl
  refine pure_ (i := 6) (N := some 11) (v := ?_) (a' := ?_) #[true, true, true, false, true, true, true, false, false, false] rfl rfl (any_of HT_.out (by kernel_rfl)) (fun _ _ _ h => h) (Or.inl ⟨by rfl, ?_⟩) ?_ ?_
  rotate_left
  · intro w'
    go_simp
    with_reducible rfl
  rotate_left
  · (try simp only [Act.put, List.setIfInBounds_toArray, List.set_cons_zero, List.set_cons_succ])
    rfl
  refine one_ (i := 3) (N := some 8) #[true, true, true, true, true, true, true, false, false, false] rfl rfl (one_of HT_.out (by kernel_rfl)) (by decide) (fun K hK => ?_)
  refine goes_ Try.func21 (by kernel_rfl) rfl #[.int .u64 (IntKind.u64.wrap d.nr), .int .i64 4] (by rfl) rfl rfl (by (try simp only [List.map_toArray, List.map_cons, List.map_nil]); first | done | rfl) ?_
  refine (low_w d.nr (u32_64 OK.out.hnr) 4 (by omega) _).mono ?_
  rintro e w' ⟨A1, c1, rfl, l1, hC, hB⟩
  refine ⟨_, rfl, ?_⟩
  have HXn := Aside0.mk ((hB.block _ (blk_lt hHeld)).trans hHeld)
  replace HB := Aside0.mk (HB.out.trans (hB.mono HB.out.size))
  have H1 := Aside0.mk hC
  clear hC hB
  clear hHeld
  refine hK.out _ _ (HXn.out) (fun hHeld => ?_)
  clear hK K
  refine norm_ (a' := ?_) ?_ ?_
  rotate_left
  · show Act.put _ (some 8) _ = _
    (try simp only [Act.put, List.setIfInBounds_toArray, List.set_cons_zero, List.set_cons_succ])
    rfl
  refine one_ (i := 7) (N := some 12) #[true, true, true, true, true, true, true, true, false, false] rfl rfl (one_of HT_.out (by kernel_rfl)) (by decide) (fun K hK => ?_)
  refine goes_ Try.func21 (by kernel_rfl) rfl #[.int .u64 (IntKind.u64.wrap d.ar), .int .i64 4] (by rfl) rfl rfl (by (try simp only [List.map_toArray, List.map_cons, List.map_nil]); first | done | rfl) ?_
  refine (low_w d.ar (u32_64 OK.out.har) 4 (by omega) _).mono ?_
  rintro e w' ⟨A2, c2, rfl, l2, hC, hB⟩
  refine ⟨_, rfl, ?_⟩
  clear HXn
  have HXn := Aside0.mk ((hB.block _ (blk_lt hHeld)).trans hHeld)
  replace HB := Aside0.mk (HB.out.trans (hB.mono HB.out.size))
  replace H1 := Aside0.mk (Kd.C_below H1.out hB)
  have H2 := Aside0.mk hC
  clear hC hB
  clear hHeld
  refine hK.out _ _ (HXn.out) (fun hHeld => ?_)
  clear hK K
  refine norm_ (a' := ?_) ?_ ?_
  rotate_left
  · show Act.put _ (some 12) _ = _
    (try simp only [Act.put, List.setIfInBounds_toArray, List.set_cons_zero, List.set_cons_succ])
    rfl
  refine one_ (i := 8) (N := some 13) #[true, true, true, true, true, true, true, true, true, false] rfl rfl (one_of HT_.out (by kernel_rfl)) (by decide) (fun K hK => ?_)
  refine goes_ Try.func55 (by kernel_rfl) rfl #[.slice A1 4 c1, .slice A2 4 c2] (by rfl) rfl rfl (by (try simp only [List.map_toArray, List.map_cons, List.map_nil]); first | done | rfl) ?_
  refine (both_c A1 A2 4 4 c1 c2 8 _ _ _ H1.out l1 H2.out l2 (by omega) (by omega) rfl).mono ?_
  rintro e w' ⟨A3, c3, rfl, l3, hC, hB⟩
  refine ⟨_, rfl, ?_⟩
  clear HXn
  have HXn := Aside0.mk ((hB.block _ (blk_lt hHeld)).trans hHeld)
  replace HB := Aside0.mk (HB.out.trans (hB.mono HB.out.size))
  have H3 := Aside0.mk hC
  clear hC hB H1 H2
  clear hHeld
  refine hK.out _ _ (HXn.out) (fun hHeld => ?_)
  clear hK K
  refine norm_ (a' := ?_) ?_ ?_
  rotate_left
  · show Act.put _ (some 13) _ = _
    (try simp only [Act.put, List.setIfInBounds_toArray, List.set_cons_zero, List.set_cons_succ])
    rfl
  refine pure_ (i := 9) (N := some 3) (v := ?_) (a' := ?_) #[true, true, true, true, true, true, true, true, true, true] rfl rfl (any_of HT_.out (by kernel_rfl)) (fun _ _ _ h => h) (Or.inl ⟨by rfl, ?_⟩) ?_ ?_
  rotate_left
  · intro w'
    go_simp
    with_reducible rfl
  rotate_left
  · (try simp only [Act.put, List.setIfInBounds_toArray, List.set_cons_zero, List.set_cons_succ])
    rfl
  refine done_ (done_of HT_.out (by kernel_rfl)) ?_
  have HX := Aside0.mk hHeld
  clear hHeld HXn
  have hc2 : World.cell? _ ⟨w.heap.size, 2, none⟩ = some (.int .u64 d.ip) := blk_cell HX.out 2
  go_wp2_with fail
  clear hc2
  refine (low_c d.ip OK.out.hip.1 8 (by omega) _).mono ?_
  rintro e w' ⟨A4, c4, rfl, l4, hC, hB⟩
  replace HX := Aside0.mk ((hB.block _ (blk_lt HX.out)).trans HX.out)
  replace HB := Aside0.mk (HB.out.trans (hB.mono HB.out.size))
  replace H3 := Aside0.mk (Kd.C_below H3.out hB)
  clear hB
  have H4 := Aside0.mk hC
  clear hC
  go_wp2_with fail
  refine (both_c A3 A4 8 8 c3 c4 16 _ _ _ H3.out l3 H4.out l4 (by omega) (by omega) rfl).mono ?_
  rintro e w' ⟨A5, c5, rfl, l5, hC, hB⟩
  replace HX := Aside0.mk ((hB.block _ (blk_lt HX.out)).trans HX.out)
  replace HB := Aside0.mk (HB.out.trans (hB.mono HB.out.size))
  clear hB
  have H5 := Aside0.mk hC
  clear hC H3 H4
  go_wp2_with fail
  go_loopw [3, 4] (fun v3 v4 wr => ∃ (k : Nat) (A : Option Addr) (c : Nat), k ≤ 6 ∧ v4 = .int .i64 k ∧ v3 = .slice A (16 + 8 * k) c ∧ 16 + 8 * k ≤ c ∧ Aside0 (Kd.C (Kd.int .u8) wr A (16 + 8 * k) (d.pre k)) ∧ Aside0 (wr.heap[w.heap.size]? = some (.cells #[.int .u32 d.nr, .int .u32 d.ar, .int .u64 d.ip, .int .u64 d.a0, .int .u64 d.a1, .int .u64 d.a2, .int .u64 d.a3, .int .u64 d.a4, .int .u64 d.a5] 58 (0, 0))) ∧ Aside0 (Below w.heap.size w wr)) (fun _ v4 _ => 6 - (intOf v4).toNat)
  case atStart => exact ⟨0, A5, c5, by omega, rfl, rfl, l5, H5, HX, HB⟩
  case round =>
    clear H5 HB HX
    obtain ⟨k, A, c, hk, rfl, rfl, hc, HC, HX, HB⟩ := hrel
    by_cases hlt : k < 6
    · obtain rfl | rfl | rfl | rfl | rfl | rfl : k = 0 ∨ k = 1 ∨ k = 2 ∨ k = 3 ∨ k = 4 ∨ k = 5 := by omega
      · have hck : World.cell? _ ⟨w.heap.size, 3, none⟩ = some (.int .u64 d.a0) := blk_cell HX.out 3
        go_wp2_with fail
        clear hck
        refine (low_c d.a0 OK.out.ha0.1 8 (by omega) _).mono ?_
        rintro e w' ⟨A4, c4, rfl, l4, hC, hB⟩
        replace HX := Aside0.mk ((hB.block _ (blk_lt HX.out)).trans HX.out)
        replace HB := Aside0.mk (HB.out.trans (hB.mono HB.out.size))
        replace HC := Aside0.mk (Kd.C_below HC.out hB)
        clear hB
        have H4 := Aside0.mk hC
        clear hC
        go_wp2_with fail
        refine (both_c A A4 16 8 c c4 24 (d.pre 0) _ _ HC.out (by omega) H4.out l4 (by omega) (by omega) rfl).mono ?_
        rintro e w' ⟨A', c', rfl, l', hC, hB⟩
        replace HX := Aside0.mk ((hB.block _ (blk_lt HX.out)).trans HX.out)
        replace HB := Aside0.mk (HB.out.trans (hB.mono HB.out.size))
        clear hB
        go_wp2
        go_roundw
        case rel => exact ⟨1, A', c', by omega, rfl, rfl, by omega, ⟨hC⟩, HX, HB⟩
        case measure => simp [intOf]
      · have hck : World.cell? _ ⟨w.heap.size, 4, none⟩ = some (.int .u64 d.a1) := blk_cell HX.out 4
        go_wp2_with fail
        clear hck
        refine (low_c d.a1 OK.out.ha1.1 8 (by omega) _).mono ?_
        rintro e w' ⟨A4, c4, rfl, l4, hC, hB⟩
        replace HX := Aside0.mk ((hB.block _ (blk_lt HX.out)).trans HX.out)
        replace HB := Aside0.mk (HB.out.trans (hB.mono HB.out.size))
        replace HC := Aside0.mk (Kd.C_below HC.out hB)
        clear hB
        have H4 := Aside0.mk hC
        clear hC
        go_wp2_with fail
        refine (both_c A A4 24 8 c c4 32 (d.pre 1) _ _ HC.out (by omega) H4.out l4 (by omega) (by omega) rfl).mono ?_
        rintro e w' ⟨A', c', rfl, l', hC, hB⟩
        replace HX := Aside0.mk ((hB.block _ (blk_lt HX.out)).trans HX.out)
        replace HB := Aside0.mk (HB.out.trans (hB.mono HB.out.size))
        clear hB
        go_wp2
        go_roundw
        case rel => exact ⟨2, A', c', by omega, rfl, rfl, by omega, ⟨hC⟩, HX, HB⟩
        case measure => simp [intOf]
      · have hck : World.cell? _ ⟨w.heap.size, 5, none⟩ = some (.int .u64 d.a2) := blk_cell HX.out 5
        go_wp2_with fail
        clear hck
        refine (low_c d.a2 OK.out.ha2.1 8 (by omega) _).mono ?_
        rintro e w' ⟨A4, c4, rfl, l4, hC, hB⟩
        replace HX := Aside0.mk ((hB.block _ (blk_lt HX.out)).trans HX.out)
        replace HB := Aside0.mk (HB.out.trans (hB.mono HB.out.size))
        replace HC := Aside0.mk (Kd.C_below HC.out hB)
        clear hB
        have H4 := Aside0.mk hC
        clear hC
        go_wp2_with fail
        refine (both_c A A4 32 8 c c4 40 (d.pre 2) _ _ HC.out (by omega) H4.out l4 (by omega) (by omega) rfl).mono ?_
        rintro e w' ⟨A', c', rfl, l', hC, hB⟩
        replace HX := Aside0.mk ((hB.block _ (blk_lt HX.out)).trans HX.out)
        replace HB := Aside0.mk (HB.out.trans (hB.mono HB.out.size))
        clear hB
        go_wp2
        go_roundw
        case rel => exact ⟨3, A', c', by omega, rfl, rfl, by omega, ⟨hC⟩, HX, HB⟩
        case measure => simp [intOf]
      · have hck : World.cell? _ ⟨w.heap.size, 6, none⟩ = some (.int .u64 d.a3) := blk_cell HX.out 6
        go_wp2_with fail
        clear hck
        refine (low_c d.a3 OK.out.ha3.1 8 (by omega) _).mono ?_
        rintro e w' ⟨A4, c4, rfl, l4, hC, hB⟩
        replace HX := Aside0.mk ((hB.block _ (blk_lt HX.out)).trans HX.out)
        replace HB := Aside0.mk (HB.out.trans (hB.mono HB.out.size))
        replace HC := Aside0.mk (Kd.C_below HC.out hB)
        clear hB
        have H4 := Aside0.mk hC
        clear hC
        go_wp2_with fail
        refine (both_c A A4 40 8 c c4 48 (d.pre 3) _ _ HC.out (by omega) H4.out l4 (by omega) (by omega) rfl).mono ?_
        rintro e w' ⟨A', c', rfl, l', hC, hB⟩
        replace HX := Aside0.mk ((hB.block _ (blk_lt HX.out)).trans HX.out)
        replace HB := Aside0.mk (HB.out.trans (hB.mono HB.out.size))
        clear hB
        go_wp2
        go_roundw
        case rel => exact ⟨4, A', c', by omega, rfl, rfl, by omega, ⟨hC⟩, HX, HB⟩
        case measure => simp [intOf]
      · have hck : World.cell? _ ⟨w.heap.size, 7, none⟩ = some (.int .u64 d.a4) := blk_cell HX.out 7
        go_wp2_with fail
        clear hck
        refine (low_c d.a4 OK.out.ha4.1 8 (by omega) _).mono ?_
        rintro e w' ⟨A4, c4, rfl, l4, hC, hB⟩
        replace HX := Aside0.mk ((hB.block _ (blk_lt HX.out)).trans HX.out)
        replace HB := Aside0.mk (HB.out.trans (hB.mono HB.out.size))
        replace HC := Aside0.mk (Kd.C_below HC.out hB)
        clear hB
        have H4 := Aside0.mk hC
        clear hC
        go_wp2_with fail
        refine (both_c A A4 48 8 c c4 56 (d.pre 4) _ _ HC.out (by omega) H4.out l4 (by omega) (by omega) rfl).mono ?_
        rintro e w' ⟨A', c', rfl, l', hC, hB⟩
        replace HX := Aside0.mk ((hB.block _ (blk_lt HX.out)).trans HX.out)
        replace HB := Aside0.mk (HB.out.trans (hB.mono HB.out.size))
        clear hB
        go_wp2
        go_roundw
        case rel => exact ⟨5, A', c', by omega, rfl, rfl, by omega, ⟨hC⟩, HX, HB⟩
        case measure => simp [intOf]
      · have hck : World.cell? _ ⟨w.heap.size, 8, none⟩ = some (.int .u64 d.a5) := blk_cell HX.out 8
        go_wp2_with fail
        clear hck
        refine (low_c d.a5 OK.out.ha5.1 8 (by omega) _).mono ?_
        rintro e w' ⟨A4, c4, rfl, l4, hC, hB⟩
        replace HX := Aside0.mk ((hB.block _ (blk_lt HX.out)).trans HX.out)
        replace HB := Aside0.mk (HB.out.trans (hB.mono HB.out.size))
        replace HC := Aside0.mk (Kd.C_below HC.out hB)
        clear hB
        have H4 := Aside0.mk hC
        clear hC
        go_wp2_with fail
        refine (both_c A A4 56 8 c c4 64 (d.pre 5) _ _ HC.out (by omega) H4.out l4 (by omega) (by omega) rfl).mono ?_
        rintro e w' ⟨A', c', rfl, l', hC, hB⟩
        replace HX := Aside0.mk ((hB.block _ (blk_lt HX.out)).trans HX.out)
        replace HB := Aside0.mk (HB.out.trans (hB.mono HB.out.size))
        clear hB
        go_wp2
        go_roundw
        case rel => exact ⟨6, A', c', by omega, rfl, rfl, by omega, ⟨hC⟩, HX, HB⟩
        case measure => simp [intOf]
    · obtain rfl : k = 6 := by omega
      go_wp2
      go_ret
      exact ⟨A, c, rfl, by omega, HC.out, HB.out⟩
end Go.Proofs.Ytpejeeemefmafaa.RD
