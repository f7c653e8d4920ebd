import Derived.Test.YtpejeeemefmafaaOI
namespace Go.Proofs.Ytpejeeemefmafaa.RD
open Go.RowKit Go.Proofs.YtpejeeemefmafaaW.PrintWords Go.Proofs.YtpejeeemefmafaaW.PrintLast Go.Proofs.YtpejeeemefmafaaW.PrintMore
open Go.Proofs.Ytpejeeemefmafaa.PE.L (below_drewN' below_drew')
open PH
set_option linter.unusedVariables false
set_option linter.unusedSimpArgs false
/-- A call's data. -/
structure Dt where
  (nr ar ip a0 a1 a2 a3 a4 a5 : Int)
def u32R (x : Int) : Prop := 0 ≤ x ∧ x < 4294967296
def u64R (x : Int) : Prop := 0 ≤ x ∧ x < 18446744073709551616
structure Dt.Ok (d : Dt) : Prop where
  hnr : u32R d.nr
  har : u32R d.ar
  hip : u64R d.ip
  ha0 : u64R d.a0
  ha1 : u64R d.a1
  ha2 : u64R d.a2
  ha3 : u64R d.a3
  ha4 : u64R d.a4
  ha5 : u64R d.a5
def Dt.pre (d : Dt) : Nat → List Int
  | 0 => bs 4 d.nr ++ bs 4 d.ar ++ bs 8 d.ip
  | 1 => bs 4 d.nr ++ bs 4 d.ar ++ bs 8 d.ip ++ bs 8 d.a0
  | 2 => bs 4 d.nr ++ bs 4 d.ar ++ bs 8 d.ip ++ bs 8 d.a0 ++ bs 8 d.a1
  | 3 => bs 4 d.nr ++ bs 4 d.ar ++ bs 8 d.ip ++ bs 8 d.a0 ++ bs 8 d.a1 ++ bs 8 d.a2
  | 4 => bs 4 d.nr ++ bs 4 d.ar ++ bs 8 d.ip ++ bs 8 d.a0 ++ bs 8 d.a1 ++ bs 8 d.a2 ++ bs 8 d.a3
  | 5 => bs 4 d.nr ++ bs 4 d.ar ++ bs 8 d.ip ++ bs 8 d.a0 ++ bs 8 d.a1 ++ bs 8 d.a2 ++ bs 8 d.a3 ++ bs 8 d.a4
  | _ => bs 4 d.nr ++ bs 4 d.ar ++ bs 8 d.ip ++ bs 8 d.a0 ++ bs 8 d.a1 ++ bs 8 d.a2 ++ bs 8 d.a3 ++ bs 8 d.a4 ++ bs 8 d.a5
def Dt.bytes (d : Dt) : List Int := d.pre 6
theorem row_of_out {n : Nat} {r : List Int} {w : World} {e : Ending} {w' : World} (h : OutPost n r w e w') (hn : r.length = n) : RowPost n r w e w' := by
  obtain ⟨b, c, rfl, hc, _, _, hR, hB⟩ := h
  exact ⟨_, c, rfl, hc, by have := (Kd.R_reads' hR).2.2; rw [hn] at this; exact this, hB⟩
theorem put32_r (A : Option Addr) (n c m : Nat) (l : List Int) (a : Int) (h : u32R a) (w : World) (hC : Kd.C (Kd.int .u8) w A n l) (hc : n ≤ c) (hn : n < 5000) (hm : m = n + 4) : Calls Try.prog 20 #[.slice A n c, .int .u32 a] w (RowPost m (l ++ bs 4 a) w) := by
  subst hm
  have e : (l ++ bs 4 a).length = n + 4 := by simp [bs_length, Kd.C_len hC]
  exact (put32_l A n c l a h.1 h.2 w hC hc hn).mono fun _ _ h => row_of_out h e
theorem put64_r (A : Option Addr) (n c m : Nat) (l : List Int) (a : Int) (h : u64R a) (w : World) (hC : Kd.C (Kd.int .u8) w A n l) (hc : n ≤ c) (hn : n < 5000) (hm : m = n + 8) : Calls Try.prog 18 #[.slice A n c, .int .u64 a] w (RowPost m (l ++ bs 8 a) w) := by
  subst hm
  have e : (l ++ bs 8 a).length = n + 8 := by simp [bs_length, Kd.C_len hC]
  exact (put64_l A n c l a h.1 h.2 w hC hc hn).mono fun _ _ h => row_of_out h e
def encode.T1 : Bool × List (List Nat × List Nat) := (true, [([], []), ([0], [0]), ([1], [1]), ([], []), ([3], [3]), ([2, 4, 2], [2, 4]), ([], []), ([6], [6]), ([5, 7, 5], [5, 7]), ([8, 8, 0, 1, 2, 3, 4, 5, 6, 7, 8], [8])])
def encode.B1 : List Nat := [0, 1, 3, 0, 8, 31, 0, 64, 255, 511]
theorem encode.tab1 : rtab .any (opsOf Try.f38 1) = encode.T1 := by kernel_rfl
theorem encode.bits1 : waitsOk encode.T1.2 encode.B1 = true := by kernel_rfl
set_option maxHeartbeats 4000000 in
set_option maxRecDepth 100000 in
theorem enc_c (d : Dt) (ok : d.Ok) (w : World) : Calls Try.prog 38 #[.agg #[.int .u32 d.nr, .int .u32 d.ar, .int .u64 d.ip, .int .u64 d.a0, .int .u64 d.a1, .int .u64 d.a2, .int .u64 d.a3, .int .u64 d.a4, .int .u64 d.a5]] w (RowPost 64 d.bytes w) := by
  unfold RowPost
  have OK := Aside0.mk ok
  clear ok
  go_enter Try.func38, Try.ntmps38
  go_wp2_with fail
  have HX := Aside0.mk (heap_alloc_new w (.cells #[.int .u32 d.nr, .int .u32 d.ar, .int .u64 d.ip, .int .u64 d.a0, .int .u64 d.a1, .int .u64 d.a2, .int .u64 d.a3, .int .u64 d.a4, .int .u64 d.a5] 58))
  have HB := Aside0.mk (below_alloc (Below.refl w.heap.size w) (.cells #[.int .u32 d.nr, .int .u32 d.ar, .int .u64 d.ip, .int .u64 d.a0, .int .u64 d.a1, .int .u64 d.a2, .int .u64 d.a3, .int .u64 d.a4, .int .u64 d.a5] 58))
  have HXd := HX.out
  replace HB := Aside0.mk (below_drew' HB.out)
  clear HX
  refine start_ (n := 10) (S := fun w' => w'.heap[w.heap.size]? = some (.cells #[.int .u32 d.nr, .int .u32 d.ar, .int .u64 d.ip, .int .u64 d.a0, .int .u64 d.a1, .int .u64 d.a2, .int .u64 d.a3, .int .u64 d.a4, .int .u64 d.a5] 58 (0, 0))) (ds := []) #[false, false, false, false, false, false, false, false, false, false] (by kernel_rfl) rfl rfl (HXd) (fun hHeld => ?_); refine with_tabW encode.tab1 encode.bits1 (fun HT_ HW_ => ?_)
  clear HXd
  generalize World.drew _ = W9 at HB hHeld ⊢
  refine pure_ (i := 0) (N := some 6) (v := ?_) (a' := ?_) #[true, false, false, false, false, false, false, false, false, false] rfl rfl (any_of HT_.out (by kernel_rfl)) (fun _ _ _ h => h) (Or.inl ⟨by rfl, ?_⟩) ?_ ?_
  rotate_left
  · intro w'
    go_simp
    with_reducible rfl
  rotate_left
  · (try simp only [Act.put, List.setIfInBounds_toArray, List.set_cons_zero, List.set_cons_succ])
    rfl
  refine pure_ (i := 3) (N := some 9) (v := ?_) (a' := ?_) #[true, false, false, true, false, false, false, false, false, false] rfl rfl (any_of HT_.out (by kernel_rfl)) (fun _ _ _ h => h) (Or.inl ⟨by rfl, ?_⟩) ?_ ?_
  rotate_left
  · intro w'
    go_simp
    with_reducible rfl
  rotate_left
  · (try simp only [Act.put, List.setIfInBounds_toArray, List.set_cons_zero, List.set_cons_succ])
    rfl
  refine pure_ (i := 6) (N := some 12) (v := ?_) (a' := ?_) #[true, false, false, true, false, false, true, false, false, false] rfl rfl (any_of HT_.out (by kernel_rfl)) (fun _ _ _ h => h) (Or.inl ⟨by rfl, ?_⟩) ?_ ?_
  rotate_left
  · intro w'
    go_simp
    with_reducible rfl
  rotate_left
  · (try simp only [Act.put, List.setIfInBounds_toArray, List.set_cons_zero, List.set_cons_succ])
    rfl
  refine take_ (i := 1) (N := some 7) (v := ?_) (a' := ?_) #[true, true, false, true, false, false, true, false, false, false] rfl rfl (take_ofW HT_.out HW_.out (by kernel_rfl)) (fun _ _ _ h => h) (Or.inl ⟨by rfl, ?_⟩) hHeld ?_ ?_
  rotate_left
  · intro w' hS_
    have hx_ : w'.cell? ⟨w.heap.size, 0, none⟩ = some (.int .u32 d.nr) := blk_cell hS_ 0
    go_simp
    with_reducible rfl
  rotate_left
  · (try simp only [Act.put, List.setIfInBounds_toArray, List.set_cons_zero, List.set_cons_succ])
    rfl
  refine take_ (i := 4) (N := some 10) (v := ?_) (a' := ?_) #[true, true, false, true, true, false, true, false, false, false] rfl rfl (take_ofW HT_.out HW_.out (by kernel_rfl)) (fun _ _ _ h => h) (Or.inl ⟨by rfl, ?_⟩) hHeld ?_ ?_
  rotate_left
  · intro w' hS_
    have hx_ : w'.cell? ⟨w.heap.size, 1, none⟩ = some (.int .u32 d.ar) := blk_cell hS_ 1
    go_simp
    with_reducible rfl
  rotate_left
  · (try simp only [Act.put, List.setIfInBounds_toArray, List.set_cons_zero, List.set_cons_succ])
    rfl
  refine take_ (i := 7) (N := some 13) (v := ?_) (a' := ?_) #[true, true, false, true, true, false, true, true, false, false] rfl rfl (take_ofW HT_.out HW_.out (by kernel_rfl)) (fun _ _ _ h => h) (Or.inl ⟨by rfl, ?_⟩) hHeld ?_ ?_
  rotate_left
  · intro w' hS_
    have hx_ : w'.cell? ⟨w.heap.size, 2, none⟩ = some (.int .u64 d.ip) := blk_cell hS_ 2
    go_simp
    with_reducible rfl
  rotate_left
  · (try simp only [Act.put, List.setIfInBounds_toArray, List.set_cons_zero, List.set_cons_succ])
    rfl
  refine one_ (i := 2) (N := some 8) #[true, true, true, true, true, false, true, true, false, false] rfl rfl (one_of HT_.out (by kernel_rfl)) (by decide) (fun K hK => ?_)
  refine goes_ Try.func20 (by kernel_rfl) rfl #[.slice none 0 0, .int .u32 d.nr] (by rfl) rfl rfl (by (try simp only [List.map_toArray, List.map_cons, List.map_nil]); first | done | rfl) ?_
  refine (put32_r none 0 0 4 [] d.nr OK.out.hnr _ (Kd.C_nil _ _) (Nat.le_refl _) (by omega) rfl).mono ?_
  rintro e w' ⟨A1, c1, rfl, l1, hC, hB⟩
  refine ⟨_, rfl, ?_⟩
  have HXn := Aside0.mk ((hB.block _ (blk_lt hHeld)).trans hHeld)
  replace HB := Aside0.mk (HB.out.trans (hB.mono HB.out.size))
  have H1 := Aside0.mk hC
  clear hC hB
  clear hHeld
  refine hK.out _ _ (HXn.out) (fun hHeld => ?_)
  clear hK K
  refine norm_ (a' := ?_) ?_ ?_
  rotate_left
  · show Act.put _ (some 8) _ = _
    (try simp only [Act.put, List.setIfInBounds_toArray, List.set_cons_zero, List.set_cons_succ])
    rfl
  refine one_ (i := 5) (N := some 11) #[true, true, true, true, true, true, true, true, false, false] rfl rfl (one_of HT_.out (by kernel_rfl)) (by decide) (fun K hK => ?_)
  refine goes_ Try.func20 (by kernel_rfl) rfl #[.slice A1 4 c1, .int .u32 d.ar] (by rfl) rfl rfl (by (try simp only [List.map_toArray, List.map_cons, List.map_nil]); first | done | rfl) ?_
  refine (put32_r A1 4 c1 8 _ d.ar OK.out.har _ H1.out l1 (by omega) rfl).mono ?_
  rintro e w' ⟨A2, c2, rfl, l2, hC, hB⟩
  refine ⟨_, rfl, ?_⟩
  clear HXn
  have HXn := Aside0.mk ((hB.block _ (blk_lt hHeld)).trans hHeld)
  replace HB := Aside0.mk (HB.out.trans (hB.mono HB.out.size))
  have H2 := Aside0.mk hC
  clear hC hB H1
  clear hHeld
  refine hK.out _ _ (HXn.out) (fun hHeld => ?_)
  clear hK K
  refine norm_ (a' := ?_) ?_ ?_
  rotate_left
  · show Act.put _ (some 11) _ = _
    (try simp only [Act.put, List.setIfInBounds_toArray, List.set_cons_zero, List.set_cons_succ])
    rfl
  refine one_ (i := 8) (N := some 14) #[true, true, true, true, true, true, true, true, true, false] rfl rfl (one_of HT_.out (by kernel_rfl)) (by decide) (fun K hK => ?_)
  refine goes_ Try.func18 (by kernel_rfl) rfl #[.slice A2 8 c2, .int .u64 d.ip] (by rfl) rfl rfl (by (try simp only [List.map_toArray, List.map_cons, List.map_nil]); first | done | rfl) ?_
  refine (put64_r A2 8 c2 16 _ d.ip OK.out.hip _ H2.out l2 (by omega) rfl).mono ?_
  rintro e w' ⟨A3, c3, rfl, l3, hC, hB⟩
  refine ⟨_, rfl, ?_⟩
  clear HXn
  have HXn := Aside0.mk ((hB.block _ (blk_lt hHeld)).trans hHeld)
  replace HB := Aside0.mk (HB.out.trans (hB.mono HB.out.size))
  have H3 := Aside0.mk hC
  clear hC hB H2
  clear hHeld
  refine hK.out _ _ (HXn.out) (fun hHeld => ?_)
  clear hK K
  refine norm_ (a' := ?_) ?_ ?_
  rotate_left
  · show Act.put _ (some 14) _ = _
    (try simp only [Act.put, List.setIfInBounds_toArray, List.set_cons_zero, List.set_cons_succ])
    rfl
  refine pure_ (i := 9) (N := some 3) (v := ?_) (a' := ?_) #[true, true, true, true, true, true, true, true, true, true] rfl rfl (any_of HT_.out (by kernel_rfl)) (fun _ _ _ h => h) (Or.inl ⟨by rfl, ?_⟩) ?_ ?_
  rotate_left
  · intro w'
    go_simp
    with_reducible rfl
  rotate_left
  · (try simp only [Act.put, List.setIfInBounds_toArray, List.set_cons_zero, List.set_cons_succ])
    rfl
  refine done_ (done_of HT_.out (by kernel_rfl)) ?_
  have HX := Aside0.mk hHeld
  clear hHeld HXn
  have hc0 : World.cell? _ ⟨w.heap.size, 0, none⟩ = some (.int .u32 d.nr) := blk_cell HX.out 0
  have hc1 : World.cell? _ ⟨w.heap.size, 1, none⟩ = some (.int .u32 d.ar) := blk_cell HX.out 1
  have hc2 : World.cell? _ ⟨w.heap.size, 2, none⟩ = some (.int .u64 d.ip) := blk_cell HX.out 2
  have hc3 : World.cell? _ ⟨w.heap.size, 3, none⟩ = some (.int .u64 d.a0) := blk_cell HX.out 3
  have hc4 : World.cell? _ ⟨w.heap.size, 4, none⟩ = some (.int .u64 d.a1) := blk_cell HX.out 4
  have hc5 : World.cell? _ ⟨w.heap.size, 5, none⟩ = some (.int .u64 d.a2) := blk_cell HX.out 5
  have hc6 : World.cell? _ ⟨w.heap.size, 6, none⟩ = some (.int .u64 d.a3) := blk_cell HX.out 6
  have hc7 : World.cell? _ ⟨w.heap.size, 7, none⟩ = some (.int .u64 d.a4) := blk_cell HX.out 7
  have hc8 : World.cell? _ ⟨w.heap.size, 8, none⟩ = some (.int .u64 d.a5) := blk_cell HX.out 8
  go_wp2_with fail
  clear hc0 hc1 hc2 hc3 hc4 hc5 hc6 hc7 hc8
  go_loopw [3, 17] (fun v3 v17 wr => ∃ (k : Nat) (A : Option Addr) (c : Nat), k ≤ 6 ∧ v17 = .int .i64 k ∧ v3 = .slice A (16 + 8 * k) c ∧ 16 + 8 * k ≤ c ∧ Aside0 (Kd.C (Kd.int .u8) wr A (16 + 8 * k) (d.pre k)) ∧ Aside0 (Below w.heap.size w wr)) (fun _ v17 _ => 6 - (intOf v17).toNat)
  case atStart => exact ⟨0, A3, c3, by omega, rfl, rfl, l3, ⟨by rw [List.nil_append] at H3; exact H3.out⟩, HB⟩
  case round =>
    clear H3 HB HX
    obtain ⟨k, A, c, hk, rfl, rfl, hc, HC, HB⟩ := hrel
    by_cases hlt : k < 6
    · obtain rfl | rfl | rfl | rfl | rfl | rfl : k = 0 ∨ k = 1 ∨ k = 2 ∨ k = 3 ∨ k = 4 ∨ k = 5 := by omega
      · have ix : ∀ w : World, (Instr.index 56 (.agg #[.int .u64 d.a0, .int .u64 d.a1, .int .u64 d.a2, .int .u64 d.a3, .int .u64 d.a4, .int .u64 d.a5]) (.int .i64 0)).run Try.prog w = .ok (.int .u64 d.a0) w := fun _ => by kernel_rfl
        go_wp2_with fail
        refine (put64_r A 16 c 24 (d.pre 0) d.a0 OK.out.ha0 _ HC.out (by omega) (by omega) rfl).mono ?_
        rintro e w' ⟨A', c', rfl, l', hC, hB⟩
        go_wp2
        go_roundw
        case rel => exact ⟨1, A', c', by omega, rfl, rfl, by omega, ⟨hC⟩, ⟨HB.out.trans (hB.mono HB.out.size)⟩⟩
        case measure => simp [intOf]
      · have ix : ∀ w : World, (Instr.index 56 (.agg #[.int .u64 d.a0, .int .u64 d.a1, .int .u64 d.a2, .int .u64 d.a3, .int .u64 d.a4, .int .u64 d.a5]) (.int .i64 1)).run Try.prog w = .ok (.int .u64 d.a1) w := fun _ => by kernel_rfl
        go_wp2_with fail
        refine (put64_r A 24 c 32 (d.pre 1) d.a1 OK.out.ha1 _ HC.out (by omega) (by omega) rfl).mono ?_
        rintro e w' ⟨A', c', rfl, l', hC, hB⟩
        go_wp2
        go_roundw
        case rel => exact ⟨2, A', c', by omega, rfl, rfl, by omega, ⟨hC⟩, ⟨HB.out.trans (hB.mono HB.out.size)⟩⟩
        case measure => simp [intOf]
      · have ix : ∀ w : World, (Instr.index 56 (.agg #[.int .u64 d.a0, .int .u64 d.a1, .int .u64 d.a2, .int .u64 d.a3, .int .u64 d.a4, .int .u64 d.a5]) (.int .i64 2)).run Try.prog w = .ok (.int .u64 d.a2) w := fun _ => by kernel_rfl
        go_wp2_with fail
        refine (put64_r A 32 c 40 (d.pre 2) d.a2 OK.out.ha2 _ HC.out (by omega) (by omega) rfl).mono ?_
        rintro e w' ⟨A', c', rfl, l', hC, hB⟩
        go_wp2
        go_roundw
        case rel => exact ⟨3, A', c', by omega, rfl, rfl, by omega, ⟨hC⟩, ⟨HB.out.trans (hB.mono HB.out.size)⟩⟩
        case measure => simp [intOf]
      · have ix : ∀ w : World, (Instr.index 56 (.agg #[.int .u64 d.a0, .int .u64 d.a1, .int .u64 d.a2, .int .u64 d.a3, .int .u64 d.a4, .int .u64 d.a5]) (.int .i64 3)).run Try.prog w = .ok (.int .u64 d.a3) w := fun _ => by kernel_rfl
        go_wp2_with fail
        refine (put64_r A 40 c 48 (d.pre 3) d.a3 OK.out.ha3 _ HC.out (by omega) (by omega) rfl).mono ?_
        rintro e w' ⟨A', c', rfl, l', hC, hB⟩
        go_wp2
        go_roundw
        case rel => exact ⟨4, A', c', by omega, rfl, rfl, by omega, ⟨hC⟩, ⟨HB.out.trans (hB.mono HB.out.size)⟩⟩
        case measure => simp [intOf]
      · have ix : ∀ w : World, (Instr.index 56 (.agg #[.int .u64 d.a0, .int .u64 d.a1, .int .u64 d.a2, .int .u64 d.a3, .int .u64 d.a4, .int .u64 d.a5]) (.int .i64 4)).run Try.prog w = .ok (.int .u64 d.a4) w := fun _ => by kernel_rfl
        go_wp2_with fail
        refine (put64_r A 48 c 56 (d.pre 4) d.a4 OK.out.ha4 _ HC.out (by omega) (by omega) rfl).mono ?_
        rintro e w' ⟨A', c', rfl, l', hC, hB⟩
        go_wp2
        go_roundw
        case rel => exact ⟨5, A', c', by omega, rfl, rfl, by omega, ⟨hC⟩, ⟨HB.out.trans (hB.mono HB.out.size)⟩⟩
        case measure => simp [intOf]
      · have ix : ∀ w : World, (Instr.index 56 (.agg #[.int .u64 d.a0, .int .u64 d.a1, .int .u64 d.a2, .int .u64 d.a3, .int .u64 d.a4, .int .u64 d.a5]) (.int .i64 5)).run Try.prog w = .ok (.int .u64 d.a5) w := fun _ => by kernel_rfl
        go_wp2_with fail
        refine (put64_r A 56 c 64 (d.pre 5) d.a5 OK.out.ha5 _ HC.out (by omega) (by omega) rfl).mono ?_
        rintro e w' ⟨A', c', rfl, l', hC, hB⟩
        go_wp2
        go_roundw
        case rel => exact ⟨6, A', c', by omega, rfl, rfl, by omega, ⟨hC⟩, ⟨HB.out.trans (hB.mono HB.out.size)⟩⟩
        case measure => simp [intOf]
    · obtain rfl : k = 6 := by omega
      go_wp2
      go_ret
      exact ⟨A, c, rfl, by omega, HC.out, HB.out⟩
end Go.Proofs.Ytpejeeemefmafaa.RD
