import Derived.Test.YtcpabgijmknldaaDoorUC
namespace Go.Proofs.YtcpabgijmknldaaDoor.RG
open Go.RowKit Go.Shelf Go.Proofs.YtcpabgijmknldaaDoorW.PrintWords Go.Proofs.YtcpabgijmknldaaDoorW.PrintLast Go.Proofs.YtcpabgijmknldaaDoorW.PrintMore
open Go.Proofs.YtcpabgijmknldaaDoor.PS (S29 S31 k29 k31 k31_open k31_openM k31_mkM k31_mk rd_T31 at_T31 z31 Rok rd_at Wide Dat)
set_option linter.unusedVariables false
set_option linter.unusedSimpArgs false
attribute [local go_sem high] PS.U.eqA31 PS.U.eqA29
theorem al_keep {w : World} {g : Nat} {ob o : Obj} (h : w.heap[g]? = some ob) : (w.alloc o).heap[g]? = some ob := (Below.heap_alloc w o g (Array.getElem?_eq_some_iff.1 h).1).trans h
theorem bel_al {w w' : World} (h : Below w.heap.size w w') (o : Obj) : Below w.heap.size w (w'.alloc o) := h.alloc h.size o
/-- What the law's world keeps. -/
structure Rings (w : World) (a0 a1 : Int) (A0 : Option Addr) (c0 : Nat) (l0 : List S31) (b0 b1 : Int) (A1 : Option Addr) (c1 : Nat) (l1 : List S31) (W : World) : Prop where
  bel : Below w.heap.size w W
  r : W.heap[w.heap.size]? = some (.cells #[.int .i64 a0, .int .u64 a1, .slice A0 l0.length c0] 25 (0, 0))
  o : W.heap[w.heap.size + 1]? = some (.cells #[.int .i64 b0, .int .u64 b1, .slice A1 l1.length c1] 25 (0, 0))
  cr : Kd.C k31 W A0 l0.length l0
  co : Kd.C k31 W A1 l1.length l1
  tab : Go.Proofs.YtcpabgijmknldaaDoor.PE.L.Tab W
section
variable {w : World} {a0 a1 b0 b1 : Int} {A0 A1 : Option Addr} {c0 c1 : Nat} {l0 l1 : List S31} {W W' : World}
theorem Rings.below (h : Rings w a0 a1 A0 c0 l0 b0 b1 A1 c1 l1 W) (hb : Below W.heap.size W W') : Rings w a0 a1 A0 c0 l0 b0 b1 A1 c1 l1 W' :=
  ⟨h.bel.trans (hb.mono h.bel.size), (hb.block _ (blk_lt h.r)).trans h.r, (hb.block _ (blk_lt h.o)).trans h.o, Kd.C_below h.cr hb, Kd.C_below h.co hb, Go.Proofs.YtcpabgijmknldaaDoor.PE.L.Tab.below h.tab hb⟩
theorem Rings.start (hr : Kd.C k31 w A0 l0.length l0) (ho : Kd.C k31 w A1 l1.length l1) (hT : Go.Proofs.YtcpabgijmknldaaDoor.PE.L.Tab w) : Rings w a0 a1 A0 c0 l0 b0 b1 A1 c1 l1 ((w.alloc (.cells #[.int .i64 a0, .int .u64 a1, .slice A0 l0.length c0] 25)).alloc (.cells #[.int .i64 b0, .int .u64 b1, .slice A1 l1.length c1] 25)) := by
  have hB : Below w.heap.size w ((w.alloc (.cells #[.int .i64 a0, .int .u64 a1, .slice A0 l0.length c0] 25)).alloc (.cells #[.int .i64 b0, .int .u64 b1, .slice A1 l1.length c1] 25)) := ((Below.refl _ w).alloc (Nat.le_refl _) _).alloc (by simp) _
  have e := World.alloc_heap_new (w.alloc (.cells #[.int .i64 a0, .int .u64 a1, .slice A0 l0.length c0] 25)) (.cells #[.int .i64 b0, .int .u64 b1, .slice A1 l1.length c1] 25)
  rw [World.size_alloc] at e
  exact ⟨hB, (Below.heap_alloc _ _ _ (by simp)).trans (World.alloc_heap_new w _), e, Kd.C_below hr hB, Kd.C_below ho hB, Go.Proofs.YtcpabgijmknldaaDoor.PE.L.Tab.below hT hB⟩
end
set_option maxRecDepth 100000 in
set_option maxHeartbeats 8000000 in
theorem tells_long (a0 a1 : Int) (A0 : Option Addr) (c0 : Nat) (l0 : List S31) (b0 b1 : Int) (A1 : Option Addr) (c1 : Nat) (l1 : List S31) (rm : Int) (hlen : 200 < l0.length ∨ 200 < l1.length) (w : World) (hr : Kd.C k31 w A0 l0.length l0) (ho : Kd.C k31 w A1 l1.length l1) (hT : Go.Proofs.YtcpabgijmknldaaDoor.PE.L.Tab w) :
    Calls Tryd.prog 6 #[.agg #[.int .i64 a0, .int .u64 a1, .slice A0 l0.length c0], .agg #[.int .i64 b0, .int .u64 b1, .slice A1 l1.length c1], .int .i64 rm] w fun e w' => e = .returned (.bool true) ∧ Below w.heap.size w w' := by
  have F1 := Lib.hid (Rings.start (a0 := a0) (a1 := a1) (c0 := c0) (b0 := b0) (b1 := b1) (c1 := c1) hr ho hT)
  clear hr ho hT
  have hwk : PS.U.wicketgatelaw27_wakes.f = some true := if_pos trivial
  have HWK := Lib.hid hwk
  clear hwk
  by_cases h1 : (200 : Int) < l0.length
  · clear hlen
    go_enter Tryd.func6, Tryd.ntmps6
    go_wp2_with (first | (go_at_call 9; (with_reducible refine (PS.U.wicketgatelaw27_wakes.calls true _ HWK.out F1.out.tab).mono ?_); rintro e1 w2 ⟨rfl, hb2⟩; have F2 := Lib.hid (F1.out.below hb2); have y2 := blk_cell F2.out.r 2; clear hb2))
    go_ret
    exact ⟨rfl, F2.out.bel⟩
  · have h2 : (200 : Int) < l1.length := by omega
    clear hlen
    go_enter Tryd.func6, Tryd.ntmps6
    go_wp2_with (first | (go_at_call 9; (with_reducible refine (PS.U.wicketgatelaw27_wakes.calls true _ HWK.out F1.out.tab).mono ?_); rintro e1 w2 ⟨rfl, hb2⟩; have F2 := Lib.hid (F1.out.below hb2); have y2 := blk_cell F2.out.r 2; have z2 := blk_cell F2.out.o 2; clear hb2))
    go_ret
    exact ⟨rfl, F2.out.bel⟩
def T7 : Bool × List (List Nat × List Nat) := (true, [([], []), ([], []), ([1], [1]), ([0, 2], [0, 2]), ([3], [3]), ([4], [4]), ([5, 4], [4, 5]), ([6, 4, 4], [4, 6]), ([7], [7]), ([8, 7], [7, 8]), ([7, 9, 4], [4, 7, 9]), ([4, 10], [4, 10]), ([11, 7], [11]), ([12], [12]), ([12], [12]), ([13, 14, 12, 12], [12, 13, 14]), ([12], [12]), ([12], [12]), ([16, 17, 15, 12], [12, 16, 17]), ([15, 18, 12], [12, 15, 18]), ([12, 19], [12, 19])])
def B7 : List Nat := [0, 0, 2, 7, 15, 31, 63, 127, 255, 511, 1023, 2047, 4095, 8191, 8191, 32767, 8191, 8191, 262143, 524287, 1048575]
theorem tab7 : rtab .any (opsOf Tryd.f6 7) = T7 := by kernel_rfl
theorem bits7 : waitsOk T7.2 B7 = true := by kernel_rfl

set_option maxRecDepth 100000 in
set_option maxHeartbeats 8000000 in
theorem tells_ok (a0 a1 : Int) (A0 : Option Addr) (c0 : Nat) (l0 : List S31) (b0 b1 : Int) (A1 : Option Addr) (c1 : Nat) (l1 : List S31) (rm : Int) (hlen : l0.length ≤ 200 ∧ l1.length ≤ 200) (hc0 : l0.length ≤ c0) (hc1 : l1.length ≤ c1) (hW : Wide a0 a1 l0) (hR : Rok a0 a1 l0) (w : World) (hr : Kd.C k31 w A0 l0.length l0) (ho : Kd.C k31 w A1 l1.length l1) (hT : Go.Proofs.YtcpabgijmknldaaDoor.PE.L.Tab w) :
    Calls Tryd.prog 6 #[.agg #[.int .i64 a0, .int .u64 a1, .slice A0 l0.length c0], .agg #[.int .i64 b0, .int .u64 b1, .slice A1 l1.length c1], .int .i64 rm] w fun e w' => e = .returned (.bool true) ∧ Below w.heap.size w w' := by
  have F1 := Lib.hid (Rings.start (a0 := a0) (a1 := a1) (c0 := c0) (b0 := b0) (b1 := b1) (c1 := c1) hr ho hT)
  clear hr ho hT
  have hwk : PS.U.wicketgatelaw27_wakes.f = some true := if_pos trivial
  have HWK := Lib.hid hwk
  have hrt : PS.U.wicketgateref27_Right.f a0 a1 l0 = some true := (if_pos hW).trans (congrArg some (decide_eq_true hR))
  have HRT := Lib.hid hrt
  have hck : PS.U.log_Check.f a0 a1 l0 = some 0 := (if_pos hW).trans (congrArg some (if_pos hR))
  have HCK := Lib.hid hck
  have hcp : PS.U.wicketgatelaw27_copied.f a0 a1 l0 = some (a0, a1, l0) := if_pos hW.2.2.2
  have HCP := Lib.hid hcp
  obtain ⟨sm, hs1, hs2⟩ := PS.U.ring_both a0 a1 l0 b0 b1 l1 hW.2.2.2
  have HS1 := Lib.hid hs1
  have HS2 := Lib.hid hs2
  have h1 : ¬ (200 : Int) < l0.length := by omega
  have h2 : ¬ (200 : Int) < l1.length := by omega
  obtain ⟨v1, v2, v3, v4, hwv⟩ : ∃ v1 v2 v3 v4, PS.U.widenV a0 a1 l0 rm = (v1, v2, v3, v4) := ⟨_, _, _, _, rfl⟩
  have hwd := PS.U.widen_f a0 a1 l0 rm hW
  have hrw := PS.U.rwiden_f a0 a1 l0 rm hW
  rw [hwv] at hwd hrw
  have HWD := Lib.hid hwd
  have HRW := Lib.hid hrw
  have hv3 : v3.length ≤ 300 := by
    have e : v3 = (PS.U.widenV a0 a1 l0 rm).2.2.1 := by rw [hwv]
    have := hW.2.2.2
    rw [e]
    unfold PS.U.widenV PS.U.tailN
    repeat' split
    all_goals first | (simp; done) | (simp; omega)
  have HSF := Lib.hid (PS.U.ring_self v1 v2 v3 hv3)
  clear hwd hrw hwv
  clear hwk hrt hck hcp hs1 hs2 hlen
  go_enter Tryd.func6, Tryd.ntmps6
  go_wp2_with (first | (go_at_call 9; (with_reducible refine (PS.U.wicketgatelaw27_wakes.calls true _ HWK.out F1.out.tab).mono ?_); rintro e1 w2 ⟨rfl, hb2⟩; have F2 := Lib.hid (F1.out.below hb2); have y0 := blk_cell F2.out.r 0; have y1 := blk_cell F2.out.r 1; have y2 := blk_cell F2.out.r 2; have z2 := blk_cell F2.out.o 2; clear hb2) | (go_at_call 19; (with_reducible refine (PS.U.wicketgateref27_Right.calls a0 a1 A0 c0 l0 true _ F2.out.cr hc0 HRT.out).mono ?_); rintro e2 w3 ⟨rfl, hb3⟩; have F3 := Lib.hid (F2.out.below hb3); clear hb3 y0 y1 y2 z2; have y0 := blk_cell F3.out.r 0; have y1 := blk_cell F3.out.r 1; have y2 := blk_cell F3.out.r 2) | (go_at_call 10; (with_reducible refine (PS.U.wicketgatelaw27_copied.calls a0 a1 A0 c0 l0 a0 a1 l0 _ F3.out.cr hc0 HCP.out).mono ?_); rintro e3 w4 ⟨v4, rfl, hv4, hb4⟩; obtain ⟨A4, c4, rfl⟩ := Kd.R_slice hv4; have F4 := Lib.hid (F3.out.below hb4); have HV4 := Lib.hid hv4; clear hb4 hv4 y0 y1 y2) | (go_at_call 16; (with_reducible refine (PS.U.log_Check.calls a0 a1 A4 c4 l0 0 _ (Kd.R_reads' HV4.out).2.2 (Kd.R_reads' HV4.out).2.1 HCK.out F4.out.tab).mono ?_); rintro e4 w5 ⟨rfl, hb5⟩; have F5 := Lib.hid (F4.out.below hb5); clear hb5))
  have hu25 := Tryd.underlying25
  have F6 := Lib.hid (F5.out.below (below_drew (Below.refl _ _)))
  refine start_ (n := 21) (S := fun w' => w'.cell? ⟨w.heap.size, 0, none⟩ = some (.int .i64 a0) ∧ w'.cell? ⟨w.heap.size, 1, none⟩ = some (.int .u64 a1) ∧ w'.cell? ⟨w.heap.size, 2, none⟩ = some (.slice A0 l0.length c0) ∧ w'.cell? ⟨w.heap.size + 1, 0, none⟩ = some (.int .i64 b0) ∧ w'.cell? ⟨w.heap.size + 1, 1, none⟩ = some (.int .u64 b1) ∧ w'.cell? ⟨w.heap.size + 1, 2, none⟩ = some (.slice A1 l1.length c1)) (ds := []) #[false, false, false, false, false, false, false, false, false, false, false, false, false, false, false, false, false, false, false, false, false] (by kernel_rfl) rfl rfl ⟨blk_cell F6.out.r 0, blk_cell F6.out.r 1, blk_cell F6.out.r 2, blk_cell F6.out.o 0, blk_cell F6.out.o 1, blk_cell F6.out.o 2⟩ (fun hHeld => ?_); refine with_tabW tab7 bits7 (fun HT_ HW_ => ?_)
  generalize w5.drew = w6 at F6 hHeld ⊢
  refine pure_ (i := 0) (N := some 39) (v := ?_) (a' := ?_) #[true, false, false, false, false, false, false, false, false, false, false, false, false, false, false, false, false, false, false, false, false] rfl rfl (any_of HT_.out (by kernel_rfl)) (fun _ _ _ h => h) (Or.inl ⟨by rfl, ?_⟩) ?_ ?_
  rotate_left
  ·intro w'
   go_simp
   with_reducible rfl
  rotate_left
  ·simp only [Act.put, List.setIfInBounds_toArray, List.set_cons_zero, List.set_cons_succ, i64_w, i32_w]
   rfl
  refine pure_ (i := 1) (N := some 40) (v := ?_) (a' := ?_) #[true, true, false, false, false, false, false, false, false, false, false, false, false, false, false, false, false, false, false, false, false] rfl rfl (any_of HT_.out (by kernel_rfl)) (fun _ _ _ h => h) (Or.inl ⟨by rfl, ?_⟩) ?_ ?_
  rotate_left
  ·intro w'
   go_simp
   with_reducible rfl
  rotate_left
  ·simp only [Act.put, List.setIfInBounds_toArray, List.set_cons_zero, List.set_cons_succ, i64_w, i32_w]
   rfl
  refine pure_ (i := 2) (N := some 41) (v := ?_) (a' := ?_) #[true, true, true, false, false, false, false, false, false, false, false, false, false, false, false, false, false, false, false, false, false] rfl rfl (any_of HT_.out (by kernel_rfl)) (fun _ _ _ h => h) (Or.inl ⟨by rfl, ?_⟩) ?_ ?_
  rotate_left
  ·intro w'
   go_simp
   with_reducible rfl
  rotate_left
  ·simp only [Act.put, List.setIfInBounds_toArray, List.set_cons_zero, List.set_cons_succ, i64_w, i32_w]
   rfl
  refine pure_ (i := 3) (N := some 42) (v := ?_) (a' := ?_) #[true, true, true, true, false, false, false, false, false, false, false, false, false, false, false, false, false, false, false, false, false] rfl rfl (any_of HT_.out (by kernel_rfl)) (fun _ _ _ h => h) (Or.inl ⟨by rfl, ?_⟩) ?_ ?_
  rotate_left
  ·intro w'
   go_simp
   with_reducible rfl
  rotate_left
  ·simp only [Act.put, List.setIfInBounds_toArray, List.set_cons_zero, List.set_cons_succ, i64_w, i32_w]
   rfl
  refine pure_ (i := 4) (N := some 43) (v := ?_) (a' := ?_) #[true, true, true, true, true, false, false, false, false, false, false, false, false, false, false, false, false, false, false, false, false] rfl rfl (any_of HT_.out (by kernel_rfl)) (fun _ _ _ h => h) (Or.inl ⟨by rfl, ?_⟩) ?_ ?_
  rotate_left
  ·intro w'
   go_simp
   with_reducible rfl
  rotate_left
  ·simp only [Act.put, List.setIfInBounds_toArray, List.set_cons_zero, List.set_cons_succ, i64_w, i32_w]
   rfl
  refine pure_ (i := 5) (N := some 44) (v := ?_) (a' := ?_) #[true, true, true, true, true, true, false, false, false, false, false, false, false, false, false, false, false, false, false, false, false] rfl rfl (any_of HT_.out (by kernel_rfl)) (fun _ _ _ h => h) (Or.inl ⟨by rfl, ?_⟩) ?_ ?_
  rotate_left
  ·intro w'
   go_simp
   with_reducible rfl
  rotate_left
  ·simp only [Act.put, List.setIfInBounds_toArray, List.set_cons_zero, List.set_cons_succ, i64_w, i32_w]
   rfl
  refine pure_ (i := 6) (N := some 45) (v := ?_) (a' := ?_) #[true, true, true, true, true, true, true, false, false, false, false, false, false, false, false, false, false, false, false, false, false] rfl rfl (any_of HT_.out (by kernel_rfl)) (fun _ _ _ h => h) (Or.inl ⟨by rfl, ?_⟩) ?_ ?_
  rotate_left
  ·intro w'
   go_simp
   with_reducible rfl
  rotate_left
  ·simp only [Act.put, List.setIfInBounds_toArray, List.set_cons_zero, List.set_cons_succ, i64_w, i32_w]
   rfl
  refine pure_ (i := 7) (N := some 46) (v := ?_) (a' := ?_) #[true, true, true, true, true, true, true, true, false, false, false, false, false, false, false, false, false, false, false, false, false] rfl rfl (any_of HT_.out (by kernel_rfl)) (fun _ _ _ h => h) (Or.inl ⟨by rfl, ?_⟩) ?_ ?_
  rotate_left
  ·intro w'
   go_simp
   with_reducible rfl
  rotate_left
  ·simp only [Act.put, List.setIfInBounds_toArray, List.set_cons_zero, List.set_cons_succ, i64_w, i32_w]
   rfl
  refine pure_ (i := 8) (N := some 47) (v := undef) (a' := ?_) #[true, true, true, true, true, true, true, true, true, false, false, false, false, false, false, false, false, false, false, false, false] rfl rfl (any_of HT_.out (by kernel_rfl)) (fun _ _ _ h => h) (Or.inr ⟨by rfl, rfl⟩) ?_ ?_
  rotate_left
  ·simp only [Act.put, List.setIfInBounds_toArray, List.set_cons_zero, List.set_cons_succ, i64_w, i32_w]
   rfl
  refine pure_ (i := 9) (N := some 48) (v := undef) (a' := ?_) #[true, true, true, true, true, true, true, true, true, true, false, false, false, false, false, false, false, false, false, false, false] rfl rfl (any_of HT_.out (by kernel_rfl)) (fun _ _ _ h => h) (Or.inr ⟨by rfl, rfl⟩) ?_ ?_
  rotate_left
  ·simp only [Act.put, List.setIfInBounds_toArray, List.set_cons_zero, List.set_cons_succ, i64_w, i32_w]
   rfl
  refine pure_ (i := 10) (N := some 49) (v := ?_) (a' := ?_) #[true, true, true, true, true, true, true, true, true, true, true, false, false, false, false, false, false, false, false, false, false] rfl rfl (any_of HT_.out (by kernel_rfl)) (fun _ _ _ h => h) (Or.inl ⟨by rfl, ?_⟩) ?_ ?_
  rotate_left
  ·intro w'
   go_simp
   with_reducible rfl
  rotate_left
  ·simp only [Act.put, List.setIfInBounds_toArray, List.set_cons_zero, List.set_cons_succ, i64_w, i32_w]
   rfl
  refine pure_ (i := 11) (N := some 50) (v := ?_) (a' := ?_) #[true, true, true, true, true, true, true, true, true, true, true, true, false, false, false, false, false, false, false, false, false] rfl rfl (any_of HT_.out (by kernel_rfl)) (fun _ _ _ h => h) (Or.inl ⟨by rfl, ?_⟩) ?_ ?_
  rotate_left
  ·intro w'
   go_simp
   with_reducible rfl
  rotate_left
  ·simp only [Act.put, List.setIfInBounds_toArray, List.set_cons_zero, List.set_cons_succ, i64_w, i32_w]
   rfl
  refine pure_ (i := 12) (N := some 51) (v := ?_) (a' := ?_) #[true, true, true, true, true, true, true, true, true, true, true, true, true, false, false, false, false, false, false, false, false] rfl rfl (any_of HT_.out (by kernel_rfl)) (fun _ _ _ h => h) (Or.inl ⟨by rfl, ?_⟩) ?_ ?_
  rotate_left
  ·intro w'
   go_simp
   with_reducible rfl
  rotate_left
  ·simp only [Act.put, List.setIfInBounds_toArray, List.set_cons_zero, List.set_cons_succ, i64_w, i32_w]
   rfl
  refine take_ (i := 13) (N := some 52) (v := ?_) (a' := ?_) #[true, true, true, true, true, true, true, true, true, true, true, true, true, true, false, false, false, false, false, false, false] rfl rfl (take_ofW HT_.out HW_.out (by kernel_rfl)) (fun _ _ _ h => h) (Or.inl ⟨by rfl, ?_⟩) hHeld ?_ ?_
  rotate_left
  ·rintro w' ⟨s0, s1, s2, s3, s4, s5⟩
   go_simp
   with_reducible rfl
  rotate_left
  ·simp only [Act.put, List.setIfInBounds_toArray, List.set_cons_zero, List.set_cons_succ, i64_w, i32_w]
   rfl
  refine take_ (i := 14) (N := some 53) (v := ?_) (a' := ?_) #[true, true, true, true, true, true, true, true, true, true, true, true, true, true, true, false, false, false, false, false, false] rfl rfl (take_ofW HT_.out HW_.out (by kernel_rfl)) (fun _ _ _ h => h) (Or.inl ⟨by rfl, ?_⟩) hHeld ?_ ?_
  rotate_left
  ·rintro w' ⟨s0, s1, s2, s3, s4, s5⟩
   go_simp
   with_reducible rfl
  rotate_left
  ·simp only [Act.put, List.setIfInBounds_toArray, List.set_cons_zero, List.set_cons_succ, i64_w, i32_w]
   rfl
  refine take_ (i := 16) (N := some 55) (v := ?_) (a' := ?_) #[true, true, true, true, true, true, true, true, true, true, true, true, true, true, true, false, true, false, false, false, false] rfl rfl (take_ofW HT_.out HW_.out (by kernel_rfl)) (fun _ _ _ h => h) (Or.inl ⟨by rfl, ?_⟩) hHeld ?_ ?_
  rotate_left
  ·rintro w' ⟨s0, s1, s2, s3, s4, s5⟩
   go_simp
   with_reducible rfl
  rotate_left
  ·simp only [Act.put, List.setIfInBounds_toArray, List.set_cons_zero, List.set_cons_succ, i64_w, i32_w]
   rfl
  refine take_ (i := 17) (N := some 56) (v := ?_) (a' := ?_) #[true, true, true, true, true, true, true, true, true, true, true, true, true, true, true, false, true, true, false, false, false] rfl rfl (take_ofW HT_.out HW_.out (by kernel_rfl)) (fun _ _ _ h => h) (Or.inl ⟨by rfl, ?_⟩) hHeld ?_ ?_
  rotate_left
  ·rintro w' ⟨s0, s1, s2, s3, s4, s5⟩
   go_simp
   with_reducible rfl
  rotate_left
  ·simp only [Act.put, List.setIfInBounds_toArray, List.set_cons_zero, List.set_cons_succ, i64_w, i32_w]
   rfl
  refine one_ (i := 15) (N := some 54) #[true, true, true, true, true, true, true, true, true, true, true, true, true, true, true, true, true, true, false, false, false] rfl rfl (one_of HT_.out (by kernel_rfl)) (by decide) (fun K hK => ?_)
  refine goes_ Tryd.func18 (by kernel_rfl) rfl #[.agg #[.int .i64 a0, .int .u64 a1, .slice A0 l0.length c0], .agg #[.int .i64 b0, .int .u64 b1, .slice A1 l1.length c1]] (by rfl) rfl rfl (by (try simp only [List.map_toArray, List.map_cons, List.map_nil]); first | done | rfl | (simp only [List.length_drop, List.length_take]; rfl)) ?_
  with_reducible refine (PS.U.log_Same.calls 1000 a0 a1 _ _ l0 b0 b1 _ _ l1 sm _ ?side1 ?side2 ?side3 ?side4 HS1.out).mono ?_
  (case side1 => exact F6.out.cr)
  (case side2 => exact hc0)
  (case side3 => exact F6.out.co)
  (case side4 => exact hc1)
  rintro e w7 ⟨rfl, hb⟩
  have F7 := Lib.hid (F6.out.below hb)
  clear hb
  refine ⟨_, rfl, ?_⟩
  refine hK.out _ _ ⟨blk_cell F7.out.r 0, blk_cell F7.out.r 1, blk_cell F7.out.r 2, blk_cell F7.out.o 0, blk_cell F7.out.o 1, blk_cell F7.out.o 2⟩ (fun hHeld => ?_)
  clear hK K
  refine norm_ (a' := ?_) ?_ ?_
  rotate_left
  ·show Act.put _ (some 54) _ = _
   simp only [Act.put, List.setIfInBounds_toArray, List.set_cons_zero, List.set_cons_succ, i64_w, i32_w]
   rfl
  refine one_ (i := 18) (N := some 57) #[true, true, true, true, true, true, true, true, true, true, true, true, true, true, true, true, true, true, true, false, false] rfl rfl (one_of HT_.out (by kernel_rfl)) (by decide) (fun K hK => ?_)
  refine goes_ Tryd.func13 (by kernel_rfl) rfl #[.agg #[.int .i64 a0, .int .u64 a1, .slice A0 l0.length c0], .agg #[.int .i64 b0, .int .u64 b1, .slice A1 l1.length c1]] (by rfl) rfl rfl (by (try simp only [List.map_toArray, List.map_cons, List.map_nil]); first | done | rfl | (simp only [List.length_drop, List.length_take]; rfl)) ?_
  with_reducible refine (PS.U.wicketgateref27_Same.calls 1000 a0 a1 _ _ l0 b0 b1 _ _ l1 sm _ ?side1 ?side2 ?side3 ?side4 HS2.out).mono ?_
  (case side1 => exact F7.out.cr)
  (case side2 => exact hc0)
  (case side3 => exact F7.out.co)
  (case side4 => exact hc1)
  rintro e w8 ⟨rfl, hb⟩
  have F8 := Lib.hid (F7.out.below hb)
  clear hb
  refine ⟨_, rfl, ?_⟩
  refine hK.out _ _ ⟨blk_cell F8.out.r 0, blk_cell F8.out.r 1, blk_cell F8.out.r 2, blk_cell F8.out.o 0, blk_cell F8.out.o 1, blk_cell F8.out.o 2⟩ (fun hHeld => ?_)
  clear hK K
  refine norm_ (a' := ?_) ?_ ?_
  rotate_left
  ·show Act.put _ (some 57) _ = _
   simp only [Act.put, List.setIfInBounds_toArray, List.set_cons_zero, List.set_cons_succ, i64_w, i32_w]
   rfl
  refine pure_ (i := 19) (N := some 58) (v := ?_) (a' := ?_) #[true, true, true, true, true, true, true, true, true, true, true, true, true, true, true, true, true, true, true, true, false] rfl rfl (any_of HT_.out (by kernel_rfl)) (fun _ _ _ h => h) (Or.inl ⟨by rfl, ?_⟩) ?_ ?_
  rotate_left
  ·intro w'
   go_simp
   with_reducible rfl
  rotate_left
  ·simp only [Act.put, List.setIfInBounds_toArray, List.set_cons_zero, List.set_cons_succ, i64_w, i32_w]
   rfl
  refine pure_ (i := 20) (N := some 59) (v := ?_) (a' := ?_) #[true, true, true, true, true, true, true, true, true, true, true, true, true, true, true, true, true, true, true, true, true] rfl rfl (any_of HT_.out (by kernel_rfl)) (fun _ _ _ h => h) (Or.inl ⟨by rfl, ?_⟩) ?_ ?_
  rotate_left
  ·intro w'
   go_simp
   with_reducible rfl
  rotate_left
  ·simp only [Act.put, List.setIfInBounds_toArray, List.set_cons_zero, List.set_cons_succ, i64_w, i32_w]
   rfl
  refine done_ (done_of HT_.out (by kernel_rfl)) ?_
  have y0 := blk_cell F8.out.r 0
  have y1 := blk_cell F8.out.r 1
  have y2 := blk_cell F8.out.r 2
  go_wp2_with (first | (go_at_call 10; (with_reducible refine (PS.U.wicketgatelaw27_copied.calls a0 a1 A0 c0 l0 a0 a1 l0 _ F8.out.cr hc0 HCP.out).mono ?_); rintro e9 w9 ⟨v9, rfl, hv9, hb9⟩; obtain ⟨A9, c9, rfl⟩ := Kd.R_slice hv9; have F9 := Lib.hid (F8.out.below hb9); have HV9 := Lib.hid hv9; clear hb9 hv9 y0 y1 y2) | (go_at_call 17; (with_reducible refine (PS.U.log_Widen.calls 1000 a0 a1 A9 c9 l0 rm v1 v2 v3 v4 _ (Kd.R_reads' HV9.out).2.2 (Kd.R_reads' HV9.out).2.1 HWD.out F9.out.tab).mono ?_); rintro e10 w10 ⟨v10, rfl, hv10, hb10⟩; obtain ⟨A10, c10, rfl⟩ := Kd.R_slice hv10; have F10 := Lib.hid (F9.out.below hb10); have HV10 := Lib.hid hv10; clear hb10 hv10; have y0 := blk_cell F10.out.r 0; have y1 := blk_cell F10.out.r 1; have y2 := blk_cell F10.out.r 2; have lb := blk_lt F10.out.r; have F10b := Lib.hid (F10.out.below ((Below.refl _ w10).alloc (Nat.le_refl _) (.cells #[.int .i64 v1, .int .u64 v2, .slice A10 v3.length c10] 25)))) | (go_at_call 20; (with_reducible refine (PS.U.wicketgateref27_Widen.calls 1000 a0 a1 A0 c0 l0 rm v1 v2 v3 v4 _ F10b.out.cr hc0 HRW.out).mono ?_); rintro e11 w11 ⟨v11, rfl, hv11, hb11⟩; obtain ⟨A11, c11, rfl⟩ := Kd.R_slice hv11; have F11 := Lib.hid (F10b.out.below hb11); have HV11 := Lib.hid hv11; have HP9 := Lib.hid ((hb11.block _ (by simp)).trans (World.alloc_heap_new w10 (.cells #[.int .i64 v1, .int .u64 v2, .slice A10 v3.length c10] 25))); have HC10 := Lib.hid (Kd.C_below (Kd.R_reads' HV10.out).2.2 (((Below.refl _ w10).alloc (Nat.le_refl _) (.cells #[.int .i64 v1, .int .u64 v2, .slice A10 v3.length c10] 25)).trans (hb11.mono (by simp)))); clear hb11 hv11 y0 y1 y2 lb; have p0 := blk_cell HP9.out 0; have p1 := blk_cell HP9.out 1; have p2 := blk_cell HP9.out 2; have lp := blk_lt HP9.out) | (go_at_call 13; (with_reducible refine (PS.U.wicketgateref27_Same.calls 1000 v1 v2 A10 c10 v3 v1 v2 A11 c11 v3 true _ (Kd.C_below HC10.out ((Below.refl _ w11).alloc (Nat.le_refl _) (.cells #[.int .i64 v1, .int .u64 v2, .slice A11 v3.length c11] 25))) (Kd.R_reads' HV10.out).2.1 (Kd.C_below (Kd.R_reads' HV11.out).2.2 ((Below.refl _ w11).alloc (Nat.le_refl _) (.cells #[.int .i64 v1, .int .u64 v2, .slice A11 v3.length c11] 25))) (Kd.R_reads' HV11.out).2.1 HSF.out).mono ?_); rintro e12 w12 ⟨rfl, hb12⟩; have F12 := Lib.hid ((F11.out.below ((Below.refl _ w11).alloc (Nat.le_refl _) (.cells #[.int .i64 v1, .int .u64 v2, .slice A11 v3.length c11] 25))).below hb12); clear hb12 p0 p1 p2 lp))
  clear F1 F2 F3 F4 F5 F6 F7 F8 F9 F10 F10b F11 HV4 HV9 HV10 HV11 HC10 HP9 HS1 HS2 HWD HRW HSF HWK HRT hv3
  rcases (by omega : (1 ≤ rm ∧ rm ≤ 32) ∨ rm < 1 ∨ 32 < rm) with hrm | hrm | hrm
  · have hnw : PS.U.log_New.f rm = some (rm, 1, [], 0) := (if_neg (by omega)).trans (if_neg (by omega))
    have HNW := Lib.hid hnw
    clear hnw
    have r1 : (1 : Int) ≤ rm := hrm.1
    have r2 : rm ≤ 32 := hrm.2
    clear hrm
    by_cases h0 : l0.length = 0
    · have h0i : (l0.length : Int) = 0 := by omega
      have HZ0 := Lib.hid h0
      clear h0
      go_wp2_with (first | (go_at_call 14; (with_reducible refine (PS.U.log_New.calls rm rm 1 [] 0 _ HNW.out).mono ?_); rintro e13 w13 ⟨v13, rfl, hv13, hb13⟩; obtain ⟨A13, c13, rfl⟩ := Kd.R_slice hv13; have F13 := Lib.hid ((F12.out.below hb13).below ((Below.refl _ w13).alloc (Nat.le_refl _) (.cells #[.int .i64 rm, .int .u64 1, .slice A13 0 c13] 25))); have HC13 := Lib.hid (Kd.C_below (Kd.R_reads' hv13).2.2 ((Below.refl _ w13).alloc (Nat.le_refl _) (.cells #[.int .i64 rm, .int .u64 1, .slice A13 0 c13] 25))); clear hb13 hv13) | (go_at_call 13; refine (PS.U.wicketgateref27_Same.calls 1000 rm 1 A13 c13 [] rm 1 none 0 [] true _ HC13.out (Nat.zero_le _) (Kd.C_nil _ _) (Nat.zero_le _) (PS.U.ring_self rm 1 [] (by simp))).mono ?_; rintro e14 w14 ⟨rfl, hb14⟩; have F14 := Lib.hid (F13.out.below hb14); clear hb14; have y0 := blk_cell F14.out.r 0; have y1 := blk_cell F14.out.r 1; have y2 := blk_cell F14.out.r 2) | (go_at_call 10; (with_reducible refine (PS.U.wicketgatelaw27_copied.calls a0 a1 A0 c0 l0 a0 a1 l0 _ F14.out.cr hc0 HCP.out).mono ?_); rintro e15 w15 ⟨v15, rfl, hv15, hb15⟩; obtain ⟨A15, c15, rfl⟩ := Kd.R_slice hv15; have F15 := Lib.hid (F14.out.below hb15); have HV15 := Lib.hid hv15; clear hb15 hv15 y0 y1 y2) | (go_at_call 21; (with_reducible refine (worst_no a0 a1 A15 c15 l0 hW (fun _ => HZ0.out) w15 (Kd.R_reads' HV15.out).2.2 (Kd.R_reads' HV15.out).2.1 F15.out.tab).mono ?_); rintro e16 w16 ⟨rfl, hb16⟩; have F16 := Lib.hid (F15.out.below hb16); clear hb16; have y0 := blk_cell F16.out.r 0; have y1 := blk_cell F16.out.r 1; have y2 := blk_cell F16.out.r 2; have lr := blk_lt F16.out.r))
      clear y0 y1 y2
      go_loopw [19, 126] (fun f i wr => f = .bool false ∧ i = .int .i64 0 ∧ wr = (w16.alloc (.cells #[.int .u64 0, .int .i64 0, .int .u32 0, .int .u32 0, .int .i64 0, .int .u16 0] 31)).alloc (.cells #[.int .u64 0, .int .i64 0, .int .u32 0, .int .u32 0, .int .i64 0, .int .u16 0] 31)) (fun _ _ _ => 0)
      case atStart => exact ⟨rfl, rfl, rfl⟩
      case round =>
        obtain ⟨rfl, rfl, rfl⟩ := hrel
        go_wp2_with fail
        go_ret
        exact ⟨rfl, (F16.out.bel.alloc (by have := F16.out.bel.size; omega) _).alloc (by have := F16.out.bel.size; simp; omega) _⟩
    · have hpos : 0 < l0.length := by omega
      obtain ⟨M, hM⟩ : ∃ M, M = minV l0 (l0.length - 1) := ⟨_, rfl⟩
      have HWO := Lib.hid (fun (A : Option Addr) (c : Nat) (W : World) (h : Kd.C k31 W A l0.length l0) (h2 : l0.length ≤ c) (h3 : Go.Proofs.YtcpabgijmknldaaDoor.PE.L.Tab W) => worst_ok a0 a1 A c l0 hW hR hpos W h h2 h3)
      rw [← hM] at HWO
      have HM := Lib.hid hM
      clear hM h0
      go_wp2_with (first | (go_at_call 14; (with_reducible refine (PS.U.log_New.calls rm rm 1 [] 0 _ HNW.out).mono ?_); rintro e13 w13 ⟨v13, rfl, hv13, hb13⟩; obtain ⟨A13, c13, rfl⟩ := Kd.R_slice hv13; have F13 := Lib.hid ((F12.out.below hb13).below ((Below.refl _ w13).alloc (Nat.le_refl _) (.cells #[.int .i64 rm, .int .u64 1, .slice A13 0 c13] 25))); have HC13 := Lib.hid (Kd.C_below (Kd.R_reads' hv13).2.2 ((Below.refl _ w13).alloc (Nat.le_refl _) (.cells #[.int .i64 rm, .int .u64 1, .slice A13 0 c13] 25))); clear hb13 hv13) | (go_at_call 13; refine (PS.U.wicketgateref27_Same.calls 1000 rm 1 A13 c13 [] rm 1 none 0 [] true _ HC13.out (Nat.zero_le _) (Kd.C_nil _ _) (Nat.zero_le _) (PS.U.ring_self rm 1 [] (by simp))).mono ?_; rintro e14 w14 ⟨rfl, hb14⟩; have F14 := Lib.hid (F13.out.below hb14); clear hb14; have y0 := blk_cell F14.out.r 0; have y1 := blk_cell F14.out.r 1; have y2 := blk_cell F14.out.r 2) | (go_at_call 10; (with_reducible refine (PS.U.wicketgatelaw27_copied.calls a0 a1 A0 c0 l0 a0 a1 l0 _ F14.out.cr hc0 HCP.out).mono ?_); rintro e15 w15 ⟨v15, rfl, hv15, hb15⟩; obtain ⟨A15, c15, rfl⟩ := Kd.R_slice hv15; have F15 := Lib.hid (F14.out.below hb15); have HV15 := Lib.hid hv15; clear hb15 hv15 y0 y1 y2) | (go_at_call 21; (with_reducible refine (HWO.out A15 c15 w15 (Kd.R_reads' HV15.out).2.2 (Kd.R_reads' HV15.out).2.1 F15.out.tab).mono ?_); rintro e16 w16 ⟨rfl, hb16⟩; have F16 := Lib.hid (F15.out.below hb16); clear hb16; have y0 := blk_cell F16.out.r 0; have y1 := blk_cell F16.out.r 1; have y2 := blk_cell F16.out.r 2; have lr := blk_lt F16.out.r))
      clear y0 y1 y2
      have G0 := Lib.hid ((((Below.refl _ w16).alloc (Nat.le_refl _) (lineC M)).alloc (by simp) (lineC z31)))
      have X0 := Lib.hid ((Below.heap_alloc _ (lineC z31) _ (by simp)).trans (World.alloc_heap_new w16 (lineC M)))
      have hz := World.alloc_heap_new (w16.alloc (lineC M)) (lineC z31)
      rw [World.size_alloc] at hz
      have Z0 := Lib.hid hz
      clear hz
      go_loopw [19, 126] (fun f i wr => ∃ (k : Nat) (j : Int) (b : Bool) (B : S31), f = .bool b ∧ i = .int .i64 j ∧ Hid (j = (k : Int)) ∧ 0 ≤ j ∧ j ≤ (l0.length : Int) ∧ Hid (Below w16.heap.size w16 wr) ∧ Hid (wr.heap[w16.heap.size]? = some (lineC M)) ∧ Hid (wr.heap[w16.heap.size + 1]? = some (lineC B)) ∧ ((b = false ∧ Hid (j = 0)) ∨ (b = true ∧ 0 < j ∧ Hid (B = minV l0 (k - 1))))) (fun _ i _ => (l0.length - intOf i).toNat)
      case atStart => exact ⟨0, 0, false, z31, rfl, rfl, Lib.hid rfl, by omega, by omega, G0, X0, Z0, .inl ⟨rfl, Lib.hid rfl⟩⟩
      case round =>
        obtain ⟨k, j, b, B, rfl, rfl, HJ, hj0, hj1, KB, KX, KZ, hcase⟩ := hrel
        clear G0 X0 Z0
        have K := Lib.hid (F16.out.below KB.out)
        clear F16
        by_cases hlt : j < (l0.length : Int)
        · rcases hcase with ⟨rfl, hj⟩ | ⟨rfl, hj, HBV⟩
          · obtain ⟨ad, hA, hx0, hx1, hx2, hx3, hx4, hx5⟩ := at_T31 K.out.cr j hj0 hlt
            obtain ⟨x, hx⟩ : ∃ x, x = rd_T31 l0 j := ⟨_, rfl⟩
            rw [← hx] at hx0 hx1 hx2 hx3 hx4 hx5
            have HXK := Lib.hid hx
            clear hx
            have hbl := World.block_lt_of_cell? _ _ hx0
            subst hA
            have d0 := blk_cell KZ.out 0
            have d1 := blk_cell KZ.out 1
            have d2 := blk_cell KZ.out 2
            have d3 := blk_cell KZ.out 3
            have d4 := blk_cell KZ.out 4
            have d5 := blk_cell KZ.out 5
            have df0 := blk_frozen KZ.out 0
            have df1 := blk_frozen KZ.out 1
            have df2 := blk_frozen KZ.out 2
            have df3 := blk_frozen KZ.out 3
            have df4 := blk_frozen KZ.out 4
            have df5 := blk_frozen KZ.out 5
            have dl := blk_lt KZ.out
            clear K HWO
            go_wp2_with fail
            refine ⟨⟨k + 1, j + 1, true, x, rfl, rfl, Lib.hid (by have := HJ.out; omega), by omega, by omega, Lib.hid (bel_al ?_ _), Lib.hid (al_keep ?_), Lib.hid (al_keep ?_), .inr ⟨rfl, by omega, Lib.hid ?_⟩⟩, by simp [intOf]; omega⟩
            · (repeat (with_reducible first | exact KB.out | refine Below.setCell ?_ (by dsimp only; omega) _))
            · (repeat (with_reducible first | exact KX.out | refine (Below.heap_setCell _ _ _ _ (by dsimp only; omega)).trans ?_))
            · (repeat (with_reducible first | exact KZ.out | apply blk_put)); all_goals rfl
            · (obtain rfl : k = 0 := by have := HJ.out; have := hj.out; omega); rw [HXK.out, hj.out]; rfl
          · obtain ⟨ad, hA, hx0, hx1, hx2, hx3, hx4, hx5⟩ := at_T31 K.out.cr j hj0 hlt
            obtain ⟨x, hx⟩ : ∃ x, x = rd_T31 l0 j := ⟨_, rfl⟩
            rw [← hx] at hx0 hx1 hx2 hx3 hx4 hx5
            have HXK := Lib.hid hx
            clear hx
            have hbl := World.block_lt_of_cell? _ _ hx0
            subst hA
            have d0 := blk_cell KZ.out 0
            have d1 := blk_cell KZ.out 1
            have d2 := blk_cell KZ.out 2
            have d3 := blk_cell KZ.out 3
            have d4 := blk_cell KZ.out 4
            have d5 := blk_cell KZ.out 5
            have df0 := blk_frozen KZ.out 0
            have df1 := blk_frozen KZ.out 1
            have df2 := blk_frozen KZ.out 2
            have df3 := blk_frozen KZ.out 3
            have df4 := blk_frozen KZ.out 4
            have df5 := blk_frozen KZ.out 5
            have dl := blk_lt KZ.out
            clear K HWO
            by_cases hlr : x.f4.f0 < B.f4.f0
            · go_wp2_with fail
              refine ⟨⟨k + 1, j + 1, true, x, rfl, rfl, Lib.hid (by have := HJ.out; omega), by omega, by omega, Lib.hid (bel_al ?_ _), Lib.hid (al_keep ?_), Lib.hid (al_keep ?_), .inr ⟨rfl, by omega, Lib.hid ?_⟩⟩, by simp [intOf]; omega⟩
              · (repeat (with_reducible first | exact KB.out | refine Below.setCell ?_ (by dsimp only; omega) _))
              · (repeat (with_reducible first | exact KX.out | refine (Below.heap_setCell _ _ _ _ (by dsimp only; omega)).trans ?_))
              · (repeat (with_reducible first | exact KZ.out | apply blk_put)); all_goals rfl
              · (obtain ⟨q, rfl⟩ : ∃ q, k = q + 1 := ⟨k - 1, by have := HJ.out; omega⟩); have hq : ((q + 1 : Nat) : Int) = j := HJ.out.symm; show x = minStep (minV l0 q) (rd_T31 l0 ((q + 1 : Nat) : Int)); rw [hq, ← HXK.out, ← show B = minV l0 q from HBV.out]; unfold minStep; rw [if_pos hlr]
            · go_wp2_with fail
              refine ⟨⟨k + 1, j + 1, true, B, rfl, rfl, Lib.hid (by have := HJ.out; omega), by omega, by omega, Lib.hid (bel_al ?_ _), Lib.hid (al_keep ?_), Lib.hid (al_keep ?_), .inr ⟨rfl, by omega, Lib.hid ?_⟩⟩, by simp [intOf]; omega⟩
              · exact KB.out
              · exact KX.out
              · exact KZ.out
              · (obtain ⟨q, rfl⟩ : ∃ q, k = q + 1 := ⟨k - 1, by have := HJ.out; omega⟩); have hq : ((q + 1 : Nat) : Int) = j := HJ.out.symm; show B = minStep (minV l0 q) (rd_T31 l0 ((q + 1 : Nat) : Int)); rw [hq, ← HXK.out, ← show B = minV l0 q from HBV.out]; unfold minStep; rw [if_neg hlr]
        · have hk : k = l0.length := by have := HJ.out; omega
          rcases hcase with ⟨rfl, hj⟩ | ⟨rfl, hj, HBV⟩
          · exact absurd hj.out (by omega)
          · have hBM : B = M := by rw [HM.out, HBV.out, hk]
            subst hBM
            have d0 := blk_cell KZ.out 0
            have d1 := blk_cell KZ.out 1
            have d2 := blk_cell KZ.out 2
            have d3 := blk_cell KZ.out 3
            have d4 := blk_cell KZ.out 4
            have d5 := blk_cell KZ.out 5
            have df0 := blk_frozen KZ.out 0
            have df1 := blk_frozen KZ.out 1
            have df2 := blk_frozen KZ.out 2
            have df3 := blk_frozen KZ.out 3
            have df4 := blk_frozen KZ.out 4
            have df5 := blk_frozen KZ.out 5
            have dl := blk_lt KZ.out
            have x0 := blk_cell KX.out 0
            have x1 := blk_cell KX.out 1
            have x2 := blk_cell KX.out 2
            have x3 := blk_cell KX.out 3
            have x4 := blk_cell KX.out 4
            have x5 := blk_cell KX.out 5
            have xf0 := blk_frozen KX.out 0
            have xf1 := blk_frozen KX.out 1
            have xf2 := blk_frozen KX.out 2
            have xf3 := blk_frozen KX.out 3
            have xf4 := blk_frozen KX.out 4
            have xf5 := blk_frozen KX.out 5
            have xl := blk_lt KX.out
            have hbe := K.out.bel
            clear K HWO HM HBV
            go_wp2_with fail
            go_ret
            exact ⟨by simp, hbe⟩
  · have hnw : PS.U.log_New.f rm = some (0, 0, [], 2) := if_pos hrm
    have HNW := Lib.hid hnw
    clear hnw
    by_cases h0 : l0.length = 0
    · have h0i : (l0.length : Int) = 0 := by omega
      have HZ0 := Lib.hid h0
      clear h0
      go_wp2_with (first | (go_at_call 14; (with_reducible refine (PS.U.log_New.calls rm 0 0 [] 2 _ HNW.out).mono ?_); rintro e13 w13 ⟨v13, rfl, hv13, hb13⟩; obtain ⟨A13, c13, rfl⟩ := Kd.R_slice hv13; have F13 := Lib.hid ((F12.out.below hb13).below ((Below.refl _ w13).alloc (Nat.le_refl _) (.cells #[.int .i64 0, .int .u64 0, .slice A13 0 c13] 25))); have HC13 := Lib.hid (Kd.C_below (Kd.R_reads' hv13).2.2 ((Below.refl _ w13).alloc (Nat.le_refl _) (.cells #[.int .i64 0, .int .u64 0, .slice A13 0 c13] 25))); clear hb13 hv13; have y0 := blk_cell F13.out.r 0; have y1 := blk_cell F13.out.r 1; have y2 := blk_cell F13.out.r 2) | (go_at_call 10; (with_reducible refine (PS.U.wicketgatelaw27_copied.calls a0 a1 A0 c0 l0 a0 a1 l0 _ F13.out.cr hc0 HCP.out).mono ?_); rintro e15 w15 ⟨v15, rfl, hv15, hb15⟩; obtain ⟨A15, c15, rfl⟩ := Kd.R_slice hv15; have F15 := Lib.hid (F13.out.below hb15); have HV15 := Lib.hid hv15; clear hb15 hv15 y0 y1 y2) | (go_at_call 21; (with_reducible refine (worst_no a0 a1 A15 c15 l0 hW (fun _ => HZ0.out) w15 (Kd.R_reads' HV15.out).2.2 (Kd.R_reads' HV15.out).2.1 F15.out.tab).mono ?_); rintro e16 w16 ⟨rfl, hb16⟩; have F16 := Lib.hid (F15.out.below hb16); clear hb16; have y0 := blk_cell F16.out.r 0; have y1 := blk_cell F16.out.r 1; have y2 := blk_cell F16.out.r 2; have lr := blk_lt F16.out.r))
      clear y0 y1 y2
      go_loopw [19, 126] (fun f i wr => f = .bool false ∧ i = .int .i64 0 ∧ wr = (w16.alloc (.cells #[.int .u64 0, .int .i64 0, .int .u32 0, .int .u32 0, .int .i64 0, .int .u16 0] 31)).alloc (.cells #[.int .u64 0, .int .i64 0, .int .u32 0, .int .u32 0, .int .i64 0, .int .u16 0] 31)) (fun _ _ _ => 0)
      case atStart => exact ⟨rfl, rfl, rfl⟩
      case round =>
        obtain ⟨rfl, rfl, rfl⟩ := hrel
        go_wp2_with fail
        go_ret
        exact ⟨rfl, (F16.out.bel.alloc (by have := F16.out.bel.size; omega) _).alloc (by have := F16.out.bel.size; simp; omega) _⟩
    · have hpos : 0 < l0.length := by omega
      obtain ⟨M, hM⟩ : ∃ M, M = minV l0 (l0.length - 1) := ⟨_, rfl⟩
      have HWO := Lib.hid (fun (A : Option Addr) (c : Nat) (W : World) (h : Kd.C k31 W A l0.length l0) (h2 : l0.length ≤ c) (h3 : Go.Proofs.YtcpabgijmknldaaDoor.PE.L.Tab W) => worst_ok a0 a1 A c l0 hW hR hpos W h h2 h3)
      rw [← hM] at HWO
      have HM := Lib.hid hM
      clear hM h0
      go_wp2_with (first | (go_at_call 14; (with_reducible refine (PS.U.log_New.calls rm 0 0 [] 2 _ HNW.out).mono ?_); rintro e13 w13 ⟨v13, rfl, hv13, hb13⟩; obtain ⟨A13, c13, rfl⟩ := Kd.R_slice hv13; have F13 := Lib.hid ((F12.out.below hb13).below ((Below.refl _ w13).alloc (Nat.le_refl _) (.cells #[.int .i64 0, .int .u64 0, .slice A13 0 c13] 25))); have HC13 := Lib.hid (Kd.C_below (Kd.R_reads' hv13).2.2 ((Below.refl _ w13).alloc (Nat.le_refl _) (.cells #[.int .i64 0, .int .u64 0, .slice A13 0 c13] 25))); clear hb13 hv13; have y0 := blk_cell F13.out.r 0; have y1 := blk_cell F13.out.r 1; have y2 := blk_cell F13.out.r 2) | (go_at_call 10; (with_reducible refine (PS.U.wicketgatelaw27_copied.calls a0 a1 A0 c0 l0 a0 a1 l0 _ F13.out.cr hc0 HCP.out).mono ?_); rintro e15 w15 ⟨v15, rfl, hv15, hb15⟩; obtain ⟨A15, c15, rfl⟩ := Kd.R_slice hv15; have F15 := Lib.hid (F13.out.below hb15); have HV15 := Lib.hid hv15; clear hb15 hv15 y0 y1 y2) | (go_at_call 21; (with_reducible refine (HWO.out A15 c15 w15 (Kd.R_reads' HV15.out).2.2 (Kd.R_reads' HV15.out).2.1 F15.out.tab).mono ?_); rintro e16 w16 ⟨rfl, hb16⟩; have F16 := Lib.hid (F15.out.below hb16); clear hb16; have y0 := blk_cell F16.out.r 0; have y1 := blk_cell F16.out.r 1; have y2 := blk_cell F16.out.r 2; have lr := blk_lt F16.out.r))
      clear y0 y1 y2
      have G0 := Lib.hid ((((Below.refl _ w16).alloc (Nat.le_refl _) (lineC M)).alloc (by simp) (lineC z31)))
      have X0 := Lib.hid ((Below.heap_alloc _ (lineC z31) _ (by simp)).trans (World.alloc_heap_new w16 (lineC M)))
      have hz := World.alloc_heap_new (w16.alloc (lineC M)) (lineC z31)
      rw [World.size_alloc] at hz
      have Z0 := Lib.hid hz
      clear hz
      go_loopw [19, 126] (fun f i wr => ∃ (k : Nat) (j : Int) (b : Bool) (B : S31), f = .bool b ∧ i = .int .i64 j ∧ Hid (j = (k : Int)) ∧ 0 ≤ j ∧ j ≤ (l0.length : Int) ∧ Hid (Below w16.heap.size w16 wr) ∧ Hid (wr.heap[w16.heap.size]? = some (lineC M)) ∧ Hid (wr.heap[w16.heap.size + 1]? = some (lineC B)) ∧ ((b = false ∧ Hid (j = 0)) ∨ (b = true ∧ 0 < j ∧ Hid (B = minV l0 (k - 1))))) (fun _ i _ => (l0.length - intOf i).toNat)
      case atStart => exact ⟨0, 0, false, z31, rfl, rfl, Lib.hid rfl, by omega, by omega, G0, X0, Z0, .inl ⟨rfl, Lib.hid rfl⟩⟩
      case round =>
        obtain ⟨k, j, b, B, rfl, rfl, HJ, hj0, hj1, KB, KX, KZ, hcase⟩ := hrel
        clear G0 X0 Z0
        have K := Lib.hid (F16.out.below KB.out)
        clear F16
        by_cases hlt : j < (l0.length : Int)
        · rcases hcase with ⟨rfl, hj⟩ | ⟨rfl, hj, HBV⟩
          · obtain ⟨ad, hA, hx0, hx1, hx2, hx3, hx4, hx5⟩ := at_T31 K.out.cr j hj0 hlt
            obtain ⟨x, hx⟩ : ∃ x, x = rd_T31 l0 j := ⟨_, rfl⟩
            rw [← hx] at hx0 hx1 hx2 hx3 hx4 hx5
            have HXK := Lib.hid hx
            clear hx
            have hbl := World.block_lt_of_cell? _ _ hx0
            subst hA
            have d0 := blk_cell KZ.out 0
            have d1 := blk_cell KZ.out 1
            have d2 := blk_cell KZ.out 2
            have d3 := blk_cell KZ.out 3
            have d4 := blk_cell KZ.out 4
            have d5 := blk_cell KZ.out 5
            have df0 := blk_frozen KZ.out 0
            have df1 := blk_frozen KZ.out 1
            have df2 := blk_frozen KZ.out 2
            have df3 := blk_frozen KZ.out 3
            have df4 := blk_frozen KZ.out 4
            have df5 := blk_frozen KZ.out 5
            have dl := blk_lt KZ.out
            clear K HWO
            go_wp2_with fail
            refine ⟨⟨k + 1, j + 1, true, x, rfl, rfl, Lib.hid (by have := HJ.out; omega), by omega, by omega, Lib.hid (bel_al ?_ _), Lib.hid (al_keep ?_), Lib.hid (al_keep ?_), .inr ⟨rfl, by omega, Lib.hid ?_⟩⟩, by simp [intOf]; omega⟩
            · (repeat (with_reducible first | exact KB.out | refine Below.setCell ?_ (by dsimp only; omega) _))
            · (repeat (with_reducible first | exact KX.out | refine (Below.heap_setCell _ _ _ _ (by dsimp only; omega)).trans ?_))
            · (repeat (with_reducible first | exact KZ.out | apply blk_put)); all_goals rfl
            · (obtain rfl : k = 0 := by have := HJ.out; have := hj.out; omega); rw [HXK.out, hj.out]; rfl
          · obtain ⟨ad, hA, hx0, hx1, hx2, hx3, hx4, hx5⟩ := at_T31 K.out.cr j hj0 hlt
            obtain ⟨x, hx⟩ : ∃ x, x = rd_T31 l0 j := ⟨_, rfl⟩
            rw [← hx] at hx0 hx1 hx2 hx3 hx4 hx5
            have HXK := Lib.hid hx
            clear hx
            have hbl := World.block_lt_of_cell? _ _ hx0
            subst hA
            have d0 := blk_cell KZ.out 0
            have d1 := blk_cell KZ.out 1
            have d2 := blk_cell KZ.out 2
            have d3 := blk_cell KZ.out 3
            have d4 := blk_cell KZ.out 4
            have d5 := blk_cell KZ.out 5
            have df0 := blk_frozen KZ.out 0
            have df1 := blk_frozen KZ.out 1
            have df2 := blk_frozen KZ.out 2
            have df3 := blk_frozen KZ.out 3
            have df4 := blk_frozen KZ.out 4
            have df5 := blk_frozen KZ.out 5
            have dl := blk_lt KZ.out
            clear K HWO
            by_cases hlr : x.f4.f0 < B.f4.f0
            · go_wp2_with fail
              refine ⟨⟨k + 1, j + 1, true, x, rfl, rfl, Lib.hid (by have := HJ.out; omega), by omega, by omega, Lib.hid (bel_al ?_ _), Lib.hid (al_keep ?_), Lib.hid (al_keep ?_), .inr ⟨rfl, by omega, Lib.hid ?_⟩⟩, by simp [intOf]; omega⟩
              · (repeat (with_reducible first | exact KB.out | refine Below.setCell ?_ (by dsimp only; omega) _))
              · (repeat (with_reducible first | exact KX.out | refine (Below.heap_setCell _ _ _ _ (by dsimp only; omega)).trans ?_))
              · (repeat (with_reducible first | exact KZ.out | apply blk_put)); all_goals rfl
              · (obtain ⟨q, rfl⟩ : ∃ q, k = q + 1 := ⟨k - 1, by have := HJ.out; omega⟩); have hq : ((q + 1 : Nat) : Int) = j := HJ.out.symm; show x = minStep (minV l0 q) (rd_T31 l0 ((q + 1 : Nat) : Int)); rw [hq, ← HXK.out, ← show B = minV l0 q from HBV.out]; unfold minStep; rw [if_pos hlr]
            · go_wp2_with fail
              refine ⟨⟨k + 1, j + 1, true, B, rfl, rfl, Lib.hid (by have := HJ.out; omega), by omega, by omega, Lib.hid (bel_al ?_ _), Lib.hid (al_keep ?_), Lib.hid (al_keep ?_), .inr ⟨rfl, by omega, Lib.hid ?_⟩⟩, by simp [intOf]; omega⟩
              · exact KB.out
              · exact KX.out
              · exact KZ.out
              · (obtain ⟨q, rfl⟩ : ∃ q, k = q + 1 := ⟨k - 1, by have := HJ.out; omega⟩); have hq : ((q + 1 : Nat) : Int) = j := HJ.out.symm; show B = minStep (minV l0 q) (rd_T31 l0 ((q + 1 : Nat) : Int)); rw [hq, ← HXK.out, ← show B = minV l0 q from HBV.out]; unfold minStep; rw [if_neg hlr]
        · have hk : k = l0.length := by have := HJ.out; omega
          rcases hcase with ⟨rfl, hj⟩ | ⟨rfl, hj, HBV⟩
          · exact absurd hj.out (by omega)
          · have hBM : B = M := by rw [HM.out, HBV.out, hk]
            subst hBM
            have d0 := blk_cell KZ.out 0
            have d1 := blk_cell KZ.out 1
            have d2 := blk_cell KZ.out 2
            have d3 := blk_cell KZ.out 3
            have d4 := blk_cell KZ.out 4
            have d5 := blk_cell KZ.out 5
            have df0 := blk_frozen KZ.out 0
            have df1 := blk_frozen KZ.out 1
            have df2 := blk_frozen KZ.out 2
            have df3 := blk_frozen KZ.out 3
            have df4 := blk_frozen KZ.out 4
            have df5 := blk_frozen KZ.out 5
            have dl := blk_lt KZ.out
            have x0 := blk_cell KX.out 0
            have x1 := blk_cell KX.out 1
            have x2 := blk_cell KX.out 2
            have x3 := blk_cell KX.out 3
            have x4 := blk_cell KX.out 4
            have x5 := blk_cell KX.out 5
            have xf0 := blk_frozen KX.out 0
            have xf1 := blk_frozen KX.out 1
            have xf2 := blk_frozen KX.out 2
            have xf3 := blk_frozen KX.out 3
            have xf4 := blk_frozen KX.out 4
            have xf5 := blk_frozen KX.out 5
            have xl := blk_lt KX.out
            have hbe := K.out.bel
            clear K HWO HM HBV
            go_wp2_with fail
            go_ret
            exact ⟨by simp, hbe⟩
  · have hnw : PS.U.log_New.f rm = some (0, 0, [], 2) := (if_neg (by omega)).trans (if_pos (by omega))
    have HNW := Lib.hid hnw
    clear hnw
    by_cases h0 : l0.length = 0
    · have h0i : (l0.length : Int) = 0 := by omega
      have HZ0 := Lib.hid h0
      clear h0
      go_wp2_with (first | (go_at_call 14; (with_reducible refine (PS.U.log_New.calls rm 0 0 [] 2 _ HNW.out).mono ?_); rintro e13 w13 ⟨v13, rfl, hv13, hb13⟩; obtain ⟨A13, c13, rfl⟩ := Kd.R_slice hv13; have F13 := Lib.hid ((F12.out.below hb13).below ((Below.refl _ w13).alloc (Nat.le_refl _) (.cells #[.int .i64 0, .int .u64 0, .slice A13 0 c13] 25))); have HC13 := Lib.hid (Kd.C_below (Kd.R_reads' hv13).2.2 ((Below.refl _ w13).alloc (Nat.le_refl _) (.cells #[.int .i64 0, .int .u64 0, .slice A13 0 c13] 25))); clear hb13 hv13; have y0 := blk_cell F13.out.r 0; have y1 := blk_cell F13.out.r 1; have y2 := blk_cell F13.out.r 2) | (go_at_call 10; (with_reducible refine (PS.U.wicketgatelaw27_copied.calls a0 a1 A0 c0 l0 a0 a1 l0 _ F13.out.cr hc0 HCP.out).mono ?_); rintro e15 w15 ⟨v15, rfl, hv15, hb15⟩; obtain ⟨A15, c15, rfl⟩ := Kd.R_slice hv15; have F15 := Lib.hid (F13.out.below hb15); have HV15 := Lib.hid hv15; clear hb15 hv15 y0 y1 y2) | (go_at_call 21; (with_reducible refine (worst_no a0 a1 A15 c15 l0 hW (fun _ => HZ0.out) w15 (Kd.R_reads' HV15.out).2.2 (Kd.R_reads' HV15.out).2.1 F15.out.tab).mono ?_); rintro e16 w16 ⟨rfl, hb16⟩; have F16 := Lib.hid (F15.out.below hb16); clear hb16; have y0 := blk_cell F16.out.r 0; have y1 := blk_cell F16.out.r 1; have y2 := blk_cell F16.out.r 2; have lr := blk_lt F16.out.r))
      clear y0 y1 y2
      go_loopw [19, 126] (fun f i wr => f = .bool false ∧ i = .int .i64 0 ∧ wr = (w16.alloc (.cells #[.int .u64 0, .int .i64 0, .int .u32 0, .int .u32 0, .int .i64 0, .int .u16 0] 31)).alloc (.cells #[.int .u64 0, .int .i64 0, .int .u32 0, .int .u32 0, .int .i64 0, .int .u16 0] 31)) (fun _ _ _ => 0)
      case atStart => exact ⟨rfl, rfl, rfl⟩
      case round =>
        obtain ⟨rfl, rfl, rfl⟩ := hrel
        go_wp2_with fail
        go_ret
        exact ⟨rfl, (F16.out.bel.alloc (by have := F16.out.bel.size; omega) _).alloc (by have := F16.out.bel.size; simp; omega) _⟩
    · have hpos : 0 < l0.length := by omega
      obtain ⟨M, hM⟩ : ∃ M, M = minV l0 (l0.length - 1) := ⟨_, rfl⟩
      have HWO := Lib.hid (fun (A : Option Addr) (c : Nat) (W : World) (h : Kd.C k31 W A l0.length l0) (h2 : l0.length ≤ c) (h3 : Go.Proofs.YtcpabgijmknldaaDoor.PE.L.Tab W) => worst_ok a0 a1 A c l0 hW hR hpos W h h2 h3)
      rw [← hM] at HWO
      have HM := Lib.hid hM
      clear hM h0
      go_wp2_with (first | (go_at_call 14; (with_reducible refine (PS.U.log_New.calls rm 0 0 [] 2 _ HNW.out).mono ?_); rintro e13 w13 ⟨v13, rfl, hv13, hb13⟩; obtain ⟨A13, c13, rfl⟩ := Kd.R_slice hv13; have F13 := Lib.hid ((F12.out.below hb13).below ((Below.refl _ w13).alloc (Nat.le_refl _) (.cells #[.int .i64 0, .int .u64 0, .slice A13 0 c13] 25))); have HC13 := Lib.hid (Kd.C_below (Kd.R_reads' hv13).2.2 ((Below.refl _ w13).alloc (Nat.le_refl _) (.cells #[.int .i64 0, .int .u64 0, .slice A13 0 c13] 25))); clear hb13 hv13; have y0 := blk_cell F13.out.r 0; have y1 := blk_cell F13.out.r 1; have y2 := blk_cell F13.out.r 2) | (go_at_call 10; (with_reducible refine (PS.U.wicketgatelaw27_copied.calls a0 a1 A0 c0 l0 a0 a1 l0 _ F13.out.cr hc0 HCP.out).mono ?_); rintro e15 w15 ⟨v15, rfl, hv15, hb15⟩; obtain ⟨A15, c15, rfl⟩ := Kd.R_slice hv15; have F15 := Lib.hid (F13.out.below hb15); have HV15 := Lib.hid hv15; clear hb15 hv15 y0 y1 y2) | (go_at_call 21; (with_reducible refine (HWO.out A15 c15 w15 (Kd.R_reads' HV15.out).2.2 (Kd.R_reads' HV15.out).2.1 F15.out.tab).mono ?_); rintro e16 w16 ⟨rfl, hb16⟩; have F16 := Lib.hid (F15.out.below hb16); clear hb16; have y0 := blk_cell F16.out.r 0; have y1 := blk_cell F16.out.r 1; have y2 := blk_cell F16.out.r 2; have lr := blk_lt F16.out.r))
      clear y0 y1 y2
      have G0 := Lib.hid ((((Below.refl _ w16).alloc (Nat.le_refl _) (lineC M)).alloc (by simp) (lineC z31)))
      have X0 := Lib.hid ((Below.heap_alloc _ (lineC z31) _ (by simp)).trans (World.alloc_heap_new w16 (lineC M)))
      have hz := World.alloc_heap_new (w16.alloc (lineC M)) (lineC z31)
      rw [World.size_alloc] at hz
      have Z0 := Lib.hid hz
      clear hz
      go_loopw [19, 126] (fun f i wr => ∃ (k : Nat) (j : Int) (b : Bool) (B : S31), f = .bool b ∧ i = .int .i64 j ∧ Hid (j = (k : Int)) ∧ 0 ≤ j ∧ j ≤ (l0.length : Int) ∧ Hid (Below w16.heap.size w16 wr) ∧ Hid (wr.heap[w16.heap.size]? = some (lineC M)) ∧ Hid (wr.heap[w16.heap.size + 1]? = some (lineC B)) ∧ ((b = false ∧ Hid (j = 0)) ∨ (b = true ∧ 0 < j ∧ Hid (B = minV l0 (k - 1))))) (fun _ i _ => (l0.length - intOf i).toNat)
      case atStart => exact ⟨0, 0, false, z31, rfl, rfl, Lib.hid rfl, by omega, by omega, G0, X0, Z0, .inl ⟨rfl, Lib.hid rfl⟩⟩
      case round =>
        obtain ⟨k, j, b, B, rfl, rfl, HJ, hj0, hj1, KB, KX, KZ, hcase⟩ := hrel
        clear G0 X0 Z0
        have K := Lib.hid (F16.out.below KB.out)
        clear F16
        by_cases hlt : j < (l0.length : Int)
        · rcases hcase with ⟨rfl, hj⟩ | ⟨rfl, hj, HBV⟩
          · obtain ⟨ad, hA, hx0, hx1, hx2, hx3, hx4, hx5⟩ := at_T31 K.out.cr j hj0 hlt
            obtain ⟨x, hx⟩ : ∃ x, x = rd_T31 l0 j := ⟨_, rfl⟩
            rw [← hx] at hx0 hx1 hx2 hx3 hx4 hx5
            have HXK := Lib.hid hx
            clear hx
            have hbl := World.block_lt_of_cell? _ _ hx0
            subst hA
            have d0 := blk_cell KZ.out 0
            have d1 := blk_cell KZ.out 1
            have d2 := blk_cell KZ.out 2
            have d3 := blk_cell KZ.out 3
            have d4 := blk_cell KZ.out 4
            have d5 := blk_cell KZ.out 5
            have df0 := blk_frozen KZ.out 0
            have df1 := blk_frozen KZ.out 1
            have df2 := blk_frozen KZ.out 2
            have df3 := blk_frozen KZ.out 3
            have df4 := blk_frozen KZ.out 4
            have df5 := blk_frozen KZ.out 5
            have dl := blk_lt KZ.out
            clear K HWO
            go_wp2_with fail
            refine ⟨⟨k + 1, j + 1, true, x, rfl, rfl, Lib.hid (by have := HJ.out; omega), by omega, by omega, Lib.hid (bel_al ?_ _), Lib.hid (al_keep ?_), Lib.hid (al_keep ?_), .inr ⟨rfl, by omega, Lib.hid ?_⟩⟩, by simp [intOf]; omega⟩
            · (repeat (with_reducible first | exact KB.out | refine Below.setCell ?_ (by dsimp only; omega) _))
            · (repeat (with_reducible first | exact KX.out | refine (Below.heap_setCell _ _ _ _ (by dsimp only; omega)).trans ?_))
            · (repeat (with_reducible first | exact KZ.out | apply blk_put)); all_goals rfl
            · (obtain rfl : k = 0 := by have := HJ.out; have := hj.out; omega); rw [HXK.out, hj.out]; rfl
          · obtain ⟨ad, hA, hx0, hx1, hx2, hx3, hx4, hx5⟩ := at_T31 K.out.cr j hj0 hlt
            obtain ⟨x, hx⟩ : ∃ x, x = rd_T31 l0 j := ⟨_, rfl⟩
            rw [← hx] at hx0 hx1 hx2 hx3 hx4 hx5
            have HXK := Lib.hid hx
            clear hx
            have hbl := World.block_lt_of_cell? _ _ hx0
            subst hA
            have d0 := blk_cell KZ.out 0
            have d1 := blk_cell KZ.out 1
            have d2 := blk_cell KZ.out 2
            have d3 := blk_cell KZ.out 3
            have d4 := blk_cell KZ.out 4
            have d5 := blk_cell KZ.out 5
            have df0 := blk_frozen KZ.out 0
            have df1 := blk_frozen KZ.out 1
            have df2 := blk_frozen KZ.out 2
            have df3 := blk_frozen KZ.out 3
            have df4 := blk_frozen KZ.out 4
            have df5 := blk_frozen KZ.out 5
            have dl := blk_lt KZ.out
            clear K HWO
            by_cases hlr : x.f4.f0 < B.f4.f0
            · go_wp2_with fail
              refine ⟨⟨k + 1, j + 1, true, x, rfl, rfl, Lib.hid (by have := HJ.out; omega), by omega, by omega, Lib.hid (bel_al ?_ _), Lib.hid (al_keep ?_), Lib.hid (al_keep ?_), .inr ⟨rfl, by omega, Lib.hid ?_⟩⟩, by simp [intOf]; omega⟩
              · (repeat (with_reducible first | exact KB.out | refine Below.setCell ?_ (by dsimp only; omega) _))
              · (repeat (with_reducible first | exact KX.out | refine (Below.heap_setCell _ _ _ _ (by dsimp only; omega)).trans ?_))
              · (repeat (with_reducible first | exact KZ.out | apply blk_put)); all_goals rfl
              · (obtain ⟨q, rfl⟩ : ∃ q, k = q + 1 := ⟨k - 1, by have := HJ.out; omega⟩); have hq : ((q + 1 : Nat) : Int) = j := HJ.out.symm; show x = minStep (minV l0 q) (rd_T31 l0 ((q + 1 : Nat) : Int)); rw [hq, ← HXK.out, ← show B = minV l0 q from HBV.out]; unfold minStep; rw [if_pos hlr]
            · go_wp2_with fail
              refine ⟨⟨k + 1, j + 1, true, B, rfl, rfl, Lib.hid (by have := HJ.out; omega), by omega, by omega, Lib.hid (bel_al ?_ _), Lib.hid (al_keep ?_), Lib.hid (al_keep ?_), .inr ⟨rfl, by omega, Lib.hid ?_⟩⟩, by simp [intOf]; omega⟩
              · exact KB.out
              · exact KX.out
              · exact KZ.out
              · (obtain ⟨q, rfl⟩ : ∃ q, k = q + 1 := ⟨k - 1, by have := HJ.out; omega⟩); have hq : ((q + 1 : Nat) : Int) = j := HJ.out.symm; show B = minStep (minV l0 q) (rd_T31 l0 ((q + 1 : Nat) : Int)); rw [hq, ← HXK.out, ← show B = minV l0 q from HBV.out]; unfold minStep; rw [if_neg hlr]
        · have hk : k = l0.length := by have := HJ.out; omega
          rcases hcase with ⟨rfl, hj⟩ | ⟨rfl, hj, HBV⟩
          · exact absurd hj.out (by omega)
          · have hBM : B = M := by rw [HM.out, HBV.out, hk]
            subst hBM
            have d0 := blk_cell KZ.out 0
            have d1 := blk_cell KZ.out 1
            have d2 := blk_cell KZ.out 2
            have d3 := blk_cell KZ.out 3
            have d4 := blk_cell KZ.out 4
            have d5 := blk_cell KZ.out 5
            have df0 := blk_frozen KZ.out 0
            have df1 := blk_frozen KZ.out 1
            have df2 := blk_frozen KZ.out 2
            have df3 := blk_frozen KZ.out 3
            have df4 := blk_frozen KZ.out 4
            have df5 := blk_frozen KZ.out 5
            have dl := blk_lt KZ.out
            have x0 := blk_cell KX.out 0
            have x1 := blk_cell KX.out 1
            have x2 := blk_cell KX.out 2
            have x3 := blk_cell KX.out 3
            have x4 := blk_cell KX.out 4
            have x5 := blk_cell KX.out 5
            have xf0 := blk_frozen KX.out 0
            have xf1 := blk_frozen KX.out 1
            have xf2 := blk_frozen KX.out 2
            have xf3 := blk_frozen KX.out 3
            have xf4 := blk_frozen KX.out 4
            have xf5 := blk_frozen KX.out 5
            have xl := blk_lt KX.out
            have hbe := K.out.bel
            clear K HWO HM HBV
            go_wp2_with fail
            go_ret
            exact ⟨by simp, hbe⟩

set_option maxRecDepth 100000 in
set_option maxHeartbeats 8000000 in
theorem tells_no (a0 a1 : Int) (A0 : Option Addr) (c0 : Nat) (l0 : List S31) (b0 b1 : Int) (A1 : Option Addr) (c1 : Nat) (l1 : List S31) (rm : Int) (hlen : l0.length ≤ 200 ∧ l1.length ≤ 200) (hc0 : l0.length ≤ c0) (hc1 : l1.length ≤ c1) (hW : Wide a0 a1 l0) (hR : ¬ Rok a0 a1 l0) (w : World) (hr : Kd.C k31 w A0 l0.length l0) (ho : Kd.C k31 w A1 l1.length l1) (hT : Go.Proofs.YtcpabgijmknldaaDoor.PE.L.Tab w) :
    Calls Tryd.prog 6 #[.agg #[.int .i64 a0, .int .u64 a1, .slice A0 l0.length c0], .agg #[.int .i64 b0, .int .u64 b1, .slice A1 l1.length c1], .int .i64 rm] w fun e w' => e = .returned (.bool true) ∧ Below w.heap.size w w' := by
  have F1 := Lib.hid (Rings.start (a0 := a0) (a1 := a1) (c0 := c0) (b0 := b0) (b1 := b1) (c1 := c1) hr ho hT)
  clear hr ho hT
  have hwk : PS.U.wicketgatelaw27_wakes.f = some true := if_pos trivial
  have HWK := Lib.hid hwk
  have hrt : PS.U.wicketgateref27_Right.f a0 a1 l0 = some false := (if_pos hW).trans (congrArg some (decide_eq_false hR))
  have HRT := Lib.hid hrt
  have hck : PS.U.log_Check.f a0 a1 l0 = some 370 := (if_pos hW).trans (congrArg some (if_neg hR))
  have HCK := Lib.hid hck
  have hcp : PS.U.wicketgatelaw27_copied.f a0 a1 l0 = some (a0, a1, l0) := if_pos hW.2.2.2
  have HCP := Lib.hid hcp
  obtain ⟨sm, hs1, hs2⟩ := PS.U.ring_both a0 a1 l0 b0 b1 l1 hW.2.2.2
  have HS1 := Lib.hid hs1
  have HS2 := Lib.hid hs2
  have h1 : ¬ (200 : Int) < l0.length := by omega
  have h2 : ¬ (200 : Int) < l1.length := by omega
  obtain ⟨v1, v2, v3, v4, hwv⟩ : ∃ v1 v2 v3 v4, PS.U.widenV a0 a1 l0 rm = (v1, v2, v3, v4) := ⟨_, _, _, _, rfl⟩
  have hwd := PS.U.widen_f a0 a1 l0 rm hW
  have hrw := PS.U.rwiden_f a0 a1 l0 rm hW
  rw [hwv] at hwd hrw
  have HWD := Lib.hid hwd
  have HRW := Lib.hid hrw
  have hv3 : v3.length ≤ 300 := by
    have e : v3 = (PS.U.widenV a0 a1 l0 rm).2.2.1 := by rw [hwv]
    have := hW.2.2.2
    rw [e]
    unfold PS.U.widenV PS.U.tailN
    repeat' split
    all_goals first | (simp; done) | (simp; omega)
  have HSF := Lib.hid (PS.U.ring_self v1 v2 v3 hv3)
  clear hwd hrw hwv
  clear hwk hrt hck hcp hs1 hs2 hlen
  go_enter Tryd.func6, Tryd.ntmps6
  go_wp2_with (first | (go_at_call 9; (with_reducible refine (PS.U.wicketgatelaw27_wakes.calls true _ HWK.out F1.out.tab).mono ?_); rintro e1 w2 ⟨rfl, hb2⟩; have F2 := Lib.hid (F1.out.below hb2); have y0 := blk_cell F2.out.r 0; have y1 := blk_cell F2.out.r 1; have y2 := blk_cell F2.out.r 2; have z2 := blk_cell F2.out.o 2; clear hb2) | (go_at_call 19; (with_reducible refine (PS.U.wicketgateref27_Right.calls a0 a1 A0 c0 l0 false _ F2.out.cr hc0 HRT.out).mono ?_); rintro e2 w3 ⟨rfl, hb3⟩; have F3 := Lib.hid (F2.out.below hb3); clear hb3 y0 y1 y2 z2; have y0 := blk_cell F3.out.r 0; have y1 := blk_cell F3.out.r 1; have y2 := blk_cell F3.out.r 2) | (go_at_call 10; (with_reducible refine (PS.U.wicketgatelaw27_copied.calls a0 a1 A0 c0 l0 a0 a1 l0 _ F3.out.cr hc0 HCP.out).mono ?_); rintro e3 w4 ⟨v4, rfl, hv4, hb4⟩; obtain ⟨A4, c4, rfl⟩ := Kd.R_slice hv4; have F4 := Lib.hid (F3.out.below hb4); have HV4 := Lib.hid hv4; clear hb4 hv4 y0 y1 y2) | (go_at_call 16; (with_reducible refine (PS.U.log_Check.calls a0 a1 A4 c4 l0 370 _ (Kd.R_reads' HV4.out).2.2 (Kd.R_reads' HV4.out).2.1 HCK.out F4.out.tab).mono ?_); rintro e4 w5 ⟨rfl, hb5⟩; have F5 := Lib.hid (F4.out.below hb5); clear hb5))
  have hu25 := Tryd.underlying25
  have F6 := Lib.hid (F5.out.below (below_drew (Below.refl _ _)))
  refine start_ (n := 21) (S := fun w' => w'.cell? ⟨w.heap.size, 0, none⟩ = some (.int .i64 a0) ∧ w'.cell? ⟨w.heap.size, 1, none⟩ = some (.int .u64 a1) ∧ w'.cell? ⟨w.heap.size, 2, none⟩ = some (.slice A0 l0.length c0) ∧ w'.cell? ⟨w.heap.size + 1, 0, none⟩ = some (.int .i64 b0) ∧ w'.cell? ⟨w.heap.size + 1, 1, none⟩ = some (.int .u64 b1) ∧ w'.cell? ⟨w.heap.size + 1, 2, none⟩ = some (.slice A1 l1.length c1)) (ds := []) #[false, false, false, false, false, false, false, false, false, false, false, false, false, false, false, false, false, false, false, false, false] (by kernel_rfl) rfl rfl ⟨blk_cell F6.out.r 0, blk_cell F6.out.r 1, blk_cell F6.out.r 2, blk_cell F6.out.o 0, blk_cell F6.out.o 1, blk_cell F6.out.o 2⟩ (fun hHeld => ?_); refine with_tabW tab7 bits7 (fun HT_ HW_ => ?_)
  generalize w5.drew = w6 at F6 hHeld ⊢
  refine pure_ (i := 0) (N := some 39) (v := ?_) (a' := ?_) #[true, false, false, false, false, false, false, false, false, false, false, false, false, false, false, false, false, false, false, false, false] rfl rfl (any_of HT_.out (by kernel_rfl)) (fun _ _ _ h => h) (Or.inl ⟨by rfl, ?_⟩) ?_ ?_
  rotate_left
  ·intro w'
   go_simp
   with_reducible rfl
  rotate_left
  ·simp only [Act.put, List.setIfInBounds_toArray, List.set_cons_zero, List.set_cons_succ, i64_w, i32_w]
   rfl
  refine pure_ (i := 1) (N := some 40) (v := ?_) (a' := ?_) #[true, true, false, false, false, false, false, false, false, false, false, false, false, false, false, false, false, false, false, false, false] rfl rfl (any_of HT_.out (by kernel_rfl)) (fun _ _ _ h => h) (Or.inl ⟨by rfl, ?_⟩) ?_ ?_
  rotate_left
  ·intro w'
   go_simp
   with_reducible rfl
  rotate_left
  ·simp only [Act.put, List.setIfInBounds_toArray, List.set_cons_zero, List.set_cons_succ, i64_w, i32_w]
   rfl
  refine pure_ (i := 2) (N := some 41) (v := ?_) (a' := ?_) #[true, true, true, false, false, false, false, false, false, false, false, false, false, false, false, false, false, false, false, false, false] rfl rfl (any_of HT_.out (by kernel_rfl)) (fun _ _ _ h => h) (Or.inl ⟨by rfl, ?_⟩) ?_ ?_
  rotate_left
  ·intro w'
   go_simp
   with_reducible rfl
  rotate_left
  ·simp only [Act.put, List.setIfInBounds_toArray, List.set_cons_zero, List.set_cons_succ, i64_w, i32_w]
   rfl
  refine pure_ (i := 3) (N := some 42) (v := ?_) (a' := ?_) #[true, true, true, true, false, false, false, false, false, false, false, false, false, false, false, false, false, false, false, false, false] rfl rfl (any_of HT_.out (by kernel_rfl)) (fun _ _ _ h => h) (Or.inl ⟨by rfl, ?_⟩) ?_ ?_
  rotate_left
  ·intro w'
   go_simp
   with_reducible rfl
  rotate_left
  ·simp only [Act.put, List.setIfInBounds_toArray, List.set_cons_zero, List.set_cons_succ, i64_w, i32_w]
   rfl
  refine pure_ (i := 4) (N := some 43) (v := ?_) (a' := ?_) #[true, true, true, true, true, false, false, false, false, false, false, false, false, false, false, false, false, false, false, false, false] rfl rfl (any_of HT_.out (by kernel_rfl)) (fun _ _ _ h => h) (Or.inl ⟨by rfl, ?_⟩) ?_ ?_
  rotate_left
  ·intro w'
   go_simp
   with_reducible rfl
  rotate_left
  ·simp only [Act.put, List.setIfInBounds_toArray, List.set_cons_zero, List.set_cons_succ, i64_w, i32_w]
   rfl
  refine pure_ (i := 5) (N := some 44) (v := ?_) (a' := ?_) #[true, true, true, true, true, true, false, false, false, false, false, false, false, false, false, false, false, false, false, false, false] rfl rfl (any_of HT_.out (by kernel_rfl)) (fun _ _ _ h => h) (Or.inl ⟨by rfl, ?_⟩) ?_ ?_
  rotate_left
  ·intro w'
   go_simp
   with_reducible rfl
  rotate_left
  ·simp only [Act.put, List.setIfInBounds_toArray, List.set_cons_zero, List.set_cons_succ, i64_w, i32_w]
   rfl
  refine pure_ (i := 6) (N := some 45) (v := ?_) (a' := ?_) #[true, true, true, true, true, true, true, false, false, false, false, false, false, false, false, false, false, false, false, false, false] rfl rfl (any_of HT_.out (by kernel_rfl)) (fun _ _ _ h => h) (Or.inl ⟨by rfl, ?_⟩) ?_ ?_
  rotate_left
  ·intro w'
   go_simp
   with_reducible rfl
  rotate_left
  ·simp only [Act.put, List.setIfInBounds_toArray, List.set_cons_zero, List.set_cons_succ, i64_w, i32_w]
   rfl
  refine pure_ (i := 7) (N := some 46) (v := ?_) (a' := ?_) #[true, true, true, true, true, true, true, true, false, false, false, false, false, false, false, false, false, false, false, false, false] rfl rfl (any_of HT_.out (by kernel_rfl)) (fun _ _ _ h => h) (Or.inl ⟨by rfl, ?_⟩) ?_ ?_
  rotate_left
  ·intro w'
   go_simp
   with_reducible rfl
  rotate_left
  ·simp only [Act.put, List.setIfInBounds_toArray, List.set_cons_zero, List.set_cons_succ, i64_w, i32_w]
   rfl
  refine pure_ (i := 8) (N := some 47) (v := ?_) (a' := ?_) #[true, true, true, true, true, true, true, true, true, false, false, false, false, false, false, false, false, false, false, false, false] rfl rfl (any_of HT_.out (by kernel_rfl)) (fun _ _ _ h => h) (Or.inl ⟨by rfl, ?_⟩) ?_ ?_
  rotate_left
  ·intro w'
   go_simp
   with_reducible rfl
  rotate_left
  ·simp only [Act.put, List.setIfInBounds_toArray, List.set_cons_zero, List.set_cons_succ, i64_w, i32_w]
   rfl
  refine pure_ (i := 9) (N := some 48) (v := ?_) (a' := ?_) #[true, true, true, true, true, true, true, true, true, true, false, false, false, false, false, false, false, false, false, false, false] rfl rfl (any_of HT_.out (by kernel_rfl)) (fun _ _ _ h => h) (Or.inl ⟨by rfl, ?_⟩) ?_ ?_
  rotate_left
  ·intro w'
   go_simp
   with_reducible rfl
  rotate_left
  ·simp only [Act.put, List.setIfInBounds_toArray, List.set_cons_zero, List.set_cons_succ, i64_w, i32_w]
   rfl
  refine pure_ (i := 10) (N := some 49) (v := ?_) (a' := ?_) #[true, true, true, true, true, true, true, true, true, true, true, false, false, false, false, false, false, false, false, false, false] rfl rfl (any_of HT_.out (by kernel_rfl)) (fun _ _ _ h => h) (Or.inl ⟨by rfl, ?_⟩) ?_ ?_
  rotate_left
  ·intro w'
   go_simp
   with_reducible rfl
  rotate_left
  ·simp only [Act.put, List.setIfInBounds_toArray, List.set_cons_zero, List.set_cons_succ, i64_w, i32_w]
   rfl
  refine pure_ (i := 11) (N := some 50) (v := ?_) (a' := ?_) #[true, true, true, true, true, true, true, true, true, true, true, true, false, false, false, false, false, false, false, false, false] rfl rfl (any_of HT_.out (by kernel_rfl)) (fun _ _ _ h => h) (Or.inl ⟨by rfl, ?_⟩) ?_ ?_
  rotate_left
  ·intro w'
   go_simp
   with_reducible rfl
  rotate_left
  ·simp only [Act.put, List.setIfInBounds_toArray, List.set_cons_zero, List.set_cons_succ, i64_w, i32_w]
   rfl
  refine pure_ (i := 12) (N := some 51) (v := ?_) (a' := ?_) #[true, true, true, true, true, true, true, true, true, true, true, true, true, false, false, false, false, false, false, false, false] rfl rfl (any_of HT_.out (by kernel_rfl)) (fun _ _ _ h => h) (Or.inl ⟨by rfl, ?_⟩) ?_ ?_
  rotate_left
  ·intro w'
   go_simp
   with_reducible rfl
  rotate_left
  ·simp only [Act.put, List.setIfInBounds_toArray, List.set_cons_zero, List.set_cons_succ, i64_w, i32_w]
   rfl
  refine take_ (i := 13) (N := some 52) (v := ?_) (a' := ?_) #[true, true, true, true, true, true, true, true, true, true, true, true, true, true, false, false, false, false, false, false, false] rfl rfl (take_ofW HT_.out HW_.out (by kernel_rfl)) (fun _ _ _ h => h) (Or.inl ⟨by rfl, ?_⟩) hHeld ?_ ?_
  rotate_left
  ·rintro w' ⟨s0, s1, s2, s3, s4, s5⟩
   go_simp
   with_reducible rfl
  rotate_left
  ·simp only [Act.put, List.setIfInBounds_toArray, List.set_cons_zero, List.set_cons_succ, i64_w, i32_w]
   rfl
  refine take_ (i := 14) (N := some 53) (v := ?_) (a' := ?_) #[true, true, true, true, true, true, true, true, true, true, true, true, true, true, true, false, false, false, false, false, false] rfl rfl (take_ofW HT_.out HW_.out (by kernel_rfl)) (fun _ _ _ h => h) (Or.inl ⟨by rfl, ?_⟩) hHeld ?_ ?_
  rotate_left
  ·rintro w' ⟨s0, s1, s2, s3, s4, s5⟩
   go_simp
   with_reducible rfl
  rotate_left
  ·simp only [Act.put, List.setIfInBounds_toArray, List.set_cons_zero, List.set_cons_succ, i64_w, i32_w]
   rfl
  refine take_ (i := 16) (N := some 55) (v := ?_) (a' := ?_) #[true, true, true, true, true, true, true, true, true, true, true, true, true, true, true, false, true, false, false, false, false] rfl rfl (take_ofW HT_.out HW_.out (by kernel_rfl)) (fun _ _ _ h => h) (Or.inl ⟨by rfl, ?_⟩) hHeld ?_ ?_
  rotate_left
  ·rintro w' ⟨s0, s1, s2, s3, s4, s5⟩
   go_simp
   with_reducible rfl
  rotate_left
  ·simp only [Act.put, List.setIfInBounds_toArray, List.set_cons_zero, List.set_cons_succ, i64_w, i32_w]
   rfl
  refine take_ (i := 17) (N := some 56) (v := ?_) (a' := ?_) #[true, true, true, true, true, true, true, true, true, true, true, true, true, true, true, false, true, true, false, false, false] rfl rfl (take_ofW HT_.out HW_.out (by kernel_rfl)) (fun _ _ _ h => h) (Or.inl ⟨by rfl, ?_⟩) hHeld ?_ ?_
  rotate_left
  ·rintro w' ⟨s0, s1, s2, s3, s4, s5⟩
   go_simp
   with_reducible rfl
  rotate_left
  ·simp only [Act.put, List.setIfInBounds_toArray, List.set_cons_zero, List.set_cons_succ, i64_w, i32_w]
   rfl
  refine one_ (i := 15) (N := some 54) #[true, true, true, true, true, true, true, true, true, true, true, true, true, true, true, true, true, true, false, false, false] rfl rfl (one_of HT_.out (by kernel_rfl)) (by decide) (fun K hK => ?_)
  refine goes_ Tryd.func18 (by kernel_rfl) rfl #[.agg #[.int .i64 a0, .int .u64 a1, .slice A0 l0.length c0], .agg #[.int .i64 b0, .int .u64 b1, .slice A1 l1.length c1]] (by rfl) rfl rfl (by (try simp only [List.map_toArray, List.map_cons, List.map_nil]); first | done | rfl | (simp only [List.length_drop, List.length_take]; rfl)) ?_
  with_reducible refine (PS.U.log_Same.calls 1000 a0 a1 _ _ l0 b0 b1 _ _ l1 sm _ ?side1 ?side2 ?side3 ?side4 HS1.out).mono ?_
  (case side1 => exact F6.out.cr)
  (case side2 => exact hc0)
  (case side3 => exact F6.out.co)
  (case side4 => exact hc1)
  rintro e w7 ⟨rfl, hb⟩
  have F7 := Lib.hid (F6.out.below hb)
  clear hb
  refine ⟨_, rfl, ?_⟩
  refine hK.out _ _ ⟨blk_cell F7.out.r 0, blk_cell F7.out.r 1, blk_cell F7.out.r 2, blk_cell F7.out.o 0, blk_cell F7.out.o 1, blk_cell F7.out.o 2⟩ (fun hHeld => ?_)
  clear hK K
  refine norm_ (a' := ?_) ?_ ?_
  rotate_left
  ·show Act.put _ (some 54) _ = _
   simp only [Act.put, List.setIfInBounds_toArray, List.set_cons_zero, List.set_cons_succ, i64_w, i32_w]
   rfl
  refine one_ (i := 18) (N := some 57) #[true, true, true, true, true, true, true, true, true, true, true, true, true, true, true, true, true, true, true, false, false] rfl rfl (one_of HT_.out (by kernel_rfl)) (by decide) (fun K hK => ?_)
  refine goes_ Tryd.func13 (by kernel_rfl) rfl #[.agg #[.int .i64 a0, .int .u64 a1, .slice A0 l0.length c0], .agg #[.int .i64 b0, .int .u64 b1, .slice A1 l1.length c1]] (by rfl) rfl rfl (by (try simp only [List.map_toArray, List.map_cons, List.map_nil]); first | done | rfl | (simp only [List.length_drop, List.length_take]; rfl)) ?_
  with_reducible refine (PS.U.wicketgateref27_Same.calls 1000 a0 a1 _ _ l0 b0 b1 _ _ l1 sm _ ?side1 ?side2 ?side3 ?side4 HS2.out).mono ?_
  (case side1 => exact F7.out.cr)
  (case side2 => exact hc0)
  (case side3 => exact F7.out.co)
  (case side4 => exact hc1)
  rintro e w8 ⟨rfl, hb⟩
  have F8 := Lib.hid (F7.out.below hb)
  clear hb
  refine ⟨_, rfl, ?_⟩
  refine hK.out _ _ ⟨blk_cell F8.out.r 0, blk_cell F8.out.r 1, blk_cell F8.out.r 2, blk_cell F8.out.o 0, blk_cell F8.out.o 1, blk_cell F8.out.o 2⟩ (fun hHeld => ?_)
  clear hK K
  refine norm_ (a' := ?_) ?_ ?_
  rotate_left
  ·show Act.put _ (some 57) _ = _
   simp only [Act.put, List.setIfInBounds_toArray, List.set_cons_zero, List.set_cons_succ, i64_w, i32_w]
   rfl
  refine pure_ (i := 19) (N := some 58) (v := ?_) (a' := ?_) #[true, true, true, true, true, true, true, true, true, true, true, true, true, true, true, true, true, true, true, true, false] rfl rfl (any_of HT_.out (by kernel_rfl)) (fun _ _ _ h => h) (Or.inl ⟨by rfl, ?_⟩) ?_ ?_
  rotate_left
  ·intro w'
   go_simp
   with_reducible rfl
  rotate_left
  ·simp only [Act.put, List.setIfInBounds_toArray, List.set_cons_zero, List.set_cons_succ, i64_w, i32_w]
   rfl
  refine pure_ (i := 20) (N := some 59) (v := ?_) (a' := ?_) #[true, true, true, true, true, true, true, true, true, true, true, true, true, true, true, true, true, true, true, true, true] rfl rfl (any_of HT_.out (by kernel_rfl)) (fun _ _ _ h => h) (Or.inl ⟨by rfl, ?_⟩) ?_ ?_
  rotate_left
  ·intro w'
   go_simp
   with_reducible rfl
  rotate_left
  ·simp only [Act.put, List.setIfInBounds_toArray, List.set_cons_zero, List.set_cons_succ, i64_w, i32_w]
   rfl
  refine done_ (done_of HT_.out (by kernel_rfl)) ?_
  have y0 := blk_cell F8.out.r 0
  have y1 := blk_cell F8.out.r 1
  have y2 := blk_cell F8.out.r 2
  go_wp2_with (first | (go_at_call 10; (with_reducible refine (PS.U.wicketgatelaw27_copied.calls a0 a1 A0 c0 l0 a0 a1 l0 _ F8.out.cr hc0 HCP.out).mono ?_); rintro e9 w9 ⟨v9, rfl, hv9, hb9⟩; obtain ⟨A9, c9, rfl⟩ := Kd.R_slice hv9; have F9 := Lib.hid (F8.out.below hb9); have HV9 := Lib.hid hv9; clear hb9 hv9 y0 y1 y2) | (go_at_call 17; (with_reducible refine (PS.U.log_Widen.calls 1000 a0 a1 A9 c9 l0 rm v1 v2 v3 v4 _ (Kd.R_reads' HV9.out).2.2 (Kd.R_reads' HV9.out).2.1 HWD.out F9.out.tab).mono ?_); rintro e10 w10 ⟨v10, rfl, hv10, hb10⟩; obtain ⟨A10, c10, rfl⟩ := Kd.R_slice hv10; have F10 := Lib.hid (F9.out.below hb10); have HV10 := Lib.hid hv10; clear hb10 hv10; have y0 := blk_cell F10.out.r 0; have y1 := blk_cell F10.out.r 1; have y2 := blk_cell F10.out.r 2; have lb := blk_lt F10.out.r; have F10b := Lib.hid (F10.out.below ((Below.refl _ w10).alloc (Nat.le_refl _) (.cells #[.int .i64 v1, .int .u64 v2, .slice A10 v3.length c10] 25)))) | (go_at_call 20; (with_reducible refine (PS.U.wicketgateref27_Widen.calls 1000 a0 a1 A0 c0 l0 rm v1 v2 v3 v4 _ F10b.out.cr hc0 HRW.out).mono ?_); rintro e11 w11 ⟨v11, rfl, hv11, hb11⟩; obtain ⟨A11, c11, rfl⟩ := Kd.R_slice hv11; have F11 := Lib.hid (F10b.out.below hb11); have HV11 := Lib.hid hv11; have HP9 := Lib.hid ((hb11.block _ (by simp)).trans (World.alloc_heap_new w10 (.cells #[.int .i64 v1, .int .u64 v2, .slice A10 v3.length c10] 25))); have HC10 := Lib.hid (Kd.C_below (Kd.R_reads' HV10.out).2.2 (((Below.refl _ w10).alloc (Nat.le_refl _) (.cells #[.int .i64 v1, .int .u64 v2, .slice A10 v3.length c10] 25)).trans (hb11.mono (by simp)))); clear hb11 hv11 y0 y1 y2 lb; have p0 := blk_cell HP9.out 0; have p1 := blk_cell HP9.out 1; have p2 := blk_cell HP9.out 2; have lp := blk_lt HP9.out) | (go_at_call 13; (with_reducible refine (PS.U.wicketgateref27_Same.calls 1000 v1 v2 A10 c10 v3 v1 v2 A11 c11 v3 true _ (Kd.C_below HC10.out ((Below.refl _ w11).alloc (Nat.le_refl _) (.cells #[.int .i64 v1, .int .u64 v2, .slice A11 v3.length c11] 25))) (Kd.R_reads' HV10.out).2.1 (Kd.C_below (Kd.R_reads' HV11.out).2.2 ((Below.refl _ w11).alloc (Nat.le_refl _) (.cells #[.int .i64 v1, .int .u64 v2, .slice A11 v3.length c11] 25))) (Kd.R_reads' HV11.out).2.1 HSF.out).mono ?_); rintro e12 w12 ⟨rfl, hb12⟩; have F12 := Lib.hid ((F11.out.below ((Below.refl _ w11).alloc (Nat.le_refl _) (.cells #[.int .i64 v1, .int .u64 v2, .slice A11 v3.length c11] 25))).below hb12); clear hb12 p0 p1 p2 lp))
  clear F1 F2 F3 F4 F5 F6 F7 F8 F9 F10 F10b F11 HV4 HV9 HV10 HV11 HC10 HP9 HS1 HS2 HWD HRW HSF HWK HRT hv3
  rcases (by omega : (1 ≤ rm ∧ rm ≤ 32) ∨ rm < 1 ∨ 32 < rm) with hrm | hrm | hrm
  · have hnw : PS.U.log_New.f rm = some (rm, 1, [], 0) := (if_neg (by omega)).trans (if_neg (by omega))
    have HNW := Lib.hid hnw
    clear hnw
    have r1 : (1 : Int) ≤ rm := hrm.1
    have r2 : rm ≤ 32 := hrm.2
    clear hrm
    go_wp2_with (first | (go_at_call 14; (with_reducible refine (PS.U.log_New.calls rm rm 1 [] 0 _ HNW.out).mono ?_); rintro e13 w13 ⟨v13, rfl, hv13, hb13⟩; obtain ⟨A13, c13, rfl⟩ := Kd.R_slice hv13; have F13 := Lib.hid ((F12.out.below hb13).below ((Below.refl _ w13).alloc (Nat.le_refl _) (.cells #[.int .i64 rm, .int .u64 1, .slice A13 0 c13] 25))); have HC13 := Lib.hid (Kd.C_below (Kd.R_reads' hv13).2.2 ((Below.refl _ w13).alloc (Nat.le_refl _) (.cells #[.int .i64 rm, .int .u64 1, .slice A13 0 c13] 25))); clear hb13 hv13) | (go_at_call 13; refine (PS.U.wicketgateref27_Same.calls 1000 rm 1 A13 c13 [] rm 1 none 0 [] true _ HC13.out (Nat.zero_le _) (Kd.C_nil _ _) (Nat.zero_le _) (PS.U.ring_self rm 1 [] (by simp))).mono ?_; rintro e14 w14 ⟨rfl, hb14⟩; have F14 := Lib.hid (F13.out.below hb14); clear hb14; have y0 := blk_cell F14.out.r 0; have y1 := blk_cell F14.out.r 1; have y2 := blk_cell F14.out.r 2) | (go_at_call 10; (with_reducible refine (PS.U.wicketgatelaw27_copied.calls a0 a1 A0 c0 l0 a0 a1 l0 _ F14.out.cr hc0 HCP.out).mono ?_); rintro e15 w15 ⟨v15, rfl, hv15, hb15⟩; obtain ⟨A15, c15, rfl⟩ := Kd.R_slice hv15; have F15 := Lib.hid (F14.out.below hb15); have HV15 := Lib.hid hv15; clear hb15 hv15 y0 y1 y2) | (go_at_call 21; (with_reducible refine (worst_no a0 a1 A15 c15 l0 hW (fun h => absurd h hR) w15 (Kd.R_reads' HV15.out).2.2 (Kd.R_reads' HV15.out).2.1 F15.out.tab).mono ?_); rintro e16 w16 ⟨rfl, hb16⟩; have F16 := Lib.hid (F15.out.below hb16); clear hb16; have y0 := blk_cell F16.out.r 0; have y1 := blk_cell F16.out.r 1; have y2 := blk_cell F16.out.r 2; have lr := blk_lt F16.out.r))
    go_ret
    exact ⟨rfl, (F16.out.bel.alloc (by have := F16.out.bel.size; omega) _).alloc (by have := F16.out.bel.size; simp; omega) _⟩
  · have hnw : PS.U.log_New.f rm = some (0, 0, [], 2) := if_pos hrm
    have HNW := Lib.hid hnw
    clear hnw
    go_wp2_with (first | (go_at_call 14; (with_reducible refine (PS.U.log_New.calls rm 0 0 [] 2 _ HNW.out).mono ?_); rintro e13 w13 ⟨v13, rfl, hv13, hb13⟩; obtain ⟨A13, c13, rfl⟩ := Kd.R_slice hv13; have F13 := Lib.hid ((F12.out.below hb13).below ((Below.refl _ w13).alloc (Nat.le_refl _) (.cells #[.int .i64 0, .int .u64 0, .slice A13 0 c13] 25))); have HC13 := Lib.hid (Kd.C_below (Kd.R_reads' hv13).2.2 ((Below.refl _ w13).alloc (Nat.le_refl _) (.cells #[.int .i64 0, .int .u64 0, .slice A13 0 c13] 25))); clear hb13 hv13; have y0 := blk_cell F13.out.r 0; have y1 := blk_cell F13.out.r 1; have y2 := blk_cell F13.out.r 2) | (go_at_call 10; (with_reducible refine (PS.U.wicketgatelaw27_copied.calls a0 a1 A0 c0 l0 a0 a1 l0 _ F13.out.cr hc0 HCP.out).mono ?_); rintro e15 w15 ⟨v15, rfl, hv15, hb15⟩; obtain ⟨A15, c15, rfl⟩ := Kd.R_slice hv15; have F15 := Lib.hid (F13.out.below hb15); have HV15 := Lib.hid hv15; clear hb15 hv15 y0 y1 y2) | (go_at_call 21; (with_reducible refine (worst_no a0 a1 A15 c15 l0 hW (fun h => absurd h hR) w15 (Kd.R_reads' HV15.out).2.2 (Kd.R_reads' HV15.out).2.1 F15.out.tab).mono ?_); rintro e16 w16 ⟨rfl, hb16⟩; have F16 := Lib.hid (F15.out.below hb16); clear hb16; have y0 := blk_cell F16.out.r 0; have y1 := blk_cell F16.out.r 1; have y2 := blk_cell F16.out.r 2; have lr := blk_lt F16.out.r))
    go_ret
    exact ⟨rfl, (F16.out.bel.alloc (by have := F16.out.bel.size; omega) _).alloc (by have := F16.out.bel.size; simp; omega) _⟩
  · have hnw : PS.U.log_New.f rm = some (0, 0, [], 2) := (if_neg (by omega)).trans (if_pos (by omega))
    have HNW := Lib.hid hnw
    clear hnw
    go_wp2_with (first | (go_at_call 14; (with_reducible refine (PS.U.log_New.calls rm 0 0 [] 2 _ HNW.out).mono ?_); rintro e13 w13 ⟨v13, rfl, hv13, hb13⟩; obtain ⟨A13, c13, rfl⟩ := Kd.R_slice hv13; have F13 := Lib.hid ((F12.out.below hb13).below ((Below.refl _ w13).alloc (Nat.le_refl _) (.cells #[.int .i64 0, .int .u64 0, .slice A13 0 c13] 25))); have HC13 := Lib.hid (Kd.C_below (Kd.R_reads' hv13).2.2 ((Below.refl _ w13).alloc (Nat.le_refl _) (.cells #[.int .i64 0, .int .u64 0, .slice A13 0 c13] 25))); clear hb13 hv13; have y0 := blk_cell F13.out.r 0; have y1 := blk_cell F13.out.r 1; have y2 := blk_cell F13.out.r 2) | (go_at_call 10; (with_reducible refine (PS.U.wicketgatelaw27_copied.calls a0 a1 A0 c0 l0 a0 a1 l0 _ F13.out.cr hc0 HCP.out).mono ?_); rintro e15 w15 ⟨v15, rfl, hv15, hb15⟩; obtain ⟨A15, c15, rfl⟩ := Kd.R_slice hv15; have F15 := Lib.hid (F13.out.below hb15); have HV15 := Lib.hid hv15; clear hb15 hv15 y0 y1 y2) | (go_at_call 21; (with_reducible refine (worst_no a0 a1 A15 c15 l0 hW (fun h => absurd h hR) w15 (Kd.R_reads' HV15.out).2.2 (Kd.R_reads' HV15.out).2.1 F15.out.tab).mono ?_); rintro e16 w16 ⟨rfl, hb16⟩; have F16 := Lib.hid (F15.out.below hb16); clear hb16; have y0 := blk_cell F16.out.r 0; have y1 := blk_cell F16.out.r 1; have y2 := blk_cell F16.out.r 2; have lr := blk_lt F16.out.r))
    go_ret
    exact ⟨rfl, (F16.out.bel.alloc (by have := F16.out.bel.size; omega) _).alloc (by have := F16.out.bel.size; simp; omega) _⟩
end Go.Proofs.YtcpabgijmknldaaDoor.RG
