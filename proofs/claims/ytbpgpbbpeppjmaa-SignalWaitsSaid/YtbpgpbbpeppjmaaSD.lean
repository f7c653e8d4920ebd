import Derived.Test.YtbpgpbbpeppjmaaSC
namespace Go.Proofs.Ytbpgpbbpeppjmaa.SG
open Go.RowKit Go.Proofs.YtbpgpbbpeppjmaaW.PrintWords Go.Proofs.YtbpgpbbpeppjmaaW.PrintLast Go.Proofs.YtbpgpbbpeppjmaaW.PrintMore
set_option linter.unusedVariables false
set_option linter.unusedSimpArgs false
def set3.T3 : Bool × List (List Nat × List Nat) := (true, [([], []), ([], []), ([], []), ([], []), ([0, 0, 2], [0]), ([4, 0, 2], [4]), ([5, 0, 2], [5]), ([6, 2, 0, 2], [2, 6]), ([1, 0, 1, 2, 3, 4, 5, 6, 7], [1]), ([8, 0, 1, 2, 3, 4, 5, 6, 7], [8]), ([9, 0, 1, 2, 3, 4, 5, 6, 7], [9]), ([10, 3, 7, 0, 1, 2, 3, 4, 5, 6, 7], [3, 10])])
def set3.B3 : List Nat := [0, 0, 0, 0, 5, 21, 53, 117, 255, 511, 1023, 2047]
theorem set3.tab3 : rtab .any (opsOf Try.f22 3) = set3.T3 := by kernel_rfl
theorem set3.bits3 : waitsOk set3.T3.2 set3.B3 = true := by kernel_rfl
def send5.T5 : Bool × List (List Nat × List Nat) := (true, [([], []), ([], []), ([], []), ([0, 0], [0]), ([3, 0], [3]), ([4, 0], [4]), ([5, 0], [5]), ([1, 0, 1, 2, 3, 4, 5, 6], [1]), ([7, 0, 1, 2, 3, 4, 5, 6], [7]), ([8, 0, 1, 2, 3, 4, 5, 6], [8]), ([9, 2, 6, 0, 1, 2, 3, 4, 5, 6], [2, 9])])
def send5.B5 : List Nat := [0, 0, 0, 1, 9, 25, 57, 127, 255, 511, 1023]
theorem send5.tab5 : rtab .any (opsOf Try.f19 5) = send5.T5 := by kernel_rfl
theorem send5.bits5 : waitsOk send5.T5.2 send5.B5 = true := by kernel_rfl
def ret4.T4 : Bool × List (List Nat × List Nat) := (true, [([], []), ([], []), ([], []), ([2], [2]), ([3], [3]), ([4], [4]), ([5], [5]), ([], []), ([7], [7]), ([6, 8], [6, 8]), ([9], [9]), ([], []), ([11], [11]), ([12], [12]), ([13], [13]), ([14], [14]), ([], []), ([16], [16]), ([15, 17], [15, 17]), ([0, 0, 2, 3, 4, 5, 6, 7, 8, 9, 10, 15], [0]), ([19, 0, 2, 3, 4, 5, 6, 7, 8, 9, 10, 15], [19]), ([20, 0, 2, 3, 4, 5, 6, 7, 8, 9, 10, 15], [20]), ([21, 10, 0, 2, 3, 4, 5, 6, 7, 8, 9, 10, 15], [10, 21]), ([1, 0, 1, 2, 3, 4, 5, 6, 7, 8, 9, 10, 11, 12, 13, 14, 15, 16, 17, 18, 19, 20, 21, 22], [1]), ([23, 0, 1, 2, 3, 4, 5, 6, 7, 8, 9, 10, 11, 12, 13, 14, 15, 16, 17, 18, 19, 20, 21, 22], [23]), ([24, 0, 1, 2, 3, 4, 5, 6, 7, 8, 9, 10, 11, 12, 13, 14, 15, 16, 17, 18, 19, 20, 21, 22], [24]), ([25, 18, 22, 0, 1, 2, 3, 4, 5, 6, 7, 8, 9, 10, 11, 12, 13, 14, 15, 16, 17, 18, 19, 20, 21, 22], [18, 25])])
def ret4.B4 : List Nat := [0, 0, 0, 4, 12, 28, 60, 0, 128, 508, 1020, 0, 2048, 6144, 14336, 30720, 0, 65536, 260096, 65533, 589821, 1638397, 3735549, 8388607, 16777215, 33554431, 67108863]
theorem ret4.tab4 : rtab .any (opsOf Try.f25 4) = ret4.T4 := by kernel_rfl
theorem ret4.bits4 : waitsOk ret4.T4.2 ret4.B4 = true := by kernel_rfl
def Sg.setD (s : Sg) (a : Int) (q : Bool) : Sg × Ht × Int := if a < 0 then (s, nohit, 2) else if a > 2 then (s, nohit, 2) else if q = true ∧ a ≠ 2 then (s, nohit, 2) else if a = 1 then (Sg.drop ⟨a, q, s.bl, s.pe, s.co, s.er, s.nr, s.ar, s.l⟩, nohit, 0) else (⟨a, q, s.bl, s.pe, s.co, s.er, s.nr, s.ar, s.l⟩, nohit, 0)
set_option maxHeartbeats 1000000 in
set_option maxRecDepth 100000 in
theorem set1_w (n X : Nat) (C D : Nat) (a : Int) (q : Bool) (s : Sg) (v : Value) (W : World) (hX : n ≤ X) (hC : W.heap[C]? = some (.cells #[.int .i64 a] 3 (0, 0))) (hD : W.heap[D]? = some (.cells #[.bool q] 4 (0, 0))) (hCX : C ≠ X) (hDX : D ≠ X) (hP : Has n X s v W) :
    Calls Try.prog 22 #[.pointer (some ⟨X, 0, none⟩), .pointer (some ⟨C, 0, none⟩), .pointer (some ⟨D, 0, none⟩)] W fun e w' => e = .returned (.tuple #[.agg #[.bool (s.setD a q).2.1.di, .bool (s.setD a q).2.1.ru, .int .i64 (s.setD a q).2.1.co, .int .i64 (s.setD a q).2.1.er, .int .u32 (s.setD a q).2.1.nr, .int .u32 (s.setD a q).2.1.ar], .int .i64 (s.setD a q).2.2]) ∧ Gets n X v W (s.setD a q).1 w' := by
  obtain ⟨ac, op, bl, pe, co0, er0, nr0, ar0, l⟩ := s
  obtain ⟨hb, hR⟩ := hP
  dsimp only at hb hR
  have hbs := Aside0.mk hb
  have hRs := Aside0.mk hR
  have hXl := blk_lt hb
  have hc0 := blk_cell hb 0
  have hf0 := blk_frozen hb 0
  have hc1 := blk_cell hb 1
  have hf1 := blk_frozen hb 1
  have hc2 := blk_cell hb 2
  have hf2 := blk_frozen hb 2
  have hc3 := blk_cell hb 3
  have hf3 := blk_frozen hb 3
  have hc4 := blk_cell hb 4
  have hf4 := blk_frozen hb 4
  have hc5 := blk_cell hb 5
  have hf5 := blk_frozen hb 5
  have hc6 := blk_cell hb 6
  have hf6 := blk_frozen hb 6
  have hc7 := blk_cell hb 7
  have hf7 := blk_frozen hb 7
  have hc8 := blk_cell hb 8
  have hf8 := blk_frozen hb 8
  simp only [List.getElem?_toArray, List.getElem?_cons_zero, List.getElem?_cons_succ] at hc0 hc1 hc2 hc3 hc4 hc5 hc6 hc7 hc8
  clear hb hR
  have hn : n ≤ W.heap.size := by omega
  have hCs := Aside0.mk hC
  have hDs := Aside0.mk hD
  have hCl := blk_lt hC
  have hDl := blk_lt hD
  have hk0 : W.cell? ⟨C, 0, none⟩ = some (.int .i64 a) := blk_cell hC 0
  have hk1 : W.cell? ⟨D, 0, none⟩ = some (.bool q) := blk_cell hD 0
  clear hC hD
  by_cases g1 : a < 0
  · have g1' : decide (a < 0) = true := decide_eq_true g1
    rw [show Sg.setD ⟨ac, op, bl, pe, co0, er0, nr0, ar0, l⟩ a q = (⟨ac, op, bl, pe, co0, er0, nr0, ar0, l⟩, nohit, 2) from by simp [Sg.setD, g1]]
    dsimp only [nohit]
    go_enter Try.func22, Try.ntmps22
    go_wp2
    refine bodyPost_ret (results_ct rfl _ _ (W.heap.size) 33 #[.bool false, .bool false, .int .i64 0, .int .i64 0, .int .u32 0, .int .u32 0] (0, 0) _ rfl ?hr_ Try.underlying33 rfl (by kernel_rfl)) rfl ?_
    case hr_ => ((repeat (first | (with_reducible exact heap_new_at _ _ _ (by simp)) | (with_reducible refine blk_drewN ?_ _) | (with_reducible refine blk_drew ?_) | (with_reducible refine (Below.heap_setCell _ _ _ _ (by dsimp only; omega)).trans ?_) | (with_reducible apply blk_put) | (with_reducible refine blk_alloc ?_ _))); all_goals rfl)
    refine ⟨rfl, Gets.mk' (v) ?_ ?_ ?_ ?_⟩
    · (repeat (with_reducible first | exact hbs.out | refine blk_alloc ?_ _ | refine blk_drewN ?_ _ | refine blk_drew ?_ | refine (Below.heap_setCell _ _ _ _ (by dsimp only; omega)).trans ?_ | apply blk_put))
      all_goals rfl
    · refine St.R (W := _) ?_ (hRs.out) (fun k hk => hk) (fun k hk => hk)
      (repeat (with_reducible first | exact St.rfl' _ _ _ | refine St.set ?_ (by omega) (by first | exact Or.inl rfl | exact Or.inl (Or.inl rfl) | exact Or.inl (Or.inr rfl) | (right; omega)) _ _ | refine St.drewN ?_ _ | refine St.drew ?_ | refine St.alloc ?_ (by omega) _))
    · refine St.mono (S := fun k => k = X) ?_ (fun k hk => Or.inl hk); (repeat (with_reducible first | exact St.rfl' _ _ _ | refine St.set ?_ (by omega) (by first | exact Or.inl rfl | exact Or.inl (Or.inl rfl) | exact Or.inl (Or.inr rfl) | (right; omega)) _ _ | refine St.drewN ?_ _ | refine St.drew ?_ | refine St.alloc ?_ (by omega) _))
    · exact New.rfl' _ _
  have g1' : decide (a < 0) = false := decide_eq_false g1
  by_cases g2 : a > 2
  · have g2' : decide (2 < a) = true := decide_eq_true g2
    rw [show Sg.setD ⟨ac, op, bl, pe, co0, er0, nr0, ar0, l⟩ a q = (⟨ac, op, bl, pe, co0, er0, nr0, ar0, l⟩, nohit, 2) from by simp [Sg.setD, g1, g2]]
    dsimp only [nohit]
    go_enter Try.func22, Try.ntmps22
    go_wp2
    refine bodyPost_ret (results_ct rfl _ _ (W.heap.size) 33 #[.bool false, .bool false, .int .i64 0, .int .i64 0, .int .u32 0, .int .u32 0] (0, 0) _ rfl ?hr_ Try.underlying33 rfl (by kernel_rfl)) rfl ?_
    case hr_ => ((repeat (first | (with_reducible exact heap_new_at _ _ _ (by simp)) | (with_reducible refine blk_drewN ?_ _) | (with_reducible refine blk_drew ?_) | (with_reducible refine (Below.heap_setCell _ _ _ _ (by dsimp only; omega)).trans ?_) | (with_reducible apply blk_put) | (with_reducible refine blk_alloc ?_ _))); all_goals rfl)
    refine ⟨rfl, Gets.mk' (v) ?_ ?_ ?_ ?_⟩
    · (repeat (with_reducible first | exact hbs.out | refine blk_alloc ?_ _ | refine blk_drewN ?_ _ | refine blk_drew ?_ | refine (Below.heap_setCell _ _ _ _ (by dsimp only; omega)).trans ?_ | apply blk_put))
      all_goals rfl
    · refine St.R (W := _) ?_ (hRs.out) (fun k hk => hk) (fun k hk => hk)
      (repeat (with_reducible first | exact St.rfl' _ _ _ | refine St.set ?_ (by omega) (by first | exact Or.inl rfl | exact Or.inl (Or.inl rfl) | exact Or.inl (Or.inr rfl) | (right; omega)) _ _ | refine St.drewN ?_ _ | refine St.drew ?_ | refine St.alloc ?_ (by omega) _))
    · refine St.mono (S := fun k => k = X) ?_ (fun k hk => Or.inl hk); (repeat (with_reducible first | exact St.rfl' _ _ _ | refine St.set ?_ (by omega) (by first | exact Or.inl rfl | exact Or.inl (Or.inl rfl) | exact Or.inl (Or.inr rfl) | (right; omega)) _ _ | refine St.drewN ?_ _ | refine St.drew ?_ | refine St.alloc ?_ (by omega) _))
    · exact New.rfl' _ _
  have g2' : decide (2 < a) = false := decide_eq_false g2
  by_cases g3 : q = true
  · subst g3
    by_cases g4 : a = 2
    · subst g4
      rw [show Sg.setD ⟨ac, op, bl, pe, co0, er0, nr0, ar0, l⟩ 2 true = (⟨2, true, bl, pe, co0, er0, nr0, ar0, l⟩, nohit, 0) from by simp [Sg.setD]]
      dsimp only [nohit]
      go_enter Try.func22, Try.ntmps22
      go_wp2_with fail
      refine start_ (n := 12) (S := fun w' => w'.heap[C]? = some (.cells #[.int .i64 2] 3 (0, 0)) ∧ w'.heap[D]? = some (.cells #[.bool true] 4 (0, 0))) (ds := []) #[false, false, false, false, false, false, false, false, false, false, false, false] (by kernel_rfl) rfl rfl (⟨blk_drew (blk_alloc hCs.out _), blk_drew (blk_alloc hDs.out _)⟩) (fun hHeld => ?_); refine with_tabW set3.tab3 set3.bits3 (fun HT_ HW_ => ?_)
      refine pure_ (i := 0) (N := some 20) (v := ?_) (a' := ?_) #[true, false, false, false, false, false, false, false, false, false, false, false] rfl rfl (any_of HT_.out (by kernel_rfl)) (fun _ _ _ h => h) (Or.inl ⟨by rfl, ?_⟩) ?_ ?_
      rotate_left
      · intro w'
        go_simp
        with_reducible rfl
      rotate_left
      · (try simp only [Act.put, List.setIfInBounds_toArray, List.set_cons_zero, List.set_cons_succ])
        rfl
      refine pure_ (i := 1) (N := some 21) (v := ?_) (a' := ?_) #[true, true, false, false, false, false, false, false, false, false, false, false] rfl rfl (any_of HT_.out (by kernel_rfl)) (fun _ _ _ h => h) (Or.inl ⟨by rfl, ?_⟩) ?_ ?_
      rotate_left
      · intro w'
        go_simp
        with_reducible rfl
      rotate_left
      · (try simp only [Act.put, List.setIfInBounds_toArray, List.set_cons_zero, List.set_cons_succ])
        rfl
      refine take_ (i := 2) (N := some 22) (v := ?_) (a' := ?_) #[true, true, true, false, false, false, false, false, false, false, false, false] rfl rfl (take_ofW HT_.out HW_.out (by kernel_rfl)) (fun _ _ _ h => h) (Or.inl ⟨by rfl, ?_⟩) hHeld ?_ ?_
      rotate_left
      · intro w' hS_
        have hx_ : w'.cell? ⟨C, 0, none⟩ = some (.int .i64 2) := blk_cell hS_.1 0
        go_simp
        with_reducible rfl
      rotate_left
      · (try simp only [Act.put, List.setIfInBounds_toArray, List.set_cons_zero, List.set_cons_succ])
        rfl
      refine pure_ (i := 4) (N := some 24) (v := ?_) (a' := ?_) #[true, true, true, false, true, false, false, false, false, false, false, false] rfl rfl (any_of HT_.out (by kernel_rfl)) (fun _ _ _ h => h) (Or.inl ⟨by rfl, ?_⟩) ?_ ?_
      rotate_left
      · intro w'
        go_simp
        with_reducible rfl
      rotate_left
      · (try simp only [Act.put, List.setIfInBounds_toArray, List.set_cons_zero, List.set_cons_succ])
        rfl
      refine pure_ (i := 5) (N := some 25) (v := ?_) (a' := ?_) #[true, true, true, false, true, true, false, false, false, false, false, false] rfl rfl (any_of HT_.out (by kernel_rfl)) (fun _ _ _ h => h) (Or.inl ⟨by rfl, ?_⟩) ?_ ?_
      rotate_left
      · intro w'
        go_simp
        with_reducible rfl
      rotate_left
      · (try simp only [Act.put, List.setIfInBounds_toArray, List.set_cons_zero, List.set_cons_succ])
        rfl
      refine pure_ (i := 6) (N := some 26) (v := ?_) (a' := ?_) #[true, true, true, false, true, true, true, false, false, false, false, false] rfl rfl (any_of HT_.out (by kernel_rfl)) (fun _ _ _ h => h) (Or.inl ⟨by rfl, ?_⟩) ?_ ?_
      rotate_left
      · intro w'
        go_simp
        with_reducible rfl
      rotate_left
      · (try simp only [Act.put, List.setIfInBounds_toArray, List.set_cons_zero, List.set_cons_succ])
        rfl
      refine take_ (i := 3) (N := some 23) (v := ?_) (a' := ?_) #[true, true, true, true, true, true, true, false, false, false, false, false] rfl rfl (take_ofW HT_.out HW_.out (by kernel_rfl)) (fun _ _ _ h => h) (Or.inl ⟨by rfl, ?_⟩) hHeld ?_ ?_
      rotate_left
      · intro w' hS_
        have hx_ : w'.cell? ⟨D, 0, none⟩ = some (.bool true) := blk_cell hS_.2 0
        go_simp
        with_reducible rfl
      rotate_left
      · (try simp only [Act.put, List.setIfInBounds_toArray, List.set_cons_zero, List.set_cons_succ])
        rfl
      refine one_ (i := 7) (N := none) #[true, true, true, true, true, true, true, true, false, false, false, false] rfl rfl (one_of HT_.out (by kernel_rfl)) (by decide) (fun K hK => ?_)
      refine skip_ (w1 := ?_) (by rfl) rfl ?_ ?_
      rotate_left
      · go_simp
        with_reducible rfl
      refine hK.out _ _ (⟨by ((repeat (with_reducible first | exact hCs.out | exact heap_new_at _ _ _ (by simp) | refine blk_drewN ?_ _ | refine blk_drew ?_ | refine (Below.heap_setCell _ _ _ _ (by dsimp only; omega)).trans ?_ | apply blk_put | refine blk_alloc ?_ _)); all_goals rfl), by ((repeat (with_reducible first | exact hDs.out | exact heap_new_at _ _ _ (by simp) | refine blk_drewN ?_ _ | refine blk_drew ?_ | refine (Below.heap_setCell _ _ _ _ (by dsimp only; omega)).trans ?_ | apply blk_put | refine blk_alloc ?_ _)); all_goals rfl)⟩) (fun hHeld => ?_)
      clear hK K
      refine pure_ (i := 8) (N := some 27) (v := ?_) (a' := ?_) #[true, true, true, true, true, true, true, true, true, false, false, false] rfl rfl (any_of HT_.out (by kernel_rfl)) (fun _ _ _ h => h) (Or.inl ⟨by rfl, ?_⟩) ?_ ?_
      rotate_left
      · intro w'
        go_simp
        with_reducible rfl
      rotate_left
      · (try simp only [Act.put, List.setIfInBounds_toArray, List.set_cons_zero, List.set_cons_succ])
        rfl
      refine pure_ (i := 9) (N := some 28) (v := ?_) (a' := ?_) #[true, true, true, true, true, true, true, true, true, true, false, false] rfl rfl (any_of HT_.out (by kernel_rfl)) (fun _ _ _ h => h) (Or.inl ⟨by rfl, ?_⟩) ?_ ?_
      rotate_left
      · intro w'
        go_simp
        with_reducible rfl
      rotate_left
      · (try simp only [Act.put, List.setIfInBounds_toArray, List.set_cons_zero, List.set_cons_succ])
        rfl
      refine pure_ (i := 10) (N := some 29) (v := ?_) (a' := ?_) #[true, true, true, true, true, true, true, true, true, true, true, false] rfl rfl (any_of HT_.out (by kernel_rfl)) (fun _ _ _ h => h) (Or.inl ⟨by rfl, ?_⟩) ?_ ?_
      rotate_left
      · intro w'
        go_simp
        with_reducible rfl
      rotate_left
      · (try simp only [Act.put, List.setIfInBounds_toArray, List.set_cons_zero, List.set_cons_succ])
        rfl
      refine one_ (i := 11) (N := none) #[true, true, true, true, true, true, true, true, true, true, true, true] rfl rfl (one_of HT_.out (by kernel_rfl)) (by decide) (fun K hK => ?_)
      refine skip_ (w1 := ?_) (by rfl) rfl ?_ ?_
      rotate_left
      · go_simp
        with_reducible rfl
      refine hK.out _ _ (⟨by ((repeat (with_reducible first | exact hCs.out | exact heap_new_at _ _ _ (by simp) | refine blk_drewN ?_ _ | refine blk_drew ?_ | refine (Below.heap_setCell _ _ _ _ (by dsimp only; omega)).trans ?_ | apply blk_put | refine blk_alloc ?_ _)); all_goals rfl), by ((repeat (with_reducible first | exact hDs.out | exact heap_new_at _ _ _ (by simp) | refine blk_drewN ?_ _ | refine blk_drew ?_ | refine (Below.heap_setCell _ _ _ _ (by dsimp only; omega)).trans ?_ | apply blk_put | refine blk_alloc ?_ _)); all_goals rfl)⟩) (fun hHeld => ?_)
      clear hK K
      refine done_ (done_of HT_.out (by kernel_rfl)) ?_
      clear HT_ HW_ hHeld
      go_wp2
      refine bodyPost_ret (results_ct rfl _ _ (W.heap.size) 33 #[.bool false, .bool false, .int .i64 0, .int .i64 0, .int .u32 0, .int .u32 0] (0, 0) _ rfl ?hr_ Try.underlying33 rfl (by kernel_rfl)) rfl ?_
      case hr_ => ((repeat (first | (with_reducible exact heap_new_at _ _ _ (by simp)) | (with_reducible refine blk_drewN ?_ _) | (with_reducible refine blk_drew ?_) | (with_reducible refine (Below.heap_setCell _ _ _ _ (by dsimp only; omega)).trans ?_) | (with_reducible apply blk_put) | (with_reducible refine blk_alloc ?_ _))); all_goals rfl)
      refine ⟨rfl, Gets.mk' (v) ?_ ?_ ?_ ?_⟩
      · (repeat (with_reducible first | exact hbs.out | refine blk_alloc ?_ _ | refine blk_drewN ?_ _ | refine blk_drew ?_ | refine (Below.heap_setCell _ _ _ _ (by dsimp only; omega)).trans ?_ | apply blk_put))
        all_goals rfl
      · refine St.R (W := _) ?_ (hRs.out) (fun k hk => hk) (fun k hk => hk)
        (repeat (with_reducible first | exact St.rfl' _ _ _ | refine St.set ?_ (by omega) (by first | exact Or.inl rfl | exact Or.inl (Or.inl rfl) | exact Or.inl (Or.inr rfl) | (right; omega)) _ _ | refine St.drewN ?_ _ | refine St.drew ?_ | refine St.alloc ?_ (by omega) _))
      · refine St.mono (S := fun k => k = X) ?_ (fun k hk => Or.inl hk); (repeat (with_reducible first | exact St.rfl' _ _ _ | refine St.set ?_ (by omega) (by first | exact Or.inl rfl | exact Or.inl (Or.inl rfl) | exact Or.inl (Or.inr rfl) | (right; omega)) _ _ | refine St.drewN ?_ _ | refine St.drew ?_ | refine St.alloc ?_ (by omega) _))
      · exact New.rfl' _ _
    · have g4' : (a == 2) = false := by simpa using g4
      have g4'' : (a != 2) = true := by simp [g4]
      rw [show Sg.setD ⟨ac, op, bl, pe, co0, er0, nr0, ar0, l⟩ a true = (⟨ac, op, bl, pe, co0, er0, nr0, ar0, l⟩, nohit, 2) from by simp [Sg.setD, g1, g2, g4]]
      dsimp only [nohit]
      go_enter Try.func22, Try.ntmps22
      go_wp2
      refine bodyPost_ret (results_ct rfl _ _ (W.heap.size) 33 #[.bool false, .bool false, .int .i64 0, .int .i64 0, .int .u32 0, .int .u32 0] (0, 0) _ rfl ?hr_ Try.underlying33 rfl (by kernel_rfl)) rfl ?_
      case hr_ => ((repeat (first | (with_reducible exact heap_new_at _ _ _ (by simp)) | (with_reducible refine blk_drewN ?_ _) | (with_reducible refine blk_drew ?_) | (with_reducible refine (Below.heap_setCell _ _ _ _ (by dsimp only; omega)).trans ?_) | (with_reducible apply blk_put) | (with_reducible refine blk_alloc ?_ _))); all_goals rfl)
      refine ⟨rfl, Gets.mk' (v) ?_ ?_ ?_ ?_⟩
      · (repeat (with_reducible first | exact hbs.out | refine blk_alloc ?_ _ | refine blk_drewN ?_ _ | refine blk_drew ?_ | refine (Below.heap_setCell _ _ _ _ (by dsimp only; omega)).trans ?_ | apply blk_put))
        all_goals rfl
      · refine St.R (W := _) ?_ (hRs.out) (fun k hk => hk) (fun k hk => hk)
        (repeat (with_reducible first | exact St.rfl' _ _ _ | refine St.set ?_ (by omega) (by first | exact Or.inl rfl | exact Or.inl (Or.inl rfl) | exact Or.inl (Or.inr rfl) | (right; omega)) _ _ | refine St.drewN ?_ _ | refine St.drew ?_ | refine St.alloc ?_ (by omega) _))
      · refine St.mono (S := fun k => k = X) ?_ (fun k hk => Or.inl hk); (repeat (with_reducible first | exact St.rfl' _ _ _ | refine St.set ?_ (by omega) (by first | exact Or.inl rfl | exact Or.inl (Or.inl rfl) | exact Or.inl (Or.inr rfl) | (right; omega)) _ _ | refine St.drewN ?_ _ | refine St.drew ?_ | refine St.alloc ?_ (by omega) _))
      · exact New.rfl' _ _
  obtain rfl : q = false := by cases q <;> simp_all
  by_cases g5 : a = 1
  · subst g5
    rw [show Sg.setD ⟨ac, op, bl, pe, co0, er0, nr0, ar0, l⟩ 1 false = (Sg.drop ⟨1, false, bl, pe, co0, er0, nr0, ar0, l⟩, nohit, 0) from by simp [Sg.setD]]
    dsimp only [nohit]
    go_enter Try.func22, Try.ntmps22
    go_wp2_with fail
    refine start_ (n := 12) (S := fun w' => w'.heap[C]? = some (.cells #[.int .i64 1] 3 (0, 0)) ∧ w'.heap[D]? = some (.cells #[.bool false] 4 (0, 0))) (ds := []) #[false, false, false, false, false, false, false, false, false, false, false, false] (by kernel_rfl) rfl rfl (⟨blk_drew (blk_alloc hCs.out _), blk_drew (blk_alloc hDs.out _)⟩) (fun hHeld => ?_); refine with_tabW set3.tab3 set3.bits3 (fun HT_ HW_ => ?_)
    refine pure_ (i := 0) (N := some 20) (v := ?_) (a' := ?_) #[true, false, false, false, false, false, false, false, false, false, false, false] rfl rfl (any_of HT_.out (by kernel_rfl)) (fun _ _ _ h => h) (Or.inl ⟨by rfl, ?_⟩) ?_ ?_
    rotate_left
    · intro w'
      go_simp
      with_reducible rfl
    rotate_left
    · (try simp only [Act.put, List.setIfInBounds_toArray, List.set_cons_zero, List.set_cons_succ])
      rfl
    refine pure_ (i := 1) (N := some 21) (v := ?_) (a' := ?_) #[true, true, false, false, false, false, false, false, false, false, false, false] rfl rfl (any_of HT_.out (by kernel_rfl)) (fun _ _ _ h => h) (Or.inl ⟨by rfl, ?_⟩) ?_ ?_
    rotate_left
    · intro w'
      go_simp
      with_reducible rfl
    rotate_left
    · (try simp only [Act.put, List.setIfInBounds_toArray, List.set_cons_zero, List.set_cons_succ])
      rfl
    refine take_ (i := 2) (N := some 22) (v := ?_) (a' := ?_) #[true, true, true, false, false, false, false, false, false, false, false, false] rfl rfl (take_ofW HT_.out HW_.out (by kernel_rfl)) (fun _ _ _ h => h) (Or.inl ⟨by rfl, ?_⟩) hHeld ?_ ?_
    rotate_left
    · intro w' hS_
      have hx_ : w'.cell? ⟨C, 0, none⟩ = some (.int .i64 1) := blk_cell hS_.1 0
      go_simp
      with_reducible rfl
    rotate_left
    · (try simp only [Act.put, List.setIfInBounds_toArray, List.set_cons_zero, List.set_cons_succ])
      rfl
    refine pure_ (i := 4) (N := some 24) (v := ?_) (a' := ?_) #[true, true, true, false, true, false, false, false, false, false, false, false] rfl rfl (any_of HT_.out (by kernel_rfl)) (fun _ _ _ h => h) (Or.inl ⟨by rfl, ?_⟩) ?_ ?_
    rotate_left
    · intro w'
      go_simp
      with_reducible rfl
    rotate_left
    · (try simp only [Act.put, List.setIfInBounds_toArray, List.set_cons_zero, List.set_cons_succ])
      rfl
    refine pure_ (i := 5) (N := some 25) (v := ?_) (a' := ?_) #[true, true, true, false, true, true, false, false, false, false, false, false] rfl rfl (any_of HT_.out (by kernel_rfl)) (fun _ _ _ h => h) (Or.inl ⟨by rfl, ?_⟩) ?_ ?_
    rotate_left
    · intro w'
      go_simp
      with_reducible rfl
    rotate_left
    · (try simp only [Act.put, List.setIfInBounds_toArray, List.set_cons_zero, List.set_cons_succ])
      rfl
    refine pure_ (i := 6) (N := some 26) (v := ?_) (a' := ?_) #[true, true, true, false, true, true, true, false, false, false, false, false] rfl rfl (any_of HT_.out (by kernel_rfl)) (fun _ _ _ h => h) (Or.inl ⟨by rfl, ?_⟩) ?_ ?_
    rotate_left
    · intro w'
      go_simp
      with_reducible rfl
    rotate_left
    · (try simp only [Act.put, List.setIfInBounds_toArray, List.set_cons_zero, List.set_cons_succ])
      rfl
    refine take_ (i := 3) (N := some 23) (v := ?_) (a' := ?_) #[true, true, true, true, true, true, true, false, false, false, false, false] rfl rfl (take_ofW HT_.out HW_.out (by kernel_rfl)) (fun _ _ _ h => h) (Or.inl ⟨by rfl, ?_⟩) hHeld ?_ ?_
    rotate_left
    · intro w' hS_
      have hx_ : w'.cell? ⟨D, 0, none⟩ = some (.bool false) := blk_cell hS_.2 0
      go_simp
      with_reducible rfl
    rotate_left
    · (try simp only [Act.put, List.setIfInBounds_toArray, List.set_cons_zero, List.set_cons_succ])
      rfl
    refine one_ (i := 7) (N := none) #[true, true, true, true, true, true, true, true, false, false, false, false] rfl rfl (one_of HT_.out (by kernel_rfl)) (by decide) (fun K hK => ?_)
    refine skip_ (w1 := ?_) (by rfl) rfl ?_ ?_
    rotate_left
    · go_simp
      with_reducible rfl
    refine hK.out _ _ (⟨by ((repeat (with_reducible first | exact hCs.out | exact heap_new_at _ _ _ (by simp) | refine blk_drewN ?_ _ | refine blk_drew ?_ | refine (Below.heap_setCell _ _ _ _ (by dsimp only; omega)).trans ?_ | apply blk_put | refine blk_alloc ?_ _)); all_goals rfl), by ((repeat (with_reducible first | exact hDs.out | exact heap_new_at _ _ _ (by simp) | refine blk_drewN ?_ _ | refine blk_drew ?_ | refine (Below.heap_setCell _ _ _ _ (by dsimp only; omega)).trans ?_ | apply blk_put | refine blk_alloc ?_ _)); all_goals rfl)⟩) (fun hHeld => ?_)
    clear hK K
    refine pure_ (i := 8) (N := some 27) (v := ?_) (a' := ?_) #[true, true, true, true, true, true, true, true, true, false, false, false] rfl rfl (any_of HT_.out (by kernel_rfl)) (fun _ _ _ h => h) (Or.inl ⟨by rfl, ?_⟩) ?_ ?_
    rotate_left
    · intro w'
      go_simp
      with_reducible rfl
    rotate_left
    · (try simp only [Act.put, List.setIfInBounds_toArray, List.set_cons_zero, List.set_cons_succ])
      rfl
    refine pure_ (i := 9) (N := some 28) (v := ?_) (a' := ?_) #[true, true, true, true, true, true, true, true, true, true, false, false] rfl rfl (any_of HT_.out (by kernel_rfl)) (fun _ _ _ h => h) (Or.inl ⟨by rfl, ?_⟩) ?_ ?_
    rotate_left
    · intro w'
      go_simp
      with_reducible rfl
    rotate_left
    · (try simp only [Act.put, List.setIfInBounds_toArray, List.set_cons_zero, List.set_cons_succ])
      rfl
    refine pure_ (i := 10) (N := some 29) (v := ?_) (a' := ?_) #[true, true, true, true, true, true, true, true, true, true, true, false] rfl rfl (any_of HT_.out (by kernel_rfl)) (fun _ _ _ h => h) (Or.inl ⟨by rfl, ?_⟩) ?_ ?_
    rotate_left
    · intro w'
      go_simp
      with_reducible rfl
    rotate_left
    · (try simp only [Act.put, List.setIfInBounds_toArray, List.set_cons_zero, List.set_cons_succ])
      rfl
    refine one_ (i := 11) (N := none) #[true, true, true, true, true, true, true, true, true, true, true, true] rfl rfl (one_of HT_.out (by kernel_rfl)) (by decide) (fun K hK => ?_)
    refine skip_ (w1 := ?_) (by rfl) rfl ?_ ?_
    rotate_left
    · go_simp
      with_reducible rfl
    refine hK.out _ _ (⟨by ((repeat (with_reducible first | exact hCs.out | exact heap_new_at _ _ _ (by simp) | refine blk_drewN ?_ _ | refine blk_drew ?_ | refine (Below.heap_setCell _ _ _ _ (by dsimp only; omega)).trans ?_ | apply blk_put | refine blk_alloc ?_ _)); all_goals rfl), by ((repeat (with_reducible first | exact hDs.out | exact heap_new_at _ _ _ (by simp) | refine blk_drewN ?_ _ | refine blk_drew ?_ | refine (Below.heap_setCell _ _ _ _ (by dsimp only; omega)).trans ?_ | apply blk_put | refine blk_alloc ?_ _)); all_goals rfl)⟩) (fun hHeld => ?_)
    clear hK K
    refine done_ (done_of HT_.out (by kernel_rfl)) ?_
    clear HT_ HW_ hHeld
    go_wp2_with fail
    clear hc0 hf0 hc1 hf1 hc2 hf2 hc3 hf3 hc4 hf4 hc5 hf5 hc6 hf6 hc7 hf7 hc8 hf8
    refine (drop_w n X ⟨1, false, bl, pe, co0, er0, nr0, ar0, l⟩ v _ hX ?hP_).mono ?_
    case hP_ => (exact ⟨by ((repeat (with_reducible first | exact hbs.out | exact heap_new_at _ _ _ (by simp) | refine blk_drewN ?_ _ | refine blk_drew ?_ | refine (Below.heap_setCell _ _ _ _ (by dsimp only; omega)).trans ?_ | apply blk_put | refine blk_alloc ?_ _)); all_goals rfl), by (repeat (with_reducible first | exact hRs.out | refine Kd.R_far ?_ (fun k hk => hk) _ | refine Kd.R_drewN ?_ _ | refine Kd.R_drew ?_ | refine Kd.R_alloc ?_ _))⟩)
    rintro e w2 ⟨rfl, hG⟩
    have HY2 : Aside0 (w2.heap[W.heap.size]? = some (.cells #[.bool false, .bool false, .int .i64 0, .int .i64 0, .int .u32 0, .int .u32 0] 33 (0, 0))) := ⟨by refine Gets.blk (s := ⟨1, false, bl, pe, co0, er0, nr0, ar0, l⟩) hG (by (exact ⟨by ((repeat (with_reducible first | exact hbs.out | exact heap_new_at _ _ _ (by simp) | refine blk_drewN ?_ _ | refine blk_drew ?_ | refine (Below.heap_setCell _ _ _ _ (by dsimp only; omega)).trans ?_ | apply blk_put | refine blk_alloc ?_ _)); all_goals rfl), by (repeat (with_reducible first | exact hRs.out | refine Kd.R_far ?_ (fun k hk => hk) _ | refine Kd.R_drewN ?_ _ | refine Kd.R_drew ?_ | refine Kd.R_alloc ?_ _))⟩)) (by ((repeat (with_reducible first | fail | exact heap_new_at _ _ _ (by simp) | refine blk_drewN ?_ _ | refine blk_drew ?_ | refine (Below.heap_setCell _ _ _ _ (by dsimp only; omega)).trans ?_ | apply blk_put | refine blk_alloc ?_ _)); all_goals rfl)) (by decide) (by omega)⟩
    have hG2 : Aside0 (Gets n X v W (Sg.drop ⟨1, false, bl, pe, co0, er0, nr0, ar0, l⟩) w2) := ⟨by refine Gets.trans (by (repeat (with_reducible first | exact St.rfl' _ _ _ | refine St.set ?_ (by omega) (by first | exact Or.inl rfl | exact Or.inl (Or.inl rfl) | exact Or.inl (Or.inr rfl) | (right; omega)) _ _ | refine St.drewN ?_ _ | refine St.drew ?_ | refine St.alloc ?_ (by omega) _))) (New.rfl' _ _) hG⟩
    clear hG
    have hh0 : w2.cell? ⟨W.heap.size, 0, none⟩ = some (.bool false) := blk_cell HY2.out 0
    have hg0 : w2.frozen? ⟨W.heap.size, 0, none⟩ = false := blk_frozen HY2.out 0
    have hh1 : w2.cell? ⟨W.heap.size, 1, none⟩ = some (.bool false) := blk_cell HY2.out 1
    have hg1 : w2.frozen? ⟨W.heap.size, 1, none⟩ = false := blk_frozen HY2.out 1
    have hh2 : w2.cell? ⟨W.heap.size, 2, none⟩ = some (.int .i64 0) := blk_cell HY2.out 2
    have hg2 : w2.frozen? ⟨W.heap.size, 2, none⟩ = false := blk_frozen HY2.out 2
    have hh3 : w2.cell? ⟨W.heap.size, 3, none⟩ = some (.int .i64 0) := blk_cell HY2.out 3
    have hg3 : w2.frozen? ⟨W.heap.size, 3, none⟩ = false := blk_frozen HY2.out 3
    have hh4 : w2.cell? ⟨W.heap.size, 4, none⟩ = some (.int .u32 0) := blk_cell HY2.out 4
    have hg4 : w2.frozen? ⟨W.heap.size, 4, none⟩ = false := blk_frozen HY2.out 4
    have hh5 : w2.cell? ⟨W.heap.size, 5, none⟩ = some (.int .u32 0) := blk_cell HY2.out 5
    have hg5 : w2.frozen? ⟨W.heap.size, 5, none⟩ = false := blk_frozen HY2.out 5
    go_wp2
    have hF := hit6 hG2.out HY2.out (by omega) (by omega) (by omega) (.bool false) (.bool false) (.int .i64 0) (.int .i64 0) (.int .u32 0) (.int .u32 0)
    refine bodyPost_ret (results_ct rfl _ _ (W.heap.size) 33 #[.bool false, .bool false, .int .i64 0, .int .i64 0, .int .u32 0, .int .u32 0] (0, 0) _ rfl hF.2 Try.underlying33 rfl (by kernel_rfl)) rfl ?_
    exact ⟨rfl, hF.1⟩
  have g5' : (a == 1) = false := by simpa using g5
  rw [show Sg.setD ⟨ac, op, bl, pe, co0, er0, nr0, ar0, l⟩ a false = (⟨a, false, bl, pe, co0, er0, nr0, ar0, l⟩, nohit, 0) from by simp [Sg.setD, g1, g2, g5]]
  dsimp only [nohit]
  go_enter Try.func22, Try.ntmps22
  go_wp2_with fail
  refine start_ (n := 12) (S := fun w' => w'.heap[C]? = some (.cells #[.int .i64 a] 3 (0, 0)) ∧ w'.heap[D]? = some (.cells #[.bool false] 4 (0, 0))) (ds := []) #[false, false, false, false, false, false, false, false, false, false, false, false] (by kernel_rfl) rfl rfl (⟨blk_drew (blk_alloc hCs.out _), blk_drew (blk_alloc hDs.out _)⟩) (fun hHeld => ?_); refine with_tabW set3.tab3 set3.bits3 (fun HT_ HW_ => ?_)
  refine pure_ (i := 0) (N := some 20) (v := ?_) (a' := ?_) #[true, false, false, false, false, false, false, false, false, false, false, false] rfl rfl (any_of HT_.out (by kernel_rfl)) (fun _ _ _ h => h) (Or.inl ⟨by rfl, ?_⟩) ?_ ?_
  rotate_left
  · intro w'
    go_simp
    with_reducible rfl
  rotate_left
  · (try simp only [Act.put, List.setIfInBounds_toArray, List.set_cons_zero, List.set_cons_succ])
    rfl
  refine pure_ (i := 1) (N := some 21) (v := ?_) (a' := ?_) #[true, true, false, false, false, false, false, false, false, false, false, false] rfl rfl (any_of HT_.out (by kernel_rfl)) (fun _ _ _ h => h) (Or.inl ⟨by rfl, ?_⟩) ?_ ?_
  rotate_left
  · intro w'
    go_simp
    with_reducible rfl
  rotate_left
  · (try simp only [Act.put, List.setIfInBounds_toArray, List.set_cons_zero, List.set_cons_succ])
    rfl
  refine take_ (i := 2) (N := some 22) (v := ?_) (a' := ?_) #[true, true, true, false, false, false, false, false, false, false, false, false] rfl rfl (take_ofW HT_.out HW_.out (by kernel_rfl)) (fun _ _ _ h => h) (Or.inl ⟨by rfl, ?_⟩) hHeld ?_ ?_
  rotate_left
  · intro w' hS_
    have hx_ : w'.cell? ⟨C, 0, none⟩ = some (.int .i64 a) := blk_cell hS_.1 0
    go_simp
    with_reducible rfl
  rotate_left
  · (try simp only [Act.put, List.setIfInBounds_toArray, List.set_cons_zero, List.set_cons_succ])
    rfl
  refine pure_ (i := 4) (N := some 24) (v := ?_) (a' := ?_) #[true, true, true, false, true, false, false, false, false, false, false, false] rfl rfl (any_of HT_.out (by kernel_rfl)) (fun _ _ _ h => h) (Or.inl ⟨by rfl, ?_⟩) ?_ ?_
  rotate_left
  · intro w'
    go_simp
    with_reducible rfl
  rotate_left
  · (try simp only [Act.put, List.setIfInBounds_toArray, List.set_cons_zero, List.set_cons_succ])
    rfl
  refine pure_ (i := 5) (N := some 25) (v := ?_) (a' := ?_) #[true, true, true, false, true, true, false, false, false, false, false, false] rfl rfl (any_of HT_.out (by kernel_rfl)) (fun _ _ _ h => h) (Or.inl ⟨by rfl, ?_⟩) ?_ ?_
  rotate_left
  · intro w'
    go_simp
    with_reducible rfl
  rotate_left
  · (try simp only [Act.put, List.setIfInBounds_toArray, List.set_cons_zero, List.set_cons_succ])
    rfl
  refine pure_ (i := 6) (N := some 26) (v := ?_) (a' := ?_) #[true, true, true, false, true, true, true, false, false, false, false, false] rfl rfl (any_of HT_.out (by kernel_rfl)) (fun _ _ _ h => h) (Or.inl ⟨by rfl, ?_⟩) ?_ ?_
  rotate_left
  · intro w'
    go_simp
    with_reducible rfl
  rotate_left
  · (try simp only [Act.put, List.setIfInBounds_toArray, List.set_cons_zero, List.set_cons_succ])
    rfl
  refine take_ (i := 3) (N := some 23) (v := ?_) (a' := ?_) #[true, true, true, true, true, true, true, false, false, false, false, false] rfl rfl (take_ofW HT_.out HW_.out (by kernel_rfl)) (fun _ _ _ h => h) (Or.inl ⟨by rfl, ?_⟩) hHeld ?_ ?_
  rotate_left
  · intro w' hS_
    have hx_ : w'.cell? ⟨D, 0, none⟩ = some (.bool false) := blk_cell hS_.2 0
    go_simp
    with_reducible rfl
  rotate_left
  · (try simp only [Act.put, List.setIfInBounds_toArray, List.set_cons_zero, List.set_cons_succ])
    rfl
  refine one_ (i := 7) (N := none) #[true, true, true, true, true, true, true, true, false, false, false, false] rfl rfl (one_of HT_.out (by kernel_rfl)) (by decide) (fun K hK => ?_)
  refine skip_ (w1 := ?_) (by rfl) rfl ?_ ?_
  rotate_left
  · go_simp
    with_reducible rfl
  refine hK.out _ _ (⟨by ((repeat (with_reducible first | exact hCs.out | exact heap_new_at _ _ _ (by simp) | refine blk_drewN ?_ _ | refine blk_drew ?_ | refine (Below.heap_setCell _ _ _ _ (by dsimp only; omega)).trans ?_ | apply blk_put | refine blk_alloc ?_ _)); all_goals rfl), by ((repeat (with_reducible first | exact hDs.out | exact heap_new_at _ _ _ (by simp) | refine blk_drewN ?_ _ | refine blk_drew ?_ | refine (Below.heap_setCell _ _ _ _ (by dsimp only; omega)).trans ?_ | apply blk_put | refine blk_alloc ?_ _)); all_goals rfl)⟩) (fun hHeld => ?_)
  clear hK K
  refine pure_ (i := 8) (N := some 27) (v := ?_) (a' := ?_) #[true, true, true, true, true, true, true, true, true, false, false, false] rfl rfl (any_of HT_.out (by kernel_rfl)) (fun _ _ _ h => h) (Or.inl ⟨by rfl, ?_⟩) ?_ ?_
  rotate_left
  · intro w'
    go_simp
    with_reducible rfl
  rotate_left
  · (try simp only [Act.put, List.setIfInBounds_toArray, List.set_cons_zero, List.set_cons_succ])
    rfl
  refine pure_ (i := 9) (N := some 28) (v := ?_) (a' := ?_) #[true, true, true, true, true, true, true, true, true, true, false, false] rfl rfl (any_of HT_.out (by kernel_rfl)) (fun _ _ _ h => h) (Or.inl ⟨by rfl, ?_⟩) ?_ ?_
  rotate_left
  · intro w'
    go_simp
    with_reducible rfl
  rotate_left
  · (try simp only [Act.put, List.setIfInBounds_toArray, List.set_cons_zero, List.set_cons_succ])
    rfl
  refine pure_ (i := 10) (N := some 29) (v := ?_) (a' := ?_) #[true, true, true, true, true, true, true, true, true, true, true, false] rfl rfl (any_of HT_.out (by kernel_rfl)) (fun _ _ _ h => h) (Or.inl ⟨by rfl, ?_⟩) ?_ ?_
  rotate_left
  · intro w'
    go_simp
    with_reducible rfl
  rotate_left
  · (try simp only [Act.put, List.setIfInBounds_toArray, List.set_cons_zero, List.set_cons_succ])
    rfl
  refine one_ (i := 11) (N := none) #[true, true, true, true, true, true, true, true, true, true, true, true] rfl rfl (one_of HT_.out (by kernel_rfl)) (by decide) (fun K hK => ?_)
  refine skip_ (w1 := ?_) (by rfl) rfl ?_ ?_
  rotate_left
  · go_simp
    with_reducible rfl
  refine hK.out _ _ (⟨by ((repeat (with_reducible first | exact hCs.out | exact heap_new_at _ _ _ (by simp) | refine blk_drewN ?_ _ | refine blk_drew ?_ | refine (Below.heap_setCell _ _ _ _ (by dsimp only; omega)).trans ?_ | apply blk_put | refine blk_alloc ?_ _)); all_goals rfl), by ((repeat (with_reducible first | exact hDs.out | exact heap_new_at _ _ _ (by simp) | refine blk_drewN ?_ _ | refine blk_drew ?_ | refine (Below.heap_setCell _ _ _ _ (by dsimp only; omega)).trans ?_ | apply blk_put | refine blk_alloc ?_ _)); all_goals rfl)⟩) (fun hHeld => ?_)
  clear hK K
  refine done_ (done_of HT_.out (by kernel_rfl)) ?_
  clear HT_ HW_ hHeld
  go_wp2
  refine bodyPost_ret (results_ct rfl _ _ (W.heap.size) 33 #[.bool false, .bool false, .int .i64 0, .int .i64 0, .int .u32 0, .int .u32 0] (0, 0) _ rfl ?hr_ Try.underlying33 rfl (by kernel_rfl)) rfl ?_
  case hr_ => ((repeat (first | (with_reducible exact heap_new_at _ _ _ (by simp)) | (with_reducible refine blk_drewN ?_ _) | (with_reducible refine blk_drew ?_) | (with_reducible refine (Below.heap_setCell _ _ _ _ (by dsimp only; omega)).trans ?_) | (with_reducible apply blk_put) | (with_reducible refine blk_alloc ?_ _))); all_goals rfl)
  refine ⟨rfl, Gets.mk' (v) ?_ ?_ ?_ ?_⟩
  · (repeat (with_reducible first | exact hbs.out | refine blk_alloc ?_ _ | refine blk_drewN ?_ _ | refine blk_drew ?_ | refine (Below.heap_setCell _ _ _ _ (by dsimp only; omega)).trans ?_ | apply blk_put))
    all_goals rfl
  · refine St.R (W := _) ?_ (hRs.out) (fun k hk => hk) (fun k hk => hk)
    (repeat (with_reducible first | exact St.rfl' _ _ _ | refine St.set ?_ (by omega) (by first | exact Or.inl rfl | exact Or.inl (Or.inl rfl) | exact Or.inl (Or.inr rfl) | (right; omega)) _ _ | refine St.drewN ?_ _ | refine St.drew ?_ | refine St.alloc ?_ (by omega) _))
  · refine St.mono (S := fun k => k = X) ?_ (fun k hk => Or.inl hk); (repeat (with_reducible first | exact St.rfl' _ _ _ | refine St.set ?_ (by omega) (by first | exact Or.inl rfl | exact Or.inl (Or.inl rfl) | exact Or.inl (Or.inr rfl) | (right; omega)) _ _ | refine St.drewN ?_ _ | refine St.drew ?_ | refine St.alloc ?_ (by omega) _))
  · exact New.rfl' _ _
def Sg.sendD (s : Sg) (co er nr ar : Int) : Sg × Ht × Int := if s.ac = 1 then (s, nohit, 0) else if s.bl = false then ((s.deliver co er nr ar).1, (s.deliver co er nr ar).2, 0) else if s.pe = false then (⟨s.ac, s.op, s.bl, true, co, er, nr, ar, s.l⟩, nohit, 0) else (s, nohit, 0)
set_option maxHeartbeats 1000000 in
set_option maxRecDepth 100000 in
theorem send1_w (n X : Nat) (C : Nat) (co er nr ar : Int) (s : Sg) (v : Value) (W : World) (hX : n ≤ X) (hC : W.heap[C]? = some (.cells #[.int .i64 co, .int .i64 er, .int .u32 nr, .int .u32 ar] 24 (0, 0))) (hCX : C ≠ X) (hP : Has n X s v W) :
    Calls Try.prog 19 #[.pointer (some ⟨X, 0, none⟩), .pointer (some ⟨C, 0, none⟩)] W fun e w' => e = .returned (.tuple #[.agg #[.bool (s.sendD co er nr ar).2.1.di, .bool (s.sendD co er nr ar).2.1.ru, .int .i64 (s.sendD co er nr ar).2.1.co, .int .i64 (s.sendD co er nr ar).2.1.er, .int .u32 (s.sendD co er nr ar).2.1.nr, .int .u32 (s.sendD co er nr ar).2.1.ar], .int .i64 (s.sendD co er nr ar).2.2]) ∧ Gets n X v W (s.sendD co er nr ar).1 w' := by
  obtain ⟨ac, op, bl, pe, co0, er0, nr0, ar0, l⟩ := s
  obtain ⟨hb, hR⟩ := hP
  dsimp only at hb hR
  have hbs := Aside0.mk hb
  have hRs := Aside0.mk hR
  have hXl := blk_lt hb
  have hc0 := blk_cell hb 0
  have hf0 := blk_frozen hb 0
  have hc1 := blk_cell hb 1
  have hf1 := blk_frozen hb 1
  have hc2 := blk_cell hb 2
  have hf2 := blk_frozen hb 2
  have hc3 := blk_cell hb 3
  have hf3 := blk_frozen hb 3
  have hc4 := blk_cell hb 4
  have hf4 := blk_frozen hb 4
  have hc5 := blk_cell hb 5
  have hf5 := blk_frozen hb 5
  have hc6 := blk_cell hb 6
  have hf6 := blk_frozen hb 6
  have hc7 := blk_cell hb 7
  have hf7 := blk_frozen hb 7
  have hc8 := blk_cell hb 8
  have hf8 := blk_frozen hb 8
  simp only [List.getElem?_toArray, List.getElem?_cons_zero, List.getElem?_cons_succ] at hc0 hc1 hc2 hc3 hc4 hc5 hc6 hc7 hc8
  clear hb hR
  have hn : n ≤ W.heap.size := by omega
  have hCs := Aside0.mk hC
  have hCl := blk_lt hC
  clear hC
  by_cases h1 : ac = 1
  · subst h1
    rw [show Sg.sendD ⟨1, op, bl, pe, co0, er0, nr0, ar0, l⟩ co er nr ar = (⟨1, op, bl, pe, co0, er0, nr0, ar0, l⟩, nohit, 0) from by simp [Sg.sendD]]
    dsimp only [nohit]
    go_enter Try.func19, Try.ntmps19
    go_wp2
    refine bodyPost_ret (results_ct rfl _ _ (W.heap.size) 33 #[.bool false, .bool false, .int .i64 0, .int .i64 0, .int .u32 0, .int .u32 0] (0, 0) _ rfl ?hr_ Try.underlying33 rfl (by kernel_rfl)) rfl ?_
    case hr_ => ((repeat (first | (with_reducible exact heap_new_at _ _ _ (by simp)) | (with_reducible refine blk_drewN ?_ _) | (with_reducible refine blk_drew ?_) | (with_reducible refine (Below.heap_setCell _ _ _ _ (by dsimp only; omega)).trans ?_) | (with_reducible apply blk_put) | (with_reducible refine blk_alloc ?_ _))); all_goals rfl)
    refine ⟨rfl, Gets.mk' (v) ?_ ?_ ?_ ?_⟩
    · (repeat (with_reducible first | exact hbs.out | refine blk_alloc ?_ _ | refine blk_drewN ?_ _ | refine blk_drew ?_ | refine (Below.heap_setCell _ _ _ _ (by dsimp only; omega)).trans ?_ | apply blk_put))
      all_goals rfl
    · refine St.R (W := _) ?_ (hRs.out) (fun k hk => hk) (fun k hk => hk)
      (repeat (with_reducible first | exact St.rfl' _ _ _ | refine St.set ?_ (by omega) (by first | exact Or.inl rfl | exact Or.inl (Or.inl rfl) | exact Or.inl (Or.inr rfl) | (right; omega)) _ _ | refine St.drewN ?_ _ | refine St.drew ?_ | refine St.alloc ?_ (by omega) _))
    · refine St.mono (S := fun k => k = X) ?_ (fun k hk => Or.inl hk); (repeat (with_reducible first | exact St.rfl' _ _ _ | refine St.set ?_ (by omega) (by first | exact Or.inl rfl | exact Or.inl (Or.inl rfl) | exact Or.inl (Or.inr rfl) | (right; omega)) _ _ | refine St.drewN ?_ _ | refine St.drew ?_ | refine St.alloc ?_ (by omega) _))
    · exact New.rfl' _ _
  have h1' : (ac == 1) = false := by simpa using h1
  by_cases h0 : bl = false
  · subst h0
    rw [show Sg.sendD ⟨ac, op, false, pe, co0, er0, nr0, ar0, l⟩ co er nr ar = ((Sg.deliver ⟨ac, op, false, pe, co0, er0, nr0, ar0, l⟩ co er nr ar).1, (Sg.deliver ⟨ac, op, false, pe, co0, er0, nr0, ar0, l⟩ co er nr ar).2, 0) from by simp [Sg.sendD, h1]]
    dsimp only [nohit]
    have hk0 : W.cell? ⟨C, 0, none⟩ = some (.int .i64 co) := blk_cell hCs.out 0
    have hk1 : W.cell? ⟨C, 1, none⟩ = some (.int .i64 er) := blk_cell hCs.out 1
    have hk2 : W.cell? ⟨C, 2, none⟩ = some (.int .u32 nr) := blk_cell hCs.out 2
    have hk3 : W.cell? ⟨C, 3, none⟩ = some (.int .u32 ar) := blk_cell hCs.out 3
    go_enter Try.func19, Try.ntmps19
    go_wp2_with fail
    clear hc0 hf0 hc1 hf1 hc2 hf2 hc3 hf3 hc4 hf4 hc5 hf5 hc6 hf6 hc7 hf7 hc8 hf8
    clear hk0 hk1 hk2 hk3
    refine (deliver_w n X ⟨ac, op, false, pe, co0, er0, nr0, ar0, l⟩ co er nr ar v _ hX ?hP_).mono ?_
    case hP_ => (exact ⟨by ((repeat (with_reducible first | exact hbs.out | exact heap_new_at _ _ _ (by simp) | refine blk_drewN ?_ _ | refine blk_drew ?_ | refine (Below.heap_setCell _ _ _ _ (by dsimp only; omega)).trans ?_ | apply blk_put | refine blk_alloc ?_ _)); all_goals rfl), by (repeat (with_reducible first | exact hRs.out | refine Kd.R_far ?_ (fun k hk => hk) _ | refine Kd.R_drewN ?_ _ | refine Kd.R_drew ?_ | refine Kd.R_alloc ?_ _))⟩)
    rintro e w2 ⟨rfl, hG⟩
    have HY2 : Aside0 (w2.heap[W.heap.size]? = some (.cells #[.bool false, .bool false, .int .i64 0, .int .i64 0, .int .u32 0, .int .u32 0] 33 (0, 0))) := ⟨by refine Gets.blk (s := ⟨ac, op, false, pe, co0, er0, nr0, ar0, l⟩) hG (by (exact ⟨by ((repeat (with_reducible first | exact hbs.out | exact heap_new_at _ _ _ (by simp) | refine blk_drewN ?_ _ | refine blk_drew ?_ | refine (Below.heap_setCell _ _ _ _ (by dsimp only; omega)).trans ?_ | apply blk_put | refine blk_alloc ?_ _)); all_goals rfl), by (repeat (with_reducible first | exact hRs.out | refine Kd.R_far ?_ (fun k hk => hk) _ | refine Kd.R_drewN ?_ _ | refine Kd.R_drew ?_ | refine Kd.R_alloc ?_ _))⟩)) (by ((repeat (with_reducible first | fail | exact heap_new_at _ _ _ (by simp) | refine blk_drewN ?_ _ | refine blk_drew ?_ | refine (Below.heap_setCell _ _ _ _ (by dsimp only; omega)).trans ?_ | apply blk_put | refine blk_alloc ?_ _)); all_goals rfl)) (by decide) (by omega)⟩
    have hG2 : Aside0 (Gets n X v W (Sg.deliver ⟨ac, op, false, pe, co0, er0, nr0, ar0, l⟩ co er nr ar).1 w2) := ⟨by refine Gets.trans (by (repeat (with_reducible first | exact St.rfl' _ _ _ | refine St.set ?_ (by omega) (by first | exact Or.inl rfl | exact Or.inl (Or.inl rfl) | exact Or.inl (Or.inr rfl) | (right; omega)) _ _ | refine St.drewN ?_ _ | refine St.drew ?_ | refine St.alloc ?_ (by omega) _))) (New.rfl' _ _) hG⟩
    clear hG
    have hh0 : w2.cell? ⟨W.heap.size, 0, none⟩ = some (.bool false) := blk_cell HY2.out 0
    have hg0 : w2.frozen? ⟨W.heap.size, 0, none⟩ = false := blk_frozen HY2.out 0
    have hh1 : w2.cell? ⟨W.heap.size, 1, none⟩ = some (.bool false) := blk_cell HY2.out 1
    have hg1 : w2.frozen? ⟨W.heap.size, 1, none⟩ = false := blk_frozen HY2.out 1
    have hh2 : w2.cell? ⟨W.heap.size, 2, none⟩ = some (.int .i64 0) := blk_cell HY2.out 2
    have hg2 : w2.frozen? ⟨W.heap.size, 2, none⟩ = false := blk_frozen HY2.out 2
    have hh3 : w2.cell? ⟨W.heap.size, 3, none⟩ = some (.int .i64 0) := blk_cell HY2.out 3
    have hg3 : w2.frozen? ⟨W.heap.size, 3, none⟩ = false := blk_frozen HY2.out 3
    have hh4 : w2.cell? ⟨W.heap.size, 4, none⟩ = some (.int .u32 0) := blk_cell HY2.out 4
    have hg4 : w2.frozen? ⟨W.heap.size, 4, none⟩ = false := blk_frozen HY2.out 4
    have hh5 : w2.cell? ⟨W.heap.size, 5, none⟩ = some (.int .u32 0) := blk_cell HY2.out 5
    have hg5 : w2.frozen? ⟨W.heap.size, 5, none⟩ = false := blk_frozen HY2.out 5
    go_wp2
    have hF := hit6 hG2.out HY2.out (by omega) (by omega) (by omega) (.bool (Sg.deliver ⟨ac, op, false, pe, co0, er0, nr0, ar0, l⟩ co er nr ar).2.di) (.bool (Sg.deliver ⟨ac, op, false, pe, co0, er0, nr0, ar0, l⟩ co er nr ar).2.ru) (.int .i64 (Sg.deliver ⟨ac, op, false, pe, co0, er0, nr0, ar0, l⟩ co er nr ar).2.co) (.int .i64 (Sg.deliver ⟨ac, op, false, pe, co0, er0, nr0, ar0, l⟩ co er nr ar).2.er) (.int .u32 (Sg.deliver ⟨ac, op, false, pe, co0, er0, nr0, ar0, l⟩ co er nr ar).2.nr) (.int .u32 (Sg.deliver ⟨ac, op, false, pe, co0, er0, nr0, ar0, l⟩ co er nr ar).2.ar)
    refine bodyPost_ret (results_ct rfl _ _ (W.heap.size) 33 #[.bool (Sg.deliver ⟨ac, op, false, pe, co0, er0, nr0, ar0, l⟩ co er nr ar).2.di, .bool (Sg.deliver ⟨ac, op, false, pe, co0, er0, nr0, ar0, l⟩ co er nr ar).2.ru, .int .i64 (Sg.deliver ⟨ac, op, false, pe, co0, er0, nr0, ar0, l⟩ co er nr ar).2.co, .int .i64 (Sg.deliver ⟨ac, op, false, pe, co0, er0, nr0, ar0, l⟩ co er nr ar).2.er, .int .u32 (Sg.deliver ⟨ac, op, false, pe, co0, er0, nr0, ar0, l⟩ co er nr ar).2.nr, .int .u32 (Sg.deliver ⟨ac, op, false, pe, co0, er0, nr0, ar0, l⟩ co er nr ar).2.ar] (0, 0) _ rfl hF.2 Try.underlying33 rfl (by kernel_rfl)) rfl ?_
    exact ⟨rfl, hF.1⟩
  obtain rfl : bl = true := by cases bl <;> simp_all
  by_cases h2 : pe = true
  · subst h2
    rw [show Sg.sendD ⟨ac, op, true, true, co0, er0, nr0, ar0, l⟩ co er nr ar = (⟨ac, op, true, true, co0, er0, nr0, ar0, l⟩, nohit, 0) from by simp [Sg.sendD, h1]]
    dsimp only [nohit]
    go_enter Try.func19, Try.ntmps19
    go_wp2
    refine bodyPost_ret (results_ct rfl _ _ (W.heap.size) 33 #[.bool false, .bool false, .int .i64 0, .int .i64 0, .int .u32 0, .int .u32 0] (0, 0) _ rfl ?hr_ Try.underlying33 rfl (by kernel_rfl)) rfl ?_
    case hr_ => ((repeat (first | (with_reducible exact heap_new_at _ _ _ (by simp)) | (with_reducible refine blk_drewN ?_ _) | (with_reducible refine blk_drew ?_) | (with_reducible refine (Below.heap_setCell _ _ _ _ (by dsimp only; omega)).trans ?_) | (with_reducible apply blk_put) | (with_reducible refine blk_alloc ?_ _))); all_goals rfl)
    refine ⟨rfl, Gets.mk' (v) ?_ ?_ ?_ ?_⟩
    · (repeat (with_reducible first | exact hbs.out | refine blk_alloc ?_ _ | refine blk_drewN ?_ _ | refine blk_drew ?_ | refine (Below.heap_setCell _ _ _ _ (by dsimp only; omega)).trans ?_ | apply blk_put))
      all_goals rfl
    · refine St.R (W := _) ?_ (hRs.out) (fun k hk => hk) (fun k hk => hk)
      (repeat (with_reducible first | exact St.rfl' _ _ _ | refine St.set ?_ (by omega) (by first | exact Or.inl rfl | exact Or.inl (Or.inl rfl) | exact Or.inl (Or.inr rfl) | (right; omega)) _ _ | refine St.drewN ?_ _ | refine St.drew ?_ | refine St.alloc ?_ (by omega) _))
    · refine St.mono (S := fun k => k = X) ?_ (fun k hk => Or.inl hk); (repeat (with_reducible first | exact St.rfl' _ _ _ | refine St.set ?_ (by omega) (by first | exact Or.inl rfl | exact Or.inl (Or.inl rfl) | exact Or.inl (Or.inr rfl) | (right; omega)) _ _ | refine St.drewN ?_ _ | refine St.drew ?_ | refine St.alloc ?_ (by omega) _))
    · exact New.rfl' _ _
  obtain rfl : pe = false := by cases pe <;> simp_all
  rw [show Sg.sendD ⟨ac, op, true, false, co0, er0, nr0, ar0, l⟩ co er nr ar = (⟨ac, op, true, true, co, er, nr, ar, l⟩, nohit, 0) from by simp [Sg.sendD, h1]]
  dsimp only [nohit]
  have hk0 : W.cell? ⟨C, 0, none⟩ = some (.int .i64 co) := blk_cell hCs.out 0
  have hk1 : W.cell? ⟨C, 1, none⟩ = some (.int .i64 er) := blk_cell hCs.out 1
  have hk2 : W.cell? ⟨C, 2, none⟩ = some (.int .u32 nr) := blk_cell hCs.out 2
  have hk3 : W.cell? ⟨C, 3, none⟩ = some (.int .u32 ar) := blk_cell hCs.out 3
  go_enter Try.func19, Try.ntmps19
  go_wp2_with fail
  refine start_ (n := 11) (S := fun w' => w'.heap[C]? = some (.cells #[.int .i64 co, .int .i64 er, .int .u32 nr, .int .u32 ar] 24 (0, 0))) (ds := []) #[false, false, false, false, false, false, false, false, false, false, false] (by kernel_rfl) rfl rfl (blk_drew (blk_alloc hCs.out _)) (fun hHeld => ?_); refine with_tabW send5.tab5 send5.bits5 (fun HT_ HW_ => ?_)
  refine pure_ (i := 0) (N := some 29) (v := ?_) (a' := ?_) #[true, false, false, false, false, false, false, false, false, false, false] rfl rfl (any_of HT_.out (by kernel_rfl)) (fun _ _ _ h => h) (Or.inl ⟨by rfl, ?_⟩) ?_ ?_
  rotate_left
  · intro w'
    go_simp
    with_reducible rfl
  rotate_left
  · (try simp only [Act.put, List.setIfInBounds_toArray, List.set_cons_zero, List.set_cons_succ])
    rfl
  refine pure_ (i := 1) (N := some 30) (v := ?_) (a' := ?_) #[true, true, false, false, false, false, false, false, false, false, false] rfl rfl (any_of HT_.out (by kernel_rfl)) (fun _ _ _ h => h) (Or.inl ⟨by rfl, ?_⟩) ?_ ?_
  rotate_left
  · intro w'
    go_simp
    with_reducible rfl
  rotate_left
  · (try simp only [Act.put, List.setIfInBounds_toArray, List.set_cons_zero, List.set_cons_succ])
    rfl
  refine pure_ (i := 3) (N := some 32) (v := ?_) (a' := ?_) #[true, true, false, true, false, false, false, false, false, false, false] rfl rfl (any_of HT_.out (by kernel_rfl)) (fun _ _ _ h => h) (Or.inl ⟨by rfl, ?_⟩) ?_ ?_
  rotate_left
  · intro w'
    go_simp
    with_reducible rfl
  rotate_left
  · (try simp only [Act.put, List.setIfInBounds_toArray, List.set_cons_zero, List.set_cons_succ])
    rfl
  refine pure_ (i := 4) (N := some 33) (v := ?_) (a' := ?_) #[true, true, false, true, true, false, false, false, false, false, false] rfl rfl (any_of HT_.out (by kernel_rfl)) (fun _ _ _ h => h) (Or.inl ⟨by rfl, ?_⟩) ?_ ?_
  rotate_left
  · intro w'
    go_simp
    with_reducible rfl
  rotate_left
  · (try simp only [Act.put, List.setIfInBounds_toArray, List.set_cons_zero, List.set_cons_succ])
    rfl
  refine pure_ (i := 5) (N := some 34) (v := ?_) (a' := ?_) #[true, true, false, true, true, true, false, false, false, false, false] rfl rfl (any_of HT_.out (by kernel_rfl)) (fun _ _ _ h => h) (Or.inl ⟨by rfl, ?_⟩) ?_ ?_
  rotate_left
  · intro w'
    go_simp
    with_reducible rfl
  rotate_left
  · (try simp only [Act.put, List.setIfInBounds_toArray, List.set_cons_zero, List.set_cons_succ])
    rfl
  refine take_ (i := 2) (N := some 31) (v := ?_) (a' := ?_) #[true, true, true, true, true, true, false, false, false, false, false] rfl rfl (take_ofW HT_.out HW_.out (by kernel_rfl)) (fun _ _ _ h => h) (Or.inl ⟨by rfl, ?_⟩) hHeld ?_ ?_
  rotate_left
  · intro w' hS_
    have hx_0 : w'.cell? ⟨C, 0, none⟩ = some (.int .i64 co) := blk_cell hS_ 0
    have hx_1 : w'.cell? ⟨C, 1, none⟩ = some (.int .i64 er) := blk_cell hS_ 1
    have hx_2 : w'.cell? ⟨C, 2, none⟩ = some (.int .u32 nr) := blk_cell hS_ 2
    have hx_3 : w'.cell? ⟨C, 3, none⟩ = some (.int .u32 ar) := blk_cell hS_ 3
    go_simp
    with_reducible rfl
  rotate_left
  · (try simp only [Act.put, List.setIfInBounds_toArray, List.set_cons_zero, List.set_cons_succ])
    rfl
  refine one_ (i := 6) (N := none) #[true, true, true, true, true, true, true, false, false, false, false] rfl rfl (one_of HT_.out (by kernel_rfl)) (by decide) (fun K hK => ?_)
  refine skip_ (w1 := ?_) (by rfl) rfl ?_ ?_
  rotate_left
  · go_simp
    with_reducible rfl
  refine hK.out _ _ (by ((repeat (with_reducible first | exact hCs.out | exact heap_new_at _ _ _ (by simp) | refine blk_drewN ?_ _ | refine blk_drew ?_ | refine (Below.heap_setCell _ _ _ _ (by dsimp only; omega)).trans ?_ | apply blk_put | refine blk_alloc ?_ _)); all_goals rfl)) (fun hHeld => ?_)
  clear hK K
  refine pure_ (i := 7) (N := some 35) (v := ?_) (a' := ?_) #[true, true, true, true, true, true, true, true, false, false, false] rfl rfl (any_of HT_.out (by kernel_rfl)) (fun _ _ _ h => h) (Or.inl ⟨by rfl, ?_⟩) ?_ ?_
  rotate_left
  · intro w'
    go_simp
    with_reducible rfl
  rotate_left
  · (try simp only [Act.put, List.setIfInBounds_toArray, List.set_cons_zero, List.set_cons_succ])
    rfl
  refine pure_ (i := 8) (N := some 36) (v := ?_) (a' := ?_) #[true, true, true, true, true, true, true, true, true, false, false] rfl rfl (any_of HT_.out (by kernel_rfl)) (fun _ _ _ h => h) (Or.inl ⟨by rfl, ?_⟩) ?_ ?_
  rotate_left
  · intro w'
    go_simp
    with_reducible rfl
  rotate_left
  · (try simp only [Act.put, List.setIfInBounds_toArray, List.set_cons_zero, List.set_cons_succ])
    rfl
  refine pure_ (i := 9) (N := some 37) (v := ?_) (a' := ?_) #[true, true, true, true, true, true, true, true, true, true, false] rfl rfl (any_of HT_.out (by kernel_rfl)) (fun _ _ _ h => h) (Or.inl ⟨by rfl, ?_⟩) ?_ ?_
  rotate_left
  · intro w'
    go_simp
    with_reducible rfl
  rotate_left
  · (try simp only [Act.put, List.setIfInBounds_toArray, List.set_cons_zero, List.set_cons_succ])
    rfl
  refine one_ (i := 10) (N := none) #[true, true, true, true, true, true, true, true, true, true, true] rfl rfl (one_of HT_.out (by kernel_rfl)) (by decide) (fun K hK => ?_)
  refine skip_ (w1 := ?_) (by rfl) rfl ?_ ?_
  rotate_left
  · go_simp
    with_reducible rfl
  refine hK.out _ _ (by ((repeat (with_reducible first | exact hCs.out | exact heap_new_at _ _ _ (by simp) | refine blk_drewN ?_ _ | refine blk_drew ?_ | refine (Below.heap_setCell _ _ _ _ (by dsimp only; omega)).trans ?_ | apply blk_put | refine blk_alloc ?_ _)); all_goals rfl)) (fun hHeld => ?_)
  clear hK K
  refine done_ (done_of HT_.out (by kernel_rfl)) ?_
  clear HT_ HW_ hHeld
  go_wp2
  refine bodyPost_ret (results_ct rfl _ _ (W.heap.size) 33 #[.bool false, .bool false, .int .i64 0, .int .i64 0, .int .u32 0, .int .u32 0] (0, 0) _ rfl ?hr_ Try.underlying33 rfl (by kernel_rfl)) rfl ?_
  case hr_ => ((repeat (first | (with_reducible exact heap_new_at _ _ _ (by simp)) | (with_reducible refine blk_drewN ?_ _) | (with_reducible refine blk_drew ?_) | (with_reducible refine (Below.heap_setCell _ _ _ _ (by dsimp only; omega)).trans ?_) | (with_reducible apply blk_put) | (with_reducible refine blk_alloc ?_ _))); all_goals rfl)
  refine ⟨rfl, Gets.mk' (v) ?_ ?_ ?_ ?_⟩
  · (repeat (with_reducible first | exact hbs.out | refine blk_alloc ?_ _ | refine blk_drewN ?_ _ | refine blk_drew ?_ | refine (Below.heap_setCell _ _ _ _ (by dsimp only; omega)).trans ?_ | apply blk_put))
    all_goals rfl
  · refine St.R (W := _) ?_ (hRs.out) (fun k hk => hk) (fun k hk => hk)
    (repeat (with_reducible first | exact St.rfl' _ _ _ | refine St.set ?_ (by omega) (by first | exact Or.inl rfl | exact Or.inl (Or.inl rfl) | exact Or.inl (Or.inr rfl) | (right; omega)) _ _ | refine St.drewN ?_ _ | refine St.drew ?_ | refine St.alloc ?_ (by omega) _))
  · refine St.mono (S := fun k => k = X) ?_ (fun k hk => Or.inl hk); (repeat (with_reducible first | exact St.rfl' _ _ _ | refine St.set ?_ (by omega) (by first | exact Or.inl rfl | exact Or.inl (Or.inl rfl) | exact Or.inl (Or.inr rfl) | (right; omega)) _ _ | refine St.drewN ?_ _ | refine St.drew ?_ | refine St.alloc ?_ (by omega) _))
  · exact New.rfl' _ _
def Sg.retD (s : Sg) : Sg × Ht × Int := if s.l.length = 0 then (s, nohit, 4) else ((Sg.on ⟨s.ac, s.op, rdOf false s.l ((s.l.length : Int) - 1), s.pe, s.co, s.er, s.nr, s.ar, s.l.take (s.l.length - 1)⟩).1, (Sg.on ⟨s.ac, s.op, rdOf false s.l ((s.l.length : Int) - 1), s.pe, s.co, s.er, s.nr, s.ar, s.l.take (s.l.length - 1)⟩).2, 0)
set_option maxHeartbeats 1000000 in
set_option maxRecDepth 100000 in
theorem return1_w (n X : Nat)  (s : Sg) (v : Value) (W : World) (hX : n ≤ X)  (hP : Has n X s v W) :
    Calls Try.prog 25 #[.pointer (some ⟨X, 0, none⟩)] W fun e w' => e = .returned (.tuple #[.agg #[.bool s.retD.2.1.di, .bool s.retD.2.1.ru, .int .i64 s.retD.2.1.co, .int .i64 s.retD.2.1.er, .int .u32 s.retD.2.1.nr, .int .u32 s.retD.2.1.ar], .int .i64 s.retD.2.2]) ∧ Gets n X v W s.retD.1 w' := by
  obtain ⟨ac, op, bl, pe, co0, er0, nr0, ar0, l⟩ := s
  obtain ⟨hb, hR⟩ := hP
  dsimp only at hb hR
  have hbs := Aside0.mk hb
  have hRs := Aside0.mk hR
  have hXl := blk_lt hb
  have hc0 := blk_cell hb 0
  have hf0 := blk_frozen hb 0
  have hc1 := blk_cell hb 1
  have hf1 := blk_frozen hb 1
  have hc2 := blk_cell hb 2
  have hf2 := blk_frozen hb 2
  have hc3 := blk_cell hb 3
  have hf3 := blk_frozen hb 3
  have hc4 := blk_cell hb 4
  have hf4 := blk_frozen hb 4
  have hc5 := blk_cell hb 5
  have hf5 := blk_frozen hb 5
  have hc6 := blk_cell hb 6
  have hf6 := blk_frozen hb 6
  have hc7 := blk_cell hb 7
  have hf7 := blk_frozen hb 7
  have hc8 := blk_cell hb 8
  have hf8 := blk_frozen hb 8
  simp only [List.getElem?_toArray, List.getElem?_cons_zero, List.getElem?_cons_succ] at hc0 hc1 hc2 hc3 hc4 hc5 hc6 hc7 hc8
  clear hb hR
  have hn : n ≤ W.heap.size := by omega
  by_cases h0 : l.length = 0
  · have h0' : ((l.length : Int) == 0) = true := by simp [h0]
    obtain rfl : l = [] := List.length_eq_zero_iff.1 h0
    obtain ⟨A, c, rfl⟩ := Kd.R_slice hRs.out
    rw [show Sg.retD ⟨ac, op, bl, pe, co0, er0, nr0, ar0, []⟩ = (⟨ac, op, bl, pe, co0, er0, nr0, ar0, []⟩, nohit, 4) from by simp [Sg.retD]]
    dsimp only [nohit]
    go_enter Try.func25, Try.ntmps25
    go_wp2
    refine bodyPost_ret (results_ct rfl _ _ (W.heap.size) 33 #[.bool false, .bool false, .int .i64 0, .int .i64 0, .int .u32 0, .int .u32 0] (0, 0) _ rfl ?hr_ Try.underlying33 rfl (by kernel_rfl)) rfl ?_
    case hr_ => ((repeat (first | (with_reducible exact heap_new_at _ _ _ (by simp)) | (with_reducible refine blk_drewN ?_ _) | (with_reducible refine blk_drew ?_) | (with_reducible refine (Below.heap_setCell _ _ _ _ (by dsimp only; omega)).trans ?_) | (with_reducible apply blk_put) | (with_reducible refine blk_alloc ?_ _))); all_goals rfl)
    refine ⟨rfl, Gets.mk' (.slice A ([] : List Bool).length c) ?_ ?_ ?_ ?_⟩
    · (repeat (with_reducible first | exact hbs.out | refine blk_alloc ?_ _ | refine blk_drewN ?_ _ | refine blk_drew ?_ | refine (Below.heap_setCell _ _ _ _ (by dsimp only; omega)).trans ?_ | apply blk_put))
      all_goals rfl
    · refine St.R (W := _) ?_ (hRs.out) (fun k hk => hk) (fun k hk => hk)
      (repeat (with_reducible first | exact St.rfl' _ _ _ | refine St.set ?_ (by omega) (by first | exact Or.inl rfl | exact Or.inl (Or.inl rfl) | exact Or.inl (Or.inr rfl) | (right; omega)) _ _ | refine St.drewN ?_ _ | refine St.drew ?_ | refine St.alloc ?_ (by omega) _))
    · refine St.mono (S := fun k => k = X) ?_ (fun k hk => Or.inl hk); (repeat (with_reducible first | exact St.rfl' _ _ _ | refine St.set ?_ (by omega) (by first | exact Or.inl rfl | exact Or.inl (Or.inl rfl) | exact Or.inl (Or.inr rfl) | (right; omega)) _ _ | refine St.drewN ?_ _ | refine St.drew ?_ | refine St.alloc ?_ (by omega) _))
    · exact New.rfl' _ _
  obtain ⟨m, hm⟩ : ∃ m : Nat, l.length = m + 1 := ⟨l.length - 1, by omega⟩
  obtain ⟨g, c, rfl, hg1, hg2, _⟩ := Kd.R_form hRs.out (by omega)
  have hgX : g ≠ X := hRs.out.1 g (by simp [Value.ownBlock])
  obtain ⟨hel, _⟩ := Kd.R_cell false hRs.out (m : Int) (by omega) (by omega)
  have hret : Sg.retD ⟨ac, op, bl, pe, co0, er0, nr0, ar0, l⟩ = ((Sg.on ⟨ac, op, rdOf false l (m : Int), pe, co0, er0, nr0, ar0, l.take m⟩).1, (Sg.on ⟨ac, op, rdOf false l (m : Int), pe, co0, er0, nr0, ar0, l.take m⟩).2, 0) := by
    simp [Sg.retD, hm]
  rw [hret]
  dsimp only
  clear hret
  generalize rdOf false l (m : Int) = bb at hel ⊢
  have hlc := Kd.R_reads' hRs.out
  have hlen : m + 1 ≤ c := by have := hlc.2.1; omega
  have hmax : m + 1 ≤ 9223372036854775807 := by have := Kd.C_max hlc.2.2; omega
  clear hlc
  have hTK := Aside0.mk (Kd.R_take hRs.out (m := m) (by omega))
  have hwm : IntKind.i64.wrap (m : Int) = (m : Int) := by simp [IntKind.wrap, IntKind.bits, IntKind.signed]; omega
  have hel2 : W.cell? ⟨g, m, none⟩ = some (.bool bb) := by simpa using hel
  have hel4 : (W.alloc (.cells #[.bool false, .bool false, .int .i64 0, .int .i64 0, .int .u32 0, .int .u32 0] 33)).drew.cell? ⟨g, m, none⟩ = some (.bool bb) := by
    have := (Below.heap_alloc W (.cells #[.bool false, .bool false, .int .i64 0, .int .i64 0, .int .u32 0, .int .u32 0] 33) g hg2)
    simpa [World.cell?, World.drew, this] using hel2
  clear hel
  rw [hm] at hbs hRs hc8
  have h0' : ((m : Int) + 1 == 0) = false := by simp; omega
  have hlt : (m : Int) < (m : Int) + 1 := by omega
  have hmc : (m : Int) ≤ (c : Int) := by omega
  have hmc' : m ≤ c := by omega
  go_enter Try.func25, Try.ntmps25
  go_wp2_with fail
  refine start_ (n := 27) (S := fun w' => w'.heap[X]? = some (.cells #[.int .i64 ac, .bool op, .bool bl, .bool pe, .int .i64 co0, .int .i64 er0, .int .u32 nr0, .int .u32 ar0,   .slice (some ⟨g, 0, none⟩) (m + 1) c] 52 (0, 0)) ∧ w'.cell? ⟨g, m, none⟩ = some (.bool bb)) (ds := [22, 26]) #[false, false, false, false, false, false, false, false, false, false, false, false, false, false, false, false, false, false, false, false, false, false, false, false, false, false, false] (by kernel_rfl) rfl rfl (⟨blk_drew (blk_alloc hbs.out _), hel4⟩) (fun hHeld => ?_); refine with_tabW ret4.tab4 ret4.bits4 (fun HT_ HW_ => ?_)
  refine pure_ (i := 0) (N := some 14) (v := ?_) (a' := ?_) #[true, false, false, false, false, false, false, false, false, false, false, false, false, false, false, false, false, false, false, false, false, false, false, false, false, false, false] rfl rfl (any_of HT_.out (by kernel_rfl)) (fun _ _ _ h => h) (Or.inl ⟨by rfl, ?_⟩) ?_ ?_
  rotate_left
  · intro w'
    go_simp
    with_reducible rfl
  rotate_left
  · (try simp only [Act.put, List.setIfInBounds_toArray, List.set_cons_zero, List.set_cons_succ])
    rfl
  refine pure_ (i := 1) (N := some 15) (v := ?_) (a' := ?_) #[true, true, false, false, false, false, false, false, false, false, false, false, false, false, false, false, false, false, false, false, false, false, false, false, false, false, false] rfl rfl (any_of HT_.out (by kernel_rfl)) (fun _ _ _ h => h) (Or.inl ⟨by rfl, ?_⟩) ?_ ?_
  rotate_left
  · intro w'
    go_simp
    with_reducible rfl
  rotate_left
  · (try simp only [Act.put, List.setIfInBounds_toArray, List.set_cons_zero, List.set_cons_succ])
    rfl
  refine pure_ (i := 2) (N := some 16) (v := ?_) (a' := ?_) #[true, true, true, false, false, false, false, false, false, false, false, false, false, false, false, false, false, false, false, false, false, false, false, false, false, false, false] rfl rfl (any_of HT_.out (by kernel_rfl)) (fun _ _ _ h => h) (Or.inl ⟨by rfl, ?_⟩) ?_ ?_
  rotate_left
  · intro w'
    go_simp
    with_reducible rfl
  rotate_left
  · (try simp only [Act.put, List.setIfInBounds_toArray, List.set_cons_zero, List.set_cons_succ])
    rfl
  refine pure_ (i := 3) (N := some 17) (v := ?_) (a' := ?_) #[true, true, true, true, false, false, false, false, false, false, false, false, false, false, false, false, false, false, false, false, false, false, false, false, false, false, false] rfl rfl (any_of HT_.out (by kernel_rfl)) (fun _ _ _ h => h) (Or.inl ⟨by rfl, ?_⟩) ?_ ?_
  rotate_left
  · intro w'
    go_simp
    with_reducible rfl
  rotate_left
  · (try simp only [Act.put, List.setIfInBounds_toArray, List.set_cons_zero, List.set_cons_succ])
    rfl
  refine pure_ (i := 4) (N := some 18) (v := ?_) (a' := ?_) #[true, true, true, true, true, false, false, false, false, false, false, false, false, false, false, false, false, false, false, false, false, false, false, false, false, false, false] rfl rfl (any_of HT_.out (by kernel_rfl)) (fun _ _ _ h => h) (Or.inl ⟨by rfl, ?_⟩) ?_ ?_
  rotate_left
  · intro w'
    go_simp
    with_reducible rfl
  rotate_left
  · (try simp only [Act.put, List.setIfInBounds_toArray, List.set_cons_zero, List.set_cons_succ])
    rfl
  refine pure_ (i := 5) (N := some 19) (v := ?_) (a' := ?_) #[true, true, true, true, true, true, false, false, false, false, false, false, false, false, false, false, false, false, false, false, false, false, false, false, false, false, false] rfl rfl (any_of HT_.out (by kernel_rfl)) (fun _ _ _ h => h) (Or.inl ⟨by rfl, ?_⟩) ?_ ?_
  rotate_left
  · intro w'
    go_simp
    with_reducible rfl
  rotate_left
  · (try simp only [Act.put, List.setIfInBounds_toArray, List.set_cons_zero, List.set_cons_succ])
    rfl
  refine pure_ (i := 7) (N := some 21) (v := ?_) (a' := ?_) #[true, true, true, true, true, true, false, true, false, false, false, false, false, false, false, false, false, false, false, false, false, false, false, false, false, false, false] rfl rfl (any_of HT_.out (by kernel_rfl)) (fun _ _ _ h => h) (Or.inl ⟨by rfl, ?_⟩) ?_ ?_
  rotate_left
  · intro w'
    go_simp
    with_reducible rfl
  rotate_left
  · (try simp only [Act.put, List.setIfInBounds_toArray, List.set_cons_zero, List.set_cons_succ])
    rfl
  refine pure_ (i := 8) (N := some 22) (v := ?_) (a' := ?_) #[true, true, true, true, true, true, false, true, true, false, false, false, false, false, false, false, false, false, false, false, false, false, false, false, false, false, false] rfl rfl (any_of HT_.out (by kernel_rfl)) (fun _ _ _ h => h) (Or.inl ⟨by rfl, ?_⟩) ?_ ?_
  rotate_left
  · intro w'
    go_simp
    with_reducible rfl
  rotate_left
  · (try simp only [Act.put, List.setIfInBounds_toArray, List.set_cons_zero, List.set_cons_succ])
    rfl
  refine pure_ (i := 11) (N := some 25) (v := ?_) (a' := ?_) #[true, true, true, true, true, true, false, true, true, false, false, true, false, false, false, false, false, false, false, false, false, false, false, false, false, false, false] rfl rfl (any_of HT_.out (by kernel_rfl)) (fun _ _ _ h => h) (Or.inl ⟨by rfl, ?_⟩) ?_ ?_
  rotate_left
  · intro w'
    go_simp
    with_reducible rfl
  rotate_left
  · (try simp only [Act.put, List.setIfInBounds_toArray, List.set_cons_zero, List.set_cons_succ])
    rfl
  refine pure_ (i := 12) (N := some 26) (v := ?_) (a' := ?_) #[true, true, true, true, true, true, false, true, true, false, false, true, true, false, false, false, false, false, false, false, false, false, false, false, false, false, false] rfl rfl (any_of HT_.out (by kernel_rfl)) (fun _ _ _ h => h) (Or.inl ⟨by rfl, ?_⟩) ?_ ?_
  rotate_left
  · intro w'
    go_simp
    with_reducible rfl
  rotate_left
  · (try simp only [Act.put, List.setIfInBounds_toArray, List.set_cons_zero, List.set_cons_succ])
    rfl
  refine pure_ (i := 13) (N := some 27) (v := ?_) (a' := ?_) #[true, true, true, true, true, true, false, true, true, false, false, true, true, true, false, false, false, false, false, false, false, false, false, false, false, false, false] rfl rfl (any_of HT_.out (by kernel_rfl)) (fun _ _ _ h => h) (Or.inl ⟨by rfl, ?_⟩) ?_ ?_
  rotate_left
  · intro w'
    go_simp
    with_reducible rfl
  rotate_left
  · (try simp only [Act.put, List.setIfInBounds_toArray, List.set_cons_zero, List.set_cons_succ])
    rfl
  refine pure_ (i := 14) (N := some 28) (v := ?_) (a' := ?_) #[true, true, true, true, true, true, false, true, true, false, false, true, true, true, true, false, false, false, false, false, false, false, false, false, false, false, false] rfl rfl (any_of HT_.out (by kernel_rfl)) (fun _ _ _ h => h) (Or.inl ⟨by rfl, ?_⟩) ?_ ?_
  rotate_left
  · intro w'
    go_simp
    with_reducible rfl
  rotate_left
  · (try simp only [Act.put, List.setIfInBounds_toArray, List.set_cons_zero, List.set_cons_succ])
    rfl
  refine pure_ (i := 16) (N := some 30) (v := ?_) (a' := ?_) #[true, true, true, true, true, true, false, true, true, false, false, true, true, true, true, false, true, false, false, false, false, false, false, false, false, false, false] rfl rfl (any_of HT_.out (by kernel_rfl)) (fun _ _ _ h => h) (Or.inl ⟨by rfl, ?_⟩) ?_ ?_
  rotate_left
  · intro w'
    go_simp
    with_reducible rfl
  rotate_left
  · (try simp only [Act.put, List.setIfInBounds_toArray, List.set_cons_zero, List.set_cons_succ])
    rfl
  refine pure_ (i := 17) (N := some 31) (v := ?_) (a' := ?_) #[true, true, true, true, true, true, false, true, true, false, false, true, true, true, true, false, true, true, false, false, false, false, false, false, false, false, false] rfl rfl (any_of HT_.out (by kernel_rfl)) (fun _ _ _ h => h) (Or.inl ⟨by rfl, ?_⟩) ?_ ?_
  rotate_left
  · intro w'
    go_simp
    with_reducible rfl
  rotate_left
  · (try simp only [Act.put, List.setIfInBounds_toArray, List.set_cons_zero, List.set_cons_succ])
    rfl
  refine take_ (i := 6) (N := some 20) (v := ?_) (a' := ?_) #[true, true, true, true, true, true, true, true, true, false, false, true, true, true, true, false, true, true, false, false, false, false, false, false, false, false, false] rfl rfl (take_ofW HT_.out HW_.out (by kernel_rfl)) (fun _ _ _ h => h) (Or.inl ⟨by rfl, ?_⟩) hHeld ?_ ?_
  rotate_left
  · intro w' hS_
    have hx_ : w'.cell? ⟨X, 8, none⟩ = some (.slice (some ⟨g, 0, none⟩) (m + 1) c) := blk_cell hS_.1 8
    go_simp
    with_reducible rfl
  rotate_left
  · (try simp only [Act.put, List.setIfInBounds_toArray, List.set_cons_zero, List.set_cons_succ])
    rfl
  refine pure_ (i := 9) (N := some 23) (v := ?_) (a' := ?_) #[true, true, true, true, true, true, true, true, true, true, false, true, true, true, true, false, true, true, false, false, false, false, false, false, false, false, false] rfl rfl (any_of HT_.out (by kernel_rfl)) (fun _ _ _ h => h) (Or.inl ⟨by rfl, ?_⟩) ?_ ?_
  rotate_left
  · intro w'
    go_simp
    with_reducible rfl
  rotate_left
  · (try simp only [Act.put, List.setIfInBounds_toArray, List.set_cons_zero, List.set_cons_succ])
    rfl
  refine take_ (i := 10) (N := some 24) (v := ?_) (a' := ?_) #[true, true, true, true, true, true, true, true, true, true, true, true, true, true, true, false, true, true, false, false, false, false, false, false, false, false, false] rfl rfl (take_ofW HT_.out HW_.out (by kernel_rfl)) (fun _ _ _ h => h) (Or.inl ⟨by rfl, ?_⟩) hHeld ?_ ?_
  rotate_left
  · intro w' hS_
    have hx_ := hS_.2
    go_simp
    with_reducible rfl
  rotate_left
  · (try simp only [Act.put, List.setIfInBounds_toArray, List.set_cons_zero, List.set_cons_succ])
    rfl
  refine take_ (i := 15) (N := some 29) (v := ?_) (a' := ?_) #[true, true, true, true, true, true, true, true, true, true, true, true, true, true, true, true, true, true, false, false, false, false, false, false, false, false, false] rfl rfl (take_ofW HT_.out HW_.out (by kernel_rfl)) (fun _ _ _ h => h) (Or.inl ⟨by rfl, ?_⟩) hHeld ?_ ?_
  rotate_left
  · intro w' hS_
    have hx_ : w'.cell? ⟨X, 8, none⟩ = some (.slice (some ⟨g, 0, none⟩) (m + 1) c) := blk_cell hS_.1 8
    go_simp
    with_reducible rfl
  rotate_left
  · (try simp only [Act.put, List.setIfInBounds_toArray, List.set_cons_zero, List.set_cons_succ])
    rfl
  refine pure_ (i := 18) (N := some 32) (v := ?_) (a' := ?_) #[true, true, true, true, true, true, true, true, true, true, true, true, true, true, true, true, true, true, true, false, false, false, false, false, false, false, false] rfl rfl (any_of HT_.out (by kernel_rfl)) (fun _ _ _ h => h) (Or.inl ⟨by rfl, ?_⟩) ?_ ?_
  rotate_left
  · intro w'
    go_simp
    with_reducible rfl
  rotate_left
  · (try simp only [Act.put, List.setIfInBounds_toArray, List.set_cons_zero, List.set_cons_succ])
    rfl
  refine pure_ (i := 19) (N := some 33) (v := ?_) (a' := ?_) #[true, true, true, true, true, true, true, true, true, true, true, true, true, true, true, true, true, true, true, true, false, false, false, false, false, false, false] rfl rfl (any_of HT_.out (by kernel_rfl)) (fun _ _ _ h => h) (Or.inl ⟨by rfl, ?_⟩) ?_ ?_
  rotate_left
  · intro w'
    go_simp
    with_reducible rfl
  rotate_left
  · (try simp only [Act.put, List.setIfInBounds_toArray, List.set_cons_zero, List.set_cons_succ])
    rfl
  refine pure_ (i := 20) (N := some 34) (v := ?_) (a' := ?_) #[true, true, true, true, true, true, true, true, true, true, true, true, true, true, true, true, true, true, true, true, true, false, false, false, false, false, false] rfl rfl (any_of HT_.out (by kernel_rfl)) (fun _ _ _ h => h) (Or.inl ⟨by rfl, ?_⟩) ?_ ?_
  rotate_left
  · intro w'
    go_simp
    with_reducible rfl
  rotate_left
  · (try simp only [Act.put, List.setIfInBounds_toArray, List.set_cons_zero, List.set_cons_succ])
    rfl
  refine pure_ (i := 21) (N := some 35) (v := ?_) (a' := ?_) #[true, true, true, true, true, true, true, true, true, true, true, true, true, true, true, true, true, true, true, true, true, true, false, false, false, false, false] rfl rfl (any_of HT_.out (by kernel_rfl)) (fun _ _ _ h => h) (Or.inl ⟨by rfl, ?_⟩) ?_ ?_
  rotate_left
  · intro w'
    go_simp
    with_reducible rfl
  rotate_left
  · (try simp only [Act.put, List.setIfInBounds_toArray, List.set_cons_zero, List.set_cons_succ])
    rfl
  refine last_ (i := 22) (N := none) #[true, true, true, true, true, true, true, true, true, true, true, true, true, true, true, true, true, true, true, true, true, true, true, false, false, false, false] rfl rfl (one_of HT_.out (by kernel_rfl)) (by decide) (fun K hK => ?_)
  refine skip_ (w1 := ?_) (by rfl) rfl ?_ ?_
  rotate_left
  · go_simp
    with_reducible rfl
  refine hK.out _ _ ?_
  clear hK K
  refine pure_ (i := 23) (N := some 36) (v := ?_) (a' := ?_) #[true, true, true, true, true, true, true, true, true, true, true, true, true, true, true, true, true, true, true, true, true, true, true, true, false, false, false] rfl rfl (any_of HT_.out (by kernel_rfl)) (fun _ _ _ h => h) (Or.inl ⟨by rfl, ?_⟩) ?_ ?_
  rotate_left
  · intro w'
    go_simp
    with_reducible rfl
  rotate_left
  · (try simp only [Act.put, List.setIfInBounds_toArray, List.set_cons_zero, List.set_cons_succ])
    rfl
  refine pure_ (i := 24) (N := some 37) (v := ?_) (a' := ?_) #[true, true, true, true, true, true, true, true, true, true, true, true, true, true, true, true, true, true, true, true, true, true, true, true, true, false, false] rfl rfl (any_of HT_.out (by kernel_rfl)) (fun _ _ _ h => h) (Or.inl ⟨by rfl, ?_⟩) ?_ ?_
  rotate_left
  · intro w'
    go_simp
    with_reducible rfl
  rotate_left
  · (try simp only [Act.put, List.setIfInBounds_toArray, List.set_cons_zero, List.set_cons_succ])
    rfl
  refine pure_ (i := 25) (N := some 38) (v := ?_) (a' := ?_) #[true, true, true, true, true, true, true, true, true, true, true, true, true, true, true, true, true, true, true, true, true, true, true, true, true, true, false] rfl rfl (any_of HT_.out (by kernel_rfl)) (fun _ _ _ h => h) (Or.inl ⟨by rfl, ?_⟩) ?_ ?_
  rotate_left
  · intro w'
    go_simp
    with_reducible rfl
  rotate_left
  · (try simp only [Act.put, List.setIfInBounds_toArray, List.set_cons_zero, List.set_cons_succ])
    rfl
  refine last_ (i := 26) (N := none) #[true, true, true, true, true, true, true, true, true, true, true, true, true, true, true, true, true, true, true, true, true, true, true, true, true, true, true] rfl rfl (one_of HT_.out (by kernel_rfl)) (by decide) (fun K hK => ?_)
  refine skip_ (w1 := ?_) (by rfl) rfl ?_ ?_
  rotate_left
  · go_simp
    with_reducible rfl
  refine hK.out _ _ ?_
  clear hK K
  refine done_ (done_of HT_.out (by kernel_rfl)) ?_
  clear HT_ HW_ hHeld
  go_wp2_with fail
  clear hc0 hf0 hc1 hf1 hc2 hf2 hc3 hf3 hc4 hf4 hc5 hf5 hc6 hf6 hc7 hf7 hc8 hf8
  clear hel4 hel2
  refine (on_w n X ⟨ac, op, bb, pe, co0, er0, nr0, ar0, (l.take m)⟩ (.slice (some ⟨g, 0, none⟩) m c) _ hX ?hP_).mono ?_
  case hP_ => (exact ⟨by ((repeat (with_reducible first | exact hbs.out | exact heap_new_at _ _ _ (by simp) | refine blk_drewN ?_ _ | refine blk_drew ?_ | refine (Below.heap_setCell _ _ _ _ (by dsimp only; omega)).trans ?_ | apply blk_put | refine blk_alloc ?_ _)); all_goals rfl), by (repeat (with_reducible first | exact hTK.out | refine Kd.R_far ?_ (fun k hk => hk) _ | refine Kd.R_drewN ?_ _ | refine Kd.R_drew ?_ | refine Kd.R_alloc ?_ _))⟩)
  rintro e w2 ⟨rfl, hG⟩
  have HY2 : Aside0 (w2.heap[W.heap.size]? = some (.cells #[.bool false, .bool false, .int .i64 0, .int .i64 0, .int .u32 0, .int .u32 0] 33 (0, 0))) := ⟨by refine Gets.blk (s := ⟨ac, op, bb, pe, co0, er0, nr0, ar0, (l.take m)⟩) hG (by (exact ⟨by ((repeat (with_reducible first | exact hbs.out | exact heap_new_at _ _ _ (by simp) | refine blk_drewN ?_ _ | refine blk_drew ?_ | refine (Below.heap_setCell _ _ _ _ (by dsimp only; omega)).trans ?_ | apply blk_put | refine blk_alloc ?_ _)); all_goals rfl), by (repeat (with_reducible first | exact hTK.out | refine Kd.R_far ?_ (fun k hk => hk) _ | refine Kd.R_drewN ?_ _ | refine Kd.R_drew ?_ | refine Kd.R_alloc ?_ _))⟩)) (by ((repeat (with_reducible first | fail | exact heap_new_at _ _ _ (by simp) | refine blk_drewN ?_ _ | refine blk_drew ?_ | refine (Below.heap_setCell _ _ _ _ (by dsimp only; omega)).trans ?_ | apply blk_put | refine blk_alloc ?_ _)); all_goals rfl)) (by decide) (by omega)⟩
  have hG2 : Aside0 (Gets n X (.slice (some ⟨g, 0, none⟩) (m + 1) c) W (Sg.on ⟨ac, op, bb, pe, co0, er0, nr0, ar0, (l.take m)⟩).1 w2) := ⟨by refine Gets.trans (by (repeat (with_reducible first | exact St.rfl' _ _ _ | refine St.set ?_ (by omega) (by first | exact Or.inl rfl | exact Or.inl (Or.inl rfl) | exact Or.inl (Or.inr rfl) | (right; omega)) _ _ | refine St.drewN ?_ _ | refine St.drew ?_ | refine St.alloc ?_ (by omega) _))) (fun k hk => Or.inl (by simpa [Value.ownBlock] using hk)) hG⟩
  clear hG
  have hh0 : w2.cell? ⟨W.heap.size, 0, none⟩ = some (.bool false) := blk_cell HY2.out 0
  have hg0 : w2.frozen? ⟨W.heap.size, 0, none⟩ = false := blk_frozen HY2.out 0
  have hh1 : w2.cell? ⟨W.heap.size, 1, none⟩ = some (.bool false) := blk_cell HY2.out 1
  have hg1 : w2.frozen? ⟨W.heap.size, 1, none⟩ = false := blk_frozen HY2.out 1
  have hh2 : w2.cell? ⟨W.heap.size, 2, none⟩ = some (.int .i64 0) := blk_cell HY2.out 2
  have hg2 : w2.frozen? ⟨W.heap.size, 2, none⟩ = false := blk_frozen HY2.out 2
  have hh3 : w2.cell? ⟨W.heap.size, 3, none⟩ = some (.int .i64 0) := blk_cell HY2.out 3
  have hg3 : w2.frozen? ⟨W.heap.size, 3, none⟩ = false := blk_frozen HY2.out 3
  have hh4 : w2.cell? ⟨W.heap.size, 4, none⟩ = some (.int .u32 0) := blk_cell HY2.out 4
  have hg4 : w2.frozen? ⟨W.heap.size, 4, none⟩ = false := blk_frozen HY2.out 4
  have hh5 : w2.cell? ⟨W.heap.size, 5, none⟩ = some (.int .u32 0) := blk_cell HY2.out 5
  have hg5 : w2.frozen? ⟨W.heap.size, 5, none⟩ = false := blk_frozen HY2.out 5
  go_wp2
  have hF := hit6 hG2.out HY2.out (by omega) (by omega) (by omega) (.bool (Sg.on ⟨ac, op, bb, pe, co0, er0, nr0, ar0, (l.take m)⟩).2.di) (.bool (Sg.on ⟨ac, op, bb, pe, co0, er0, nr0, ar0, (l.take m)⟩).2.ru) (.int .i64 (Sg.on ⟨ac, op, bb, pe, co0, er0, nr0, ar0, (l.take m)⟩).2.co) (.int .i64 (Sg.on ⟨ac, op, bb, pe, co0, er0, nr0, ar0, (l.take m)⟩).2.er) (.int .u32 (Sg.on ⟨ac, op, bb, pe, co0, er0, nr0, ar0, (l.take m)⟩).2.nr) (.int .u32 (Sg.on ⟨ac, op, bb, pe, co0, er0, nr0, ar0, (l.take m)⟩).2.ar)
  refine bodyPost_ret (results_ct rfl _ _ (W.heap.size) 33 #[.bool (Sg.on ⟨ac, op, bb, pe, co0, er0, nr0, ar0, (l.take m)⟩).2.di, .bool (Sg.on ⟨ac, op, bb, pe, co0, er0, nr0, ar0, (l.take m)⟩).2.ru, .int .i64 (Sg.on ⟨ac, op, bb, pe, co0, er0, nr0, ar0, (l.take m)⟩).2.co, .int .i64 (Sg.on ⟨ac, op, bb, pe, co0, er0, nr0, ar0, (l.take m)⟩).2.er, .int .u32 (Sg.on ⟨ac, op, bb, pe, co0, er0, nr0, ar0, (l.take m)⟩).2.nr, .int .u32 (Sg.on ⟨ac, op, bb, pe, co0, er0, nr0, ar0, (l.take m)⟩).2.ar] (0, 0) _ rfl hF.2 Try.underlying33 rfl (by kernel_rfl)) rfl ?_
  exact ⟨rfl, hF.1⟩
end Go.Proofs.Ytbpgpbbpeppjmaa.SG
