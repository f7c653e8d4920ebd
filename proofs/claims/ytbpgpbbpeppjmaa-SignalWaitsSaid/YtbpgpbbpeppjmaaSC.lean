import Derived.Test.YtbpgpbbpeppjmaaSB
namespace Go.Proofs.Ytbpgpbbpeppjmaa.SG
open Go.RowKit Go.Proofs.YtbpgpbbpeppjmaaW.PrintWords Go.Proofs.YtbpgpbbpeppjmaaW.PrintLast Go.Proofs.YtbpgpbbpeppjmaaW.PrintMore
set_option linter.unusedVariables false
set_option linter.unusedSimpArgs false
def Sg.blockD (s : Sg) (b : Bool) : Sg × Ht × Int := ((Sg.on ⟨s.ac, s.op, b, s.pe, s.co, s.er, s.nr, s.ar, s.l⟩).1, (Sg.on ⟨s.ac, s.op, b, s.pe, s.co, s.er, s.nr, s.ar, s.l⟩).2, 0)
set_option maxHeartbeats 1000000 in
set_option maxRecDepth 100000 in
theorem block1_w (n X : Nat) (C : Nat) (b : Bool) (s : Sg) (v : Value) (W : World) (hX : n ≤ X) (hC : W.heap[C]? = some (.cells #[.bool b] 4 (0, 0))) (hP : Has n X s v W) :
    Calls Try.prog 17 #[.pointer (some ⟨X, 0, none⟩), .pointer (some ⟨C, 0, none⟩)] W fun e w' => e = .returned (.tuple #[.agg #[.bool (s.blockD b).2.1.di, .bool (s.blockD b).2.1.ru, .int .i64 (s.blockD b).2.1.co, .int .i64 (s.blockD b).2.1.er, .int .u32 (s.blockD b).2.1.nr, .int .u32 (s.blockD b).2.1.ar], .int .i64 (s.blockD b).2.2]) ∧ Gets n X v W (s.blockD b).1 w' := by
  obtain ⟨ac, op, bl, pe, co0, er0, nr0, ar0, l⟩ := s
  obtain ⟨hb, hR⟩ := hP
  dsimp only at hb hR
  have hbs := Aside0.mk hb
  have hRs := Aside0.mk hR
  have hXl := blk_lt hb
  have hc0 := blk_cell hb 0
  have hf0 := blk_frozen hb 0
  have hc1 := blk_cell hb 1
  have hf1 := blk_frozen hb 1
  have hc2 := blk_cell hb 2
  have hf2 := blk_frozen hb 2
  have hc3 := blk_cell hb 3
  have hf3 := blk_frozen hb 3
  have hc4 := blk_cell hb 4
  have hf4 := blk_frozen hb 4
  have hc5 := blk_cell hb 5
  have hf5 := blk_frozen hb 5
  have hc6 := blk_cell hb 6
  have hf6 := blk_frozen hb 6
  have hc7 := blk_cell hb 7
  have hf7 := blk_frozen hb 7
  have hc8 := blk_cell hb 8
  have hf8 := blk_frozen hb 8
  simp only [List.getElem?_toArray, List.getElem?_cons_zero, List.getElem?_cons_succ] at hc0 hc1 hc2 hc3 hc4 hc5 hc6 hc7 hc8
  clear hb hR
  have hn : n ≤ W.heap.size := by omega
  have hk0 : W.cell? ⟨C, 0, none⟩ = some (.bool b) := blk_cell hC 0
  have hCs := Aside0.mk hC
  have hCl := blk_lt hC
  clear hC
  go_enter Try.func17, Try.ntmps17
  go_wp2_with fail
  clear hc0 hf0 hc1 hf1 hc2 hf2 hc3 hf3 hc4 hf4 hc5 hf5 hc6 hf6 hc7 hf7 hc8 hf8
  clear hk0
  refine (on_w n X ⟨ac, op, b, pe, co0, er0, nr0, ar0, l⟩ v _ hX ?hP_).mono ?_
  case hP_ => (exact ⟨by ((repeat (with_reducible first | exact hbs.out | exact heap_new_at _ _ _ (by simp) | refine blk_drewN ?_ _ | refine blk_drew ?_ | refine (Below.heap_setCell _ _ _ _ (by dsimp only; omega)).trans ?_ | apply blk_put | refine blk_alloc ?_ _)); all_goals rfl), by (repeat (with_reducible first | exact hRs.out | refine Kd.R_far ?_ (fun k hk => hk) _ | refine Kd.R_drewN ?_ _ | refine Kd.R_drew ?_ | refine Kd.R_alloc ?_ _))⟩)
  rintro e w2 ⟨rfl, hG⟩
  have HY2 : Aside0 (w2.heap[W.heap.size]? = some (.cells #[.bool false, .bool false, .int .i64 0, .int .i64 0, .int .u32 0, .int .u32 0] 33 (0, 0))) := ⟨by refine Gets.blk (s := ⟨ac, op, b, pe, co0, er0, nr0, ar0, l⟩) hG (by (exact ⟨by ((repeat (with_reducible first | exact hbs.out | exact heap_new_at _ _ _ (by simp) | refine blk_drewN ?_ _ | refine blk_drew ?_ | refine (Below.heap_setCell _ _ _ _ (by dsimp only; omega)).trans ?_ | apply blk_put | refine blk_alloc ?_ _)); all_goals rfl), by (repeat (with_reducible first | exact hRs.out | refine Kd.R_far ?_ (fun k hk => hk) _ | refine Kd.R_drewN ?_ _ | refine Kd.R_drew ?_ | refine Kd.R_alloc ?_ _))⟩)) (by ((repeat (with_reducible first | fail | exact heap_new_at _ _ _ (by simp) | refine blk_drewN ?_ _ | refine blk_drew ?_ | refine (Below.heap_setCell _ _ _ _ (by dsimp only; omega)).trans ?_ | apply blk_put | refine blk_alloc ?_ _)); all_goals rfl)) (by decide) (by omega)⟩
  have hG2 : Aside0 (Gets n X v W (Sg.on ⟨ac, op, b, pe, co0, er0, nr0, ar0, l⟩).1 w2) := ⟨by refine Gets.trans (by (repeat (with_reducible first | exact St.rfl' _ _ _ | refine St.set ?_ (by omega) (by first | exact Or.inl rfl | exact Or.inl (Or.inl rfl) | exact Or.inl (Or.inr rfl) | (right; omega)) _ _ | refine St.drewN ?_ _ | refine St.drew ?_ | refine St.alloc ?_ (by omega) _))) (New.rfl' _ _) hG⟩
  clear hG
  have hh0 : w2.cell? ⟨W.heap.size, 0, none⟩ = some (.bool false) := blk_cell HY2.out 0
  have hg0 : w2.frozen? ⟨W.heap.size, 0, none⟩ = false := blk_frozen HY2.out 0
  have hh1 : w2.cell? ⟨W.heap.size, 1, none⟩ = some (.bool false) := blk_cell HY2.out 1
  have hg1 : w2.frozen? ⟨W.heap.size, 1, none⟩ = false := blk_frozen HY2.out 1
  have hh2 : w2.cell? ⟨W.heap.size, 2, none⟩ = some (.int .i64 0) := blk_cell HY2.out 2
  have hg2 : w2.frozen? ⟨W.heap.size, 2, none⟩ = false := blk_frozen HY2.out 2
  have hh3 : w2.cell? ⟨W.heap.size, 3, none⟩ = some (.int .i64 0) := blk_cell HY2.out 3
  have hg3 : w2.frozen? ⟨W.heap.size, 3, none⟩ = false := blk_frozen HY2.out 3
  have hh4 : w2.cell? ⟨W.heap.size, 4, none⟩ = some (.int .u32 0) := blk_cell HY2.out 4
  have hg4 : w2.frozen? ⟨W.heap.size, 4, none⟩ = false := blk_frozen HY2.out 4
  have hh5 : w2.cell? ⟨W.heap.size, 5, none⟩ = some (.int .u32 0) := blk_cell HY2.out 5
  have hg5 : w2.frozen? ⟨W.heap.size, 5, none⟩ = false := blk_frozen HY2.out 5
  go_wp2
  have hF := hit6 hG2.out HY2.out (by omega) (by omega) (by omega) (.bool (Sg.on ⟨ac, op, b, pe, co0, er0, nr0, ar0, l⟩).2.di) (.bool (Sg.on ⟨ac, op, b, pe, co0, er0, nr0, ar0, l⟩).2.ru) (.int .i64 (Sg.on ⟨ac, op, b, pe, co0, er0, nr0, ar0, l⟩).2.co) (.int .i64 (Sg.on ⟨ac, op, b, pe, co0, er0, nr0, ar0, l⟩).2.er) (.int .u32 (Sg.on ⟨ac, op, b, pe, co0, er0, nr0, ar0, l⟩).2.nr) (.int .u32 (Sg.on ⟨ac, op, b, pe, co0, er0, nr0, ar0, l⟩).2.ar)
  refine bodyPost_ret (results_ct rfl _ _ (W.heap.size) 33 #[.bool (Sg.on ⟨ac, op, b, pe, co0, er0, nr0, ar0, l⟩).2.di, .bool (Sg.on ⟨ac, op, b, pe, co0, er0, nr0, ar0, l⟩).2.ru, .int .i64 (Sg.on ⟨ac, op, b, pe, co0, er0, nr0, ar0, l⟩).2.co, .int .i64 (Sg.on ⟨ac, op, b, pe, co0, er0, nr0, ar0, l⟩).2.er, .int .u32 (Sg.on ⟨ac, op, b, pe, co0, er0, nr0, ar0, l⟩).2.nr, .int .u32 (Sg.on ⟨ac, op, b, pe, co0, er0, nr0, ar0, l⟩).2.ar] (0, 0) _ rfl hF.2 Try.underlying33 rfl (by kernel_rfl)) rfl ?_
  exact ⟨rfl, hF.1⟩
def Sg.forkD (s : Sg) : Sg × Ht × Int := (s.drop, nohit, 0)
set_option maxHeartbeats 1000000 in
set_option maxRecDepth 100000 in
theorem fork1_w (n X : Nat)  (s : Sg) (v : Value) (W : World) (hX : n ≤ X)  (hP : Has n X s v W) :
    Calls Try.prog 29 #[.pointer (some ⟨X, 0, none⟩)] W fun e w' => e = .returned (.tuple #[.agg #[.bool s.forkD.2.1.di, .bool s.forkD.2.1.ru, .int .i64 s.forkD.2.1.co, .int .i64 s.forkD.2.1.er, .int .u32 s.forkD.2.1.nr, .int .u32 s.forkD.2.1.ar], .int .i64 s.forkD.2.2]) ∧ Gets n X v W s.forkD.1 w' := by
  obtain ⟨ac, op, bl, pe, co0, er0, nr0, ar0, l⟩ := s
  obtain ⟨hb, hR⟩ := hP
  dsimp only at hb hR
  have hbs := Aside0.mk hb
  have hRs := Aside0.mk hR
  have hXl := blk_lt hb
  have hc0 := blk_cell hb 0
  have hf0 := blk_frozen hb 0
  have hc1 := blk_cell hb 1
  have hf1 := blk_frozen hb 1
  have hc2 := blk_cell hb 2
  have hf2 := blk_frozen hb 2
  have hc3 := blk_cell hb 3
  have hf3 := blk_frozen hb 3
  have hc4 := blk_cell hb 4
  have hf4 := blk_frozen hb 4
  have hc5 := blk_cell hb 5
  have hf5 := blk_frozen hb 5
  have hc6 := blk_cell hb 6
  have hf6 := blk_frozen hb 6
  have hc7 := blk_cell hb 7
  have hf7 := blk_frozen hb 7
  have hc8 := blk_cell hb 8
  have hf8 := blk_frozen hb 8
  simp only [List.getElem?_toArray, List.getElem?_cons_zero, List.getElem?_cons_succ] at hc0 hc1 hc2 hc3 hc4 hc5 hc6 hc7 hc8
  clear hb hR
  have hn : n ≤ W.heap.size := by omega
  go_enter Try.func29, Try.ntmps29
  go_wp2_with fail
  clear hc0 hf0 hc1 hf1 hc2 hf2 hc3 hf3 hc4 hf4 hc5 hf5 hc6 hf6 hc7 hf7 hc8 hf8
  refine (drop_w n X ⟨ac, op, bl, pe, co0, er0, nr0, ar0, l⟩ v _ hX ?hP_).mono ?_
  case hP_ => (exact ⟨by ((repeat (with_reducible first | exact hbs.out | exact heap_new_at _ _ _ (by simp) | refine blk_drewN ?_ _ | refine blk_drew ?_ | refine (Below.heap_setCell _ _ _ _ (by dsimp only; omega)).trans ?_ | apply blk_put | refine blk_alloc ?_ _)); all_goals rfl), by (repeat (with_reducible first | exact hRs.out | refine Kd.R_far ?_ (fun k hk => hk) _ | refine Kd.R_drewN ?_ _ | refine Kd.R_drew ?_ | refine Kd.R_alloc ?_ _))⟩)
  rintro e w2 ⟨rfl, hG⟩
  have HY2 : Aside0 (w2.heap[W.heap.size]? = some (.cells #[.bool false, .bool false, .int .i64 0, .int .i64 0, .int .u32 0, .int .u32 0] 33 (0, 0))) := ⟨by refine Gets.blk (s := ⟨ac, op, bl, pe, co0, er0, nr0, ar0, l⟩) hG (by (exact ⟨by ((repeat (with_reducible first | exact hbs.out | exact heap_new_at _ _ _ (by simp) | refine blk_drewN ?_ _ | refine blk_drew ?_ | refine (Below.heap_setCell _ _ _ _ (by dsimp only; omega)).trans ?_ | apply blk_put | refine blk_alloc ?_ _)); all_goals rfl), by (repeat (with_reducible first | exact hRs.out | refine Kd.R_far ?_ (fun k hk => hk) _ | refine Kd.R_drewN ?_ _ | refine Kd.R_drew ?_ | refine Kd.R_alloc ?_ _))⟩)) (by ((repeat (with_reducible first | fail | exact heap_new_at _ _ _ (by simp) | refine blk_drewN ?_ _ | refine blk_drew ?_ | refine (Below.heap_setCell _ _ _ _ (by dsimp only; omega)).trans ?_ | apply blk_put | refine blk_alloc ?_ _)); all_goals rfl)) (by decide) (by omega)⟩
  have hG2 : Aside0 (Gets n X v W (Sg.drop ⟨ac, op, bl, pe, co0, er0, nr0, ar0, l⟩) w2) := ⟨by refine Gets.trans (by (repeat (with_reducible first | exact St.rfl' _ _ _ | refine St.set ?_ (by omega) (by first | exact Or.inl rfl | exact Or.inl (Or.inl rfl) | exact Or.inl (Or.inr rfl) | (right; omega)) _ _ | refine St.drewN ?_ _ | refine St.drew ?_ | refine St.alloc ?_ (by omega) _))) (New.rfl' _ _) hG⟩
  clear hG
  have hh0 : w2.cell? ⟨W.heap.size, 0, none⟩ = some (.bool false) := blk_cell HY2.out 0
  have hg0 : w2.frozen? ⟨W.heap.size, 0, none⟩ = false := blk_frozen HY2.out 0
  have hh1 : w2.cell? ⟨W.heap.size, 1, none⟩ = some (.bool false) := blk_cell HY2.out 1
  have hg1 : w2.frozen? ⟨W.heap.size, 1, none⟩ = false := blk_frozen HY2.out 1
  have hh2 : w2.cell? ⟨W.heap.size, 2, none⟩ = some (.int .i64 0) := blk_cell HY2.out 2
  have hg2 : w2.frozen? ⟨W.heap.size, 2, none⟩ = false := blk_frozen HY2.out 2
  have hh3 : w2.cell? ⟨W.heap.size, 3, none⟩ = some (.int .i64 0) := blk_cell HY2.out 3
  have hg3 : w2.frozen? ⟨W.heap.size, 3, none⟩ = false := blk_frozen HY2.out 3
  have hh4 : w2.cell? ⟨W.heap.size, 4, none⟩ = some (.int .u32 0) := blk_cell HY2.out 4
  have hg4 : w2.frozen? ⟨W.heap.size, 4, none⟩ = false := blk_frozen HY2.out 4
  have hh5 : w2.cell? ⟨W.heap.size, 5, none⟩ = some (.int .u32 0) := blk_cell HY2.out 5
  have hg5 : w2.frozen? ⟨W.heap.size, 5, none⟩ = false := blk_frozen HY2.out 5
  go_wp2
  have hF := hit6 hG2.out HY2.out (by omega) (by omega) (by omega) (.bool false) (.bool false) (.int .i64 0) (.int .i64 0) (.int .u32 0) (.int .u32 0)
  refine bodyPost_ret (results_ct rfl _ _ (W.heap.size) 33 #[.bool false, .bool false, .int .i64 0, .int .i64 0, .int .u32 0, .int .u32 0] (0, 0) _ rfl hF.2 Try.underlying33 rfl (by kernel_rfl)) rfl ?_
  exact ⟨rfl, hF.1⟩
def Sg.execD (s : Sg) : Sg × Ht × Int := (⟨if s.ac = 2 then 0 else s.ac, false, s.bl, s.pe, s.co, s.er, s.nr, s.ar, []⟩, nohit, 0)
set_option maxHeartbeats 1000000 in
set_option maxRecDepth 100000 in
theorem exec1_w (n X : Nat)  (s : Sg) (v : Value) (W : World) (hX : n ≤ X)  (hP : Has n X s v W) :
    Calls Try.prog 30 #[.pointer (some ⟨X, 0, none⟩)] W fun e w' => e = .returned (.tuple #[.agg #[.bool s.execD.2.1.di, .bool s.execD.2.1.ru, .int .i64 s.execD.2.1.co, .int .i64 s.execD.2.1.er, .int .u32 s.execD.2.1.nr, .int .u32 s.execD.2.1.ar], .int .i64 s.execD.2.2]) ∧ Gets n X v W s.execD.1 w' := by
  obtain ⟨ac, op, bl, pe, co0, er0, nr0, ar0, l⟩ := s
  obtain ⟨hb, hR⟩ := hP
  dsimp only at hb hR
  have hbs := Aside0.mk hb
  have hRs := Aside0.mk hR
  have hXl := blk_lt hb
  have hc0 := blk_cell hb 0
  have hf0 := blk_frozen hb 0
  have hc1 := blk_cell hb 1
  have hf1 := blk_frozen hb 1
  have hc2 := blk_cell hb 2
  have hf2 := blk_frozen hb 2
  have hc3 := blk_cell hb 3
  have hf3 := blk_frozen hb 3
  have hc4 := blk_cell hb 4
  have hf4 := blk_frozen hb 4
  have hc5 := blk_cell hb 5
  have hf5 := blk_frozen hb 5
  have hc6 := blk_cell hb 6
  have hf6 := blk_frozen hb 6
  have hc7 := blk_cell hb 7
  have hf7 := blk_frozen hb 7
  have hc8 := blk_cell hb 8
  have hf8 := blk_frozen hb 8
  simp only [List.getElem?_toArray, List.getElem?_cons_zero, List.getElem?_cons_succ] at hc0 hc1 hc2 hc3 hc4 hc5 hc6 hc7 hc8
  clear hb hR
  have hn : n ≤ W.heap.size := by omega
  by_cases h2 : ac = 2
  · subst h2
    rw [show Sg.execD ⟨2, op, bl, pe, co0, er0, nr0, ar0, l⟩ = (⟨0, false, bl, pe, co0, er0, nr0, ar0, []⟩, nohit, 0) from rfl]
    dsimp only [nohit]
    go_enter Try.func30, Try.ntmps30
    go_wp2
    refine bodyPost_ret (results_ct rfl _ _ (W.heap.size) 33 #[.bool false, .bool false, .int .i64 0, .int .i64 0, .int .u32 0, .int .u32 0] (0, 0) _ rfl ?hr_ Try.underlying33 rfl (by kernel_rfl)) rfl ?_
    case hr_ => ((repeat (first | (with_reducible exact heap_new_at _ _ _ (by simp)) | (with_reducible refine blk_drewN ?_ _) | (with_reducible refine blk_drew ?_) | (with_reducible refine (Below.heap_setCell _ _ _ _ (by dsimp only; omega)).trans ?_) | (with_reducible apply blk_put) | (with_reducible refine blk_alloc ?_ _))); all_goals rfl)
    refine ⟨rfl, Gets.mk' (.slice none 0 0) ?_ ?_ ?_ ?_⟩
    · (repeat (with_reducible first | exact hbs.out | refine blk_alloc ?_ _ | refine blk_drewN ?_ _ | refine blk_drew ?_ | refine (Below.heap_setCell _ _ _ _ (by dsimp only; omega)).trans ?_ | apply blk_put))
      all_goals rfl
    · refine St.R (W := W) ?_ (Kd.R_mono (Kd.R_nil _ _ _ _ (fun b => b ≠ X)) (fun _ h => h)) (fun k hk => hk) (fun k hk => hk)
      (repeat (with_reducible first | exact St.rfl' _ _ _ | refine St.set ?_ (by omega) (by first | exact Or.inl rfl | exact Or.inl (Or.inl rfl) | exact Or.inl (Or.inr rfl) | (right; omega)) _ _ | refine St.drewN ?_ _ | refine St.drew ?_ | refine St.alloc ?_ (by omega) _))
    · refine St.mono (S := fun k => k = X) ?_ (fun k hk => Or.inl hk); (repeat (with_reducible first | exact St.rfl' _ _ _ | refine St.set ?_ (by omega) (by first | exact Or.inl rfl | exact Or.inl (Or.inl rfl) | exact Or.inl (Or.inr rfl) | (right; omega)) _ _ | refine St.drewN ?_ _ | refine St.drew ?_ | refine St.alloc ?_ (by omega) _))
    · exact fun k hk => by simp [Value.ownBlock] at hk
  · have h2' : (ac == 2) = false := by simpa using h2
    rw [show Sg.execD ⟨ac, op, bl, pe, co0, er0, nr0, ar0, l⟩ = (⟨ac, false, bl, pe, co0, er0, nr0, ar0, []⟩, nohit, 0) from by simp [Sg.execD, h2]]
    dsimp only [nohit]
    go_enter Try.func30, Try.ntmps30
    go_wp2
    refine bodyPost_ret (results_ct rfl _ _ (W.heap.size) 33 #[.bool false, .bool false, .int .i64 0, .int .i64 0, .int .u32 0, .int .u32 0] (0, 0) _ rfl ?hr_ Try.underlying33 rfl (by kernel_rfl)) rfl ?_
    case hr_ => ((repeat (first | (with_reducible exact heap_new_at _ _ _ (by simp)) | (with_reducible refine blk_drewN ?_ _) | (with_reducible refine blk_drew ?_) | (with_reducible refine (Below.heap_setCell _ _ _ _ (by dsimp only; omega)).trans ?_) | (with_reducible apply blk_put) | (with_reducible refine blk_alloc ?_ _))); all_goals rfl)
    refine ⟨rfl, Gets.mk' (.slice none 0 0) ?_ ?_ ?_ ?_⟩
    · (repeat (with_reducible first | exact hbs.out | refine blk_alloc ?_ _ | refine blk_drewN ?_ _ | refine blk_drew ?_ | refine (Below.heap_setCell _ _ _ _ (by dsimp only; omega)).trans ?_ | apply blk_put))
      all_goals rfl
    · refine St.R (W := W) ?_ (Kd.R_mono (Kd.R_nil _ _ _ _ (fun b => b ≠ X)) (fun _ h => h)) (fun k hk => hk) (fun k hk => hk)
      (repeat (with_reducible first | exact St.rfl' _ _ _ | refine St.set ?_ (by omega) (by first | exact Or.inl rfl | exact Or.inl (Or.inl rfl) | exact Or.inl (Or.inr rfl) | (right; omega)) _ _ | refine St.drewN ?_ _ | refine St.drew ?_ | refine St.alloc ?_ (by omega) _))
    · refine St.mono (S := fun k => k = X) ?_ (fun k hk => Or.inl hk); (repeat (with_reducible first | exact St.rfl' _ _ _ | refine St.set ?_ (by omega) (by first | exact Or.inl rfl | exact Or.inl (Or.inl rfl) | exact Or.inl (Or.inr rfl) | (right; omega)) _ _ | refine St.drewN ?_ _ | refine St.drew ?_ | refine St.alloc ?_ (by omega) _))
    · exact fun k hk => by simp [Value.ownBlock] at hk
def Sg.forceD (s : Sg) (co er nr ar : Int) : Sg × Ht × Int := if s.bl = true ∨ s.ac = 1 then ((Sg.deliver (Sg.drop ⟨0, false, false, s.pe, s.co, s.er, s.nr, s.ar, s.l⟩) co er nr ar).1, (Sg.deliver (Sg.drop ⟨0, false, false, s.pe, s.co, s.er, s.nr, s.ar, s.l⟩) co er nr ar).2, 0) else ((s.deliver co er nr ar).1, (s.deliver co er nr ar).2, 0)
set_option maxHeartbeats 1000000 in
set_option maxRecDepth 100000 in
theorem force1_w (n X : Nat) (C : Nat) (co er nr ar : Int) (s : Sg) (v : Value) (W : World) (hX : n ≤ X) (hC : W.heap[C]? = some (.cells #[.int .i64 co, .int .i64 er, .int .u32 nr, .int .u32 ar] 24 (0, 0))) (hCX : C ≠ X) (hP : Has n X s v W) :
    Calls Try.prog 24 #[.pointer (some ⟨X, 0, none⟩), .pointer (some ⟨C, 0, none⟩)] W fun e w' => e = .returned (.tuple #[.agg #[.bool (s.forceD co er nr ar).2.1.di, .bool (s.forceD co er nr ar).2.1.ru, .int .i64 (s.forceD co er nr ar).2.1.co, .int .i64 (s.forceD co er nr ar).2.1.er, .int .u32 (s.forceD co er nr ar).2.1.nr, .int .u32 (s.forceD co er nr ar).2.1.ar], .int .i64 (s.forceD co er nr ar).2.2]) ∧ Gets n X v W (s.forceD co er nr ar).1 w' := by
  obtain ⟨ac, op, bl, pe, co0, er0, nr0, ar0, l⟩ := s
  obtain ⟨hb, hR⟩ := hP
  dsimp only at hb hR
  have hbs := Aside0.mk hb
  have hRs := Aside0.mk hR
  have hXl := blk_lt hb
  have hc0 := blk_cell hb 0
  have hf0 := blk_frozen hb 0
  have hc1 := blk_cell hb 1
  have hf1 := blk_frozen hb 1
  have hc2 := blk_cell hb 2
  have hf2 := blk_frozen hb 2
  have hc3 := blk_cell hb 3
  have hf3 := blk_frozen hb 3
  have hc4 := blk_cell hb 4
  have hf4 := blk_frozen hb 4
  have hc5 := blk_cell hb 5
  have hf5 := blk_frozen hb 5
  have hc6 := blk_cell hb 6
  have hf6 := blk_frozen hb 6
  have hc7 := blk_cell hb 7
  have hf7 := blk_frozen hb 7
  have hc8 := blk_cell hb 8
  have hf8 := blk_frozen hb 8
  simp only [List.getElem?_toArray, List.getElem?_cons_zero, List.getElem?_cons_succ] at hc0 hc1 hc2 hc3 hc4 hc5 hc6 hc7 hc8
  clear hb hR
  have hn : n ≤ W.heap.size := by omega
  have hCs := Aside0.mk hC
  have hCl := blk_lt hC
  clear hC
  by_cases h0 : bl = true
  · subst h0
    rw [show Sg.forceD ⟨ac, op, true, pe, co0, er0, nr0, ar0, l⟩ co er nr ar = ((Sg.deliver (Sg.drop ⟨0, false, false, pe, co0, er0, nr0, ar0, l⟩) co er nr ar).1, (Sg.deliver (Sg.drop ⟨0, false, false, pe, co0, er0, nr0, ar0, l⟩) co er nr ar).2, 0) from by simp [Sg.forceD]]
    dsimp only [nohit]
    go_enter Try.func24, Try.ntmps24
    go_wp2_with fail
    clear hc0 hf0 hc1 hf1 hc2 hf2 hc3 hf3 hc4 hf4 hc5 hf5 hc6 hf6 hc7 hf7 hc8 hf8
    refine (drop_w n X ⟨0, false, false, pe, co0, er0, nr0, ar0, l⟩ v _ hX ?hP_).mono ?_
    case hP_ => (exact ⟨by ((repeat (with_reducible first | exact hbs.out | exact heap_new_at _ _ _ (by simp) | refine blk_drewN ?_ _ | refine blk_drew ?_ | refine (Below.heap_setCell _ _ _ _ (by dsimp only; omega)).trans ?_ | apply blk_put | refine blk_alloc ?_ _)); all_goals rfl), by (repeat (with_reducible first | exact hRs.out | refine Kd.R_far ?_ (fun k hk => hk) _ | refine Kd.R_drewN ?_ _ | refine Kd.R_drew ?_ | refine Kd.R_alloc ?_ _))⟩)
    rintro e w1 ⟨rfl, hG⟩
    have HY1 : Aside0 (w1.heap[W.heap.size]? = some (.cells #[.bool false, .bool false, .int .i64 0, .int .i64 0, .int .u32 0, .int .u32 0] 33 (0, 0))) := ⟨by refine Gets.blk (s := ⟨0, false, false, pe, co0, er0, nr0, ar0, l⟩) hG (by (exact ⟨by ((repeat (with_reducible first | exact hbs.out | exact heap_new_at _ _ _ (by simp) | refine blk_drewN ?_ _ | refine blk_drew ?_ | refine (Below.heap_setCell _ _ _ _ (by dsimp only; omega)).trans ?_ | apply blk_put | refine blk_alloc ?_ _)); all_goals rfl), by (repeat (with_reducible first | exact hRs.out | refine Kd.R_far ?_ (fun k hk => hk) _ | refine Kd.R_drewN ?_ _ | refine Kd.R_drew ?_ | refine Kd.R_alloc ?_ _))⟩)) (by ((repeat (with_reducible first | fail | exact heap_new_at _ _ _ (by simp) | refine blk_drewN ?_ _ | refine blk_drew ?_ | refine (Below.heap_setCell _ _ _ _ (by dsimp only; omega)).trans ?_ | apply blk_put | refine blk_alloc ?_ _)); all_goals rfl)) (by decide) (by omega)⟩
    have HC1 : Aside0 (w1.heap[C]? = some (.cells #[.int .i64 co, .int .i64 er, .int .u32 nr, .int .u32 ar] 24 (0, 0))) := ⟨by refine Gets.blk (s := ⟨0, false, false, pe, co0, er0, nr0, ar0, l⟩) hG (by (exact ⟨by ((repeat (with_reducible first | exact hbs.out | exact heap_new_at _ _ _ (by simp) | refine blk_drewN ?_ _ | refine blk_drew ?_ | refine (Below.heap_setCell _ _ _ _ (by dsimp only; omega)).trans ?_ | apply blk_put | refine blk_alloc ?_ _)); all_goals rfl), by (repeat (with_reducible first | exact hRs.out | refine Kd.R_far ?_ (fun k hk => hk) _ | refine Kd.R_drewN ?_ _ | refine Kd.R_drew ?_ | refine Kd.R_alloc ?_ _))⟩)) (by ((repeat (with_reducible first | exact hCs.out | exact heap_new_at _ _ _ (by simp) | refine blk_drewN ?_ _ | refine blk_drew ?_ | refine (Below.heap_setCell _ _ _ _ (by dsimp only; omega)).trans ?_ | apply blk_put | refine blk_alloc ?_ _)); all_goals rfl)) (by decide) (by omega)⟩
    have hG2 : Aside0 (Gets n X v W (Sg.drop ⟨0, false, false, pe, co0, er0, nr0, ar0, l⟩) w1) := ⟨by refine Gets.trans (by (repeat (with_reducible first | exact St.rfl' _ _ _ | refine St.set ?_ (by omega) (by first | exact Or.inl rfl | exact Or.inl (Or.inl rfl) | exact Or.inl (Or.inr rfl) | (right; omega)) _ _ | refine St.drewN ?_ _ | refine St.drew ?_ | refine St.alloc ?_ (by omega) _))) (New.rfl' _ _) hG⟩
    clear hG
    obtain ⟨v1, ⟨hb1, hR1⟩, hS1, hN1⟩ := hG2.out
    have HB1 := Aside0.mk hb1
    have HR1 := Aside0.mk hR1
    have HS1 := Aside0.mk hS1
    have HN1 := Aside0.mk hN1
    clear hb1 hR1 hS1 hN1 hG2
    have hk0 : w1.cell? ⟨C, 0, none⟩ = some (.int .i64 co) := blk_cell HC1.out 0
    have hk1 : w1.cell? ⟨C, 1, none⟩ = some (.int .i64 er) := blk_cell HC1.out 1
    have hk2 : w1.cell? ⟨C, 2, none⟩ = some (.int .u32 nr) := blk_cell HC1.out 2
    have hk3 : w1.cell? ⟨C, 3, none⟩ = some (.int .u32 ar) := blk_cell HC1.out 3
    go_wp2_with fail
    clear hk0 hk1 hk2 hk3
    refine (deliver_w n X (Sg.drop ⟨0, false, false, pe, co0, er0, nr0, ar0, l⟩) co er nr ar v1 _ hX ?hP_).mono ?_
    case hP_ => (exact ⟨by ((repeat (with_reducible first | exact HB1.out | exact heap_new_at _ _ _ (by simp) | refine blk_drewN ?_ _ | refine blk_drew ?_ | refine (Below.heap_setCell _ _ _ _ (by dsimp only; omega)).trans ?_ | apply blk_put | refine blk_alloc ?_ _)); all_goals rfl), by (repeat (with_reducible first | exact HR1.out | refine Kd.R_far ?_ (fun k hk => hk) _ | refine Kd.R_drewN ?_ _ | refine Kd.R_drew ?_ | refine Kd.R_alloc ?_ _))⟩)
    rintro e w2 ⟨rfl, hG⟩
    have HY2 : Aside0 (w2.heap[W.heap.size]? = some (.cells #[.bool false, .bool false, .int .i64 0, .int .i64 0, .int .u32 0, .int .u32 0] 33 (0, 0))) := ⟨by refine Gets.blk (s := (Sg.drop ⟨0, false, false, pe, co0, er0, nr0, ar0, l⟩)) hG (by (exact ⟨by ((repeat (with_reducible first | exact HB1.out | exact heap_new_at _ _ _ (by simp) | refine blk_drewN ?_ _ | refine blk_drew ?_ | refine (Below.heap_setCell _ _ _ _ (by dsimp only; omega)).trans ?_ | apply blk_put | refine blk_alloc ?_ _)); all_goals rfl), by (repeat (with_reducible first | exact HR1.out | refine Kd.R_far ?_ (fun k hk => hk) _ | refine Kd.R_drewN ?_ _ | refine Kd.R_drew ?_ | refine Kd.R_alloc ?_ _))⟩)) (by ((repeat (with_reducible first | exact HY1.out | exact heap_new_at _ _ _ (by simp) | refine blk_drewN ?_ _ | refine blk_drew ?_ | refine (Below.heap_setCell _ _ _ _ (by dsimp only; omega)).trans ?_ | apply blk_put | refine blk_alloc ?_ _)); all_goals rfl)) (by decide) (by omega)⟩
    have hG2 : Aside0 (Gets n X v W (Sg.deliver (Sg.drop ⟨0, false, false, pe, co0, er0, nr0, ar0, l⟩) co er nr ar).1 w2) := ⟨by refine Gets.trans (by (repeat (with_reducible first | exact HS1.out | refine St.set ?_ (by omega) (by first | exact Or.inl rfl | exact Or.inl (Or.inl rfl) | exact Or.inl (Or.inr rfl) | (right; omega)) _ _ | refine St.drewN ?_ _ | refine St.drew ?_ | refine St.alloc ?_ (by omega) _))) HN1.out hG⟩
    clear hG
    have hh0 : w2.cell? ⟨W.heap.size, 0, none⟩ = some (.bool false) := blk_cell HY2.out 0
    have hg0 : w2.frozen? ⟨W.heap.size, 0, none⟩ = false := blk_frozen HY2.out 0
    have hh1 : w2.cell? ⟨W.heap.size, 1, none⟩ = some (.bool false) := blk_cell HY2.out 1
    have hg1 : w2.frozen? ⟨W.heap.size, 1, none⟩ = false := blk_frozen HY2.out 1
    have hh2 : w2.cell? ⟨W.heap.size, 2, none⟩ = some (.int .i64 0) := blk_cell HY2.out 2
    have hg2 : w2.frozen? ⟨W.heap.size, 2, none⟩ = false := blk_frozen HY2.out 2
    have hh3 : w2.cell? ⟨W.heap.size, 3, none⟩ = some (.int .i64 0) := blk_cell HY2.out 3
    have hg3 : w2.frozen? ⟨W.heap.size, 3, none⟩ = false := blk_frozen HY2.out 3
    have hh4 : w2.cell? ⟨W.heap.size, 4, none⟩ = some (.int .u32 0) := blk_cell HY2.out 4
    have hg4 : w2.frozen? ⟨W.heap.size, 4, none⟩ = false := blk_frozen HY2.out 4
    have hh5 : w2.cell? ⟨W.heap.size, 5, none⟩ = some (.int .u32 0) := blk_cell HY2.out 5
    have hg5 : w2.frozen? ⟨W.heap.size, 5, none⟩ = false := blk_frozen HY2.out 5
    go_wp2
    have hF := hit6 hG2.out HY2.out (by omega) (by omega) (by omega) (.bool (Sg.deliver (Sg.drop ⟨0, false, false, pe, co0, er0, nr0, ar0, l⟩) co er nr ar).2.di) (.bool (Sg.deliver (Sg.drop ⟨0, false, false, pe, co0, er0, nr0, ar0, l⟩) co er nr ar).2.ru) (.int .i64 (Sg.deliver (Sg.drop ⟨0, false, false, pe, co0, er0, nr0, ar0, l⟩) co er nr ar).2.co) (.int .i64 (Sg.deliver (Sg.drop ⟨0, false, false, pe, co0, er0, nr0, ar0, l⟩) co er nr ar).2.er) (.int .u32 (Sg.deliver (Sg.drop ⟨0, false, false, pe, co0, er0, nr0, ar0, l⟩) co er nr ar).2.nr) (.int .u32 (Sg.deliver (Sg.drop ⟨0, false, false, pe, co0, er0, nr0, ar0, l⟩) co er nr ar).2.ar)
    refine bodyPost_ret (results_ct rfl _ _ (W.heap.size) 33 #[.bool (Sg.deliver (Sg.drop ⟨0, false, false, pe, co0, er0, nr0, ar0, l⟩) co er nr ar).2.di, .bool (Sg.deliver (Sg.drop ⟨0, false, false, pe, co0, er0, nr0, ar0, l⟩) co er nr ar).2.ru, .int .i64 (Sg.deliver (Sg.drop ⟨0, false, false, pe, co0, er0, nr0, ar0, l⟩) co er nr ar).2.co, .int .i64 (Sg.deliver (Sg.drop ⟨0, false, false, pe, co0, er0, nr0, ar0, l⟩) co er nr ar).2.er, .int .u32 (Sg.deliver (Sg.drop ⟨0, false, false, pe, co0, er0, nr0, ar0, l⟩) co er nr ar).2.nr, .int .u32 (Sg.deliver (Sg.drop ⟨0, false, false, pe, co0, er0, nr0, ar0, l⟩) co er nr ar).2.ar] (0, 0) _ rfl hF.2 Try.underlying33 rfl (by kernel_rfl)) rfl ?_
    exact ⟨rfl, hF.1⟩
  obtain rfl : bl = false := by cases bl <;> simp_all
  by_cases h1 : ac = 1
  · subst h1
    rw [show Sg.forceD ⟨1, op, false, pe, co0, er0, nr0, ar0, l⟩ co er nr ar = ((Sg.deliver (Sg.drop ⟨0, false, false, pe, co0, er0, nr0, ar0, l⟩) co er nr ar).1, (Sg.deliver (Sg.drop ⟨0, false, false, pe, co0, er0, nr0, ar0, l⟩) co er nr ar).2, 0) from by simp [Sg.forceD]]
    dsimp only [nohit]
    go_enter Try.func24, Try.ntmps24
    go_wp2_with fail
    clear hc0 hf0 hc1 hf1 hc2 hf2 hc3 hf3 hc4 hf4 hc5 hf5 hc6 hf6 hc7 hf7 hc8 hf8
    refine (drop_w n X ⟨0, false, false, pe, co0, er0, nr0, ar0, l⟩ v _ hX ?hP_).mono ?_
    case hP_ => (exact ⟨by ((repeat (with_reducible first | exact hbs.out | exact heap_new_at _ _ _ (by simp) | refine blk_drewN ?_ _ | refine blk_drew ?_ | refine (Below.heap_setCell _ _ _ _ (by dsimp only; omega)).trans ?_ | apply blk_put | refine blk_alloc ?_ _)); all_goals rfl), by (repeat (with_reducible first | exact hRs.out | refine Kd.R_far ?_ (fun k hk => hk) _ | refine Kd.R_drewN ?_ _ | refine Kd.R_drew ?_ | refine Kd.R_alloc ?_ _))⟩)
    rintro e w1 ⟨rfl, hG⟩
    have HY1 : Aside0 (w1.heap[W.heap.size]? = some (.cells #[.bool false, .bool false, .int .i64 0, .int .i64 0, .int .u32 0, .int .u32 0] 33 (0, 0))) := ⟨by refine Gets.blk (s := ⟨0, false, false, pe, co0, er0, nr0, ar0, l⟩) hG (by (exact ⟨by ((repeat (with_reducible first | exact hbs.out | exact heap_new_at _ _ _ (by simp) | refine blk_drewN ?_ _ | refine blk_drew ?_ | refine (Below.heap_setCell _ _ _ _ (by dsimp only; omega)).trans ?_ | apply blk_put | refine blk_alloc ?_ _)); all_goals rfl), by (repeat (with_reducible first | exact hRs.out | refine Kd.R_far ?_ (fun k hk => hk) _ | refine Kd.R_drewN ?_ _ | refine Kd.R_drew ?_ | refine Kd.R_alloc ?_ _))⟩)) (by ((repeat (with_reducible first | fail | exact heap_new_at _ _ _ (by simp) | refine blk_drewN ?_ _ | refine blk_drew ?_ | refine (Below.heap_setCell _ _ _ _ (by dsimp only; omega)).trans ?_ | apply blk_put | refine blk_alloc ?_ _)); all_goals rfl)) (by decide) (by omega)⟩
    have HC1 : Aside0 (w1.heap[C]? = some (.cells #[.int .i64 co, .int .i64 er, .int .u32 nr, .int .u32 ar] 24 (0, 0))) := ⟨by refine Gets.blk (s := ⟨0, false, false, pe, co0, er0, nr0, ar0, l⟩) hG (by (exact ⟨by ((repeat (with_reducible first | exact hbs.out | exact heap_new_at _ _ _ (by simp) | refine blk_drewN ?_ _ | refine blk_drew ?_ | refine (Below.heap_setCell _ _ _ _ (by dsimp only; omega)).trans ?_ | apply blk_put | refine blk_alloc ?_ _)); all_goals rfl), by (repeat (with_reducible first | exact hRs.out | refine Kd.R_far ?_ (fun k hk => hk) _ | refine Kd.R_drewN ?_ _ | refine Kd.R_drew ?_ | refine Kd.R_alloc ?_ _))⟩)) (by ((repeat (with_reducible first | exact hCs.out | exact heap_new_at _ _ _ (by simp) | refine blk_drewN ?_ _ | refine blk_drew ?_ | refine (Below.heap_setCell _ _ _ _ (by dsimp only; omega)).trans ?_ | apply blk_put | refine blk_alloc ?_ _)); all_goals rfl)) (by decide) (by omega)⟩
    have hG2 : Aside0 (Gets n X v W (Sg.drop ⟨0, false, false, pe, co0, er0, nr0, ar0, l⟩) w1) := ⟨by refine Gets.trans (by (repeat (with_reducible first | exact St.rfl' _ _ _ | refine St.set ?_ (by omega) (by first | exact Or.inl rfl | exact Or.inl (Or.inl rfl) | exact Or.inl (Or.inr rfl) | (right; omega)) _ _ | refine St.drewN ?_ _ | refine St.drew ?_ | refine St.alloc ?_ (by omega) _))) (New.rfl' _ _) hG⟩
    clear hG
    obtain ⟨v1, ⟨hb1, hR1⟩, hS1, hN1⟩ := hG2.out
    have HB1 := Aside0.mk hb1
    have HR1 := Aside0.mk hR1
    have HS1 := Aside0.mk hS1
    have HN1 := Aside0.mk hN1
    clear hb1 hR1 hS1 hN1 hG2
    have hk0 : w1.cell? ⟨C, 0, none⟩ = some (.int .i64 co) := blk_cell HC1.out 0
    have hk1 : w1.cell? ⟨C, 1, none⟩ = some (.int .i64 er) := blk_cell HC1.out 1
    have hk2 : w1.cell? ⟨C, 2, none⟩ = some (.int .u32 nr) := blk_cell HC1.out 2
    have hk3 : w1.cell? ⟨C, 3, none⟩ = some (.int .u32 ar) := blk_cell HC1.out 3
    go_wp2_with fail
    clear hk0 hk1 hk2 hk3
    refine (deliver_w n X (Sg.drop ⟨0, false, false, pe, co0, er0, nr0, ar0, l⟩) co er nr ar v1 _ hX ?hP_).mono ?_
    case hP_ => (exact ⟨by ((repeat (with_reducible first | exact HB1.out | exact heap_new_at _ _ _ (by simp) | refine blk_drewN ?_ _ | refine blk_drew ?_ | refine (Below.heap_setCell _ _ _ _ (by dsimp only; omega)).trans ?_ | apply blk_put | refine blk_alloc ?_ _)); all_goals rfl), by (repeat (with_reducible first | exact HR1.out | refine Kd.R_far ?_ (fun k hk => hk) _ | refine Kd.R_drewN ?_ _ | refine Kd.R_drew ?_ | refine Kd.R_alloc ?_ _))⟩)
    rintro e w2 ⟨rfl, hG⟩
    have HY2 : Aside0 (w2.heap[W.heap.size]? = some (.cells #[.bool false, .bool false, .int .i64 0, .int .i64 0, .int .u32 0, .int .u32 0] 33 (0, 0))) := ⟨by refine Gets.blk (s := (Sg.drop ⟨0, false, false, pe, co0, er0, nr0, ar0, l⟩)) hG (by (exact ⟨by ((repeat (with_reducible first | exact HB1.out | exact heap_new_at _ _ _ (by simp) | refine blk_drewN ?_ _ | refine blk_drew ?_ | refine (Below.heap_setCell _ _ _ _ (by dsimp only; omega)).trans ?_ | apply blk_put | refine blk_alloc ?_ _)); all_goals rfl), by (repeat (with_reducible first | exact HR1.out | refine Kd.R_far ?_ (fun k hk => hk) _ | refine Kd.R_drewN ?_ _ | refine Kd.R_drew ?_ | refine Kd.R_alloc ?_ _))⟩)) (by ((repeat (with_reducible first | exact HY1.out | exact heap_new_at _ _ _ (by simp) | refine blk_drewN ?_ _ | refine blk_drew ?_ | refine (Below.heap_setCell _ _ _ _ (by dsimp only; omega)).trans ?_ | apply blk_put | refine blk_alloc ?_ _)); all_goals rfl)) (by decide) (by omega)⟩
    have hG2 : Aside0 (Gets n X v W (Sg.deliver (Sg.drop ⟨0, false, false, pe, co0, er0, nr0, ar0, l⟩) co er nr ar).1 w2) := ⟨by refine Gets.trans (by (repeat (with_reducible first | exact HS1.out | refine St.set ?_ (by omega) (by first | exact Or.inl rfl | exact Or.inl (Or.inl rfl) | exact Or.inl (Or.inr rfl) | (right; omega)) _ _ | refine St.drewN ?_ _ | refine St.drew ?_ | refine St.alloc ?_ (by omega) _))) HN1.out hG⟩
    clear hG
    have hh0 : w2.cell? ⟨W.heap.size, 0, none⟩ = some (.bool false) := blk_cell HY2.out 0
    have hg0 : w2.frozen? ⟨W.heap.size, 0, none⟩ = false := blk_frozen HY2.out 0
    have hh1 : w2.cell? ⟨W.heap.size, 1, none⟩ = some (.bool false) := blk_cell HY2.out 1
    have hg1 : w2.frozen? ⟨W.heap.size, 1, none⟩ = false := blk_frozen HY2.out 1
    have hh2 : w2.cell? ⟨W.heap.size, 2, none⟩ = some (.int .i64 0) := blk_cell HY2.out 2
    have hg2 : w2.frozen? ⟨W.heap.size, 2, none⟩ = false := blk_frozen HY2.out 2
    have hh3 : w2.cell? ⟨W.heap.size, 3, none⟩ = some (.int .i64 0) := blk_cell HY2.out 3
    have hg3 : w2.frozen? ⟨W.heap.size, 3, none⟩ = false := blk_frozen HY2.out 3
    have hh4 : w2.cell? ⟨W.heap.size, 4, none⟩ = some (.int .u32 0) := blk_cell HY2.out 4
    have hg4 : w2.frozen? ⟨W.heap.size, 4, none⟩ = false := blk_frozen HY2.out 4
    have hh5 : w2.cell? ⟨W.heap.size, 5, none⟩ = some (.int .u32 0) := blk_cell HY2.out 5
    have hg5 : w2.frozen? ⟨W.heap.size, 5, none⟩ = false := blk_frozen HY2.out 5
    go_wp2
    have hF := hit6 hG2.out HY2.out (by omega) (by omega) (by omega) (.bool (Sg.deliver (Sg.drop ⟨0, false, false, pe, co0, er0, nr0, ar0, l⟩) co er nr ar).2.di) (.bool (Sg.deliver (Sg.drop ⟨0, false, false, pe, co0, er0, nr0, ar0, l⟩) co er nr ar).2.ru) (.int .i64 (Sg.deliver (Sg.drop ⟨0, false, false, pe, co0, er0, nr0, ar0, l⟩) co er nr ar).2.co) (.int .i64 (Sg.deliver (Sg.drop ⟨0, false, false, pe, co0, er0, nr0, ar0, l⟩) co er nr ar).2.er) (.int .u32 (Sg.deliver (Sg.drop ⟨0, false, false, pe, co0, er0, nr0, ar0, l⟩) co er nr ar).2.nr) (.int .u32 (Sg.deliver (Sg.drop ⟨0, false, false, pe, co0, er0, nr0, ar0, l⟩) co er nr ar).2.ar)
    refine bodyPost_ret (results_ct rfl _ _ (W.heap.size) 33 #[.bool (Sg.deliver (Sg.drop ⟨0, false, false, pe, co0, er0, nr0, ar0, l⟩) co er nr ar).2.di, .bool (Sg.deliver (Sg.drop ⟨0, false, false, pe, co0, er0, nr0, ar0, l⟩) co er nr ar).2.ru, .int .i64 (Sg.deliver (Sg.drop ⟨0, false, false, pe, co0, er0, nr0, ar0, l⟩) co er nr ar).2.co, .int .i64 (Sg.deliver (Sg.drop ⟨0, false, false, pe, co0, er0, nr0, ar0, l⟩) co er nr ar).2.er, .int .u32 (Sg.deliver (Sg.drop ⟨0, false, false, pe, co0, er0, nr0, ar0, l⟩) co er nr ar).2.nr, .int .u32 (Sg.deliver (Sg.drop ⟨0, false, false, pe, co0, er0, nr0, ar0, l⟩) co er nr ar).2.ar] (0, 0) _ rfl hF.2 Try.underlying33 rfl (by kernel_rfl)) rfl ?_
    exact ⟨rfl, hF.1⟩
  have h1' : (ac == 1) = false := by simpa using h1
  rw [show Sg.forceD ⟨ac, op, false, pe, co0, er0, nr0, ar0, l⟩ co er nr ar = ((Sg.deliver ⟨ac, op, false, pe, co0, er0, nr0, ar0, l⟩ co er nr ar).1, (Sg.deliver ⟨ac, op, false, pe, co0, er0, nr0, ar0, l⟩ co er nr ar).2, 0) from by simp [Sg.forceD, h1]]
  dsimp only [nohit]
  have hk0 : W.cell? ⟨C, 0, none⟩ = some (.int .i64 co) := blk_cell hCs.out 0
  have hk1 : W.cell? ⟨C, 1, none⟩ = some (.int .i64 er) := blk_cell hCs.out 1
  have hk2 : W.cell? ⟨C, 2, none⟩ = some (.int .u32 nr) := blk_cell hCs.out 2
  have hk3 : W.cell? ⟨C, 3, none⟩ = some (.int .u32 ar) := blk_cell hCs.out 3
  go_enter Try.func24, Try.ntmps24
  go_wp2_with fail
  clear hc0 hf0 hc1 hf1 hc2 hf2 hc3 hf3 hc4 hf4 hc5 hf5 hc6 hf6 hc7 hf7 hc8 hf8
  clear hk0 hk1 hk2 hk3
  refine (deliver_w n X ⟨ac, op, false, pe, co0, er0, nr0, ar0, l⟩ co er nr ar v _ hX ?hP_).mono ?_
  case hP_ => (exact ⟨by ((repeat (with_reducible first | exact hbs.out | exact heap_new_at _ _ _ (by simp) | refine blk_drewN ?_ _ | refine blk_drew ?_ | refine (Below.heap_setCell _ _ _ _ (by dsimp only; omega)).trans ?_ | apply blk_put | refine blk_alloc ?_ _)); all_goals rfl), by (repeat (with_reducible first | exact hRs.out | refine Kd.R_far ?_ (fun k hk => hk) _ | refine Kd.R_drewN ?_ _ | refine Kd.R_drew ?_ | refine Kd.R_alloc ?_ _))⟩)
  rintro e w2 ⟨rfl, hG⟩
  have HY2 : Aside0 (w2.heap[W.heap.size]? = some (.cells #[.bool false, .bool false, .int .i64 0, .int .i64 0, .int .u32 0, .int .u32 0] 33 (0, 0))) := ⟨by refine Gets.blk (s := ⟨ac, op, false, pe, co0, er0, nr0, ar0, l⟩) hG (by (exact ⟨by ((repeat (with_reducible first | exact hbs.out | exact heap_new_at _ _ _ (by simp) | refine blk_drewN ?_ _ | refine blk_drew ?_ | refine (Below.heap_setCell _ _ _ _ (by dsimp only; omega)).trans ?_ | apply blk_put | refine blk_alloc ?_ _)); all_goals rfl), by (repeat (with_reducible first | exact hRs.out | refine Kd.R_far ?_ (fun k hk => hk) _ | refine Kd.R_drewN ?_ _ | refine Kd.R_drew ?_ | refine Kd.R_alloc ?_ _))⟩)) (by ((repeat (with_reducible first | fail | exact heap_new_at _ _ _ (by simp) | refine blk_drewN ?_ _ | refine blk_drew ?_ | refine (Below.heap_setCell _ _ _ _ (by dsimp only; omega)).trans ?_ | apply blk_put | refine blk_alloc ?_ _)); all_goals rfl)) (by decide) (by omega)⟩
  have hG2 : Aside0 (Gets n X v W (Sg.deliver ⟨ac, op, false, pe, co0, er0, nr0, ar0, l⟩ co er nr ar).1 w2) := ⟨by refine Gets.trans (by (repeat (with_reducible first | exact St.rfl' _ _ _ | refine St.set ?_ (by omega) (by first | exact Or.inl rfl | exact Or.inl (Or.inl rfl) | exact Or.inl (Or.inr rfl) | (right; omega)) _ _ | refine St.drewN ?_ _ | refine St.drew ?_ | refine St.alloc ?_ (by omega) _))) (New.rfl' _ _) hG⟩
  clear hG
  have hh0 : w2.cell? ⟨W.heap.size, 0, none⟩ = some (.bool false) := blk_cell HY2.out 0
  have hg0 : w2.frozen? ⟨W.heap.size, 0, none⟩ = false := blk_frozen HY2.out 0
  have hh1 : w2.cell? ⟨W.heap.size, 1, none⟩ = some (.bool false) := blk_cell HY2.out 1
  have hg1 : w2.frozen? ⟨W.heap.size, 1, none⟩ = false := blk_frozen HY2.out 1
  have hh2 : w2.cell? ⟨W.heap.size, 2, none⟩ = some (.int .i64 0) := blk_cell HY2.out 2
  have hg2 : w2.frozen? ⟨W.heap.size, 2, none⟩ = false := blk_frozen HY2.out 2
  have hh3 : w2.cell? ⟨W.heap.size, 3, none⟩ = some (.int .i64 0) := blk_cell HY2.out 3
  have hg3 : w2.frozen? ⟨W.heap.size, 3, none⟩ = false := blk_frozen HY2.out 3
  have hh4 : w2.cell? ⟨W.heap.size, 4, none⟩ = some (.int .u32 0) := blk_cell HY2.out 4
  have hg4 : w2.frozen? ⟨W.heap.size, 4, none⟩ = false := blk_frozen HY2.out 4
  have hh5 : w2.cell? ⟨W.heap.size, 5, none⟩ = some (.int .u32 0) := blk_cell HY2.out 5
  have hg5 : w2.frozen? ⟨W.heap.size, 5, none⟩ = false := blk_frozen HY2.out 5
  go_wp2
  have hF := hit6 hG2.out HY2.out (by omega) (by omega) (by omega) (.bool (Sg.deliver ⟨ac, op, false, pe, co0, er0, nr0, ar0, l⟩ co er nr ar).2.di) (.bool (Sg.deliver ⟨ac, op, false, pe, co0, er0, nr0, ar0, l⟩ co er nr ar).2.ru) (.int .i64 (Sg.deliver ⟨ac, op, false, pe, co0, er0, nr0, ar0, l⟩ co er nr ar).2.co) (.int .i64 (Sg.deliver ⟨ac, op, false, pe, co0, er0, nr0, ar0, l⟩ co er nr ar).2.er) (.int .u32 (Sg.deliver ⟨ac, op, false, pe, co0, er0, nr0, ar0, l⟩ co er nr ar).2.nr) (.int .u32 (Sg.deliver ⟨ac, op, false, pe, co0, er0, nr0, ar0, l⟩ co er nr ar).2.ar)
  refine bodyPost_ret (results_ct rfl _ _ (W.heap.size) 33 #[.bool (Sg.deliver ⟨ac, op, false, pe, co0, er0, nr0, ar0, l⟩ co er nr ar).2.di, .bool (Sg.deliver ⟨ac, op, false, pe, co0, er0, nr0, ar0, l⟩ co er nr ar).2.ru, .int .i64 (Sg.deliver ⟨ac, op, false, pe, co0, er0, nr0, ar0, l⟩ co er nr ar).2.co, .int .i64 (Sg.deliver ⟨ac, op, false, pe, co0, er0, nr0, ar0, l⟩ co er nr ar).2.er, .int .u32 (Sg.deliver ⟨ac, op, false, pe, co0, er0, nr0, ar0, l⟩ co er nr ar).2.nr, .int .u32 (Sg.deliver ⟨ac, op, false, pe, co0, er0, nr0, ar0, l⟩ co er nr ar).2.ar] (0, 0) _ rfl hF.2 Try.underlying33 rfl (by kernel_rfl)) rfl ?_
  exact ⟨rfl, hF.1⟩
end Go.Proofs.Ytbpgpbbpeppjmaa.SG
