import Derived.Test.YtbpgpbbpeppjmaaSA
namespace Go.Proofs.Ytbpgpbbpeppjmaa.SG
open Go.RowKit Go.Proofs.YtbpgpbbpeppjmaaW.PrintWords Go.Proofs.YtbpgpbbpeppjmaaW.PrintLast Go.Proofs.YtbpgpbbpeppjmaaW.PrintMore
set_option linter.unusedVariables false
set_option linter.unusedSimpArgs false

theorem Has.alloc {n X : Nat} {s : Sg} {v : Value} {W : World} (h : Has n X s v W) (ob : Obj) : Has n X s v (W.alloc ob) := ⟨blk_alloc h.1 ob, Kd.R_alloc h.2 ob⟩
theorem Gets.blk {n X Y : Nat} {v : Value} {W W1 : World} {s s' : Sg} {cs : Array Value} {t : TypeId} (h : Gets n X v W s' W1) (hP : Has n X s v W) (hb : W.heap[Y]? = some (.cells cs t (0, 0))) (ht : 4 ≠ t) (hXY : Y ≠ X) : W1.heap[Y]? = some (.cells cs t (0, 0)) := by
  obtain ⟨v', _, hS, _⟩ := h
  exact St.blk hS hb (fun q => q.elim hXY (Kd.R_ne hP.2 hb ht))
theorem Gets.set {n X Y : Nat} {v : Value} {W W1 : World} {s' : Sg} {cs : Array Value} {t : TypeId} (h : Gets n X v W s' W1) (hb : W1.heap[Y]? = some (.cells cs t (0, 0))) (ht : 4 ≠ t) (hn : n ≤ Y) (hXY : Y ≠ X) (hY : W.heap.size ≤ Y) (j : Nat) (u : Value) : Gets n X v W s' (W1.setCell ⟨Y, j, none⟩ u) ∧ (W1.setCell ⟨Y, j, none⟩ u).heap[Y]? = some (.cells (cs.setIfInBounds j u) t (0, 0)) := by
  obtain ⟨v', hP, hS, hN⟩ := h
  refine ⟨⟨v', ⟨blk_far hP.1 (fun e => hXY e.symm) u, ?_⟩, St.set hS hn (Or.inr hY) j u, hN⟩, blk_set hb j u⟩
  exact Kd.R_mono (Kd.R_far (p := ⟨Y, j, none⟩) (Kd.R_flat (ok' := fun k => k ≠ X ∧ k ≠ Y) (fun h => h) hP.2 (fun k hk hx => ⟨hx, fun e => Kd.R_ne hP.2 hb ht (e ▸ hk.symm)⟩)) (fun k hk => hk.2) u) (fun k hk => hk.1)
theorem hit6 {n X Y : Nat} {v : Value} {W w : World} {s' : Sg} {z0 z1 z2 z3 z4 z5 : Value} (h : Gets n X v W s' w) (hb : w.heap[Y]? = some (.cells #[z0, z1, z2, z3, z4, z5] 33 (0, 0))) (hn : n ≤ Y) (hXY : Y ≠ X) (hY : W.heap.size ≤ Y) (a b c d e f : Value) : Gets n X v W s' (((((((w.setCell ⟨Y, 0, none⟩ a).setCell ⟨Y, 1, none⟩ b).setCell ⟨Y, 2, none⟩ c).setCell ⟨Y, 3, none⟩ d).setCell ⟨Y, 4, none⟩ e).setCell ⟨Y, 5, none⟩ f)) ∧ (((((((w.setCell ⟨Y, 0, none⟩ a).setCell ⟨Y, 1, none⟩ b).setCell ⟨Y, 2, none⟩ c).setCell ⟨Y, 3, none⟩ d).setCell ⟨Y, 4, none⟩ e).setCell ⟨Y, 5, none⟩ f)).heap[Y]? = some (.cells #[a, b, c, d, e, f] 33 (0, 0)) := by
  obtain ⟨h, hb⟩ := Gets.set h hb (by decide) hn hXY hY 0 a
  obtain ⟨h, hb⟩ := Gets.set h hb (by decide) hn hXY hY 1 b
  obtain ⟨h, hb⟩ := Gets.set h hb (by decide) hn hXY hY 2 c
  obtain ⟨h, hb⟩ := Gets.set h hb (by decide) hn hXY hY 3 d
  obtain ⟨h, hb⟩ := Gets.set h hb (by decide) hn hXY hY 4 e
  obtain ⟨h, hb⟩ := Gets.set h hb (by decide) hn hXY hY 5 f
  exact ⟨h, hb⟩
set_option maxHeartbeats 1000000 in
set_option maxRecDepth 100000 in
theorem on_w (n X : Nat) (s : Sg) (v : Value) (W : World) (hX : n ≤ X) (hP : Has n X s v W) :
    Calls Try.prog 18 #[.pointer (some ⟨X, 0, none⟩)] W fun e w' => e = .returned (.agg #[.bool s.on.2.di, .bool s.on.2.ru, .int .i64 s.on.2.co, .int .i64 s.on.2.er, .int .u32 s.on.2.nr, .int .u32 s.on.2.ar]) ∧ Gets n X v W s.on.1 w' := by
  obtain ⟨ac, op, bl, pe, co0, er0, nr0, ar0, l⟩ := s
  obtain ⟨hb, hR⟩ := hP
  dsimp only at hb hR
  have hbs := Aside0.mk hb
  have hRs := Aside0.mk hR
  have hXl := blk_lt hb
  have hc0 := blk_cell hb 0
  have hf0 := blk_frozen hb 0
  have hc1 := blk_cell hb 1
  have hf1 := blk_frozen hb 1
  have hc2 := blk_cell hb 2
  have hf2 := blk_frozen hb 2
  have hc3 := blk_cell hb 3
  have hf3 := blk_frozen hb 3
  have hc4 := blk_cell hb 4
  have hf4 := blk_frozen hb 4
  have hc5 := blk_cell hb 5
  have hf5 := blk_frozen hb 5
  have hc6 := blk_cell hb 6
  have hf6 := blk_frozen hb 6
  have hc7 := blk_cell hb 7
  have hf7 := blk_frozen hb 7
  have hc8 := blk_cell hb 8
  have hf8 := blk_frozen hb 8
  simp only [List.getElem?_toArray, List.getElem?_cons_zero, List.getElem?_cons_succ] at hc0 hc1 hc2 hc3 hc4 hc5 hc6 hc7 hc8
  clear hb hR
  have hn : n ≤ W.heap.size := by omega
  by_cases h0 : bl = true
  · subst h0
    rw [show Sg.on ⟨ac, op, true, pe, co0, er0, nr0, ar0, l⟩ = (⟨ac, op, true, pe, co0, er0, nr0, ar0, l⟩, nohit) from rfl]
    dsimp only [nohit]
    go_enter Try.func18, Try.ntmps18
    go_wp2
    refine bodyPost_ret (results_cell_row rfl _ _ (W.heap.size) 33 #[.bool false, .bool false, .int .i64 0, .int .i64 0, .int .u32 0, .int .u32 0] (0, 0) _ rfl ?hr_ Try.underlying33 rfl (by kernel_rfl)) rfl ?_
    case hr_ => ((repeat (first | (with_reducible exact heap_new_at _ _ _ (by simp)) | (with_reducible refine blk_drewN ?_ _) | (with_reducible refine blk_drew ?_) | (with_reducible refine (Below.heap_setCell _ _ _ _ (by dsimp only; omega)).trans ?_) | (with_reducible apply blk_put) | (with_reducible refine blk_alloc ?_ _))); all_goals rfl)
    refine ⟨rfl, Gets.mk' (v) ?_ ?_ ?_ ?_⟩
    · (repeat (with_reducible first | exact hbs.out | refine blk_alloc ?_ _ | refine blk_drewN ?_ _ | refine blk_drew ?_ | refine (Below.heap_setCell _ _ _ _ (by dsimp only; omega)).trans ?_ | apply blk_put))
      all_goals rfl
    · refine St.R (W := _) ?_ (hRs.out) (fun k hk => hk) (fun k hk => hk)
      (repeat (with_reducible first | exact St.rfl' _ _ _ | refine St.set ?_ (by omega) (by first | exact Or.inl rfl | exact Or.inl (Or.inl rfl) | exact Or.inl (Or.inr rfl) | (right; omega)) _ _ | refine St.drewN ?_ _ | refine St.drew ?_ | refine St.alloc ?_ (by omega) _))
    · refine St.mono (S := fun k => k = X) ?_ (fun k hk => Or.inl hk); (repeat (with_reducible first | exact St.rfl' _ _ _ | refine St.set ?_ (by omega) (by first | exact Or.inl rfl | exact Or.inl (Or.inl rfl) | exact Or.inl (Or.inr rfl) | (right; omega)) _ _ | refine St.drewN ?_ _ | refine St.drew ?_ | refine St.alloc ?_ (by omega) _))
    · exact New.rfl' _ _
  obtain rfl : bl = false := by cases bl <;> simp_all
  clear h0
  by_cases h0 : pe = false
  · subst h0
    rw [show Sg.on ⟨ac, op, false, false, co0, er0, nr0, ar0, l⟩ = (⟨ac, op, false, false, co0, er0, nr0, ar0, l⟩, nohit) from rfl]
    dsimp only [nohit]
    go_enter Try.func18, Try.ntmps18
    go_wp2
    refine bodyPost_ret (results_cell_row rfl _ _ (W.heap.size) 33 #[.bool false, .bool false, .int .i64 0, .int .i64 0, .int .u32 0, .int .u32 0] (0, 0) _ rfl ?hr_ Try.underlying33 rfl (by kernel_rfl)) rfl ?_
    case hr_ => ((repeat (first | (with_reducible exact heap_new_at _ _ _ (by simp)) | (with_reducible refine blk_drewN ?_ _) | (with_reducible refine blk_drew ?_) | (with_reducible refine (Below.heap_setCell _ _ _ _ (by dsimp only; omega)).trans ?_) | (with_reducible apply blk_put) | (with_reducible refine blk_alloc ?_ _))); all_goals rfl)
    refine ⟨rfl, Gets.mk' (v) ?_ ?_ ?_ ?_⟩
    · (repeat (with_reducible first | exact hbs.out | refine blk_alloc ?_ _ | refine blk_drewN ?_ _ | refine blk_drew ?_ | refine (Below.heap_setCell _ _ _ _ (by dsimp only; omega)).trans ?_ | apply blk_put))
      all_goals rfl
    · refine St.R (W := _) ?_ (hRs.out) (fun k hk => hk) (fun k hk => hk)
      (repeat (with_reducible first | exact St.rfl' _ _ _ | refine St.set ?_ (by omega) (by first | exact Or.inl rfl | exact Or.inl (Or.inl rfl) | exact Or.inl (Or.inr rfl) | (right; omega)) _ _ | refine St.drewN ?_ _ | refine St.drew ?_ | refine St.alloc ?_ (by omega) _))
    · refine St.mono (S := fun k => k = X) ?_ (fun k hk => Or.inl hk); (repeat (with_reducible first | exact St.rfl' _ _ _ | refine St.set ?_ (by omega) (by first | exact Or.inl rfl | exact Or.inl (Or.inl rfl) | exact Or.inl (Or.inr rfl) | (right; omega)) _ _ | refine St.drewN ?_ _ | refine St.drew ?_ | refine St.alloc ?_ (by omega) _))
    · exact New.rfl' _ _
  obtain rfl : pe = true := by cases pe <;> simp_all
  clear h0
  rw [show Sg.on ⟨ac, op, false, true, co0, er0, nr0, ar0, l⟩ = Sg.deliver (Sg.drop ⟨ac, op, false, true, co0, er0, nr0, ar0, l⟩) co0 er0 nr0 ar0 from rfl]
  go_enter Try.func18, Try.ntmps18
  go_wp2_with fail
  clear hc0 hc1 hc2 hc3 hc4 hc5 hc6 hc7 hc8 hf0 hf1 hf2 hf3 hf4 hf5 hf6 hf7 hf8
  refine (drop_w n X ⟨ac, op, false, true, co0, er0, nr0, ar0, l⟩ v _ hX ?hP_).mono ?_
  case hP_ => (exact ⟨by ((repeat (with_reducible first | exact hbs.out | exact heap_new_at _ _ _ (by simp) | refine blk_drewN ?_ _ | refine blk_drew ?_ | refine (Below.heap_setCell _ _ _ _ (by dsimp only; omega)).trans ?_ | apply blk_put | refine blk_alloc ?_ _)); all_goals rfl), by (repeat (with_reducible first | exact hRs.out | refine Kd.R_far ?_ (fun k hk => hk) _ | refine Kd.R_drewN ?_ _ | refine Kd.R_drew ?_ | refine Kd.R_alloc ?_ _))⟩)
  rintro e w1 ⟨rfl, hG⟩
  have HY1 : Aside0 (w1.heap[W.heap.size]? = some (.cells #[.bool false, .bool false, .int .i64 0, .int .i64 0, .int .u32 0, .int .u32 0] 33 (0, 0))) := ⟨by refine Gets.blk (s := ⟨ac, op, false, true, co0, er0, nr0, ar0, l⟩) hG (by (exact ⟨by ((repeat (with_reducible first | exact hbs.out | exact heap_new_at _ _ _ (by simp) | refine blk_drewN ?_ _ | refine blk_drew ?_ | refine (Below.heap_setCell _ _ _ _ (by dsimp only; omega)).trans ?_ | apply blk_put | refine blk_alloc ?_ _)); all_goals rfl), by (repeat (with_reducible first | exact hRs.out | refine Kd.R_far ?_ (fun k hk => hk) _ | refine Kd.R_drewN ?_ _ | refine Kd.R_drew ?_ | refine Kd.R_alloc ?_ _))⟩)) (by ((repeat (with_reducible first | fail | exact heap_new_at _ _ _ (by simp) | refine blk_drewN ?_ _ | refine blk_drew ?_ | refine (Below.heap_setCell _ _ _ _ (by dsimp only; omega)).trans ?_ | apply blk_put | refine blk_alloc ?_ _)); all_goals rfl)) (by decide) (by omega)⟩
  have HI1 : Aside0 (w1.heap[W.heap.size + 1]? = some (.cells #[.int .i64 co0, .int .i64 er0, .int .u32 nr0, .int .u32 ar0] 24 (0, 0))) := ⟨by refine Gets.blk (s := ⟨ac, op, false, true, co0, er0, nr0, ar0, l⟩) hG (by (exact ⟨by ((repeat (with_reducible first | exact hbs.out | exact heap_new_at _ _ _ (by simp) | refine blk_drewN ?_ _ | refine blk_drew ?_ | refine (Below.heap_setCell _ _ _ _ (by dsimp only; omega)).trans ?_ | apply blk_put | refine blk_alloc ?_ _)); all_goals rfl), by (repeat (with_reducible first | exact hRs.out | refine Kd.R_far ?_ (fun k hk => hk) _ | refine Kd.R_drewN ?_ _ | refine Kd.R_drew ?_ | refine Kd.R_alloc ?_ _))⟩)) (by ((repeat (with_reducible first | fail | exact heap_new_at _ _ _ (by simp) | refine blk_drewN ?_ _ | refine blk_drew ?_ | refine (Below.heap_setCell _ _ _ _ (by dsimp only; omega)).trans ?_ | apply blk_put | refine blk_alloc ?_ _)); all_goals rfl)) (by decide) (by omega)⟩
  have hG2 : Aside0 (Gets n X v W (Sg.drop ⟨ac, op, false, true, co0, er0, nr0, ar0, l⟩) w1) := ⟨by refine Gets.trans (by (repeat (with_reducible first | exact St.rfl' _ _ _ | refine St.set ?_ (by omega) (by first | exact Or.inl rfl | exact Or.inl (Or.inl rfl) | exact Or.inl (Or.inr rfl) | (right; omega)) _ _ | refine St.drewN ?_ _ | refine St.drew ?_ | refine St.alloc ?_ (by omega) _))) (New.rfl' _ _) hG⟩
  clear hG
  obtain ⟨v1, ⟨hb1, hR1⟩, hS1, hN1⟩ := hG2.out
  have HB1 := Aside0.mk hb1
  have HR1 := Aside0.mk hR1
  have HS1 := Aside0.mk hS1
  have HN1 := Aside0.mk hN1
  clear hb1 hR1 hS1 hN1 hG2
  have hi0 : w1.cell? ⟨W.heap.size + 1, 0, none⟩ = some (.int .i64 co0) := blk_cell HI1.out 0
  have hi1 : w1.cell? ⟨W.heap.size + 1, 1, none⟩ = some (.int .i64 er0) := blk_cell HI1.out 1
  have hi2 : w1.cell? ⟨W.heap.size + 1, 2, none⟩ = some (.int .u32 nr0) := blk_cell HI1.out 2
  have hi3 : w1.cell? ⟨W.heap.size + 1, 3, none⟩ = some (.int .u32 ar0) := blk_cell HI1.out 3
  go_wp2_with fail
  clear hi0 hi1 hi2 hi3
  refine (deliver_w n X (Sg.drop ⟨ac, op, false, true, co0, er0, nr0, ar0, l⟩) co0 er0 nr0 ar0 v1 _ hX ?hP_).mono ?_
  case hP_ => (exact ⟨by ((repeat (with_reducible first | exact HB1.out | exact heap_new_at _ _ _ (by simp) | refine blk_drewN ?_ _ | refine blk_drew ?_ | refine (Below.heap_setCell _ _ _ _ (by dsimp only; omega)).trans ?_ | apply blk_put | refine blk_alloc ?_ _)); all_goals rfl), by (repeat (with_reducible first | exact HR1.out | refine Kd.R_far ?_ (fun k hk => hk) _ | refine Kd.R_drewN ?_ _ | refine Kd.R_drew ?_ | refine Kd.R_alloc ?_ _))⟩)
  rintro e w2 ⟨rfl, hG⟩
  have HY2 : Aside0 (w2.heap[W.heap.size]? = some (.cells #[.bool false, .bool false, .int .i64 0, .int .i64 0, .int .u32 0, .int .u32 0] 33 (0, 0))) := ⟨by refine Gets.blk (s := (Sg.drop ⟨ac, op, false, true, co0, er0, nr0, ar0, l⟩)) hG (by (exact ⟨by ((repeat (with_reducible first | exact HB1.out | exact heap_new_at _ _ _ (by simp) | refine blk_drewN ?_ _ | refine blk_drew ?_ | refine (Below.heap_setCell _ _ _ _ (by dsimp only; omega)).trans ?_ | apply blk_put | refine blk_alloc ?_ _)); all_goals rfl), by (repeat (with_reducible first | exact HR1.out | refine Kd.R_far ?_ (fun k hk => hk) _ | refine Kd.R_drewN ?_ _ | refine Kd.R_drew ?_ | refine Kd.R_alloc ?_ _))⟩)) (by ((repeat (with_reducible first | exact HY1.out | exact heap_new_at _ _ _ (by simp) | refine blk_drewN ?_ _ | refine blk_drew ?_ | refine (Below.heap_setCell _ _ _ _ (by dsimp only; omega)).trans ?_ | apply blk_put | refine blk_alloc ?_ _)); all_goals rfl)) (by decide) (by omega)⟩
  have hG2 : Aside0 (Gets n X v W (Sg.deliver (Sg.drop ⟨ac, op, false, true, co0, er0, nr0, ar0, l⟩) co0 er0 nr0 ar0).1 w2) := ⟨by refine Gets.trans (by (repeat (with_reducible first | exact HS1.out | refine St.set ?_ (by omega) (by first | exact Or.inl rfl | exact Or.inl (Or.inl rfl) | exact Or.inl (Or.inr rfl) | (right; omega)) _ _ | refine St.drewN ?_ _ | refine St.drew ?_ | refine St.alloc ?_ (by omega) _))) HN1.out hG⟩
  clear hG
  have hh0 : w2.cell? ⟨W.heap.size, 0, none⟩ = some (.bool false) := blk_cell HY2.out 0
  have hg0 : w2.frozen? ⟨W.heap.size, 0, none⟩ = false := blk_frozen HY2.out 0
  have hh1 : w2.cell? ⟨W.heap.size, 1, none⟩ = some (.bool false) := blk_cell HY2.out 1
  have hg1 : w2.frozen? ⟨W.heap.size, 1, none⟩ = false := blk_frozen HY2.out 1
  have hh2 : w2.cell? ⟨W.heap.size, 2, none⟩ = some (.int .i64 0) := blk_cell HY2.out 2
  have hg2 : w2.frozen? ⟨W.heap.size, 2, none⟩ = false := blk_frozen HY2.out 2
  have hh3 : w2.cell? ⟨W.heap.size, 3, none⟩ = some (.int .i64 0) := blk_cell HY2.out 3
  have hg3 : w2.frozen? ⟨W.heap.size, 3, none⟩ = false := blk_frozen HY2.out 3
  have hh4 : w2.cell? ⟨W.heap.size, 4, none⟩ = some (.int .u32 0) := blk_cell HY2.out 4
  have hg4 : w2.frozen? ⟨W.heap.size, 4, none⟩ = false := blk_frozen HY2.out 4
  have hh5 : w2.cell? ⟨W.heap.size, 5, none⟩ = some (.int .u32 0) := blk_cell HY2.out 5
  have hg5 : w2.frozen? ⟨W.heap.size, 5, none⟩ = false := blk_frozen HY2.out 5
  go_wp2
  have hF := hit6 hG2.out HY2.out (by omega) (by omega) (by omega) (.bool (Sg.deliver (Sg.drop ⟨ac, op, false, true, co0, er0, nr0, ar0, l⟩) co0 er0 nr0 ar0).2.di) (.bool (Sg.deliver (Sg.drop ⟨ac, op, false, true, co0, er0, nr0, ar0, l⟩) co0 er0 nr0 ar0).2.ru) (.int .i64 (Sg.deliver (Sg.drop ⟨ac, op, false, true, co0, er0, nr0, ar0, l⟩) co0 er0 nr0 ar0).2.co) (.int .i64 (Sg.deliver (Sg.drop ⟨ac, op, false, true, co0, er0, nr0, ar0, l⟩) co0 er0 nr0 ar0).2.er) (.int .u32 (Sg.deliver (Sg.drop ⟨ac, op, false, true, co0, er0, nr0, ar0, l⟩) co0 er0 nr0 ar0).2.nr) (.int .u32 (Sg.deliver (Sg.drop ⟨ac, op, false, true, co0, er0, nr0, ar0, l⟩) co0 er0 nr0 ar0).2.ar)
  refine bodyPost_ret (results_cell_row rfl _ _ (W.heap.size) 33 #[.bool (Sg.deliver (Sg.drop ⟨ac, op, false, true, co0, er0, nr0, ar0, l⟩) co0 er0 nr0 ar0).2.di, .bool (Sg.deliver (Sg.drop ⟨ac, op, false, true, co0, er0, nr0, ar0, l⟩) co0 er0 nr0 ar0).2.ru, .int .i64 (Sg.deliver (Sg.drop ⟨ac, op, false, true, co0, er0, nr0, ar0, l⟩) co0 er0 nr0 ar0).2.co, .int .i64 (Sg.deliver (Sg.drop ⟨ac, op, false, true, co0, er0, nr0, ar0, l⟩) co0 er0 nr0 ar0).2.er, .int .u32 (Sg.deliver (Sg.drop ⟨ac, op, false, true, co0, er0, nr0, ar0, l⟩) co0 er0 nr0 ar0).2.nr, .int .u32 (Sg.deliver (Sg.drop ⟨ac, op, false, true, co0, er0, nr0, ar0, l⟩) co0 er0 nr0 ar0).2.ar] (0, 0) _ rfl hF.2 Try.underlying33 rfl (by kernel_rfl)) rfl ?_
  exact ⟨rfl, hF.1⟩
end Go.Proofs.Ytbpgpbbpeppjmaa.SG
