import Derived.Test.YtbpgpbbpeppjmaaSF
namespace Go.Proofs.Ytbpgpbbpeppjmaa.SG
open Go.RowKit Go.Proofs.YtbpgpbbpeppjmaaW.PrintWords Go.Proofs.YtbpgpbbpeppjmaaW.PrintLast Go.Proofs.YtbpgpbbpeppjmaaW.PrintMore
set_option linter.unusedVariables false
set_option linter.unusedSimpArgs false
def Outs2 (r : Sg × Ht × Int) (w : World) (e : Ending) (w' : World) : Prop := ∃ v : Value, e = .returned (.tuple #[.agg #[.int .i64 r.1.ac, .bool r.1.op, .bool r.1.bl, .bool r.1.pe, .int .i64 r.1.co, .int .i64 r.1.er, .int .u32 r.1.nr, .int .u32 r.1.ar, v], .int .i64 r.2.2]) ∧ Kd.R Kd.bool 4 w' w.heap.size (fun _ => True) v r.1.l ∧ Below w.heap.size w w'
set_option maxHeartbeats 2000000 in
set_option maxRecDepth 100000 in
theorem block_c (b : Bool) (s : Sg) (A : Option Addr) (c : Nat) (w : World) (hr0 : Kd.C Kd.bool w A s.l.length s.l) (hc0 : s.l.length ≤ c) :
    Calls Try.prog 9 #[.agg #[.int .i64 s.ac, .bool s.op, .bool s.bl, .bool s.pe, .int .i64 s.co, .int .i64 s.er, .int .u32 s.nr, .int .u32 s.ar, .slice A s.l.length c], .bool b] w (Outs (s.withV (s.blockD b)) w) := by
  obtain ⟨r, hr⟩ : ∃ r, r = s.withV (s.blockD b) := ⟨_, rfl⟩
  rw [← hr]
  have HRV := Aside0.mk hr
  clear hr
  have HR0 := Aside0.mk hr0
  have HC0 := Aside0.mk hc0
  clear hr0 hc0
  go_enter Try.func9, Try.ntmps9
  go_wp2_with fail
  refine (with_block b s A c _ (w.heap.size + 1) ?hc0_ (Kd.C_alloc (Kd.C_alloc (Kd.C_alloc (Kd.C_alloc HR0.out _) _) _) _) HC0.out).mono ?_
  case hc0_ => repeat (with_reducible first | exact heap_new_at _ _ _ (by simp) | refine blk_alloc ?_ _)
  rw [← HRV.out]
  rintro e w1 ⟨v1, rfl, hR, hB⟩
  have HY : Aside0 (w1.heap[w.heap.size + 1 + 1]? = some (.cells #[.int .i64 0, .bool false, .bool false, .bool false, .int .i64 0, .int .i64 0, .int .u32 0, .int .u32 0, .slice none 0 0] 27 (0, 0))) := ⟨by refine (hB.block _ (by simp only [World.size_alloc]; omega)).trans ?_; (repeat (with_reducible first | exact heap_new_at _ _ _ (by simp) | refine blk_alloc ?_ _))⟩
  have HH : Aside0 (w1.heap[w.heap.size + 1 + 1 + 1]? = some (.cells #[.bool false, .bool false, .int .i64 0, .int .i64 0, .int .u32 0, .int .u32 0] 33 (0, 0))) := ⟨by refine (hB.block _ (by simp only [World.size_alloc]; omega)).trans ?_; (repeat (with_reducible first | exact heap_new_at _ _ _ (by simp) | refine blk_alloc ?_ _))⟩
  have HB : Aside0 (Below w.heap.size w w1) := ⟨(below_alloc (below_alloc (below_alloc (below_alloc (Below.refl _ _) _) _) _) _).trans (hB.mono (by simp only [World.size_alloc]; omega))⟩
  have HR : Aside0 (Kd.R Kd.bool 4 w1 w.heap.size (fun k => k ≠ w.heap.size + 1 + 1 ∧ k ≠ w.heap.size + 1 + 1 + 1) v1 r.1.l) := ⟨Kd.R_lower (Kd.R_mono (Kd.R_bound hR) (fun k hk => by have := hk.2.1; simp only [World.size_alloc] at this; omega)) (by simp only [World.size_alloc]; omega)⟩
  clear hR hB HRV HR0 HC0
  obtain ⟨r1, r2, r3⟩ := r
  dsimp only at HR ⊢
  obtain ⟨A1, c1, rfl⟩ := Kd.R_slice HR.out
  obtain ⟨m, hm⟩ : ∃ m, m = r1.l.length := ⟨_, rfl⟩
  rw [← hm] at HR ⊢
  clear hm
  have hltY := blk_lt HY.out
  have hs1 := HB.out.size
  have hcy0 : w1.cell? ⟨w.heap.size + 1 + 1, 0, none⟩ = some (.int .i64 0) := blk_cell HY.out 0
  have hfy0 : w1.frozen? ⟨w.heap.size + 1 + 1, 0, none⟩ = false := blk_frozen HY.out 0
  have hcy1 : w1.cell? ⟨w.heap.size + 1 + 1, 1, none⟩ = some (.bool false) := blk_cell HY.out 1
  have hfy1 : w1.frozen? ⟨w.heap.size + 1 + 1, 1, none⟩ = false := blk_frozen HY.out 1
  have hcy2 : w1.cell? ⟨w.heap.size + 1 + 1, 2, none⟩ = some (.bool false) := blk_cell HY.out 2
  have hfy2 : w1.frozen? ⟨w.heap.size + 1 + 1, 2, none⟩ = false := blk_frozen HY.out 2
  have hcy3 : w1.cell? ⟨w.heap.size + 1 + 1, 3, none⟩ = some (.bool false) := blk_cell HY.out 3
  have hfy3 : w1.frozen? ⟨w.heap.size + 1 + 1, 3, none⟩ = false := blk_frozen HY.out 3
  have hcy4 : w1.cell? ⟨w.heap.size + 1 + 1, 4, none⟩ = some (.int .i64 0) := blk_cell HY.out 4
  have hfy4 : w1.frozen? ⟨w.heap.size + 1 + 1, 4, none⟩ = false := blk_frozen HY.out 4
  have hcy5 : w1.cell? ⟨w.heap.size + 1 + 1, 5, none⟩ = some (.int .i64 0) := blk_cell HY.out 5
  have hfy5 : w1.frozen? ⟨w.heap.size + 1 + 1, 5, none⟩ = false := blk_frozen HY.out 5
  have hcy6 : w1.cell? ⟨w.heap.size + 1 + 1, 6, none⟩ = some (.int .u32 0) := blk_cell HY.out 6
  have hfy6 : w1.frozen? ⟨w.heap.size + 1 + 1, 6, none⟩ = false := blk_frozen HY.out 6
  have hcy7 : w1.cell? ⟨w.heap.size + 1 + 1, 7, none⟩ = some (.int .u32 0) := blk_cell HY.out 7
  have hfy7 : w1.frozen? ⟨w.heap.size + 1 + 1, 7, none⟩ = false := blk_frozen HY.out 7
  have hcy8 : w1.cell? ⟨w.heap.size + 1 + 1, 8, none⟩ = some (.slice none 0 0) := blk_cell HY.out 8
  have hfy8 : w1.frozen? ⟨w.heap.size + 1 + 1, 8, none⟩ = false := blk_frozen HY.out 8
  have hcz0 : w1.cell? ⟨w.heap.size + 1 + 1 + 1, 0, none⟩ = some (.bool false) := blk_cell HH.out 0
  have hfz0 : w1.frozen? ⟨w.heap.size + 1 + 1 + 1, 0, none⟩ = false := blk_frozen HH.out 0
  have hcz1 : w1.cell? ⟨w.heap.size + 1 + 1 + 1, 1, none⟩ = some (.bool false) := blk_cell HH.out 1
  have hfz1 : w1.frozen? ⟨w.heap.size + 1 + 1 + 1, 1, none⟩ = false := blk_frozen HH.out 1
  have hcz2 : w1.cell? ⟨w.heap.size + 1 + 1 + 1, 2, none⟩ = some (.int .i64 0) := blk_cell HH.out 2
  have hfz2 : w1.frozen? ⟨w.heap.size + 1 + 1 + 1, 2, none⟩ = false := blk_frozen HH.out 2
  have hcz3 : w1.cell? ⟨w.heap.size + 1 + 1 + 1, 3, none⟩ = some (.int .i64 0) := blk_cell HH.out 3
  have hfz3 : w1.frozen? ⟨w.heap.size + 1 + 1 + 1, 3, none⟩ = false := blk_frozen HH.out 3
  have hcz4 : w1.cell? ⟨w.heap.size + 1 + 1 + 1, 4, none⟩ = some (.int .u32 0) := blk_cell HH.out 4
  have hfz4 : w1.frozen? ⟨w.heap.size + 1 + 1 + 1, 4, none⟩ = false := blk_frozen HH.out 4
  have hcz5 : w1.cell? ⟨w.heap.size + 1 + 1 + 1, 5, none⟩ = some (.int .u32 0) := blk_cell HH.out 5
  have hfz5 : w1.frozen? ⟨w.heap.size + 1 + 1 + 1, 5, none⟩ = false := blk_frozen HH.out 5
  have hltH := blk_lt HH.out
  have nYH : w.heap.size + 1 + 1 ≠ w.heap.size + 1 + 1 + 1 := by omega
  have nHY : w.heap.size + 1 + 1 + 1 ≠ w.heap.size + 1 + 1 := by omega
  go_wp2
  refine bodyPost_ret (results_list (rs := [.cell 4 27, .cell 5 33, .tmp 6]) rfl (by simp) (.cell (w.heap.size + 1 + 1) 27 #[.int .i64 r1.ac, .bool r1.op, .bool r1.bl, .bool r1.pe, .int .i64 r1.co, .int .i64 r1.er, .int .u32 r1.nr, .int .u32 r1.ar, .slice A1 m c1] (0, 0) _ rfl ?hy1_ Try.underlying27 rfl (by kernel_rfl) (.cell (w.heap.size + 1 + 1 + 1) 33 #[.bool r2.di, .bool r2.ru, .int .i64 r2.co, .int .i64 r2.er, .int .u32 r2.nr, .int .u32 r2.ar] (0, 0) _ rfl ?hz1_ Try.underlying33 rfl (by kernel_rfl) (.tmp .nil)))) rfl ?_
  case hy1_ => (repeat (with_reducible first | exact HY.out | refine blk_drewN ?_ _ | refine blk_drew ?_ | refine far9 ?_ (by assumption) _ _ _ _ _ _ _ _ _ | refine far6 ?_ (by assumption) _ _ _ _ _ _ | apply put9 | apply put6 | refine blk_alloc ?_ _))
  case hz1_ => (repeat (with_reducible first | exact HH.out | refine blk_drewN ?_ _ | refine blk_drew ?_ | refine far9 ?_ (by assumption) _ _ _ _ _ _ _ _ _ | refine far6 ?_ (by assumption) _ _ _ _ _ _ | apply put9 | apply put6 | refine blk_alloc ?_ _))
  refine ⟨.slice A1 m c1, rfl, ?_, ?_⟩
  · refine Kd.R_mono (ok := fun b => b ≠ w.heap.size + 1 + 1) (St.R (S := fun k => k = w.heap.size + 1 + 1 ∨ k = w.heap.size + 1 + 1 + 1) (W := w1) (X := w.heap.size + 1 + 1) ?_ HR.out (fun k hk hq => hq.elim hk.1 hk.2) (fun k hk => hk.1)) (fun _ _ => trivial)
    (repeat (with_reducible first | exact St.rfl' _ _ _ | refine St.set ?_ (by omega) (by first | exact Or.inl rfl | exact Or.inl (Or.inl rfl) | exact Or.inl (Or.inr rfl) | (right; omega)) _ _ | refine St.drewN ?_ _ | refine St.drew ?_ | refine St.alloc ?_ (by omega) _))
  · (repeat (with_reducible first | exact HB.out | refine Below.setCell ?_ (by dsimp only; omega) _ | refine below_drewN' ?_ _ | refine below_drew' ?_ | refine below_alloc ?_ _))
set_option maxHeartbeats 2000000 in
set_option maxRecDepth 100000 in
theorem send_c (co er nr ar : Int) (s : Sg) (A : Option Addr) (c : Nat) (w : World) (hr0 : Kd.C Kd.bool w A s.l.length s.l) (hc0 : s.l.length ≤ c) :
    Calls Try.prog 10 #[.agg #[.int .i64 s.ac, .bool s.op, .bool s.bl, .bool s.pe, .int .i64 s.co, .int .i64 s.er, .int .u32 s.nr, .int .u32 s.ar, .slice A s.l.length c], .agg #[.int .i64 co, .int .i64 er, .int .u32 nr, .int .u32 ar]] w (Outs (s.withV (s.sendD co er nr ar)) w) := by
  obtain ⟨r, hr⟩ : ∃ r, r = s.withV (s.sendD co er nr ar) := ⟨_, rfl⟩
  rw [← hr]
  have HRV := Aside0.mk hr
  clear hr
  have HR0 := Aside0.mk hr0
  have HC0 := Aside0.mk hc0
  clear hr0 hc0
  go_enter Try.func10, Try.ntmps10
  go_wp2_with fail
  refine (with_send co er nr ar s A c _ (w.heap.size + 1) ?hc0_ (Kd.C_alloc (Kd.C_alloc (Kd.C_alloc (Kd.C_alloc HR0.out _) _) _) _) HC0.out).mono ?_
  case hc0_ => repeat (with_reducible first | exact heap_new_at _ _ _ (by simp) | refine blk_alloc ?_ _)
  rw [← HRV.out]
  rintro e w1 ⟨v1, rfl, hR, hB⟩
  have HY : Aside0 (w1.heap[w.heap.size + 1 + 1]? = some (.cells #[.int .i64 0, .bool false, .bool false, .bool false, .int .i64 0, .int .i64 0, .int .u32 0, .int .u32 0, .slice none 0 0] 27 (0, 0))) := ⟨by refine (hB.block _ (by simp only [World.size_alloc]; omega)).trans ?_; (repeat (with_reducible first | exact heap_new_at _ _ _ (by simp) | refine blk_alloc ?_ _))⟩
  have HH : Aside0 (w1.heap[w.heap.size + 1 + 1 + 1]? = some (.cells #[.bool false, .bool false, .int .i64 0, .int .i64 0, .int .u32 0, .int .u32 0] 33 (0, 0))) := ⟨by refine (hB.block _ (by simp only [World.size_alloc]; omega)).trans ?_; (repeat (with_reducible first | exact heap_new_at _ _ _ (by simp) | refine blk_alloc ?_ _))⟩
  have HB : Aside0 (Below w.heap.size w w1) := ⟨(below_alloc (below_alloc (below_alloc (below_alloc (Below.refl _ _) _) _) _) _).trans (hB.mono (by simp only [World.size_alloc]; omega))⟩
  have HR : Aside0 (Kd.R Kd.bool 4 w1 w.heap.size (fun k => k ≠ w.heap.size + 1 + 1 ∧ k ≠ w.heap.size + 1 + 1 + 1) v1 r.1.l) := ⟨Kd.R_lower (Kd.R_mono (Kd.R_bound hR) (fun k hk => by have := hk.2.1; simp only [World.size_alloc] at this; omega)) (by simp only [World.size_alloc]; omega)⟩
  clear hR hB HRV HR0 HC0
  obtain ⟨r1, r2, r3⟩ := r
  dsimp only at HR ⊢
  obtain ⟨A1, c1, rfl⟩ := Kd.R_slice HR.out
  obtain ⟨m, hm⟩ : ∃ m, m = r1.l.length := ⟨_, rfl⟩
  rw [← hm] at HR ⊢
  clear hm
  have hltY := blk_lt HY.out
  have hs1 := HB.out.size
  have hcy0 : w1.cell? ⟨w.heap.size + 1 + 1, 0, none⟩ = some (.int .i64 0) := blk_cell HY.out 0
  have hfy0 : w1.frozen? ⟨w.heap.size + 1 + 1, 0, none⟩ = false := blk_frozen HY.out 0
  have hcy1 : w1.cell? ⟨w.heap.size + 1 + 1, 1, none⟩ = some (.bool false) := blk_cell HY.out 1
  have hfy1 : w1.frozen? ⟨w.heap.size + 1 + 1, 1, none⟩ = false := blk_frozen HY.out 1
  have hcy2 : w1.cell? ⟨w.heap.size + 1 + 1, 2, none⟩ = some (.bool false) := blk_cell HY.out 2
  have hfy2 : w1.frozen? ⟨w.heap.size + 1 + 1, 2, none⟩ = false := blk_frozen HY.out 2
  have hcy3 : w1.cell? ⟨w.heap.size + 1 + 1, 3, none⟩ = some (.bool false) := blk_cell HY.out 3
  have hfy3 : w1.frozen? ⟨w.heap.size + 1 + 1, 3, none⟩ = false := blk_frozen HY.out 3
  have hcy4 : w1.cell? ⟨w.heap.size + 1 + 1, 4, none⟩ = some (.int .i64 0) := blk_cell HY.out 4
  have hfy4 : w1.frozen? ⟨w.heap.size + 1 + 1, 4, none⟩ = false := blk_frozen HY.out 4
  have hcy5 : w1.cell? ⟨w.heap.size + 1 + 1, 5, none⟩ = some (.int .i64 0) := blk_cell HY.out 5
  have hfy5 : w1.frozen? ⟨w.heap.size + 1 + 1, 5, none⟩ = false := blk_frozen HY.out 5
  have hcy6 : w1.cell? ⟨w.heap.size + 1 + 1, 6, none⟩ = some (.int .u32 0) := blk_cell HY.out 6
  have hfy6 : w1.frozen? ⟨w.heap.size + 1 + 1, 6, none⟩ = false := blk_frozen HY.out 6
  have hcy7 : w1.cell? ⟨w.heap.size + 1 + 1, 7, none⟩ = some (.int .u32 0) := blk_cell HY.out 7
  have hfy7 : w1.frozen? ⟨w.heap.size + 1 + 1, 7, none⟩ = false := blk_frozen HY.out 7
  have hcy8 : w1.cell? ⟨w.heap.size + 1 + 1, 8, none⟩ = some (.slice none 0 0) := blk_cell HY.out 8
  have hfy8 : w1.frozen? ⟨w.heap.size + 1 + 1, 8, none⟩ = false := blk_frozen HY.out 8
  have hcz0 : w1.cell? ⟨w.heap.size + 1 + 1 + 1, 0, none⟩ = some (.bool false) := blk_cell HH.out 0
  have hfz0 : w1.frozen? ⟨w.heap.size + 1 + 1 + 1, 0, none⟩ = false := blk_frozen HH.out 0
  have hcz1 : w1.cell? ⟨w.heap.size + 1 + 1 + 1, 1, none⟩ = some (.bool false) := blk_cell HH.out 1
  have hfz1 : w1.frozen? ⟨w.heap.size + 1 + 1 + 1, 1, none⟩ = false := blk_frozen HH.out 1
  have hcz2 : w1.cell? ⟨w.heap.size + 1 + 1 + 1, 2, none⟩ = some (.int .i64 0) := blk_cell HH.out 2
  have hfz2 : w1.frozen? ⟨w.heap.size + 1 + 1 + 1, 2, none⟩ = false := blk_frozen HH.out 2
  have hcz3 : w1.cell? ⟨w.heap.size + 1 + 1 + 1, 3, none⟩ = some (.int .i64 0) := blk_cell HH.out 3
  have hfz3 : w1.frozen? ⟨w.heap.size + 1 + 1 + 1, 3, none⟩ = false := blk_frozen HH.out 3
  have hcz4 : w1.cell? ⟨w.heap.size + 1 + 1 + 1, 4, none⟩ = some (.int .u32 0) := blk_cell HH.out 4
  have hfz4 : w1.frozen? ⟨w.heap.size + 1 + 1 + 1, 4, none⟩ = false := blk_frozen HH.out 4
  have hcz5 : w1.cell? ⟨w.heap.size + 1 + 1 + 1, 5, none⟩ = some (.int .u32 0) := blk_cell HH.out 5
  have hfz5 : w1.frozen? ⟨w.heap.size + 1 + 1 + 1, 5, none⟩ = false := blk_frozen HH.out 5
  have hltH := blk_lt HH.out
  have nYH : w.heap.size + 1 + 1 ≠ w.heap.size + 1 + 1 + 1 := by omega
  have nHY : w.heap.size + 1 + 1 + 1 ≠ w.heap.size + 1 + 1 := by omega
  go_wp2
  refine bodyPost_ret (results_list (rs := [.cell 4 27, .cell 5 33, .tmp 6]) rfl (by simp) (.cell (w.heap.size + 1 + 1) 27 #[.int .i64 r1.ac, .bool r1.op, .bool r1.bl, .bool r1.pe, .int .i64 r1.co, .int .i64 r1.er, .int .u32 r1.nr, .int .u32 r1.ar, .slice A1 m c1] (0, 0) _ rfl ?hy2_ Try.underlying27 rfl (by kernel_rfl) (.cell (w.heap.size + 1 + 1 + 1) 33 #[.bool r2.di, .bool r2.ru, .int .i64 r2.co, .int .i64 r2.er, .int .u32 r2.nr, .int .u32 r2.ar] (0, 0) _ rfl ?hz2_ Try.underlying33 rfl (by kernel_rfl) (.tmp .nil)))) rfl ?_
  case hy2_ => (repeat (with_reducible first | exact HY.out | refine blk_drewN ?_ _ | refine blk_drew ?_ | refine far9 ?_ (by assumption) _ _ _ _ _ _ _ _ _ | refine far6 ?_ (by assumption) _ _ _ _ _ _ | apply put9 | apply put6 | refine blk_alloc ?_ _))
  case hz2_ => (repeat (with_reducible first | exact HH.out | refine blk_drewN ?_ _ | refine blk_drew ?_ | refine far9 ?_ (by assumption) _ _ _ _ _ _ _ _ _ | refine far6 ?_ (by assumption) _ _ _ _ _ _ | apply put9 | apply put6 | refine blk_alloc ?_ _))
  refine ⟨.slice A1 m c1, rfl, ?_, ?_⟩
  · refine Kd.R_mono (ok := fun b => b ≠ w.heap.size + 1 + 1) (St.R (S := fun k => k = w.heap.size + 1 + 1 ∨ k = w.heap.size + 1 + 1 + 1) (W := w1) (X := w.heap.size + 1 + 1) ?_ HR.out (fun k hk hq => hq.elim hk.1 hk.2) (fun k hk => hk.1)) (fun _ _ => trivial)
    (repeat (with_reducible first | exact St.rfl' _ _ _ | refine St.set ?_ (by omega) (by first | exact Or.inl rfl | exact Or.inl (Or.inl rfl) | exact Or.inl (Or.inr rfl) | (right; omega)) _ _ | refine St.drewN ?_ _ | refine St.drew ?_ | refine St.alloc ?_ (by omega) _))
  · (repeat (with_reducible first | exact HB.out | refine Below.setCell ?_ (by dsimp only; omega) _ | refine below_drewN' ?_ _ | refine below_drew' ?_ | refine below_alloc ?_ _))
set_option maxHeartbeats 2000000 in
set_option maxRecDepth 100000 in
theorem force_c (co er nr ar : Int) (s : Sg) (A : Option Addr) (c : Nat) (w : World) (hr0 : Kd.C Kd.bool w A s.l.length s.l) (hc0 : s.l.length ≤ c) :
    Calls Try.prog 13 #[.agg #[.int .i64 s.ac, .bool s.op, .bool s.bl, .bool s.pe, .int .i64 s.co, .int .i64 s.er, .int .u32 s.nr, .int .u32 s.ar, .slice A s.l.length c], .agg #[.int .i64 co, .int .i64 er, .int .u32 nr, .int .u32 ar]] w (Outs (s.withV (s.forceD co er nr ar)) w) := by
  obtain ⟨r, hr⟩ : ∃ r, r = s.withV (s.forceD co er nr ar) := ⟨_, rfl⟩
  rw [← hr]
  have HRV := Aside0.mk hr
  clear hr
  have HR0 := Aside0.mk hr0
  have HC0 := Aside0.mk hc0
  clear hr0 hc0
  go_enter Try.func13, Try.ntmps13
  go_wp2_with fail
  refine (with_force co er nr ar s A c _ (w.heap.size + 1) ?hc0_ (Kd.C_alloc (Kd.C_alloc (Kd.C_alloc (Kd.C_alloc HR0.out _) _) _) _) HC0.out).mono ?_
  case hc0_ => repeat (with_reducible first | exact heap_new_at _ _ _ (by simp) | refine blk_alloc ?_ _)
  rw [← HRV.out]
  rintro e w1 ⟨v1, rfl, hR, hB⟩
  have HY : Aside0 (w1.heap[w.heap.size + 1 + 1]? = some (.cells #[.int .i64 0, .bool false, .bool false, .bool false, .int .i64 0, .int .i64 0, .int .u32 0, .int .u32 0, .slice none 0 0] 27 (0, 0))) := ⟨by refine (hB.block _ (by simp only [World.size_alloc]; omega)).trans ?_; (repeat (with_reducible first | exact heap_new_at _ _ _ (by simp) | refine blk_alloc ?_ _))⟩
  have HH : Aside0 (w1.heap[w.heap.size + 1 + 1 + 1]? = some (.cells #[.bool false, .bool false, .int .i64 0, .int .i64 0, .int .u32 0, .int .u32 0] 33 (0, 0))) := ⟨by refine (hB.block _ (by simp only [World.size_alloc]; omega)).trans ?_; (repeat (with_reducible first | exact heap_new_at _ _ _ (by simp) | refine blk_alloc ?_ _))⟩
  have HB : Aside0 (Below w.heap.size w w1) := ⟨(below_alloc (below_alloc (below_alloc (below_alloc (Below.refl _ _) _) _) _) _).trans (hB.mono (by simp only [World.size_alloc]; omega))⟩
  have HR : Aside0 (Kd.R Kd.bool 4 w1 w.heap.size (fun k => k ≠ w.heap.size + 1 + 1 ∧ k ≠ w.heap.size + 1 + 1 + 1) v1 r.1.l) := ⟨Kd.R_lower (Kd.R_mono (Kd.R_bound hR) (fun k hk => by have := hk.2.1; simp only [World.size_alloc] at this; omega)) (by simp only [World.size_alloc]; omega)⟩
  clear hR hB HRV HR0 HC0
  obtain ⟨r1, r2, r3⟩ := r
  dsimp only at HR ⊢
  obtain ⟨A1, c1, rfl⟩ := Kd.R_slice HR.out
  obtain ⟨m, hm⟩ : ∃ m, m = r1.l.length := ⟨_, rfl⟩
  rw [← hm] at HR ⊢
  clear hm
  have hltY := blk_lt HY.out
  have hs1 := HB.out.size
  have hcy0 : w1.cell? ⟨w.heap.size + 1 + 1, 0, none⟩ = some (.int .i64 0) := blk_cell HY.out 0
  have hfy0 : w1.frozen? ⟨w.heap.size + 1 + 1, 0, none⟩ = false := blk_frozen HY.out 0
  have hcy1 : w1.cell? ⟨w.heap.size + 1 + 1, 1, none⟩ = some (.bool false) := blk_cell HY.out 1
  have hfy1 : w1.frozen? ⟨w.heap.size + 1 + 1, 1, none⟩ = false := blk_frozen HY.out 1
  have hcy2 : w1.cell? ⟨w.heap.size + 1 + 1, 2, none⟩ = some (.bool false) := blk_cell HY.out 2
  have hfy2 : w1.frozen? ⟨w.heap.size + 1 + 1, 2, none⟩ = false := blk_frozen HY.out 2
  have hcy3 : w1.cell? ⟨w.heap.size + 1 + 1, 3, none⟩ = some (.bool false) := blk_cell HY.out 3
  have hfy3 : w1.frozen? ⟨w.heap.size + 1 + 1, 3, none⟩ = false := blk_frozen HY.out 3
  have hcy4 : w1.cell? ⟨w.heap.size + 1 + 1, 4, none⟩ = some (.int .i64 0) := blk_cell HY.out 4
  have hfy4 : w1.frozen? ⟨w.heap.size + 1 + 1, 4, none⟩ = false := blk_frozen HY.out 4
  have hcy5 : w1.cell? ⟨w.heap.size + 1 + 1, 5, none⟩ = some (.int .i64 0) := blk_cell HY.out 5
  have hfy5 : w1.frozen? ⟨w.heap.size + 1 + 1, 5, none⟩ = false := blk_frozen HY.out 5
  have hcy6 : w1.cell? ⟨w.heap.size + 1 + 1, 6, none⟩ = some (.int .u32 0) := blk_cell HY.out 6
  have hfy6 : w1.frozen? ⟨w.heap.size + 1 + 1, 6, none⟩ = false := blk_frozen HY.out 6
  have hcy7 : w1.cell? ⟨w.heap.size + 1 + 1, 7, none⟩ = some (.int .u32 0) := blk_cell HY.out 7
  have hfy7 : w1.frozen? ⟨w.heap.size + 1 + 1, 7, none⟩ = false := blk_frozen HY.out 7
  have hcy8 : w1.cell? ⟨w.heap.size + 1 + 1, 8, none⟩ = some (.slice none 0 0) := blk_cell HY.out 8
  have hfy8 : w1.frozen? ⟨w.heap.size + 1 + 1, 8, none⟩ = false := blk_frozen HY.out 8
  have hcz0 : w1.cell? ⟨w.heap.size + 1 + 1 + 1, 0, none⟩ = some (.bool false) := blk_cell HH.out 0
  have hfz0 : w1.frozen? ⟨w.heap.size + 1 + 1 + 1, 0, none⟩ = false := blk_frozen HH.out 0
  have hcz1 : w1.cell? ⟨w.heap.size + 1 + 1 + 1, 1, none⟩ = some (.bool false) := blk_cell HH.out 1
  have hfz1 : w1.frozen? ⟨w.heap.size + 1 + 1 + 1, 1, none⟩ = false := blk_frozen HH.out 1
  have hcz2 : w1.cell? ⟨w.heap.size + 1 + 1 + 1, 2, none⟩ = some (.int .i64 0) := blk_cell HH.out 2
  have hfz2 : w1.frozen? ⟨w.heap.size + 1 + 1 + 1, 2, none⟩ = false := blk_frozen HH.out 2
  have hcz3 : w1.cell? ⟨w.heap.size + 1 + 1 + 1, 3, none⟩ = some (.int .i64 0) := blk_cell HH.out 3
  have hfz3 : w1.frozen? ⟨w.heap.size + 1 + 1 + 1, 3, none⟩ = false := blk_frozen HH.out 3
  have hcz4 : w1.cell? ⟨w.heap.size + 1 + 1 + 1, 4, none⟩ = some (.int .u32 0) := blk_cell HH.out 4
  have hfz4 : w1.frozen? ⟨w.heap.size + 1 + 1 + 1, 4, none⟩ = false := blk_frozen HH.out 4
  have hcz5 : w1.cell? ⟨w.heap.size + 1 + 1 + 1, 5, none⟩ = some (.int .u32 0) := blk_cell HH.out 5
  have hfz5 : w1.frozen? ⟨w.heap.size + 1 + 1 + 1, 5, none⟩ = false := blk_frozen HH.out 5
  have hltH := blk_lt HH.out
  have nYH : w.heap.size + 1 + 1 ≠ w.heap.size + 1 + 1 + 1 := by omega
  have nHY : w.heap.size + 1 + 1 + 1 ≠ w.heap.size + 1 + 1 := by omega
  go_wp2
  refine bodyPost_ret (results_list (rs := [.cell 4 27, .cell 5 33, .tmp 6]) rfl (by simp) (.cell (w.heap.size + 1 + 1) 27 #[.int .i64 r1.ac, .bool r1.op, .bool r1.bl, .bool r1.pe, .int .i64 r1.co, .int .i64 r1.er, .int .u32 r1.nr, .int .u32 r1.ar, .slice A1 m c1] (0, 0) _ rfl ?hy3_ Try.underlying27 rfl (by kernel_rfl) (.cell (w.heap.size + 1 + 1 + 1) 33 #[.bool r2.di, .bool r2.ru, .int .i64 r2.co, .int .i64 r2.er, .int .u32 r2.nr, .int .u32 r2.ar] (0, 0) _ rfl ?hz3_ Try.underlying33 rfl (by kernel_rfl) (.tmp .nil)))) rfl ?_
  case hy3_ => (repeat (with_reducible first | exact HY.out | refine blk_drewN ?_ _ | refine blk_drew ?_ | refine far9 ?_ (by assumption) _ _ _ _ _ _ _ _ _ | refine far6 ?_ (by assumption) _ _ _ _ _ _ | apply put9 | apply put6 | refine blk_alloc ?_ _))
  case hz3_ => (repeat (with_reducible first | exact HH.out | refine blk_drewN ?_ _ | refine blk_drew ?_ | refine far9 ?_ (by assumption) _ _ _ _ _ _ _ _ _ | refine far6 ?_ (by assumption) _ _ _ _ _ _ | apply put9 | apply put6 | refine blk_alloc ?_ _))
  refine ⟨.slice A1 m c1, rfl, ?_, ?_⟩
  · refine Kd.R_mono (ok := fun b => b ≠ w.heap.size + 1 + 1) (St.R (S := fun k => k = w.heap.size + 1 + 1 ∨ k = w.heap.size + 1 + 1 + 1) (W := w1) (X := w.heap.size + 1 + 1) ?_ HR.out (fun k hk hq => hq.elim hk.1 hk.2) (fun k hk => hk.1)) (fun _ _ => trivial)
    (repeat (with_reducible first | exact St.rfl' _ _ _ | refine St.set ?_ (by omega) (by first | exact Or.inl rfl | exact Or.inl (Or.inl rfl) | exact Or.inl (Or.inr rfl) | (right; omega)) _ _ | refine St.drewN ?_ _ | refine St.drew ?_ | refine St.alloc ?_ (by omega) _))
  · (repeat (with_reducible first | exact HB.out | refine Below.setCell ?_ (by dsimp only; omega) _ | refine below_drewN' ?_ _ | refine below_drew' ?_ | refine below_alloc ?_ _))
set_option maxHeartbeats 2000000 in
set_option maxRecDepth 100000 in
theorem return_c  (s : Sg) (A : Option Addr) (c : Nat) (w : World) (hr0 : Kd.C Kd.bool w A s.l.length s.l) (hc0 : s.l.length ≤ c) :
    Calls Try.prog 14 #[.agg #[.int .i64 s.ac, .bool s.op, .bool s.bl, .bool s.pe, .int .i64 s.co, .int .i64 s.er, .int .u32 s.nr, .int .u32 s.ar, .slice A s.l.length c]] w (Outs (s.withV s.retD) w) := by
  obtain ⟨r, hr⟩ : ∃ r, r = s.withV s.retD := ⟨_, rfl⟩
  rw [← hr]
  have HRV := Aside0.mk hr
  clear hr
  have HR0 := Aside0.mk hr0
  have HC0 := Aside0.mk hc0
  clear hr0 hc0
  go_enter Try.func14, Try.ntmps14
  go_wp2_with fail
  refine (with_return  s A c _   (Kd.C_alloc (Kd.C_alloc (Kd.C_alloc HR0.out _) _) _) HC0.out).mono ?_
  rw [← HRV.out]
  rintro e w1 ⟨v1, rfl, hR, hB⟩
  have HY : Aside0 (w1.heap[w.heap.size + 1]? = some (.cells #[.int .i64 0, .bool false, .bool false, .bool false, .int .i64 0, .int .i64 0, .int .u32 0, .int .u32 0, .slice none 0 0] 27 (0, 0))) := ⟨by refine (hB.block _ (by simp only [World.size_alloc]; omega)).trans ?_; (repeat (with_reducible first | exact heap_new_at _ _ _ (by simp) | refine blk_alloc ?_ _))⟩
  have HH : Aside0 (w1.heap[w.heap.size + 1 + 1]? = some (.cells #[.bool false, .bool false, .int .i64 0, .int .i64 0, .int .u32 0, .int .u32 0] 33 (0, 0))) := ⟨by refine (hB.block _ (by simp only [World.size_alloc]; omega)).trans ?_; (repeat (with_reducible first | exact heap_new_at _ _ _ (by simp) | refine blk_alloc ?_ _))⟩
  have HB : Aside0 (Below w.heap.size w w1) := ⟨(below_alloc (below_alloc (below_alloc (Below.refl _ _) _) _) _).trans (hB.mono (by simp only [World.size_alloc]; omega))⟩
  have HR : Aside0 (Kd.R Kd.bool 4 w1 w.heap.size (fun k => k ≠ w.heap.size + 1 ∧ k ≠ w.heap.size + 1 + 1) v1 r.1.l) := ⟨Kd.R_lower (Kd.R_mono (Kd.R_bound hR) (fun k hk => by have := hk.2.1; simp only [World.size_alloc] at this; omega)) (by simp only [World.size_alloc]; omega)⟩
  clear hR hB HRV HR0 HC0
  obtain ⟨r1, r2, r3⟩ := r
  dsimp only at HR ⊢
  obtain ⟨A1, c1, rfl⟩ := Kd.R_slice HR.out
  obtain ⟨m, hm⟩ : ∃ m, m = r1.l.length := ⟨_, rfl⟩
  rw [← hm] at HR ⊢
  clear hm
  have hltY := blk_lt HY.out
  have hs1 := HB.out.size
  have hcy0 : w1.cell? ⟨w.heap.size + 1, 0, none⟩ = some (.int .i64 0) := blk_cell HY.out 0
  have hfy0 : w1.frozen? ⟨w.heap.size + 1, 0, none⟩ = false := blk_frozen HY.out 0
  have hcy1 : w1.cell? ⟨w.heap.size + 1, 1, none⟩ = some (.bool false) := blk_cell HY.out 1
  have hfy1 : w1.frozen? ⟨w.heap.size + 1, 1, none⟩ = false := blk_frozen HY.out 1
  have hcy2 : w1.cell? ⟨w.heap.size + 1, 2, none⟩ = some (.bool false) := blk_cell HY.out 2
  have hfy2 : w1.frozen? ⟨w.heap.size + 1, 2, none⟩ = false := blk_frozen HY.out 2
  have hcy3 : w1.cell? ⟨w.heap.size + 1, 3, none⟩ = some (.bool false) := blk_cell HY.out 3
  have hfy3 : w1.frozen? ⟨w.heap.size + 1, 3, none⟩ = false := blk_frozen HY.out 3
  have hcy4 : w1.cell? ⟨w.heap.size + 1, 4, none⟩ = some (.int .i64 0) := blk_cell HY.out 4
  have hfy4 : w1.frozen? ⟨w.heap.size + 1, 4, none⟩ = false := blk_frozen HY.out 4
  have hcy5 : w1.cell? ⟨w.heap.size + 1, 5, none⟩ = some (.int .i64 0) := blk_cell HY.out 5
  have hfy5 : w1.frozen? ⟨w.heap.size + 1, 5, none⟩ = false := blk_frozen HY.out 5
  have hcy6 : w1.cell? ⟨w.heap.size + 1, 6, none⟩ = some (.int .u32 0) := blk_cell HY.out 6
  have hfy6 : w1.frozen? ⟨w.heap.size + 1, 6, none⟩ = false := blk_frozen HY.out 6
  have hcy7 : w1.cell? ⟨w.heap.size + 1, 7, none⟩ = some (.int .u32 0) := blk_cell HY.out 7
  have hfy7 : w1.frozen? ⟨w.heap.size + 1, 7, none⟩ = false := blk_frozen HY.out 7
  have hcy8 : w1.cell? ⟨w.heap.size + 1, 8, none⟩ = some (.slice none 0 0) := blk_cell HY.out 8
  have hfy8 : w1.frozen? ⟨w.heap.size + 1, 8, none⟩ = false := blk_frozen HY.out 8
  have hcz0 : w1.cell? ⟨w.heap.size + 1 + 1, 0, none⟩ = some (.bool false) := blk_cell HH.out 0
  have hfz0 : w1.frozen? ⟨w.heap.size + 1 + 1, 0, none⟩ = false := blk_frozen HH.out 0
  have hcz1 : w1.cell? ⟨w.heap.size + 1 + 1, 1, none⟩ = some (.bool false) := blk_cell HH.out 1
  have hfz1 : w1.frozen? ⟨w.heap.size + 1 + 1, 1, none⟩ = false := blk_frozen HH.out 1
  have hcz2 : w1.cell? ⟨w.heap.size + 1 + 1, 2, none⟩ = some (.int .i64 0) := blk_cell HH.out 2
  have hfz2 : w1.frozen? ⟨w.heap.size + 1 + 1, 2, none⟩ = false := blk_frozen HH.out 2
  have hcz3 : w1.cell? ⟨w.heap.size + 1 + 1, 3, none⟩ = some (.int .i64 0) := blk_cell HH.out 3
  have hfz3 : w1.frozen? ⟨w.heap.size + 1 + 1, 3, none⟩ = false := blk_frozen HH.out 3
  have hcz4 : w1.cell? ⟨w.heap.size + 1 + 1, 4, none⟩ = some (.int .u32 0) := blk_cell HH.out 4
  have hfz4 : w1.frozen? ⟨w.heap.size + 1 + 1, 4, none⟩ = false := blk_frozen HH.out 4
  have hcz5 : w1.cell? ⟨w.heap.size + 1 + 1, 5, none⟩ = some (.int .u32 0) := blk_cell HH.out 5
  have hfz5 : w1.frozen? ⟨w.heap.size + 1 + 1, 5, none⟩ = false := blk_frozen HH.out 5
  have hltH := blk_lt HH.out
  have nYH : w.heap.size + 1 ≠ w.heap.size + 1 + 1 := by omega
  have nHY : w.heap.size + 1 + 1 ≠ w.heap.size + 1 := by omega
  go_wp2
  refine bodyPost_ret (results_list (rs := [.cell 2 27, .cell 3 33, .tmp 4]) rfl (by simp) (.cell (w.heap.size + 1) 27 #[.int .i64 r1.ac, .bool r1.op, .bool r1.bl, .bool r1.pe, .int .i64 r1.co, .int .i64 r1.er, .int .u32 r1.nr, .int .u32 r1.ar, .slice A1 m c1] (0, 0) _ rfl ?hy4_ Try.underlying27 rfl (by kernel_rfl) (.cell (w.heap.size + 1 + 1) 33 #[.bool r2.di, .bool r2.ru, .int .i64 r2.co, .int .i64 r2.er, .int .u32 r2.nr, .int .u32 r2.ar] (0, 0) _ rfl ?hz4_ Try.underlying33 rfl (by kernel_rfl) (.tmp .nil)))) rfl ?_
  case hy4_ => (repeat (with_reducible first | exact HY.out | refine blk_drewN ?_ _ | refine blk_drew ?_ | refine far9 ?_ (by assumption) _ _ _ _ _ _ _ _ _ | refine far6 ?_ (by assumption) _ _ _ _ _ _ | apply put9 | apply put6 | refine blk_alloc ?_ _))
  case hz4_ => (repeat (with_reducible first | exact HH.out | refine blk_drewN ?_ _ | refine blk_drew ?_ | refine far9 ?_ (by assumption) _ _ _ _ _ _ _ _ _ | refine far6 ?_ (by assumption) _ _ _ _ _ _ | apply put9 | apply put6 | refine blk_alloc ?_ _))
  refine ⟨.slice A1 m c1, rfl, ?_, ?_⟩
  · refine Kd.R_mono (ok := fun b => b ≠ w.heap.size + 1) (St.R (S := fun k => k = w.heap.size + 1 ∨ k = w.heap.size + 1 + 1) (W := w1) (X := w.heap.size + 1) ?_ HR.out (fun k hk hq => hq.elim hk.1 hk.2) (fun k hk => hk.1)) (fun _ _ => trivial)
    (repeat (with_reducible first | exact St.rfl' _ _ _ | refine St.set ?_ (by omega) (by first | exact Or.inl rfl | exact Or.inl (Or.inl rfl) | exact Or.inl (Or.inr rfl) | (right; omega)) _ _ | refine St.drewN ?_ _ | refine St.drew ?_ | refine St.alloc ?_ (by omega) _))
  · (repeat (with_reducible first | exact HB.out | refine Below.setCell ?_ (by dsimp only; omega) _ | refine below_drewN' ?_ _ | refine below_drew' ?_ | refine below_alloc ?_ _))
set_option maxHeartbeats 2000000 in
set_option maxRecDepth 100000 in
theorem set_c (a : Int) (q : Bool) (s : Sg) (A : Option Addr) (c : Nat) (w : World) (hr0 : Kd.C Kd.bool w A s.l.length s.l) (hc0 : s.l.length ≤ c) :
    Calls Try.prog 12 #[.agg #[.int .i64 s.ac, .bool s.op, .bool s.bl, .bool s.pe, .int .i64 s.co, .int .i64 s.er, .int .u32 s.nr, .int .u32 s.ar, .slice A s.l.length c], .int .i64 a, .bool q] w (Outs2 (s.withV (s.setD a q)) w) := by
  obtain ⟨r, hr⟩ : ∃ r, r = s.withV (s.setD a q) := ⟨_, rfl⟩
  rw [← hr]
  have HRV := Aside0.mk hr
  clear hr
  have HR0 := Aside0.mk hr0
  have HC0 := Aside0.mk hc0
  clear hr0 hc0
  go_enter Try.func12, Try.ntmps12
  go_wp2_with fail
  refine (with_set a q s A c _ (w.heap.size + 1) (w.heap.size + 1 + 1) ?hc0_ ?hc1_ (Kd.C_alloc (Kd.C_alloc (Kd.C_alloc (Kd.C_alloc HR0.out _) _) _) _) HC0.out).mono ?_
  case hc0_ => repeat (with_reducible first | exact heap_new_at _ _ _ (by simp) | refine blk_alloc ?_ _)
  case hc1_ => repeat (with_reducible first | exact heap_new_at _ _ _ (by simp) | refine blk_alloc ?_ _)
  rw [← HRV.out]
  rintro e w1 ⟨v1, rfl, hR, hB⟩
  have HY : Aside0 (w1.heap[w.heap.size + 1 + 1 + 1]? = some (.cells #[.int .i64 0, .bool false, .bool false, .bool false, .int .i64 0, .int .i64 0, .int .u32 0, .int .u32 0, .slice none 0 0] 27 (0, 0))) := ⟨by refine (hB.block _ (by simp only [World.size_alloc]; omega)).trans ?_; (repeat (with_reducible first | exact heap_new_at _ _ _ (by simp) | refine blk_alloc ?_ _))⟩
  have HB : Aside0 (Below w.heap.size w w1) := ⟨(below_alloc (below_alloc (below_alloc (below_alloc (Below.refl _ _) _) _) _) _).trans (hB.mono (by simp only [World.size_alloc]; omega))⟩
  have HR : Aside0 (Kd.R Kd.bool 4 w1 w.heap.size (fun k => k ≠ w.heap.size + 1 + 1 + 1) v1 r.1.l) := ⟨Kd.R_lower (Kd.R_mono (Kd.R_bound hR) (fun k hk => by have := hk.2.1; simp only [World.size_alloc] at this; omega)) (by simp only [World.size_alloc]; omega)⟩
  clear hR hB HRV HR0 HC0
  obtain ⟨r1, r2, r3⟩ := r
  dsimp only at HR ⊢
  obtain ⟨A1, c1, rfl⟩ := Kd.R_slice HR.out
  obtain ⟨m, hm⟩ : ∃ m, m = r1.l.length := ⟨_, rfl⟩
  rw [← hm] at HR ⊢
  clear hm
  obtain ⟨Y, hYe⟩ : ∃ Y, Y = w.heap.size + 1 + 1 + 1 := ⟨_, rfl⟩
  rw [← hYe] at HY HR ⊢
  have hnY : w.heap.size ≤ Y := by omega
  clear hYe
  have hltY := blk_lt HY.out
  have hs1 := HB.out.size
  have hcy0 : w1.cell? ⟨Y, 0, none⟩ = some (.int .i64 0) := blk_cell HY.out 0
  have hfy0 : w1.frozen? ⟨Y, 0, none⟩ = false := blk_frozen HY.out 0
  have hcy1 : w1.cell? ⟨Y, 1, none⟩ = some (.bool false) := blk_cell HY.out 1
  have hfy1 : w1.frozen? ⟨Y, 1, none⟩ = false := blk_frozen HY.out 1
  have hcy2 : w1.cell? ⟨Y, 2, none⟩ = some (.bool false) := blk_cell HY.out 2
  have hfy2 : w1.frozen? ⟨Y, 2, none⟩ = false := blk_frozen HY.out 2
  have hcy3 : w1.cell? ⟨Y, 3, none⟩ = some (.bool false) := blk_cell HY.out 3
  have hfy3 : w1.frozen? ⟨Y, 3, none⟩ = false := blk_frozen HY.out 3
  have hcy4 : w1.cell? ⟨Y, 4, none⟩ = some (.int .i64 0) := blk_cell HY.out 4
  have hfy4 : w1.frozen? ⟨Y, 4, none⟩ = false := blk_frozen HY.out 4
  have hcy5 : w1.cell? ⟨Y, 5, none⟩ = some (.int .i64 0) := blk_cell HY.out 5
  have hfy5 : w1.frozen? ⟨Y, 5, none⟩ = false := blk_frozen HY.out 5
  have hcy6 : w1.cell? ⟨Y, 6, none⟩ = some (.int .u32 0) := blk_cell HY.out 6
  have hfy6 : w1.frozen? ⟨Y, 6, none⟩ = false := blk_frozen HY.out 6
  have hcy7 : w1.cell? ⟨Y, 7, none⟩ = some (.int .u32 0) := blk_cell HY.out 7
  have hfy7 : w1.frozen? ⟨Y, 7, none⟩ = false := blk_frozen HY.out 7
  have hcy8 : w1.cell? ⟨Y, 8, none⟩ = some (.slice none 0 0) := blk_cell HY.out 8
  have hfy8 : w1.frozen? ⟨Y, 8, none⟩ = false := blk_frozen HY.out 8
  go_wp2
  refine bodyPost_ret (results_ct rfl _ _ (Y) 27 #[.int .i64 r1.ac, .bool r1.op, .bool r1.bl, .bool r1.pe, .int .i64 r1.co, .int .i64 r1.er, .int .u32 r1.nr, .int .u32 r1.ar, .slice A1 m c1] (0, 0) _ rfl ?hy_ Try.underlying27 rfl (by kernel_rfl)) rfl ?_
  case hy_ => (repeat (with_reducible first | exact HY.out | refine blk_drewN ?_ _ | refine blk_drew ?_ | refine far9 ?_ (by assumption) _ _ _ _ _ _ _ _ _ | refine far6 ?_ (by assumption) _ _ _ _ _ _ | apply put9 | apply put6 | refine blk_alloc ?_ _))
  refine ⟨.slice A1 m c1, rfl, ?_, ?_⟩
  · refine Kd.R_mono (ok := fun b => b ≠ Y) (St.R (S := fun k => k = Y) (W := w1) (X := Y) ?_ HR.out (fun k hk hq => hk hq) (fun k hk => hk)) (fun _ _ => trivial)
    (repeat (with_reducible first | exact St.rfl' _ _ _ | refine St.set ?_ (by omega) (by first | exact Or.inl rfl | exact Or.inl (Or.inl rfl) | exact Or.inl (Or.inr rfl) | (right; omega)) _ _ | refine St.drewN ?_ _ | refine St.drew ?_ | refine St.alloc ?_ (by omega) _))
  · (repeat (with_reducible first | exact HB.out | refine Below.setCell ?_ (by dsimp only; omega) _ | refine below_drewN' ?_ _ | refine below_drew' ?_ | refine below_alloc ?_ _))
set_option maxHeartbeats 2000000 in
set_option maxRecDepth 100000 in
theorem fork_c  (s : Sg) (A : Option Addr) (c : Nat) (w : World) (hr0 : Kd.C Kd.bool w A s.l.length s.l) (hc0 : s.l.length ≤ c) :
    Calls Try.prog 26 #[.agg #[.int .i64 s.ac, .bool s.op, .bool s.bl, .bool s.pe, .int .i64 s.co, .int .i64 s.er, .int .u32 s.nr, .int .u32 s.ar, .slice A s.l.length c]] w (Outs2 (s.withV s.forkD) w) := by
  obtain ⟨r, hr⟩ : ∃ r, r = s.withV s.forkD := ⟨_, rfl⟩
  rw [← hr]
  have HRV := Aside0.mk hr
  clear hr
  have HR0 := Aside0.mk hr0
  have HC0 := Aside0.mk hc0
  clear hr0 hc0
  go_enter Try.func26, Try.ntmps26
  go_wp2_with fail
  refine (with_fork  s A c _   (Kd.C_alloc (Kd.C_alloc HR0.out _) _) HC0.out).mono ?_
  rw [← HRV.out]
  rintro e w1 ⟨v1, rfl, hR, hB⟩
  have HY : Aside0 (w1.heap[w.heap.size + 1]? = some (.cells #[.int .i64 0, .bool false, .bool false, .bool false, .int .i64 0, .int .i64 0, .int .u32 0, .int .u32 0, .slice none 0 0] 27 (0, 0))) := ⟨by refine (hB.block _ (by simp only [World.size_alloc]; omega)).trans ?_; (repeat (with_reducible first | exact heap_new_at _ _ _ (by simp) | refine blk_alloc ?_ _))⟩
  have HB : Aside0 (Below w.heap.size w w1) := ⟨(below_alloc (below_alloc (Below.refl _ _) _) _).trans (hB.mono (by simp only [World.size_alloc]; omega))⟩
  have HR : Aside0 (Kd.R Kd.bool 4 w1 w.heap.size (fun k => k ≠ w.heap.size + 1) v1 r.1.l) := ⟨Kd.R_lower (Kd.R_mono (Kd.R_bound hR) (fun k hk => by have := hk.2.1; simp only [World.size_alloc] at this; omega)) (by simp only [World.size_alloc]; omega)⟩
  clear hR hB HRV HR0 HC0
  obtain ⟨r1, r2, r3⟩ := r
  dsimp only at HR ⊢
  obtain ⟨A1, c1, rfl⟩ := Kd.R_slice HR.out
  obtain ⟨m, hm⟩ : ∃ m, m = r1.l.length := ⟨_, rfl⟩
  rw [← hm] at HR ⊢
  clear hm
  obtain ⟨Y, hYe⟩ : ∃ Y, Y = w.heap.size + 1 := ⟨_, rfl⟩
  rw [← hYe] at HY HR ⊢
  have hnY : w.heap.size ≤ Y := by omega
  clear hYe
  have hltY := blk_lt HY.out
  have hs1 := HB.out.size
  have hcy0 : w1.cell? ⟨Y, 0, none⟩ = some (.int .i64 0) := blk_cell HY.out 0
  have hfy0 : w1.frozen? ⟨Y, 0, none⟩ = false := blk_frozen HY.out 0
  have hcy1 : w1.cell? ⟨Y, 1, none⟩ = some (.bool false) := blk_cell HY.out 1
  have hfy1 : w1.frozen? ⟨Y, 1, none⟩ = false := blk_frozen HY.out 1
  have hcy2 : w1.cell? ⟨Y, 2, none⟩ = some (.bool false) := blk_cell HY.out 2
  have hfy2 : w1.frozen? ⟨Y, 2, none⟩ = false := blk_frozen HY.out 2
  have hcy3 : w1.cell? ⟨Y, 3, none⟩ = some (.bool false) := blk_cell HY.out 3
  have hfy3 : w1.frozen? ⟨Y, 3, none⟩ = false := blk_frozen HY.out 3
  have hcy4 : w1.cell? ⟨Y, 4, none⟩ = some (.int .i64 0) := blk_cell HY.out 4
  have hfy4 : w1.frozen? ⟨Y, 4, none⟩ = false := blk_frozen HY.out 4
  have hcy5 : w1.cell? ⟨Y, 5, none⟩ = some (.int .i64 0) := blk_cell HY.out 5
  have hfy5 : w1.frozen? ⟨Y, 5, none⟩ = false := blk_frozen HY.out 5
  have hcy6 : w1.cell? ⟨Y, 6, none⟩ = some (.int .u32 0) := blk_cell HY.out 6
  have hfy6 : w1.frozen? ⟨Y, 6, none⟩ = false := blk_frozen HY.out 6
  have hcy7 : w1.cell? ⟨Y, 7, none⟩ = some (.int .u32 0) := blk_cell HY.out 7
  have hfy7 : w1.frozen? ⟨Y, 7, none⟩ = false := blk_frozen HY.out 7
  have hcy8 : w1.cell? ⟨Y, 8, none⟩ = some (.slice none 0 0) := blk_cell HY.out 8
  have hfy8 : w1.frozen? ⟨Y, 8, none⟩ = false := blk_frozen HY.out 8
  go_wp2
  refine bodyPost_ret (results_ct rfl _ _ (Y) 27 #[.int .i64 r1.ac, .bool r1.op, .bool r1.bl, .bool r1.pe, .int .i64 r1.co, .int .i64 r1.er, .int .u32 r1.nr, .int .u32 r1.ar, .slice A1 m c1] (0, 0) _ rfl ?hy_ Try.underlying27 rfl (by kernel_rfl)) rfl ?_
  case hy_ => (repeat (with_reducible first | exact HY.out | refine blk_drewN ?_ _ | refine blk_drew ?_ | refine far9 ?_ (by assumption) _ _ _ _ _ _ _ _ _ | refine far6 ?_ (by assumption) _ _ _ _ _ _ | apply put9 | apply put6 | refine blk_alloc ?_ _))
  refine ⟨.slice A1 m c1, rfl, ?_, ?_⟩
  · refine Kd.R_mono (ok := fun b => b ≠ Y) (St.R (S := fun k => k = Y) (W := w1) (X := Y) ?_ HR.out (fun k hk hq => hk hq) (fun k hk => hk)) (fun _ _ => trivial)
    (repeat (with_reducible first | exact St.rfl' _ _ _ | refine St.set ?_ (by omega) (by first | exact Or.inl rfl | exact Or.inl (Or.inl rfl) | exact Or.inl (Or.inr rfl) | (right; omega)) _ _ | refine St.drewN ?_ _ | refine St.drew ?_ | refine St.alloc ?_ (by omega) _))
  · (repeat (with_reducible first | exact HB.out | refine Below.setCell ?_ (by dsimp only; omega) _ | refine below_drewN' ?_ _ | refine below_drew' ?_ | refine below_alloc ?_ _))
set_option maxHeartbeats 2000000 in
set_option maxRecDepth 100000 in
theorem exec_c  (s : Sg) (A : Option Addr) (c : Nat) (w : World) (hr0 : Kd.C Kd.bool w A s.l.length s.l) (hc0 : s.l.length ≤ c) :
    Calls Try.prog 27 #[.agg #[.int .i64 s.ac, .bool s.op, .bool s.bl, .bool s.pe, .int .i64 s.co, .int .i64 s.er, .int .u32 s.nr, .int .u32 s.ar, .slice A s.l.length c]] w (Outs2 (s.withV s.execD) w) := by
  obtain ⟨r, hr⟩ : ∃ r, r = s.withV s.execD := ⟨_, rfl⟩
  rw [← hr]
  have HRV := Aside0.mk hr
  clear hr
  have HR0 := Aside0.mk hr0
  have HC0 := Aside0.mk hc0
  clear hr0 hc0
  go_enter Try.func27, Try.ntmps27
  go_wp2_with fail
  refine (with_exec  s A c _   (Kd.C_alloc (Kd.C_alloc HR0.out _) _) HC0.out).mono ?_
  rw [← HRV.out]
  rintro e w1 ⟨v1, rfl, hR, hB⟩
  have HY : Aside0 (w1.heap[w.heap.size + 1]? = some (.cells #[.int .i64 0, .bool false, .bool false, .bool false, .int .i64 0, .int .i64 0, .int .u32 0, .int .u32 0, .slice none 0 0] 27 (0, 0))) := ⟨by refine (hB.block _ (by simp only [World.size_alloc]; omega)).trans ?_; (repeat (with_reducible first | exact heap_new_at _ _ _ (by simp) | refine blk_alloc ?_ _))⟩
  have HB : Aside0 (Below w.heap.size w w1) := ⟨(below_alloc (below_alloc (Below.refl _ _) _) _).trans (hB.mono (by simp only [World.size_alloc]; omega))⟩
  have HR : Aside0 (Kd.R Kd.bool 4 w1 w.heap.size (fun k => k ≠ w.heap.size + 1) v1 r.1.l) := ⟨Kd.R_lower (Kd.R_mono (Kd.R_bound hR) (fun k hk => by have := hk.2.1; simp only [World.size_alloc] at this; omega)) (by simp only [World.size_alloc]; omega)⟩
  clear hR hB HRV HR0 HC0
  obtain ⟨r1, r2, r3⟩ := r
  dsimp only at HR ⊢
  obtain ⟨A1, c1, rfl⟩ := Kd.R_slice HR.out
  obtain ⟨m, hm⟩ : ∃ m, m = r1.l.length := ⟨_, rfl⟩
  rw [← hm] at HR ⊢
  clear hm
  obtain ⟨Y, hYe⟩ : ∃ Y, Y = w.heap.size + 1 := ⟨_, rfl⟩
  rw [← hYe] at HY HR ⊢
  have hnY : w.heap.size ≤ Y := by omega
  clear hYe
  have hltY := blk_lt HY.out
  have hs1 := HB.out.size
  have hcy0 : w1.cell? ⟨Y, 0, none⟩ = some (.int .i64 0) := blk_cell HY.out 0
  have hfy0 : w1.frozen? ⟨Y, 0, none⟩ = false := blk_frozen HY.out 0
  have hcy1 : w1.cell? ⟨Y, 1, none⟩ = some (.bool false) := blk_cell HY.out 1
  have hfy1 : w1.frozen? ⟨Y, 1, none⟩ = false := blk_frozen HY.out 1
  have hcy2 : w1.cell? ⟨Y, 2, none⟩ = some (.bool false) := blk_cell HY.out 2
  have hfy2 : w1.frozen? ⟨Y, 2, none⟩ = false := blk_frozen HY.out 2
  have hcy3 : w1.cell? ⟨Y, 3, none⟩ = some (.bool false) := blk_cell HY.out 3
  have hfy3 : w1.frozen? ⟨Y, 3, none⟩ = false := blk_frozen HY.out 3
  have hcy4 : w1.cell? ⟨Y, 4, none⟩ = some (.int .i64 0) := blk_cell HY.out 4
  have hfy4 : w1.frozen? ⟨Y, 4, none⟩ = false := blk_frozen HY.out 4
  have hcy5 : w1.cell? ⟨Y, 5, none⟩ = some (.int .i64 0) := blk_cell HY.out 5
  have hfy5 : w1.frozen? ⟨Y, 5, none⟩ = false := blk_frozen HY.out 5
  have hcy6 : w1.cell? ⟨Y, 6, none⟩ = some (.int .u32 0) := blk_cell HY.out 6
  have hfy6 : w1.frozen? ⟨Y, 6, none⟩ = false := blk_frozen HY.out 6
  have hcy7 : w1.cell? ⟨Y, 7, none⟩ = some (.int .u32 0) := blk_cell HY.out 7
  have hfy7 : w1.frozen? ⟨Y, 7, none⟩ = false := blk_frozen HY.out 7
  have hcy8 : w1.cell? ⟨Y, 8, none⟩ = some (.slice none 0 0) := blk_cell HY.out 8
  have hfy8 : w1.frozen? ⟨Y, 8, none⟩ = false := blk_frozen HY.out 8
  go_wp2
  refine bodyPost_ret (results_ct rfl _ _ (Y) 27 #[.int .i64 r1.ac, .bool r1.op, .bool r1.bl, .bool r1.pe, .int .i64 r1.co, .int .i64 r1.er, .int .u32 r1.nr, .int .u32 r1.ar, .slice A1 m c1] (0, 0) _ rfl ?hy_ Try.underlying27 rfl (by kernel_rfl)) rfl ?_
  case hy_ => (repeat (with_reducible first | exact HY.out | refine blk_drewN ?_ _ | refine blk_drew ?_ | refine far9 ?_ (by assumption) _ _ _ _ _ _ _ _ _ | refine far6 ?_ (by assumption) _ _ _ _ _ _ | apply put9 | apply put6 | refine blk_alloc ?_ _))
  refine ⟨.slice A1 m c1, rfl, ?_, ?_⟩
  · refine Kd.R_mono (ok := fun b => b ≠ Y) (St.R (S := fun k => k = Y) (W := w1) (X := Y) ?_ HR.out (fun k hk hq => hk hq) (fun k hk => hk)) (fun _ _ => trivial)
    (repeat (with_reducible first | exact St.rfl' _ _ _ | refine St.set ?_ (by omega) (by first | exact Or.inl rfl | exact Or.inl (Or.inl rfl) | exact Or.inl (Or.inr rfl) | (right; omega)) _ _ | refine St.drewN ?_ _ | refine St.drew ?_ | refine St.alloc ?_ (by omega) _))
  · (repeat (with_reducible first | exact HB.out | refine Below.setCell ?_ (by dsimp only; omega) _ | refine below_drewN' ?_ _ | refine below_drew' ?_ | refine below_alloc ?_ _))
end Go.Proofs.Ytbpgpbbpeppjmaa.SG
