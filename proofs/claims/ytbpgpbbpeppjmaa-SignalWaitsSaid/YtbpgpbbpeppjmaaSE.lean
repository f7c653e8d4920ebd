import Derived.Test.YtbpgpbbpeppjmaaSD
namespace Go.Proofs.Ytbpgpbbpeppjmaa.SG
open Go.RowKit Go.Proofs.YtbpgpbbpeppjmaaW.PrintWords Go.Proofs.YtbpgpbbpeppjmaaW.PrintLast Go.Proofs.YtbpgpbbpeppjmaaW.PrintMore
set_option linter.unusedVariables false
set_option linter.unusedSimpArgs false
/-- May it be? 0, or the error. -/
def Sg.chk (s : Sg) : Int := if s.ac ≥ 0 ∧ s.ac ≤ 2 ∧ s.l.length ≤ 4 ∧ (s.op = true → s.ac = 2) ∧ (if s.pe = true then s.bl = true ∧ s.ac ≠ 1 else s.co = 0 ∧ s.er = 0 ∧ s.nr = 0 ∧ s.ar = 0) then 0 else 360
set_option maxHeartbeats 1000000 in
theorem check_f (s : Sg) : PB.signal_Check.f 5 s.ac s.op s.bl s.pe s.co s.er s.nr s.ar s.l = some s.chk := by
  obtain ⟨ac, op, bl, pe, co, er, nr, ar, l⟩ := s
  unfold PB.signal_Check.f Sg.chk
  simp only [PB.signal_Check.j0, PB.signal_Check.j1]
  by_cases h1 : ac ≥ 0
  · by_cases h2 : ac ≤ 2
    · by_cases h3 : l.length ≤ 4
      · have h3' : ((l.length : Int) ≤ 4) := by omega
        cases op <;> cases bl <;> cases pe <;> by_cases h4 : ac = 2 <;> by_cases h5 : ac = 1 <;> simp_all
        all_goals (try omega)
        all_goals (split <;> rename_i hq <;> simp_all)
      · have h3' : ¬ ((l.length : Int) ≤ 4) := by omega
        refine Eq.trans ?_ (congrArg some (if_neg (fun h => absurd h.2.2.1 h3)).symm)
        rw [if_pos h1, if_pos h2, decide_eq_false h3']
        cases op <;> cases bl <;> cases pe <;> simp
    · refine Eq.trans ?_ (congrArg some (if_neg (fun h => absurd h.2.1 h2)).symm)
      rw [if_pos h1, if_neg h2]
      cases op <;> cases bl <;> cases pe <;> simp
  · refine Eq.trans ?_ (congrArg some (if_neg (fun h => absurd h.1 h1)).symm)
    rw [if_neg h1]
    cases op <;> cases bl <;> cases pe <;> simp
theorem clone_f (l : List Bool) (h : l.length < 1000) : PB.slices_Clone_bool_bool.f l = some l := by
  unfold PB.slices_Clone_bool_bool.f
  simp only [Option.bind_some, List.length_nil, List.nil_append]
  rw [if_pos (by omega)]
def zeroS : Sg := ⟨0, false, false, false, 0, 0, 0, 0, []⟩
/-- What comes of a change d of a signal s. -/
def Sg.withV (s : Sg) (d : Sg × Ht × Int) : Sg × Ht × Int := if s.chk = 0 then (if d.2.2 = 0 then d else (zeroS, nohit, d.2.2)) else (zeroS, nohit, s.chk)
theorem far9 {W : World} {g Y : Nat} {ob : Obj} (h : W.heap[g]? = some ob) (hne : g ≠ Y) (x0 x1 x2 x3 x4 x5 x6 x7 x8 : Value) : ((((((((((W.setCell ⟨Y, 0, none⟩ x0).setCell ⟨Y, 1, none⟩ x1).setCell ⟨Y, 2, none⟩ x2).setCell ⟨Y, 3, none⟩ x3).setCell ⟨Y, 4, none⟩ x4).setCell ⟨Y, 5, none⟩ x5).setCell ⟨Y, 6, none⟩ x6).setCell ⟨Y, 7, none⟩ x7).setCell ⟨Y, 8, none⟩ x8)).heap[g]? = some ob := by
  repeat (with_reducible first | exact h | refine (Below.heap_setCell _ _ _ _ hne).trans ?_)
theorem put9 {W : World} {Y t : Nat} {z0 z1 z2 z3 z4 z5 z6 z7 z8 : Value} (h : W.heap[Y]? = some (.cells #[z0, z1, z2, z3, z4, z5, z6, z7, z8] t (0, 0))) (x0 x1 x2 x3 x4 x5 x6 x7 x8 : Value) : ((((((((((W.setCell ⟨Y, 0, none⟩ x0).setCell ⟨Y, 1, none⟩ x1).setCell ⟨Y, 2, none⟩ x2).setCell ⟨Y, 3, none⟩ x3).setCell ⟨Y, 4, none⟩ x4).setCell ⟨Y, 5, none⟩ x5).setCell ⟨Y, 6, none⟩ x6).setCell ⟨Y, 7, none⟩ x7).setCell ⟨Y, 8, none⟩ x8)).heap[Y]? = some (.cells #[x0, x1, x2, x3, x4, x5, x6, x7, x8] t (0, 0)) := by
  replace h := blk_set h 0 x0
  replace h := blk_set h 1 x1
  replace h := blk_set h 2 x2
  replace h := blk_set h 3 x3
  replace h := blk_set h 4 x4
  replace h := blk_set h 5 x5
  replace h := blk_set h 6 x6
  replace h := blk_set h 7 x7
  replace h := blk_set h 8 x8
  simpa using h
theorem far6 {W : World} {g Y : Nat} {ob : Obj} (h : W.heap[g]? = some ob) (hne : g ≠ Y) (x0 x1 x2 x3 x4 x5 : Value) : (((((((W.setCell ⟨Y, 0, none⟩ x0).setCell ⟨Y, 1, none⟩ x1).setCell ⟨Y, 2, none⟩ x2).setCell ⟨Y, 3, none⟩ x3).setCell ⟨Y, 4, none⟩ x4).setCell ⟨Y, 5, none⟩ x5)).heap[g]? = some ob := by
  repeat (with_reducible first | exact h | refine (Below.heap_setCell _ _ _ _ hne).trans ?_)
theorem put6 {W : World} {Y t : Nat} {z0 z1 z2 z3 z4 z5 : Value} (h : W.heap[Y]? = some (.cells #[z0, z1, z2, z3, z4, z5] t (0, 0))) (x0 x1 x2 x3 x4 x5 : Value) : (((((((W.setCell ⟨Y, 0, none⟩ x0).setCell ⟨Y, 1, none⟩ x1).setCell ⟨Y, 2, none⟩ x2).setCell ⟨Y, 3, none⟩ x3).setCell ⟨Y, 4, none⟩ x4).setCell ⟨Y, 5, none⟩ x5)).heap[Y]? = some (.cells #[x0, x1, x2, x3, x4, x5] t (0, 0)) := by
  replace h := blk_set h 0 x0
  replace h := blk_set h 1 x1
  replace h := blk_set h 2 x2
  replace h := blk_set h 3 x3
  replace h := blk_set h 4 x4
  replace h := blk_set h 5 x5
  simpa using h
set_option maxHeartbeats 2000000 in
theorem store27 (ev : Operand → Value) (oi : Oper) (p q : Operand) (hop : oi.op = .store 27 p q) (ac co er nr ar : Int) (op bl pe : Bool) (A : Option Addr) (m c : Nat) {z0 z1 z2 z3 z4 z5 z6 z7 z8 : Value} (Y : Nat) (hp : ev p = .pointer (some ⟨Y, 0, none⟩)) (hq : ev q = .agg #[.int .i64 ac, .bool op, .bool bl, .bool pe, .int .i64 co, .int .i64 er, .int .u32 nr, .int .u32 ar, .slice A m c]) (W : World) (hY : W.heap[Y]? = some (.cells #[z0, z1, z2, z3, z4, z5, z6, z7, z8] 27 (0, 0))) : ∃ W1, (execOp ev oi).run Try.prog W = .ok .skip W1 ∧ W1.heap[Y]? = some (.cells #[.int .i64 ac, .bool op, .bool bl, .bool pe, .int .i64 co, .int .i64 er, .int .u32 nr, .int .u32 ar, .slice A m c] 27 (0, 0)) ∧ (∀ g, g ≠ Y → W1.heap[g]? = W.heap[g]?) ∧ W1.heap.size = W.heap.size ∧ (∀ b, b ≤ Y → Below b W W1) := by
  have hz0 : World.cell? W ⟨Y, 0, none⟩ = some z0 := blk_cell hY 0
  have hf0 : World.frozen? W ⟨Y, 0, none⟩ = false := blk_frozen hY 0
  have hz1 : World.cell? W ⟨Y, 1, none⟩ = some z1 := blk_cell hY 1
  have hf1 : World.frozen? W ⟨Y, 1, none⟩ = false := blk_frozen hY 1
  have hz2 : World.cell? W ⟨Y, 2, none⟩ = some z2 := blk_cell hY 2
  have hf2 : World.frozen? W ⟨Y, 2, none⟩ = false := blk_frozen hY 2
  have hz3 : World.cell? W ⟨Y, 3, none⟩ = some z3 := blk_cell hY 3
  have hf3 : World.frozen? W ⟨Y, 3, none⟩ = false := blk_frozen hY 3
  have hz4 : World.cell? W ⟨Y, 4, none⟩ = some z4 := blk_cell hY 4
  have hf4 : World.frozen? W ⟨Y, 4, none⟩ = false := blk_frozen hY 4
  have hz5 : World.cell? W ⟨Y, 5, none⟩ = some z5 := blk_cell hY 5
  have hf5 : World.frozen? W ⟨Y, 5, none⟩ = false := blk_frozen hY 5
  have hz6 : World.cell? W ⟨Y, 6, none⟩ = some z6 := blk_cell hY 6
  have hf6 : World.frozen? W ⟨Y, 6, none⟩ = false := blk_frozen hY 6
  have hz7 : World.cell? W ⟨Y, 7, none⟩ = some z7 := blk_cell hY 7
  have hf7 : World.frozen? W ⟨Y, 7, none⟩ = false := blk_frozen hY 7
  have hz8 : World.cell? W ⟨Y, 8, none⟩ = some z8 := blk_cell hY 8
  have hf8 : World.frozen? W ⟨Y, 8, none⟩ = false := blk_frozen hY 8
  refine ⟨(((((((((W.setCell ⟨Y, 0, none⟩ (.int .i64 ac)).setCell ⟨Y, 1, none⟩ (.bool op)).setCell ⟨Y, 2, none⟩ (.bool bl)).setCell ⟨Y, 3, none⟩ (.bool pe)).setCell ⟨Y, 4, none⟩ (.int .i64 co)).setCell ⟨Y, 5, none⟩ (.int .i64 er)).setCell ⟨Y, 6, none⟩ (.int .u32 nr)).setCell ⟨Y, 7, none⟩ (.int .u32 ar)).setCell ⟨Y, 8, none⟩ (.slice A m c)), ?h1, put9 hY _ _ _ _ _ _ _ _ _, ?h3, ?h4, ?h5⟩
  case h1 =>
    unfold execOp
    simp only [hop, hp, hq]
    go_simp
  case h3 =>
    intro g hg
    repeat (with_reducible first | exact rfl | refine (Below.heap_setCell _ _ _ _ hg).trans ?_)
  case h4 => simp only [World.size_setCell]
  case h5 =>
    intro b hb
    repeat (with_reducible first | exact Below.refl _ _ | refine Below.setCell ?_ hb _)
theorem store27_ {ops : Array Oper} {Q : Exit → Act → World → Prop} {oi : Oper} {a : Act} {W : World} {K : Act → World → Prop} (hw : Region.wanted oi (yielded ops a.tmps) = true) (hN : oi.dst = none) (p q : Operand) (hop : oi.op = .store 27 p q) (ac co er nr ar : Int) (op bl pe : Bool) (A : Option Addr) (m c : Nat) {z0 z1 z2 z3 z4 z5 z6 z7 z8 : Value} (Y : Nat) (hp : a.eval p = .pointer (some ⟨Y, 0, none⟩)) (hq : a.eval q = .agg #[.int .i64 ac, .bool op, .bool bl, .bool pe, .int .i64 co, .int .i64 er, .int .u32 nr, .int .u32 ar, .slice A m c]) (hY : W.heap[Y]? = some (.cells #[z0, z1, z2, z3, z4, z5, z6, z7, z8] 27 (0, 0)))
    (h : ∀ W1 : World, W1.heap[Y]? = some (.cells #[.int .i64 ac, .bool op, .bool bl, .bool pe, .int .i64 co, .int .i64 er, .int .u32 nr, .int .u32 ar, .slice A m c] 27 (0, 0)) → (∀ g, g ≠ Y → W1.heap[g]? = W.heap[g]?) → W1.heap.size = W.heap.size → (∀ b, b ≤ Y → Below b W W1) → K a W1) : if Region.wanted oi (yielded ops a.tmps) = true then Oper.wp Try.prog oi a W K Q else K (a.put none undef) W := by
  obtain ⟨W1, hr, h1, h2, h3, h4⟩ := store27 a.eval oi p q hop ac co er nr ar op bl pe A m c Y hp hq W hY
  exact skip_ hw hN hr (h W1 h1 h2 h3 h4)
set_option maxHeartbeats 2000000 in
theorem store33 (ev : Operand → Value) (oi : Oper) (p q : Operand) (hop : oi.op = .store 33 p q) (co er nr ar : Int) (di ru : Bool) {z0 z1 z2 z3 z4 z5 : Value} (Y : Nat) (hp : ev p = .pointer (some ⟨Y, 0, none⟩)) (hq : ev q = .agg #[.bool di, .bool ru, .int .i64 co, .int .i64 er, .int .u32 nr, .int .u32 ar]) (W : World) (hY : W.heap[Y]? = some (.cells #[z0, z1, z2, z3, z4, z5] 33 (0, 0))) : ∃ W1, (execOp ev oi).run Try.prog W = .ok .skip W1 ∧ W1.heap[Y]? = some (.cells #[.bool di, .bool ru, .int .i64 co, .int .i64 er, .int .u32 nr, .int .u32 ar] 33 (0, 0)) ∧ (∀ g, g ≠ Y → W1.heap[g]? = W.heap[g]?) ∧ W1.heap.size = W.heap.size ∧ (∀ b, b ≤ Y → Below b W W1) := by
  have hz0 : World.cell? W ⟨Y, 0, none⟩ = some z0 := blk_cell hY 0
  have hf0 : World.frozen? W ⟨Y, 0, none⟩ = false := blk_frozen hY 0
  have hz1 : World.cell? W ⟨Y, 1, none⟩ = some z1 := blk_cell hY 1
  have hf1 : World.frozen? W ⟨Y, 1, none⟩ = false := blk_frozen hY 1
  have hz2 : World.cell? W ⟨Y, 2, none⟩ = some z2 := blk_cell hY 2
  have hf2 : World.frozen? W ⟨Y, 2, none⟩ = false := blk_frozen hY 2
  have hz3 : World.cell? W ⟨Y, 3, none⟩ = some z3 := blk_cell hY 3
  have hf3 : World.frozen? W ⟨Y, 3, none⟩ = false := blk_frozen hY 3
  have hz4 : World.cell? W ⟨Y, 4, none⟩ = some z4 := blk_cell hY 4
  have hf4 : World.frozen? W ⟨Y, 4, none⟩ = false := blk_frozen hY 4
  have hz5 : World.cell? W ⟨Y, 5, none⟩ = some z5 := blk_cell hY 5
  have hf5 : World.frozen? W ⟨Y, 5, none⟩ = false := blk_frozen hY 5
  refine ⟨((((((W.setCell ⟨Y, 0, none⟩ (.bool di)).setCell ⟨Y, 1, none⟩ (.bool ru)).setCell ⟨Y, 2, none⟩ (.int .i64 co)).setCell ⟨Y, 3, none⟩ (.int .i64 er)).setCell ⟨Y, 4, none⟩ (.int .u32 nr)).setCell ⟨Y, 5, none⟩ (.int .u32 ar)), ?h1, put6 hY _ _ _ _ _ _, ?h3, ?h4, ?h5⟩
  case h1 =>
    unfold execOp
    simp only [hop, hp, hq]
    go_simp
  case h3 =>
    intro g hg
    repeat (with_reducible first | exact rfl | refine (Below.heap_setCell _ _ _ _ hg).trans ?_)
  case h4 => simp only [World.size_setCell]
  case h5 =>
    intro b hb
    repeat (with_reducible first | exact Below.refl _ _ | refine Below.setCell ?_ hb _)
theorem store33_ {ops : Array Oper} {Q : Exit → Act → World → Prop} {oi : Oper} {a : Act} {W : World} {K : Act → World → Prop} (hw : Region.wanted oi (yielded ops a.tmps) = true) (hN : oi.dst = none) (p q : Operand) (hop : oi.op = .store 33 p q) (co er nr ar : Int) (di ru : Bool) {z0 z1 z2 z3 z4 z5 : Value} (Y : Nat) (hp : a.eval p = .pointer (some ⟨Y, 0, none⟩)) (hq : a.eval q = .agg #[.bool di, .bool ru, .int .i64 co, .int .i64 er, .int .u32 nr, .int .u32 ar]) (hY : W.heap[Y]? = some (.cells #[z0, z1, z2, z3, z4, z5] 33 (0, 0)))
    (h : ∀ W1 : World, W1.heap[Y]? = some (.cells #[.bool di, .bool ru, .int .i64 co, .int .i64 er, .int .u32 nr, .int .u32 ar] 33 (0, 0)) → (∀ g, g ≠ Y → W1.heap[g]? = W.heap[g]?) → W1.heap.size = W.heap.size → (∀ b, b ≤ Y → Below b W W1) → K a W1) : if Region.wanted oi (yielded ops a.tmps) = true then Oper.wp Try.prog oi a W K Q else K (a.put none undef) W := by
  obtain ⟨W1, hr, h1, h2, h3, h4⟩ := store33 a.eval oi p q hop co er nr ar di ru Y hp hq W hY
  exact skip_ hw hN hr (h W1 h1 h2 h3 h4)
/-- What a call that makes a signal comes to. -/
def Outs (r : Sg × Ht × Int) (w : World) (e : Ending) (w' : World) : Prop := ∃ v : Value, e = .returned (.tuple #[.agg #[.int .i64 r.1.ac, .bool r.1.op, .bool r.1.bl, .bool r.1.pe, .int .i64 r.1.co, .int .i64 r.1.er, .int .u32 r.1.nr, .int .u32 r.1.ar, v], .agg #[.bool r.2.1.di, .bool r.2.1.ru, .int .i64 r.2.1.co, .int .i64 r.2.1.er, .int .u32 r.2.1.nr, .int .u32 r.2.1.ar], .int .i64 r.2.2]) ∧ Kd.R Kd.bool 4 w' w.heap.size (fun _ => True) v r.1.l ∧ Below w.heap.size w w'
def with9.T9 : Bool × List (List Nat × List Nat) := (true, [([], []), ([0], [0]), ([1], [1]), ([2], [2]), ([], []), ([3, 0, 1, 2, 3], [3]), ([4, 5, 0, 1, 2, 3, 4, 5], [4]), ([6, 0, 1, 2, 3, 4, 5, 6], [])])
def with9.B9 : List Nat := [0, 1, 3, 7, 0, 15, 63, 127]
theorem with9.tab9 : rtab .any (opsOf Try.f16 9) = with9.T9 := by kernel_rfl
theorem with9.bits9 : waitsOk with9.T9.2 with9.B9 = true := by kernel_rfl
end Go.Proofs.Ytbpgpbbpeppjmaa.SG
