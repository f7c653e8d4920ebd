import Derived.Test.YtbpgpbbpeppjmaaPBx2
import Derived.WalkSpells
namespace Go.Proofs.Ytbpgpbbpeppjmaa.SG
open Go.RowKit Go.Proofs.YtbpgpbbpeppjmaaW.PrintWords Go.Proofs.YtbpgpbbpeppjmaaW.PrintLast Go.Proofs.YtbpgpbbpeppjmaaW.PrintMore
set_option linter.unusedVariables false
set_option linter.unusedSimpArgs false
/-- A signal as numbers. -/
structure Sg where
  ac : Int
  op : Bool
  bl : Bool
  pe : Bool
  co : Int
  er : Int
  nr : Int
  ar : Int
  l : List Bool
/-- What comes of a delivery. -/
structure Ht where
  di : Bool
  ru : Bool
  co : Int
  er : Int
  nr : Int
  ar : Int
def nohit : Ht := ⟨false, false, 0, 0, 0, 0⟩
def Sg.drop (s : Sg) : Sg := ⟨s.ac, s.op, s.bl, false, 0, 0, 0, 0, s.l⟩
def Sg.deliver (s : Sg) (co er nr ar : Int) : Sg × Ht :=
  if s.ac = 1 then (s, nohit) else if s.ac = 2 then (if s.l.length < 4 then (if s.op = true then (⟨s.ac, s.op, s.bl, s.pe, s.co, s.er, s.nr, s.ar, s.l ++ [s.bl]⟩, ⟨false, true, co, er, nr, ar⟩) else (⟨s.ac, s.op, true, s.pe, s.co, s.er, s.nr, s.ar, s.l ++ [s.bl]⟩, ⟨false, true, co, er, nr, ar⟩)) else (s, ⟨true, false, co, er, nr, ar⟩)) else (s, ⟨true, false, co, er, nr, ar⟩)
def Sg.on (s : Sg) : Sg × Ht := if s.bl = true then (s, nohit) else if s.pe = true then s.drop.deliver s.co s.er s.nr s.ar else (s, nohit)
/-- Block X of the call's own (from n on) holds a signal. -/
def Has (n X : Nat) (s : Sg) (v : Value) (W : World) : Prop := W.heap[X]? = some (.cells #[.int .i64 s.ac, .bool s.op, .bool s.bl, .bool s.pe, .int .i64 s.co, .int .i64 s.er, .int .u32 s.nr, .int .u32 s.ar, v] 52 (0, 0)) ∧ Kd.R Kd.bool 4 W n (fun b => b ≠ X) v s.l
theorem heap_new_at (w : World) (o : Obj) (n : Nat) (hn : n = w.heap.size) : (w.alloc o).heap[n]? = some o := hn ▸ heap_alloc_new w o
theorem below_drewN' {B : Nat} {w W : World} (h : Below B w W) (n : Nat) : Below B w (W.drewN n) := pw_below_drewN h n
theorem below_drew' {B : Nat} {w W : World} (h : Below B w W) : Below B w W.drew := below_drew h
/-- All blocks but those of S stay; those below n too. -/
def St (S : Nat → Prop) (n : Nat) (W W1 : World) : Prop := Below n W W1 ∧ W.heap.size ≤ W1.heap.size ∧ ∀ k, ¬ S k → k < W.heap.size → W1.heap[k]? = W.heap[k]?
theorem St.rfl' (S : Nat → Prop) (n : Nat) (W : World) : St S n W W := ⟨Below.refl _ _, Nat.le_refl _, fun _ _ _ => rfl⟩
theorem St.set {S : Nat → Prop} {n g : Nat} {W W1 : World} (h : St S n W W1) (hn : n ≤ g) (hS : S g ∨ W.heap.size ≤ g) (i : Nat) (u : Value) : St S n W (W1.setCell ⟨g, i, none⟩ u) :=
  ⟨Below.setCell h.1 hn _, by simpa using h.2.1, fun k hk hl => (Below.heap_setCell W1 ⟨g, i, none⟩ u k (by show k ≠ g; rintro rfl; rcases hS with hS | hS; exact hk hS; omega)).trans (h.2.2 k hk hl)⟩
theorem St.alloc {S : Nat → Prop} {n : Nat} {W W1 : World} (h : St S n W W1) (hn : n ≤ W.heap.size) (ob : Obj) : St S n W (W1.alloc ob) :=
  ⟨h.1.trans ((below_alloc (Below.refl _ _) ob).mono (by have := h.2.1; omega)), by have := h.2.1; simp; omega, fun k hk hl => (Below.heap_alloc W1 ob k (by have := h.2.1; omega)).trans (h.2.2 k hk hl)⟩
theorem St.drewN {S : Nat → Prop} {n : Nat} {W W1 : World} (h : St S n W W1) (m : Nat) : St S n W (W1.drewN m) := ⟨below_drewN' h.1 m, h.2.1, h.2.2⟩
theorem St.drew {S : Nat → Prop} {n : Nat} {W W1 : World} (h : St S n W W1) : St S n W W1.drew := ⟨below_drew' h.1, h.2.1, h.2.2⟩
theorem St.mono {S S' : Nat → Prop} {n : Nat} {W W1 : World} (h : St S n W W1) (hS : ∀ k, S k → S' k) : St S' n W W1 := ⟨h.1, h.2.1, fun k hk hl => h.2.2 k (fun q => hk (hS k q)) hl⟩
theorem St.trans {S S' : Nat → Prop} {n : Nat} {W W1 W2 : World} (h : St S n W W1) (h' : St S' n W1 W2) (hS : ∀ k, k < W.heap.size → S' k → S k) : St S n W W2 :=
  ⟨h.1.trans h'.1, Nat.le_trans h.2.1 h'.2.1, fun k hk hl => (h'.2.2 k (fun q => hk (hS k hl q)) (Nat.lt_of_lt_of_le hl h.2.1)).trans (h.2.2 k hk hl)⟩
theorem St.blk {S : Nat → Prop} {n g : Nat} {W W1 : World} {ob : Obj} (h : St S n W W1) (hb : W.heap[g]? = some ob) (hS : ¬ S g) : W1.heap[g]? = some ob := (h.2.2 g hS (blk_lt hb)).trans hb
theorem St.R {S : Nat → Prop} {n X : Nat} {W W1 : World} {v : Value} {l : List Bool} {ok : Nat → Prop} (h : St S n W W1) (hR : Kd.R Kd.bool 4 W n ok v l) (hS : ∀ k, ok k → ¬ S k) (hX : ∀ k, ok k → k ≠ X) : Kd.R Kd.bool 4 W1 n (fun b => b ≠ X) v l := Kd.R_mono (Kd.R_step hR (fun k hk hl => h.2.2 k (hS k hk) hl)) hX
def New (v v' : Value) (W : World) : Prop := ∀ k, v'.ownBlock = some k → v.ownBlock = some k ∨ W.heap.size ≤ k
/-- What comes of block X, a signal of value v: a signal s'; all other blocks of W stay. -/
def Gets (n X : Nat) (v : Value) (W : World) (s' : Sg) (W' : World) : Prop := ∃ v', Has n X s' v' W' ∧ St (fun k => k = X ∨ some k = v.ownBlock) n W W' ∧ New v v' W
theorem Gets.mk' {n X : Nat} {v : Value} {W : World} {s' : Sg} {W' : World} (v' : Value) (h1 : W'.heap[X]? = some (.cells #[.int .i64 s'.ac, .bool s'.op, .bool s'.bl, .bool s'.pe, .int .i64 s'.co, .int .i64 s'.er, .int .u32 s'.nr, .int .u32 s'.ar, v'] 52 (0, 0))) (h2 : Kd.R Kd.bool 4 W' n (fun b => b ≠ X) v' s'.l) (h3 : St (fun k => k = X ∨ some k = v.ownBlock) n W W') (h4 : New v v' W) : Gets n X v W s' W' := ⟨v', ⟨h1, h2⟩, h3, h4⟩
theorem New.rfl' (v : Value) (W : World) : New v v W := fun _ h => Or.inl h
theorem New.trans {v v1 v2 : Value} {W W1 : World} (h : New v v1 W) (h' : New v1 v2 W1) (hs : W.heap.size ≤ W1.heap.size) : New v v2 W := fun k hk => (h' k hk).elim (fun q => h k q) (fun q => Or.inr (Nat.le_trans hs q))
/-- One behind the other. -/
theorem Gets.trans {n X : Nat} {v v1 : Value} {W W1 W2 : World} {s2 : Sg} (hS : St (fun k => k = X ∨ some k = v.ownBlock) n W W1) (hN : New v v1 W) (h : Gets n X v1 W1 s2 W2) : Gets n X v W s2 W2 := by
  obtain ⟨v2, hP, hS2, hN2⟩ := h
  refine ⟨v2, hP, St.trans hS hS2 (fun k hk hq => ?_), New.trans hN hN2 hS.2.1⟩
  rcases hq with hq | hq
  · exact Or.inl hq
  · rcases hN k hq.symm with e | e
    · exact Or.inr e.symm
    · omega
set_option maxHeartbeats 1000000 in
set_option maxRecDepth 100000 in
theorem drop_w (n X : Nat) (s : Sg) (v : Value) (W : World) (hX : n ≤ X) (hP : Has n X s v W) :
    Calls Try.prog 23 #[.pointer (some ⟨X, 0, none⟩)] W fun e w' => e = .returned (.tuple #[]) ∧ Gets n X v W s.drop w' := by
  obtain ⟨ac, op, bl, pe, co0, er0, nr0, ar0, l⟩ := s
  obtain ⟨hb, hR⟩ := hP
  dsimp only at hb hR
  have hbs := Aside0.mk hb
  have hRs := Aside0.mk hR
  have hXl := blk_lt hb
  have hc0 := blk_cell hb 0
  have hf0 := blk_frozen hb 0
  have hc1 := blk_cell hb 1
  have hf1 := blk_frozen hb 1
  have hc2 := blk_cell hb 2
  have hf2 := blk_frozen hb 2
  have hc3 := blk_cell hb 3
  have hf3 := blk_frozen hb 3
  have hc4 := blk_cell hb 4
  have hf4 := blk_frozen hb 4
  have hc5 := blk_cell hb 5
  have hf5 := blk_frozen hb 5
  have hc6 := blk_cell hb 6
  have hf6 := blk_frozen hb 6
  have hc7 := blk_cell hb 7
  have hf7 := blk_frozen hb 7
  have hc8 := blk_cell hb 8
  have hf8 := blk_frozen hb 8
  simp only [List.getElem?_toArray, List.getElem?_cons_zero, List.getElem?_cons_succ] at hc0 hc1 hc2 hc3 hc4 hc5 hc6 hc7 hc8
  clear hb hR
  go_enter Try.func23, Try.ntmps23
  go_wp2
  go_end0
  refine ⟨rfl, Gets.mk' (v) ?_ ?_ ?_ ?_⟩
  · (repeat (with_reducible first | exact hbs.out | refine blk_alloc ?_ _ | refine blk_drewN ?_ _ | refine blk_drew ?_ | refine (Below.heap_setCell _ _ _ _ (by dsimp only; omega)).trans ?_ | apply blk_put))
    all_goals rfl
  · refine St.R (W := _) ?_ (hRs.out) (fun k hk => hk) (fun k hk => hk)
    (repeat (with_reducible first | exact St.rfl' _ _ _ | refine St.set ?_ (by omega) (by first | exact Or.inl rfl | exact Or.inl (Or.inl rfl) | exact Or.inl (Or.inr rfl) | (right; omega)) _ _ | refine St.drewN ?_ _ | refine St.drew ?_ | refine St.alloc ?_ (by omega) _))
  · refine St.mono (S := fun k => k = X) ?_ (fun k hk => Or.inl hk); (repeat (with_reducible first | exact St.rfl' _ _ _ | refine St.set ?_ (by omega) (by first | exact Or.inl rfl | exact Or.inl (Or.inl rfl) | exact Or.inl (Or.inr rfl) | (right; omega)) _ _ | refine St.drewN ?_ _ | refine St.drew ?_ | refine St.alloc ?_ (by omega) _))
  · exact New.rfl' _ _
def del4.T4 : Bool × List (List Nat × List Nat) := (true, [([], []), ([], []), ([1], [1]), ([2], [2]), ([3], [3]), ([4], [4]), ([], []), ([6], [6]), ([7], [7]), ([8], [8]), ([9], [9]), ([10], [10]), ([5, 11], [5, 11]), ([0, 0, 1, 2, 3, 4, 5, 6, 7, 8, 9, 10, 11, 12], [0]), ([13, 0, 1, 2, 3, 4, 5, 6, 7, 8, 9, 10, 11, 12], [13]), ([14, 0, 1, 2, 3, 4, 5, 6, 7, 8, 9, 10, 11, 12], [14]), ([15, 12, 12, 0, 1, 2, 3, 4, 5, 6, 7, 8, 9, 10, 11, 12], [12, 15])])
def del4.B4 : List Nat := [0, 0, 2, 6, 14, 30, 0, 64, 192, 448, 960, 1984, 4094, 8191, 16383, 32767, 65535]
theorem del4.tab4 : rtab .any (opsOf Try.f20 4) = del4.T4 := by kernel_rfl
theorem del4.bits4 : waitsOk del4.T4.2 del4.B4 = true := by kernel_rfl
set_option maxHeartbeats 1000000 in
set_option maxRecDepth 100000 in
theorem deliver_w (n X : Nat) (s : Sg) (co er nr ar : Int) (v : Value) (W : World) (hX : n ≤ X) (hP : Has n X s v W) :
    Calls Try.prog 20 #[.pointer (some ⟨X, 0, none⟩), .agg #[.int .i64 co, .int .i64 er, .int .u32 nr, .int .u32 ar]] W fun e w' => e = .returned (.agg #[.bool (s.deliver co er nr ar).2.di, .bool (s.deliver co er nr ar).2.ru, .int .i64 (s.deliver co er nr ar).2.co, .int .i64 (s.deliver co er nr ar).2.er, .int .u32 (s.deliver co er nr ar).2.nr, .int .u32 (s.deliver co er nr ar).2.ar]) ∧ Gets n X v W (s.deliver co er nr ar).1 w' := by
  obtain ⟨ac, op, bl, pe, co0, er0, nr0, ar0, l⟩ := s
  obtain ⟨hb, hR⟩ := hP
  dsimp only at hb hR
  have hbs := Aside0.mk hb
  have hRs := Aside0.mk hR
  have hXl := blk_lt hb
  have hc0 := blk_cell hb 0
  have hf0 := blk_frozen hb 0
  have hc1 := blk_cell hb 1
  have hf1 := blk_frozen hb 1
  have hc2 := blk_cell hb 2
  have hf2 := blk_frozen hb 2
  have hc3 := blk_cell hb 3
  have hf3 := blk_frozen hb 3
  have hc4 := blk_cell hb 4
  have hf4 := blk_frozen hb 4
  have hc5 := blk_cell hb 5
  have hf5 := blk_frozen hb 5
  have hc6 := blk_cell hb 6
  have hf6 := blk_frozen hb 6
  have hc7 := blk_cell hb 7
  have hf7 := blk_frozen hb 7
  have hc8 := blk_cell hb 8
  have hf8 := blk_frozen hb 8
  simp only [List.getElem?_toArray, List.getElem?_cons_zero, List.getElem?_cons_succ] at hc0 hc1 hc2 hc3 hc4 hc5 hc6 hc7 hc8
  clear hb hR
  have hn : n ≤ W.heap.size := by omega
  have hXY : X ≠ W.heap.size + 1 := by omega
  have hXI : X ≠ W.heap.size := by omega
  obtain ⟨A, c, rfl⟩ := Kd.R_slice hRs.out
  by_cases h1 : ac = 1
  · subst h1
    rw [show Sg.deliver ⟨1, op, bl, pe, co0, er0, nr0, ar0, l⟩ co er nr ar = (⟨1, op, bl, pe, co0, er0, nr0, ar0, l⟩, nohit) from by simp [Sg.deliver]]
    dsimp only [nohit]
    go_enter Try.func20, Try.ntmps20
    go_wp2
    refine bodyPost_ret (results_cell_row rfl _ _ (W.heap.size + 1) 33 #[.bool false, .bool false, .int .i64 0, .int .i64 0, .int .u32 0, .int .u32 0] (0, 0) _ rfl ?hr_ Try.underlying33 rfl (by kernel_rfl)) rfl ?_
    case hr_ => ((repeat (first | (with_reducible exact heap_new_at _ _ _ (by simp)) | (with_reducible refine blk_drewN ?_ _) | (with_reducible refine blk_drew ?_) | (with_reducible refine (Below.heap_setCell _ _ _ _ (by dsimp only; omega)).trans ?_) | (with_reducible apply blk_put) | (with_reducible refine blk_alloc ?_ _))); all_goals rfl)
    refine ⟨rfl, Gets.mk' (.slice A l.length c) ?_ ?_ ?_ ?_⟩
    · (repeat (with_reducible first | exact hbs.out | refine blk_alloc ?_ _ | refine blk_drewN ?_ _ | refine blk_drew ?_ | refine (Below.heap_setCell _ _ _ _ (by dsimp only; omega)).trans ?_ | apply blk_put))
      all_goals rfl
    · refine St.R (W := _) ?_ (hRs.out) (fun k hk => hk) (fun k hk => hk)
      (repeat (with_reducible first | exact St.rfl' _ _ _ | refine St.set ?_ (by omega) (by first | exact Or.inl rfl | exact Or.inl (Or.inl rfl) | exact Or.inl (Or.inr rfl) | (right; omega)) _ _ | refine St.drewN ?_ _ | refine St.drew ?_ | refine St.alloc ?_ (by omega) _))
    · refine St.mono (S := fun k => k = X) ?_ (fun k hk => Or.inl hk); (repeat (with_reducible first | exact St.rfl' _ _ _ | refine St.set ?_ (by omega) (by first | exact Or.inl rfl | exact Or.inl (Or.inl rfl) | exact Or.inl (Or.inr rfl) | (right; omega)) _ _ | refine St.drewN ?_ _ | refine St.drew ?_ | refine St.alloc ?_ (by omega) _))
    · exact New.rfl' _ _
  have h1' : (ac == 1) = false := by simpa using h1
  by_cases h2 : ac = 2
  · subst h2
    by_cases h3 : l.length < 4
    · have h3' : decide ((l.length : Int) < 4) = true := decide_eq_true (by omega)
      rw [show Sg.deliver ⟨2, op, bl, pe, co0, er0, nr0, ar0, l⟩ co er nr ar = (⟨2, op, (if op = true then bl else true), pe, co0, er0, nr0, ar0, l ++ [bl]⟩, ⟨false, true, co, er, nr, ar⟩) from by simp [Sg.deliver, h3]; cases op <;> simp]
      dsimp only
      go_enter Try.func20, Try.ntmps20
      go_wp2_with fail
      clear hc0 hf0 hc1 hf1 hc2 hf2 hc3 hf3 hc4 hf4 hc5 hf5 hc6 hf6 hc7 hf7 hc8 hf8
      have HI2 := Aside0.mk (blk_drew (blk_alloc (heap_alloc_new W (.cells #[.int .i64 co, .int .i64 er, .int .u32 nr, .int .u32 ar] 24)) (.cells #[.bool false, .bool false, .int .i64 0, .int .i64 0, .int .u32 0, .int .u32 0] 33)))
      have HH2 := Aside0.mk (blk_drew (heap_alloc_new (W.alloc (.cells #[.int .i64 co, .int .i64 er, .int .u32 nr, .int .u32 ar] 24)) (.cells #[.bool false, .bool false, .int .i64 0, .int .i64 0, .int .u32 0, .int .u32 0] 33)))
      have s1 : (W.alloc (.cells #[.int .i64 co, .int .i64 er, .int .u32 nr, .int .u32 ar] 24)).heap.size = W.heap.size + 1 := by simp
      rw [s1] at HH2
      clear s1
      have HX2 := Aside0.mk (blk_drew (blk_alloc (blk_alloc hbs.out (.cells #[.int .i64 co, .int .i64 er, .int .u32 nr, .int .u32 ar] 24)) (.cells #[.bool false, .bool false, .int .i64 0, .int .i64 0, .int .u32 0, .int .u32 0] 33)))
      have HR2 := Aside0.mk (Kd.R_drew (Kd.R_alloc (Kd.R_alloc (Kd.R_mono (ok' := fun b => b ≠ X ∧ b ≠ W.heap.size + 1 ∧ b ≠ W.heap.size) (Kd.R_bound hRs.out) (fun k hk => ⟨hk.1, by have := hk.2.2.1; omega, by have := hk.2.2.1; omega⟩)) (.cells #[.int .i64 co, .int .i64 er, .int .u32 nr, .int .u32 ar] 24)) (.cells #[.bool false, .bool false, .int .i64 0, .int .i64 0, .int .u32 0, .int .u32 0] 33)))
      have HS2 := Aside0.mk (St.drew (St.alloc (St.alloc (St.rfl' (fun k => k = X ∨ some k = (Value.slice A l.length c).ownBlock) n W) (by omega) (.cells #[.int .i64 co, .int .i64 er, .int .u32 nr, .int .u32 ar] 24)) (by omega) (.cells #[.bool false, .bool false, .int .i64 0, .int .i64 0, .int .u32 0, .int .u32 0] 33)))
      refine start_ (n := 17) (S := fun w' => w'.heap[X]? = some (.cells #[.int .i64 2, .bool op, .bool bl, .bool pe, .int .i64 co0, .int .i64 er0, .int .u32 nr0, .int .u32 ar0, .slice A l.length c] 52 (0, 0))) (ds := [16]) #[false, false, false, false, false, false, false, false, false, false, false, false, false, false, false, false, false] (by kernel_rfl) rfl rfl HX2.out (fun hHeld => ?_); refine with_tabW del4.tab4 del4.bits4 (fun HT_ HW_ => ?_)
      generalize World.drew _ = W2 at hHeld HI2 HH2 HX2 HR2 HS2 ⊢
      clear hbs hRs
      refine pure_ (i := 0) (N := some 29) (v := ?_) (a' := ?_) #[true, false, false, false, false, false, false, false, false, false, false, false, false, false, false, false, false] rfl rfl (any_of HT_.out (by kernel_rfl)) (fun _ _ _ h => h) (Or.inl ⟨by rfl, ?_⟩) ?_ ?_
      rotate_left
      · intro w'
        go_simp
        with_reducible rfl
      rotate_left
      · (try simp only [Act.put, List.setIfInBounds_toArray, List.set_cons_zero, List.set_cons_succ])
        rfl
      refine pure_ (i := 1) (N := some 30) (v := ?_) (a' := ?_) #[true, true, false, false, false, false, false, false, false, false, false, false, false, false, false, false, false] rfl rfl (any_of HT_.out (by kernel_rfl)) (fun _ _ _ h => h) (Or.inl ⟨by rfl, ?_⟩) ?_ ?_
      rotate_left
      · intro w'
        go_simp
        with_reducible rfl
      rotate_left
      · (try simp only [Act.put, List.setIfInBounds_toArray, List.set_cons_zero, List.set_cons_succ])
        rfl
      refine pure_ (i := 2) (N := some 31) (v := ?_) (a' := ?_) #[true, true, true, false, false, false, false, false, false, false, false, false, false, false, false, false, false] rfl rfl (any_of HT_.out (by kernel_rfl)) (fun _ _ _ h => h) (Or.inl ⟨by rfl, ?_⟩) ?_ ?_
      rotate_left
      · intro w'
        go_simp
        with_reducible rfl
      rotate_left
      · (try simp only [Act.put, List.setIfInBounds_toArray, List.set_cons_zero, List.set_cons_succ])
        rfl
      refine pure_ (i := 3) (N := some 32) (v := ?_) (a' := ?_) #[true, true, true, true, false, false, false, false, false, false, false, false, false, false, false, false, false] rfl rfl (any_of HT_.out (by kernel_rfl)) (fun _ _ _ h => h) (Or.inl ⟨by rfl, ?_⟩) ?_ ?_
      rotate_left
      · intro w'
        go_simp
        with_reducible rfl
      rotate_left
      · (try simp only [Act.put, List.setIfInBounds_toArray, List.set_cons_zero, List.set_cons_succ])
        rfl
      refine pure_ (i := 4) (N := some 33) (v := ?_) (a' := ?_) #[true, true, true, true, true, false, false, false, false, false, false, false, false, false, false, false, false] rfl rfl (any_of HT_.out (by kernel_rfl)) (fun _ _ _ h => h) (Or.inl ⟨by rfl, ?_⟩) ?_ ?_
      rotate_left
      · intro w'
        go_simp
        with_reducible rfl
      rotate_left
      · (try simp only [Act.put, List.setIfInBounds_toArray, List.set_cons_zero, List.set_cons_succ])
        rfl
      refine take_ (i := 5) (N := some 34) (v := ?_) (a' := ?_) #[true, true, true, true, true, true, false, false, false, false, false, false, false, false, false, false, false] rfl rfl (take_ofW HT_.out HW_.out (by kernel_rfl)) (fun _ _ _ h => h) (Or.inl ⟨by rfl, ?_⟩) hHeld ?_ ?_
      rotate_left
      · intro w' hS_
        have hx_ : w'.cell? ⟨X, 8, none⟩ = some (.slice A l.length c) := blk_cell hS_ 8
        go_simp
        with_reducible rfl
      rotate_left
      · (try simp only [Act.put, List.setIfInBounds_toArray, List.set_cons_zero, List.set_cons_succ])
        rfl
      refine pure_ (i := 6) (N := some 35) (v := ?_) (a' := ?_) #[true, true, true, true, true, true, true, false, false, false, false, false, false, false, false, false, false] rfl rfl (any_of HT_.out (by kernel_rfl)) (fun _ _ _ h => h) (Or.inl ⟨by rfl, ?_⟩) ?_ ?_
      rotate_left
      · intro w'
        go_simp
        with_reducible rfl
      rotate_left
      · (try simp only [Act.put, List.setIfInBounds_toArray, List.set_cons_zero, List.set_cons_succ])
        rfl
      refine pure_ (i := 7) (N := some 36) (v := ?_) (a' := ?_) #[true, true, true, true, true, true, true, true, false, false, false, false, false, false, false, false, false] rfl rfl (any_of HT_.out (by kernel_rfl)) (fun _ _ _ h => h) (Or.inl ⟨by rfl, ?_⟩) ?_ ?_
      rotate_left
      · intro w'
        go_simp
        with_reducible rfl
      rotate_left
      · (try simp only [Act.put, List.setIfInBounds_toArray, List.set_cons_zero, List.set_cons_succ])
        rfl
      refine pure_ (i := 8) (N := some 37) (v := ?_) (a' := ?_) #[true, true, true, true, true, true, true, true, true, false, false, false, false, false, false, false, false] rfl rfl (any_of HT_.out (by kernel_rfl)) (fun _ _ _ h => h) (Or.inl ⟨by rfl, ?_⟩) ?_ ?_
      rotate_left
      · intro w'
        go_simp
        with_reducible rfl
      rotate_left
      · (try simp only [Act.put, List.setIfInBounds_toArray, List.set_cons_zero, List.set_cons_succ])
        rfl
      refine pure_ (i := 9) (N := some 38) (v := ?_) (a' := ?_) #[true, true, true, true, true, true, true, true, true, true, false, false, false, false, false, false, false] rfl rfl (any_of HT_.out (by kernel_rfl)) (fun _ _ _ h => h) (Or.inl ⟨by rfl, ?_⟩) ?_ ?_
      rotate_left
      · intro w'
        go_simp
        with_reducible rfl
      rotate_left
      · (try simp only [Act.put, List.setIfInBounds_toArray, List.set_cons_zero, List.set_cons_succ])
        rfl
      refine take_ (i := 10) (N := some 39) (v := ?_) (a' := ?_) #[true, true, true, true, true, true, true, true, true, true, true, false, false, false, false, false, false] rfl rfl (take_ofW HT_.out HW_.out (by kernel_rfl)) (fun _ _ _ h => h) (Or.inl ⟨by rfl, ?_⟩) hHeld ?_ ?_
      rotate_left
      · intro w' hS_
        have hx_ : w'.cell? ⟨X, 2, none⟩ = some (.bool bl) := blk_cell hS_ 2
        go_simp
        with_reducible rfl
      rotate_left
      · (try simp only [Act.put, List.setIfInBounds_toArray, List.set_cons_zero, List.set_cons_succ])
        rfl
      refine one_ (i := 11) (N := some 40) #[true, true, true, true, true, true, true, true, true, true, true, true, false, false, false, false, false] rfl rfl (one_of HT_.out (by kernel_rfl)) (by decide) (fun K hK => ?_)
      refine value_ (w1 := ?_) (v := ?_) (by rfl) rfl ?_ ?_
      rotate_left 2
      · go_simp
        (constructor <;> rfl)
      refine hK.out _ _ (blk_alloc HX2.out _) (fun hHeld => ?_)
      clear hK K
      refine norm_ (a' := ?_) ?_ ?_
      rotate_left
      · show Act.put _ (some 40) _ = _
        simp only [Act.put, List.setIfInBounds_toArray, List.set_cons_zero, List.set_cons_succ]
        rfl
      refine one_ (i := 12) (N := some 41) #[true, true, true, true, true, true, true, true, true, true, true, true, true, false, false, false, false] rfl rfl (one_of HT_.out (by kernel_rfl)) (by decide) (fun K hK => ?_)
      refine Kd.R_append_step Kd.bool (w0 := W) n (by rfl) (.tmp 34) (.tmp 40) 25 4 (.bool false) 1 rfl Try.underlying25 PB.info4 rfl (by decide) (by omega) (.slice A l.length c) l bl [.bool bl] (fun b => b ≠ X ∧ b ≠ W.heap.size + 1 ∧ b ≠ W.heap.size) (fun _ => False) rfl rfl ?aP (fun _ hk => hk.elim) ?aF ?aO ?aB ?aS ?aL ?_
      case aP => exact rfl
      case aF => exact fun k hk => ⟨by have := HS2.out.2.1; omega, by have := blk_lt HH2.out; omega, by have := blk_lt HI2.out; omega⟩
      case aO => exact HR2.out
      case aB => exact HS2.out.1
      case aS => have := HS2.out.2.1; omega
      case aL => omega
      intro v1 w1 ho hB1 hg hat
      obtain ⟨A1, c1, rfl⟩ := Kd.R_slice ho
      have HN3 : Aside0 (New (.slice A l.length c) (.slice A1 (l ++ [bl]).length c1) W) := ⟨fun k hk => hat.elim (fun e => Or.inl (e.symm.trans hk)) (fun ⟨b, e1, e2⟩ => Or.inr (by have h1 := HS2.out.2.1; have h2 : b = k := Option.some.inj (e1.symm.trans hk); omega))⟩
      clear hat
      obtain ⟨m1, hm1⟩ : ∃ m, m = (l ++ [bl]).length := ⟨_, rfl⟩
      rw [← hm1] at ho HN3 ⊢
      clear hm1
      have HX3 := Aside0.mk (blk_grown HX2.out hg (fun e => (HR2.out.1 X e.symm).1 rfl))
      have HI3 := Aside0.mk (blk_grown HI2.out hg (fun e => (HR2.out.1 _ e.symm).2.2 rfl))
      have HH3 := Aside0.mk (blk_grown HH2.out hg (fun e => (HR2.out.1 _ e.symm).2.1 rfl))
      have HS3 : Aside0 (St (fun k => k = X ∨ some k = (Value.slice A l.length c).ownBlock) n W w1) := ⟨⟨hB1, Nat.le_trans HS2.out.2.1 hg.size, fun k hk hl => (hg.block k (Nat.lt_of_lt_of_le hl HS2.out.2.1) (fun e => hk (Or.inr e))).trans (HS2.out.2.2 k hk hl)⟩⟩
      have HR3 := Aside0.mk ho
      clear ho hB1 hg HX2 HI2 HH2 HR2 HS2 hHeld
      refine hK.out _ _ HX3.out (fun hHeld => ?_)
      clear hK K
      refine norm_ (a' := ?_) ?_ ?_
      rotate_left
      · show Act.put _ (some 41) _ = _
        simp only [Act.put, List.setIfInBounds_toArray, List.set_cons_zero, List.set_cons_succ]
        rfl
      refine pure_ (i := 13) (N := some 42) (v := ?_) (a' := ?_) #[true, true, true, true, true, true, true, true, true, true, true, true, true, true, false, false, false] rfl rfl (any_of HT_.out (by kernel_rfl)) (fun _ _ _ h => h) (Or.inl ⟨by rfl, ?_⟩) ?_ ?_
      rotate_left
      · intro w'
        go_simp
        with_reducible rfl
      rotate_left
      · (try simp only [Act.put, List.setIfInBounds_toArray, List.set_cons_zero, List.set_cons_succ])
        rfl
      refine pure_ (i := 14) (N := some 43) (v := ?_) (a' := ?_) #[true, true, true, true, true, true, true, true, true, true, true, true, true, true, true, false, false] rfl rfl (any_of HT_.out (by kernel_rfl)) (fun _ _ _ h => h) (Or.inl ⟨by rfl, ?_⟩) ?_ ?_
      rotate_left
      · intro w'
        go_simp
        with_reducible rfl
      rotate_left
      · (try simp only [Act.put, List.setIfInBounds_toArray, List.set_cons_zero, List.set_cons_succ])
        rfl
      refine pure_ (i := 15) (N := some 44) (v := ?_) (a' := ?_) #[true, true, true, true, true, true, true, true, true, true, true, true, true, true, true, true, false] rfl rfl (any_of HT_.out (by kernel_rfl)) (fun _ _ _ h => h) (Or.inl ⟨by rfl, ?_⟩) ?_ ?_
      rotate_left
      · intro w'
        go_simp
        with_reducible rfl
      rotate_left
      · (try simp only [Act.put, List.setIfInBounds_toArray, List.set_cons_zero, List.set_cons_succ])
        rfl
      have hx8 : w1.cell? ⟨X, 8, none⟩ = some (.slice A l.length c) := blk_cell HX3.out 8
      have hf8 : w1.frozen? ⟨X, 8, none⟩ = false := blk_frozen HX3.out 8
      refine last_ (i := 16) (N := none) #[true, true, true, true, true, true, true, true, true, true, true, true, true, true, true, true, true] rfl rfl (one_of HT_.out (by kernel_rfl)) (by decide) (fun K hK => ?_)
      refine skip_ (w1 := w1.setCell ⟨X, 8, none⟩ (.slice A1 m1 c1)) (by rfl) rfl ?_ ?_
      · go_simp
      refine hK.out _ _ ?_
      clear hK K hx8 hf8 hHeld
      refine done_ (done_of HT_.out (by kernel_rfl)) ?_
      clear HT_ HW_
      have HX4 := Aside0.mk (blk_set HX3.out 8 (.slice A1 m1 c1))
      simp only [List.setIfInBounds_toArray, List.set_cons_zero, List.set_cons_succ] at HX4
      have HI4 := Aside0.mk (blk_far (p := ⟨X, 8, none⟩) HI3.out (by show W.heap.size ≠ X; omega) (.slice A1 m1 c1))
      have HH4 := Aside0.mk (blk_far (p := ⟨X, 8, none⟩) HH3.out (by show W.heap.size + 1 ≠ X; omega) (.slice A1 m1 c1))
      have HR4 := Aside0.mk (Kd.R_far (p := ⟨X, 8, none⟩) HR3.out (fun k hk => hk.1) (.slice A1 m1 c1))
      have HS4 := Aside0.mk (St.set HS3.out hX (Or.inl (Or.inl rfl)) 8 (.slice A1 m1 c1))
      clear HX3 HI3 HH3 HR3 HS3
      generalize World.setCell w1 _ _ = W4 at HX4 HI4 HH4 HR4 HS4 ⊢
      have hc0 : W4.cell? ⟨X, 0, none⟩ = some (.int .i64 2) := blk_cell HX4.out 0
      have hc1 : W4.cell? ⟨X, 1, none⟩ = some (.bool op) := blk_cell HX4.out 1
      have hc2 : W4.cell? ⟨X, 2, none⟩ = some (.bool bl) := blk_cell HX4.out 2
      have hc3 : W4.cell? ⟨X, 3, none⟩ = some (.bool pe) := blk_cell HX4.out 3
      have hc4 : W4.cell? ⟨X, 4, none⟩ = some (.int .i64 co0) := blk_cell HX4.out 4
      have hc5 : W4.cell? ⟨X, 5, none⟩ = some (.int .i64 er0) := blk_cell HX4.out 5
      have hc6 : W4.cell? ⟨X, 6, none⟩ = some (.int .u32 nr0) := blk_cell HX4.out 6
      have hc7 : W4.cell? ⟨X, 7, none⟩ = some (.int .u32 ar0) := blk_cell HX4.out 7
      have hf2 : W4.frozen? ⟨X, 2, none⟩ = false := blk_frozen HX4.out 2
      have hi0 : W4.cell? ⟨W.heap.size, 0, none⟩ = some (.int .i64 co) := blk_cell HI4.out 0
      have hi1 : W4.cell? ⟨W.heap.size, 1, none⟩ = some (.int .i64 er) := blk_cell HI4.out 1
      have hi2 : W4.cell? ⟨W.heap.size, 2, none⟩ = some (.int .u32 nr) := blk_cell HI4.out 2
      have hi3 : W4.cell? ⟨W.heap.size, 3, none⟩ = some (.int .u32 ar) := blk_cell HI4.out 3
      have hh0 : W4.cell? ⟨W.heap.size + 1, 0, none⟩ = some (.bool false) := blk_cell HH4.out 0
      have hg0 : W4.frozen? ⟨W.heap.size + 1, 0, none⟩ = false := blk_frozen HH4.out 0
      have hh1 : W4.cell? ⟨W.heap.size + 1, 1, none⟩ = some (.bool false) := blk_cell HH4.out 1
      have hg1 : W4.frozen? ⟨W.heap.size + 1, 1, none⟩ = false := blk_frozen HH4.out 1
      have hh2 : W4.cell? ⟨W.heap.size + 1, 2, none⟩ = some (.int .i64 0) := blk_cell HH4.out 2
      have hg2 : W4.frozen? ⟨W.heap.size + 1, 2, none⟩ = false := blk_frozen HH4.out 2
      have hh3 : W4.cell? ⟨W.heap.size + 1, 3, none⟩ = some (.int .i64 0) := blk_cell HH4.out 3
      have hg3 : W4.frozen? ⟨W.heap.size + 1, 3, none⟩ = false := blk_frozen HH4.out 3
      have hh4 : W4.cell? ⟨W.heap.size + 1, 4, none⟩ = some (.int .u32 0) := blk_cell HH4.out 4
      have hg4 : W4.frozen? ⟨W.heap.size + 1, 4, none⟩ = false := blk_frozen HH4.out 4
      have hh5 : W4.cell? ⟨W.heap.size + 1, 5, none⟩ = some (.int .u32 0) := blk_cell HH4.out 5
      have hg5 : W4.frozen? ⟨W.heap.size + 1, 5, none⟩ = false := blk_frozen HH4.out 5
      have hXY : X ≠ W.heap.size + 1 := by omega
      have hXI : X ≠ W.heap.size := by omega
      cases op
      · try simp only [Bool.false_eq_true, if_false]
        go_wp2
        refine bodyPost_ret (results_cell_row rfl _ _ (W.heap.size + 1) 33 #[.bool false, .bool true, .int .i64 co, .int .i64 er, .int .u32 nr, .int .u32 ar] (0, 0) _ rfl ?hr_ Try.underlying33 rfl (by kernel_rfl)) rfl ?_
        case hr_ => ((repeat (first | (with_reducible exact HH4.out) | (with_reducible exact heap_new_at _ _ _ (by simp)) | (with_reducible refine blk_drewN ?_ _) | (with_reducible refine blk_drew ?_) | (with_reducible refine (Below.heap_setCell _ _ _ _ (by dsimp only; omega)).trans ?_) | (with_reducible apply blk_put) | (with_reducible refine blk_alloc ?_ _))); all_goals rfl)
        refine ⟨rfl, Gets.mk' (.slice A1 m1 c1) ?_ ?_ ?_ ?_⟩
        · (repeat (with_reducible first | exact HX4.out | refine blk_alloc ?_ _ | refine blk_drewN ?_ _ | refine blk_drew ?_ | refine (Below.heap_setCell _ _ _ _ (by dsimp only; omega)).trans ?_ | apply blk_put))
          all_goals rfl
        · refine St.R (W := W4) ?_ (HR4.out) (S := fun k => k = X ∨ k = W.heap.size + 1) (fun k hk hq => hq.elim hk.1 hk.2.1) (fun k hk => hk.1)
          (repeat (with_reducible first | exact St.rfl' _ _ _ | refine St.set ?_ (by omega) (by first | exact Or.inl rfl | exact Or.inl (Or.inl rfl) | exact Or.inl (Or.inr rfl) | (right; omega)) _ _ | refine St.drewN ?_ _ | refine St.drew ?_ | refine St.alloc ?_ (by omega) _))
        · (repeat (with_reducible first | exact HS4.out | refine St.set ?_ (by omega) (by first | exact Or.inl rfl | exact Or.inl (Or.inl rfl) | exact Or.inl (Or.inr rfl) | (right; omega)) _ _ | refine St.drewN ?_ _ | refine St.drew ?_ | refine St.alloc ?_ (by omega) _))
        · exact HN3.out
      · try simp only [if_true]
        go_wp2
        refine bodyPost_ret (results_cell_row rfl _ _ (W.heap.size + 1) 33 #[.bool false, .bool true, .int .i64 co, .int .i64 er, .int .u32 nr, .int .u32 ar] (0, 0) _ rfl ?hr_ Try.underlying33 rfl (by kernel_rfl)) rfl ?_
        case hr_ => ((repeat (first | (with_reducible exact HH4.out) | (with_reducible exact heap_new_at _ _ _ (by simp)) | (with_reducible refine blk_drewN ?_ _) | (with_reducible refine blk_drew ?_) | (with_reducible refine (Below.heap_setCell _ _ _ _ (by dsimp only; omega)).trans ?_) | (with_reducible apply blk_put) | (with_reducible refine blk_alloc ?_ _))); all_goals rfl)
        refine ⟨rfl, Gets.mk' (.slice A1 m1 c1) ?_ ?_ ?_ ?_⟩
        · (repeat (with_reducible first | exact HX4.out | refine blk_alloc ?_ _ | refine blk_drewN ?_ _ | refine blk_drew ?_ | refine (Below.heap_setCell _ _ _ _ (by dsimp only; omega)).trans ?_ | apply blk_put))
          all_goals rfl
        · refine St.R (W := W4) ?_ (HR4.out) (S := fun k => k = X ∨ k = W.heap.size + 1) (fun k hk hq => hq.elim hk.1 hk.2.1) (fun k hk => hk.1)
          (repeat (with_reducible first | exact St.rfl' _ _ _ | refine St.set ?_ (by omega) (by first | exact Or.inl rfl | exact Or.inl (Or.inl rfl) | exact Or.inl (Or.inr rfl) | (right; omega)) _ _ | refine St.drewN ?_ _ | refine St.drew ?_ | refine St.alloc ?_ (by omega) _))
        · (repeat (with_reducible first | exact HS4.out | refine St.set ?_ (by omega) (by first | exact Or.inl rfl | exact Or.inl (Or.inl rfl) | exact Or.inl (Or.inr rfl) | (right; omega)) _ _ | refine St.drewN ?_ _ | refine St.drew ?_ | refine St.alloc ?_ (by omega) _))
        · exact HN3.out
    · have h3' : decide ((l.length : Int) < 4) = false := decide_eq_false (by omega)
      rw [show Sg.deliver ⟨2, op, bl, pe, co0, er0, nr0, ar0, l⟩ co er nr ar = (⟨2, op, bl, pe, co0, er0, nr0, ar0, l⟩, ⟨true, false, co, er, nr, ar⟩) from by simp [Sg.deliver, h3]]
      dsimp only
      go_enter Try.func20, Try.ntmps20
      go_wp2
      refine bodyPost_ret (results_cell_row rfl _ _ (W.heap.size + 1) 33 #[.bool true, .bool false, .int .i64 co, .int .i64 er, .int .u32 nr, .int .u32 ar] (0, 0) _ rfl ?hr_ Try.underlying33 rfl (by kernel_rfl)) rfl ?_
      case hr_ => ((repeat (first | (with_reducible exact heap_new_at _ _ _ (by simp)) | (with_reducible refine blk_drewN ?_ _) | (with_reducible refine blk_drew ?_) | (with_reducible refine (Below.heap_setCell _ _ _ _ (by dsimp only; omega)).trans ?_) | (with_reducible apply blk_put) | (with_reducible refine blk_alloc ?_ _))); all_goals rfl)
      refine ⟨rfl, Gets.mk' (.slice A l.length c) ?_ ?_ ?_ ?_⟩
      · (repeat (with_reducible first | exact hbs.out | refine blk_alloc ?_ _ | refine blk_drewN ?_ _ | refine blk_drew ?_ | refine (Below.heap_setCell _ _ _ _ (by dsimp only; omega)).trans ?_ | apply blk_put))
        all_goals rfl
      · refine St.R (W := _) ?_ (hRs.out) (fun k hk => hk) (fun k hk => hk)
        (repeat (with_reducible first | exact St.rfl' _ _ _ | refine St.set ?_ (by omega) (by first | exact Or.inl rfl | exact Or.inl (Or.inl rfl) | exact Or.inl (Or.inr rfl) | (right; omega)) _ _ | refine St.drewN ?_ _ | refine St.drew ?_ | refine St.alloc ?_ (by omega) _))
      · refine St.mono (S := fun k => k = X) ?_ (fun k hk => Or.inl hk); (repeat (with_reducible first | exact St.rfl' _ _ _ | refine St.set ?_ (by omega) (by first | exact Or.inl rfl | exact Or.inl (Or.inl rfl) | exact Or.inl (Or.inr rfl) | (right; omega)) _ _ | refine St.drewN ?_ _ | refine St.drew ?_ | refine St.alloc ?_ (by omega) _))
      · exact New.rfl' _ _
  · have h2' : (ac == 2) = false := by simpa using h2
    rw [show Sg.deliver ⟨ac, op, bl, pe, co0, er0, nr0, ar0, l⟩ co er nr ar = (⟨ac, op, bl, pe, co0, er0, nr0, ar0, l⟩, ⟨true, false, co, er, nr, ar⟩) from by simp [Sg.deliver, h1, h2]]
    dsimp only
    go_enter Try.func20, Try.ntmps20
    go_wp2
    refine bodyPost_ret (results_cell_row rfl _ _ (W.heap.size + 1) 33 #[.bool true, .bool false, .int .i64 co, .int .i64 er, .int .u32 nr, .int .u32 ar] (0, 0) _ rfl ?hr_ Try.underlying33 rfl (by kernel_rfl)) rfl ?_
    case hr_ => ((repeat (first | (with_reducible exact heap_new_at _ _ _ (by simp)) | (with_reducible refine blk_drewN ?_ _) | (with_reducible refine blk_drew ?_) | (with_reducible refine (Below.heap_setCell _ _ _ _ (by dsimp only; omega)).trans ?_) | (with_reducible apply blk_put) | (with_reducible refine blk_alloc ?_ _))); all_goals rfl)
    refine ⟨rfl, Gets.mk' (.slice A l.length c) ?_ ?_ ?_ ?_⟩
    · (repeat (with_reducible first | exact hbs.out | refine blk_alloc ?_ _ | refine blk_drewN ?_ _ | refine blk_drew ?_ | refine (Below.heap_setCell _ _ _ _ (by dsimp only; omega)).trans ?_ | apply blk_put))
      all_goals rfl
    · refine St.R (W := _) ?_ (hRs.out) (fun k hk => hk) (fun k hk => hk)
      (repeat (with_reducible first | exact St.rfl' _ _ _ | refine St.set ?_ (by omega) (by first | exact Or.inl rfl | exact Or.inl (Or.inl rfl) | exact Or.inl (Or.inr rfl) | (right; omega)) _ _ | refine St.drewN ?_ _ | refine St.drew ?_ | refine St.alloc ?_ (by omega) _))
    · refine St.mono (S := fun k => k = X) ?_ (fun k hk => Or.inl hk); (repeat (with_reducible first | exact St.rfl' _ _ _ | refine St.set ?_ (by omega) (by first | exact Or.inl rfl | exact Or.inl (Or.inl rfl) | exact Or.inl (Or.inr rfl) | (right; omega)) _ _ | refine St.drewN ?_ _ | refine St.drew ?_ | refine St.alloc ?_ (by omega) _))
    · exact New.rfl' _ _
end Go.Proofs.Ytbpgpbbpeppjmaa.SG
