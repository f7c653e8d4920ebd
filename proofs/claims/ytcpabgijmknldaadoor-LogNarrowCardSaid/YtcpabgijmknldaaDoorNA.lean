import Derived.Test.YtcpabgijmknldaaDoorMLN
import Derived.Lib.Hide
import Derived.Outline
namespace Go.Proofs.YtcpabgijmknldaaDoor.PN
open Go.RowKit Go.Proofs.YtcpabgijmknldaaDoorW.PrintWords Go.Proofs.YtcpabgijmknldaaDoorW.PrintLast Go.Proofs.YtcpabgijmknldaaDoorW.PrintMore
open Go.Proofs.YtcpabgijmknldaaDoor.PE.L (Ef OfV OfE effV Tab)
attribute [local go_sem] max2_int min2_int max_two min_two max_three min_three max_four min_four
set_option linter.unusedVariables false
set_option linter.unusedSimpArgs false
theorem heap_new_at (w : World) (o : Obj) (n : Nat) (hn : n = w.heap.size) : (w.alloc o).heap[n]? = some o := hn ▸ heap_alloc_new w o
theorem below_drewN' {B : Nat} {w W : World} (h : Below B w W) (n : Nat) : Below B w (W.drewN n) := pw_below_drewN h n
theorem below_drew' {B : Nat} {w W : World} (h : Below B w W) : Below B w W.drew := below_drew h
theorem boxes1 {w w' : World} {c0 : Array Value} {t0 : TypeId} (hb : Below (w.alloc (.cells c0 t0)).heap.size (w.alloc (.cells c0 t0)) w') :
    Aside0 (w'.heap[w.heap.size]? = some (.cells c0 t0 (0, 0))) ∧ Below w.heap.size w w' := by
  have h0 : w'.heap[w.heap.size]? = some (.cells c0 t0 (0, 0)) := (hb.block _ (by simp only [World.size_alloc]; omega)).trans (heap_new_at w (.cells c0 t0) (w.heap.size) (by simp only [World.size_alloc]))
  exact ⟨⟨h0⟩, ((Below.refl _ _).alloc (Nat.le_refl _) _).trans (hb.mono (by simp only [World.size_alloc]; omega))⟩
theorem step_ {ops : Array Oper} {rest : List Oper} {oi : Oper} {a : Act} {W W1 : World} {Q : Exit → Act → World → Prop} (hgd : oi.guard = none) (hN : oi.dst = none) (hrun : (execOp a.eval oi).run Tryd.prog W = .ok .skip W1) (h : wpList Tryd.prog ops Q rest a W1) : wpList Tryd.prog ops Q (oi :: rest) a W := by
  refine wpList_plain hgd fun K hK => ?_
  unfold Oper.wp
  rw [hrun]
  show K (a.put oi.dst undef) W1
  rw [hN]
  exact hK _ _ h
theorem put25_ {W : World} {Y t : Nat} {z0 z1 z2 : Value} (h : W.heap[Y]? = some (.cells #[z0, z1, z2] t (0, 0))) (x0 : Value) (x1 : Value) (x2 : Value) : ((((W.setCell ⟨Y, 0, none⟩ x0).setCell ⟨Y, 1, none⟩ x1).setCell ⟨Y, 2, none⟩ x2)).heap[Y]? = some (.cells #[x0, x1, x2] t (0, 0)) := by
  replace h := blk_set h 0 x0
  replace h := blk_set h 1 x1
  replace h := blk_set h 2 x2
  simpa using h
set_option maxHeartbeats 2000000 in
theorem store25 (ev : Operand → Value) (oi : Oper) (p q : Operand) (hop : oi.op = .store 25 p q) (v0 : Int) (v1 : Int) (A : Option Addr) (m c : Nat) {z0 z1 z2 : Value} (Y : Nat) (hp : ev p = .pointer (some ⟨Y, 0, none⟩)) (hq : ev q = .agg #[.int .i64 v0, .int .u64 v1, .slice A m c]) (W : World) (hY : W.heap[Y]? = some (.cells #[z0, z1, z2] 25 (0, 0))) : ∃ W1, (execOp ev oi).run Tryd.prog W = .ok .skip W1 ∧ W1.heap[Y]? = some (.cells #[.int .i64 v0, .int .u64 v1, .slice A m c] 25 (0, 0)) ∧ (∀ g, g ≠ Y → W1.heap[g]? = W.heap[g]?) ∧ W1.heap.size = W.heap.size ∧ (∀ b, b ≤ Y → Below b W W1) := by
  have hz0 : World.cell? W ⟨Y, 0, none⟩ = some z0 := blk_cell hY 0
  have hf0 : World.frozen? W ⟨Y, 0, none⟩ = false := blk_frozen hY 0
  have hz1 : World.cell? W ⟨Y, 1, none⟩ = some z1 := blk_cell hY 1
  have hf1 : World.frozen? W ⟨Y, 1, none⟩ = false := blk_frozen hY 1
  have hz2 : World.cell? W ⟨Y, 2, none⟩ = some z2 := blk_cell hY 2
  have hf2 : World.frozen? W ⟨Y, 2, none⟩ = false := blk_frozen hY 2
  refine ⟨(((W.setCell ⟨Y, 0, none⟩ (.int .i64 v0)).setCell ⟨Y, 1, none⟩ (.int .u64 v1)).setCell ⟨Y, 2, none⟩ (.slice A m c)), ?h1, put25_ hY _ _ _, ?h3, ?h4, ?h5⟩
  case h1 =>
    unfold execOp
    simp only [hop, hp, hq]
    go_simp
  case h3 =>
    intro g hg
    repeat (with_reducible first | exact rfl | refine (Below.heap_setCell _ _ _ _ hg).trans ?_)
  case h4 => simp only [World.size_setCell]
  case h5 =>
    intro b hb
    repeat (with_reducible first | exact Below.refl _ _ | refine Below.setCell ?_ hb _)
theorem storeP25 {ops : Array Oper} {rest : List Oper} {Q : Exit → Act → World → Prop} {oi : Oper} {a : Act} {W : World} (hgd : oi.guard = none) (hN : oi.dst = none) (p q : Operand) (hop : oi.op = .store 25 p q) (v0 : Int) (v1 : Int) (A : Option Addr) (m c : Nat) {z0 z1 z2 : Value} (Y : Nat) (hp : a.eval p = .pointer (some ⟨Y, 0, none⟩)) (hq : a.eval q = .agg #[.int .i64 v0, .int .u64 v1, .slice A m c]) (hY : W.heap[Y]? = some (.cells #[z0, z1, z2] 25 (0, 0)))
    (h : ∀ W1 : World, W1.heap[Y]? = some (.cells #[.int .i64 v0, .int .u64 v1, .slice A m c] 25 (0, 0)) → (∀ g, g ≠ Y → W1.heap[g]? = W.heap[g]?) → W1.heap.size = W.heap.size → (∀ b, b ≤ Y → Below b W W1) → wpList Tryd.prog ops Q rest a W1) : wpList Tryd.prog ops Q (oi :: rest) a W := by
  obtain ⟨W1, hr, h1, h2, h3, h4⟩ := store25 a.eval oi p q hop v0 v1 A m c Y hp hq W hY
  exact step_ hgd hN hr (h W1 h1 h2 h3 h4)
theorem put31_ {W : World} {Y t : Nat} {z0 z1 z2 z3 z4 z5 : Value} (h : W.heap[Y]? = some (.cells #[z0, z1, z2, z3, z4, z5] t (0, 0))) (x0 : Value) (x1 : Value) (x2 : Value) (x3 : Value) (x4 : Value) (x5 : Value) : (((((((W.setCell ⟨Y, 0, none⟩ x0).setCell ⟨Y, 1, none⟩ x1).setCell ⟨Y, 2, none⟩ x2).setCell ⟨Y, 3, none⟩ x3).setCell ⟨Y, 4, none⟩ x4).setCell ⟨Y, 5, none⟩ x5)).heap[Y]? = some (.cells #[x0, x1, x2, x3, x4, x5] t (0, 0)) := by
  replace h := blk_set h 0 x0
  replace h := blk_set h 1 x1
  replace h := blk_set h 2 x2
  replace h := blk_set h 3 x3
  replace h := blk_set h 4 x4
  replace h := blk_set h 5 x5
  simpa using h
set_option maxHeartbeats 2000000 in
theorem store31 (ev : Operand → Value) (oi : Oper) (p q : Operand) (hop : oi.op = .store 31 p q) (v0 : Int) (v1 : Int) (v2 : Int) (v3 : Int) (v4 : Int) (v5 : Int) {z0 z1 z2 z3 z4 z5 : Value} (Y : Nat) (hp : ev p = .pointer (some ⟨Y, 0, none⟩)) (hq : ev q = .agg #[.int .u64 v0, .int .i64 v1, .int .u32 v2, .int .u32 v3, .int .i64 v4, .int .u16 v5]) (W : World) (hY : W.heap[Y]? = some (.cells #[z0, z1, z2, z3, z4, z5] 31 (0, 0))) : ∃ W1, (execOp ev oi).run Tryd.prog W = .ok .skip W1 ∧ W1.heap[Y]? = some (.cells #[.int .u64 v0, .int .i64 v1, .int .u32 v2, .int .u32 v3, .int .i64 v4, .int .u16 v5] 31 (0, 0)) ∧ (∀ g, g ≠ Y → W1.heap[g]? = W.heap[g]?) ∧ W1.heap.size = W.heap.size ∧ (∀ b, b ≤ Y → Below b W W1) := by
  have hz0 : World.cell? W ⟨Y, 0, none⟩ = some z0 := blk_cell hY 0
  have hf0 : World.frozen? W ⟨Y, 0, none⟩ = false := blk_frozen hY 0
  have hz1 : World.cell? W ⟨Y, 1, none⟩ = some z1 := blk_cell hY 1
  have hf1 : World.frozen? W ⟨Y, 1, none⟩ = false := blk_frozen hY 1
  have hz2 : World.cell? W ⟨Y, 2, none⟩ = some z2 := blk_cell hY 2
  have hf2 : World.frozen? W ⟨Y, 2, none⟩ = false := blk_frozen hY 2
  have hz3 : World.cell? W ⟨Y, 3, none⟩ = some z3 := blk_cell hY 3
  have hf3 : World.frozen? W ⟨Y, 3, none⟩ = false := blk_frozen hY 3
  have hz4 : World.cell? W ⟨Y, 4, none⟩ = some z4 := blk_cell hY 4
  have hf4 : World.frozen? W ⟨Y, 4, none⟩ = false := blk_frozen hY 4
  have hz5 : World.cell? W ⟨Y, 5, none⟩ = some z5 := blk_cell hY 5
  have hf5 : World.frozen? W ⟨Y, 5, none⟩ = false := blk_frozen hY 5
  refine ⟨((((((W.setCell ⟨Y, 0, none⟩ (.int .u64 v0)).setCell ⟨Y, 1, none⟩ (.int .i64 v1)).setCell ⟨Y, 2, none⟩ (.int .u32 v2)).setCell ⟨Y, 3, none⟩ (.int .u32 v3)).setCell ⟨Y, 4, none⟩ (.int .i64 v4)).setCell ⟨Y, 5, none⟩ (.int .u16 v5)), ?h1, put31_ hY _ _ _ _ _ _, ?h3, ?h4, ?h5⟩
  case h1 =>
    unfold execOp
    simp only [hop, hp, hq]
    go_simp
  case h3 =>
    intro g hg
    repeat (with_reducible first | exact rfl | refine (Below.heap_setCell _ _ _ _ hg).trans ?_)
  case h4 => simp only [World.size_setCell]
  case h5 =>
    intro b hb
    repeat (with_reducible first | exact Below.refl _ _ | refine Below.setCell ?_ hb _)
theorem storeP31 {ops : Array Oper} {rest : List Oper} {Q : Exit → Act → World → Prop} {oi : Oper} {a : Act} {W : World} (hgd : oi.guard = none) (hN : oi.dst = none) (p q : Operand) (hop : oi.op = .store 31 p q) (v0 : Int) (v1 : Int) (v2 : Int) (v3 : Int) (v4 : Int) (v5 : Int) {z0 z1 z2 z3 z4 z5 : Value} (Y : Nat) (hp : a.eval p = .pointer (some ⟨Y, 0, none⟩)) (hq : a.eval q = .agg #[.int .u64 v0, .int .i64 v1, .int .u32 v2, .int .u32 v3, .int .i64 v4, .int .u16 v5]) (hY : W.heap[Y]? = some (.cells #[z0, z1, z2, z3, z4, z5] 31 (0, 0)))
    (h : ∀ W1 : World, W1.heap[Y]? = some (.cells #[.int .u64 v0, .int .i64 v1, .int .u32 v2, .int .u32 v3, .int .i64 v4, .int .u16 v5] 31 (0, 0)) → (∀ g, g ≠ Y → W1.heap[g]? = W.heap[g]?) → W1.heap.size = W.heap.size → (∀ b, b ≤ Y → Below b W W1) → wpList Tryd.prog ops Q rest a W1) : wpList Tryd.prog ops Q (oi :: rest) a W := by
  obtain ⟨W1, hr, h1, h2, h3, h4⟩ := store31 a.eval oi p q hop v0 v1 v2 v3 v4 v5 Y hp hq W hY
  exact step_ hgd hN hr (h W1 h1 h2 h3 h4)

theorem V_of_R {α : Type} {d : Kd α} {e : Nat} {W : World} {base base' : Nat} {ok : Nat → Prop} {v : Value} {xs : List α} (h : Kd.R d e W base ok v xs) : Kd.V d e W base' ok v xs := by
  obtain ⟨A, c, rfl, hc, _⟩ := Kd.R_reads h
  refine ⟨A, c, rfl, hc, fun W' hW' => ?_⟩
  obtain ⟨A', c', e', _, hC⟩ := Kd.R_reads (Kd.R_step h hW')
  injection e' with e1 e2 e3
  subst e1
  exact hC
theorem new_e {rm : Int} (h0 : 1 ≤ rm) (h1 : rm ≤ 32) (W : World) : Calls Tryd.prog 14 #[.int .i64 rm] W fun e W' => ∃ (A : Option Addr) (c : Nat), e = .returned (.tuple #[.agg #[.int .i64 rm, .int .u64 1, .slice A 0 c], .int .i64 0]) ∧ (∀ W1 ok, Kd.V k31 31 W1 0 ok (.slice A 0 c) []) ∧ Below W.heap.size W W' := by
  refine (log_New.calls rm rm 1 [] 0 W (by unfold log_New.f; rw [if_neg (by omega), if_neg (by omega)])).mono ?_
  rintro e W' ⟨v, rfl, hR, hB⟩
  obtain ⟨A, c, rfl⟩ := Kd.R_slice hR
  exact ⟨A, c, rfl, fun W1 ok => ⟨A, c, rfl, Nat.zero_le _, fun W2 _ => ⟨rfl, Nat.zero_le _, fun h => absurd h (by simp)⟩⟩, hB⟩
theorem V_set1 {W : World} {x y : Nat} {v : Value} {l : List S31} (h : Kd.V k31 31 W 0 (fun k => k ≠ x ∧ k ≠ y) v l) (i : Nat) (u : Value) : Kd.V k31 31 (W.setCell ⟨x, i, none⟩ u) 0 (fun k => k ≠ x ∧ k ≠ y) v l := Kd.V_far h (fun k hk => hk.1) u
theorem V_set2 {W : World} {x y : Nat} {v : Value} {l : List S31} (h : Kd.V k31 31 W 0 (fun k => k ≠ x ∧ k ≠ y) v l) (i : Nat) (u : Value) : Kd.V k31 31 (W.setCell ⟨y, i, none⟩ u) 0 (fun k => k ≠ x ∧ k ≠ y) v l := Kd.V_far h (fun k hk => hk.2) u
theorem tail_nil (r : Int) : tailN [] r = [] := by simp [tailN]
theorem put_e {room nx tid nr arch act dat r1 r2 r5 : Int} {r4 : Bool} {l r3 : List S31} (h : log_Put.f 1000 room nx l tid nr arch act dat = some (r1, r2, r3, r4, r5)) {P : Nat → Prop} {A : Option Addr} {m c : Nat} {W : World} (hV : Kd.V k31 31 W 0 P (.slice A m c) l) (hT : Tab W) :
    Calls Tryd.prog 11 #[.agg #[.int .i64 room, .int .u64 nx, .slice A m c], .int .i64 tid, .int .u32 nr, .int .u32 arch, .agg #[.int .i64 act, .int .u16 dat]] W fun e W' => ∃ (A' : Option Addr) (m' c' : Nat), e = .returned (.tuple #[.agg #[.int .i64 r1, .int .u64 r2, .slice A' m' c'], .bool r4, .int .i64 r5]) ∧ Kd.V k31 31 W' 0 (fun k => P k ∨ W.heap.size ≤ k) (.slice A' m' c') r3 ∧ Below W.heap.size W W' := by
  obtain ⟨rfl, hc, _⟩ := Kd.V_at hV
  refine (log_Put.calls 1000 room nx P A c l tid nr arch act dat r1 r2 r3 r4 r5 W hV h hT).mono ?_
  rintro e W' ⟨v, rfl, hR, hB⟩
  obtain ⟨A', c', rfl⟩ := Kd.V_slice hR
  exact ⟨A', _, c', rfl, hR, hB⟩
theorem widen_e {room nx a : Int} {l : List S31} (hd : Dat l) (hR : Rok room nx l) (h0 : 1 ≤ a) (h1 : a ≤ room) {P : Nat → Prop} {A : Option Addr} {m c : Nat} {W : World} (hV : Kd.V k31 31 W 0 P (.slice A m c) l) (hT : Tab W) :
    Calls Tryd.prog 17 #[.agg #[.int .i64 room, .int .u64 nx, .slice A m c], .int .i64 a] W fun e W' => ∃ (A' : Option Addr) (m' c' : Nat), e = .returned (.tuple #[.agg #[.int .i64 a, .int .u64 nx, .slice A' m' c'], .int .i64 0]) ∧ Kd.V k31 31 W' 0 (fun k => W.heap.size ≤ k) (.slice A' m' c') (tailN l a) ∧ Below W.heap.size W W' := by
  have hRR := hR
  obtain ⟨r1, r2, r3, r4, r5, _⟩ := hRR
  have hV' := Kd.V_reads' hV
  obtain ⟨rfl, hc, hC⟩ := hV'
  refine (log_Widen.calls 1000 room nx A c l a a nx (tailN l a) 0 W hC hc (widen_f 1000 room nx l a hd hR (by omega) (by omega) h0 h1) hT).mono ?_
  rintro e W' ⟨v, rfl, hR', hB⟩
  obtain ⟨A', c', rfl⟩ := Kd.R_slice hR'
  exact ⟨A', _, c', rfl, V_of_R (Kd.R_mono (Kd.R_bound hR') (fun k hk => hk.2.1)), hB⟩
theorem same_e {room nx : Int} {l : List S31} (hl : l.length ≤ 900) {P P2 : Nat → Prop} {A A2 : Option Addr} {m c m2 c2 : Nat} {W : World} (hV : Kd.V k31 31 W 0 P (.slice A m c) l) (hV2 : Kd.V k31 31 W 0 P2 (.slice A2 m2 c2) l) :
    Calls Tryd.prog 18 #[.agg #[.int .i64 room, .int .u64 nx, .slice A m c], .agg #[.int .i64 room, .int .u64 nx, .slice A2 m2 c2]] W fun e W' => e = .returned (.bool true) ∧ Below W.heap.size W W' := by
  obtain ⟨rfl, hc, hC⟩ := Kd.V_reads' hV
  obtain ⟨rfl, hc2, hC2⟩ := Kd.V_reads' hV2
  exact log_Same.calls 1000 room nx A c l room nx A2 c2 l true W hC hc hC2 hc2 (lsame_f 1000 room nx l (by omega) (by omega))
theorem tail_le {all : List S31} {room : Int} (h : all.length ≤ 100) : (tailN all room).length ≤ 900 := by unfold tailN; simp; omega
end Go.Proofs.YtcpabgijmknldaaDoor.PN
