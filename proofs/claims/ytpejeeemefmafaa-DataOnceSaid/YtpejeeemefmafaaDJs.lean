import Derived.Test.YtpejeeemefmafaaDJ
namespace Go.Proofs.Ytpejeeemefmafaa.RD
open Go.RowKit Go.Proofs.YtpejeeemefmafaaW.PrintWords Go.Proofs.YtpejeeemefmafaaW.PrintLast Go.Proofs.YtpejeeemefmafaaW.PrintMore
open Go.Proofs.Ytpejeeemefmafaa.PE.L (below_drewN' below_drew')
open PH
set_option linter.unusedVariables false
set_option linter.unusedSimpArgs false
set_option maxHeartbeats 2000000 in
theorem load66 (ev : Operand → Value) (oi : Oper) (p : Operand) (hop : oi.op = .load 66 p) (l : List Int) (Y : Nat) (hp : ev p = .pointer (some ⟨Y, 0, none⟩)) (W : World) (hY : W.heap[Y]? = some (.cells #[.int .u32 (w4 l 0), .int .u32 (w4 l 4), .int .u32 (w4 l 8), .int .u32 (w4 l 12), .int .u32 (w4 l 16), .int .u32 (w4 l 20), .int .u32 (w4 l 24), .int .u32 (w4 l 28), .int .u32 (w4 l 32), .int .u32 (w4 l 36), .int .u32 (w4 l 40), .int .u32 (w4 l 44), .int .u32 (w4 l 48), .int .u32 (w4 l 52), .int .u32 (w4 l 56), .int .u32 (w4 l 60)] 66 (0, 0))) : (execOp ev oi).run Try.prog W = .ok (.value (.agg #[.int .u32 (w4 l 0), .int .u32 (w4 l 4), .int .u32 (w4 l 8), .int .u32 (w4 l 12), .int .u32 (w4 l 16), .int .u32 (w4 l 20), .int .u32 (w4 l 24), .int .u32 (w4 l 28), .int .u32 (w4 l 32), .int .u32 (w4 l 36), .int .u32 (w4 l 40), .int .u32 (w4 l 44), .int .u32 (w4 l 48), .int .u32 (w4 l 52), .int .u32 (w4 l 56), .int .u32 (w4 l 60)])) W := by
  have hz0 : World.cell? W ⟨Y, 0, none⟩ = some (.int .u32 (w4 l 0)) := blk_cell hY 0
  have hz1 : World.cell? W ⟨Y, 1, none⟩ = some (.int .u32 (w4 l 4)) := blk_cell hY 1
  have hz2 : World.cell? W ⟨Y, 2, none⟩ = some (.int .u32 (w4 l 8)) := blk_cell hY 2
  have hz3 : World.cell? W ⟨Y, 3, none⟩ = some (.int .u32 (w4 l 12)) := blk_cell hY 3
  have hz4 : World.cell? W ⟨Y, 4, none⟩ = some (.int .u32 (w4 l 16)) := blk_cell hY 4
  have hz5 : World.cell? W ⟨Y, 5, none⟩ = some (.int .u32 (w4 l 20)) := blk_cell hY 5
  have hz6 : World.cell? W ⟨Y, 6, none⟩ = some (.int .u32 (w4 l 24)) := blk_cell hY 6
  have hz7 : World.cell? W ⟨Y, 7, none⟩ = some (.int .u32 (w4 l 28)) := blk_cell hY 7
  have hz8 : World.cell? W ⟨Y, 8, none⟩ = some (.int .u32 (w4 l 32)) := blk_cell hY 8
  have hz9 : World.cell? W ⟨Y, 9, none⟩ = some (.int .u32 (w4 l 36)) := blk_cell hY 9
  have hz10 : World.cell? W ⟨Y, 10, none⟩ = some (.int .u32 (w4 l 40)) := blk_cell hY 10
  have hz11 : World.cell? W ⟨Y, 11, none⟩ = some (.int .u32 (w4 l 44)) := blk_cell hY 11
  have hz12 : World.cell? W ⟨Y, 12, none⟩ = some (.int .u32 (w4 l 48)) := blk_cell hY 12
  have hz13 : World.cell? W ⟨Y, 13, none⟩ = some (.int .u32 (w4 l 52)) := blk_cell hY 13
  have hz14 : World.cell? W ⟨Y, 14, none⟩ = some (.int .u32 (w4 l 56)) := blk_cell hY 14
  have hz15 : World.cell? W ⟨Y, 15, none⟩ = some (.int .u32 (w4 l 60)) := blk_cell hY 15
  unfold execOp
  simp only [hop, hp]
  go_simp
theorem loadL66 {ops : Array Oper} {Q : Exit → Act → World → Prop} {rest : List Oper} {oi : Oper} {a : Act} {W : World} (N : Tmp) (hd : oi.dst = some N) (hg : oi.guard = none) (p : Operand) (hop : oi.op = .load 66 p) (l : List Int) (Y : Nat) (hp : a.eval p = .pointer (some ⟨Y, 0, none⟩)) (hY : W.heap[Y]? = some (.cells #[.int .u32 (w4 l 0), .int .u32 (w4 l 4), .int .u32 (w4 l 8), .int .u32 (w4 l 12), .int .u32 (w4 l 16), .int .u32 (w4 l 20), .int .u32 (w4 l 24), .int .u32 (w4 l 28), .int .u32 (w4 l 32), .int .u32 (w4 l 36), .int .u32 (w4 l 40), .int .u32 (w4 l 44), .int .u32 (w4 l 48), .int .u32 (w4 l 52), .int .u32 (w4 l 56), .int .u32 (w4 l 60)] 66 (0, 0)))
    (h : wpList Try.prog ops Q rest (a.put (some N) (.agg #[.int .u32 (w4 l 0), .int .u32 (w4 l 4), .int .u32 (w4 l 8), .int .u32 (w4 l 12), .int .u32 (w4 l 16), .int .u32 (w4 l 20), .int .u32 (w4 l 24), .int .u32 (w4 l 28), .int .u32 (w4 l 32), .int .u32 (w4 l 36), .int .u32 (w4 l 40), .int .u32 (w4 l 44), .int .u32 (w4 l 48), .int .u32 (w4 l 52), .int .u32 (w4 l 56), .int .u32 (w4 l 60)])) W) : wpList Try.prog ops Q (oi :: rest) a W := by
  refine wpList_plain hg fun K hK => ?_
  have hrun := load66 a.eval oi p hop l Y hp W hY
  unfold Oper.wp
  rw [hrun]
  rw [← hd] at h
  exact hK _ _ h
set_option maxHeartbeats 2000000 in
theorem storeW (ev : Operand → Value) (oi : Oper) (p q : Operand) (hop : oi.op = .store 66 p q) (l : List Int) (Y : Nat) (hp : ev p = .pointer (some ⟨Y, 0, none⟩)) (hq : ev q = .agg #[.int .u32 (w4 l 0), .int .u32 (w4 l 4), .int .u32 (w4 l 8), .int .u32 (w4 l 12), .int .u32 (w4 l 16), .int .u32 (w4 l 20), .int .u32 (w4 l 24), .int .u32 (w4 l 28), .int .u32 (w4 l 32), .int .u32 (w4 l 36), .int .u32 (w4 l 40), .int .u32 (w4 l 44), .int .u32 (w4 l 48), .int .u32 (w4 l 52), .int .u32 (w4 l 56), .int .u32 (w4 l 60)]) (W : World) (hY : W.heap[Y]? = some (.cells #[.int .u32 0, .int .u32 0, .int .u32 0, .int .u32 0, .int .u32 0, .int .u32 0, .int .u32 0, .int .u32 0, .int .u32 0, .int .u32 0, .int .u32 0, .int .u32 0, .int .u32 0, .int .u32 0, .int .u32 0, .int .u32 0] 66 (0, 0))) : ∃ W1, (execOp ev oi).run Try.prog W = .ok .skip W1 ∧ W1.heap[Y]? = some (.cells #[.int .u32 (w4 l 0), .int .u32 (w4 l 4), .int .u32 (w4 l 8), .int .u32 (w4 l 12), .int .u32 (w4 l 16), .int .u32 (w4 l 20), .int .u32 (w4 l 24), .int .u32 (w4 l 28), .int .u32 (w4 l 32), .int .u32 (w4 l 36), .int .u32 (w4 l 40), .int .u32 (w4 l 44), .int .u32 (w4 l 48), .int .u32 (w4 l 52), .int .u32 (w4 l 56), .int .u32 (w4 l 60)] 66 (0, 0)) ∧ (∀ g, g ≠ Y → W1.heap[g]? = W.heap[g]?) ∧ W1.heap.size = W.heap.size ∧ (∀ b, b ≤ Y → Below b W W1) := by
  have hz0 : World.cell? W ⟨Y, 0, none⟩ = some (.int .u32 0) := blk_cell hY 0
  have hf0 : World.frozen? W ⟨Y, 0, none⟩ = false := blk_frozen hY 0
  have hz1 : World.cell? W ⟨Y, 1, none⟩ = some (.int .u32 0) := blk_cell hY 1
  have hf1 : World.frozen? W ⟨Y, 1, none⟩ = false := blk_frozen hY 1
  have hz2 : World.cell? W ⟨Y, 2, none⟩ = some (.int .u32 0) := blk_cell hY 2
  have hf2 : World.frozen? W ⟨Y, 2, none⟩ = false := blk_frozen hY 2
  have hz3 : World.cell? W ⟨Y, 3, none⟩ = some (.int .u32 0) := blk_cell hY 3
  have hf3 : World.frozen? W ⟨Y, 3, none⟩ = false := blk_frozen hY 3
  have hz4 : World.cell? W ⟨Y, 4, none⟩ = some (.int .u32 0) := blk_cell hY 4
  have hf4 : World.frozen? W ⟨Y, 4, none⟩ = false := blk_frozen hY 4
  have hz5 : World.cell? W ⟨Y, 5, none⟩ = some (.int .u32 0) := blk_cell hY 5
  have hf5 : World.frozen? W ⟨Y, 5, none⟩ = false := blk_frozen hY 5
  have hz6 : World.cell? W ⟨Y, 6, none⟩ = some (.int .u32 0) := blk_cell hY 6
  have hf6 : World.frozen? W ⟨Y, 6, none⟩ = false := blk_frozen hY 6
  have hz7 : World.cell? W ⟨Y, 7, none⟩ = some (.int .u32 0) := blk_cell hY 7
  have hf7 : World.frozen? W ⟨Y, 7, none⟩ = false := blk_frozen hY 7
  have hz8 : World.cell? W ⟨Y, 8, none⟩ = some (.int .u32 0) := blk_cell hY 8
  have hf8 : World.frozen? W ⟨Y, 8, none⟩ = false := blk_frozen hY 8
  have hz9 : World.cell? W ⟨Y, 9, none⟩ = some (.int .u32 0) := blk_cell hY 9
  have hf9 : World.frozen? W ⟨Y, 9, none⟩ = false := blk_frozen hY 9
  have hz10 : World.cell? W ⟨Y, 10, none⟩ = some (.int .u32 0) := blk_cell hY 10
  have hf10 : World.frozen? W ⟨Y, 10, none⟩ = false := blk_frozen hY 10
  have hz11 : World.cell? W ⟨Y, 11, none⟩ = some (.int .u32 0) := blk_cell hY 11
  have hf11 : World.frozen? W ⟨Y, 11, none⟩ = false := blk_frozen hY 11
  have hz12 : World.cell? W ⟨Y, 12, none⟩ = some (.int .u32 0) := blk_cell hY 12
  have hf12 : World.frozen? W ⟨Y, 12, none⟩ = false := blk_frozen hY 12
  have hz13 : World.cell? W ⟨Y, 13, none⟩ = some (.int .u32 0) := blk_cell hY 13
  have hf13 : World.frozen? W ⟨Y, 13, none⟩ = false := blk_frozen hY 13
  have hz14 : World.cell? W ⟨Y, 14, none⟩ = some (.int .u32 0) := blk_cell hY 14
  have hf14 : World.frozen? W ⟨Y, 14, none⟩ = false := blk_frozen hY 14
  have hz15 : World.cell? W ⟨Y, 15, none⟩ = some (.int .u32 0) := blk_cell hY 15
  have hf15 : World.frozen? W ⟨Y, 15, none⟩ = false := blk_frozen hY 15
  refine ⟨?W1, ?h1, ?h2, ?h3, ?h4, ?h5⟩
  rotate_left
  case h1 =>
    unfold execOp
    simp only [hop, hp, hq]
    go_simp
    rfl
  case h2 =>
    have b0 := hY
    have b1 := blk_set b0 0 (.int .u32 (w4 l 0))
    have b2 := blk_set b1 1 (.int .u32 (w4 l 4))
    have b3 := blk_set b2 2 (.int .u32 (w4 l 8))
    have b4 := blk_set b3 3 (.int .u32 (w4 l 12))
    have b5 := blk_set b4 4 (.int .u32 (w4 l 16))
    have b6 := blk_set b5 5 (.int .u32 (w4 l 20))
    have b7 := blk_set b6 6 (.int .u32 (w4 l 24))
    have b8 := blk_set b7 7 (.int .u32 (w4 l 28))
    have b9 := blk_set b8 8 (.int .u32 (w4 l 32))
    have b10 := blk_set b9 9 (.int .u32 (w4 l 36))
    have b11 := blk_set b10 10 (.int .u32 (w4 l 40))
    have b12 := blk_set b11 11 (.int .u32 (w4 l 44))
    have b13 := blk_set b12 12 (.int .u32 (w4 l 48))
    have b14 := blk_set b13 13 (.int .u32 (w4 l 52))
    have b15 := blk_set b14 14 (.int .u32 (w4 l 56))
    have b16 := blk_set b15 15 (.int .u32 (w4 l 60))
    simpa using b16
  case h3 =>
    intro g hg
    repeat (with_reducible first | exact rfl | refine (Below.heap_setCell _ _ _ _ hg).trans ?_)
  case h4 => simp only [World.size_setCell]
  case h5 =>
    intro b hb
    repeat (with_reducible first | exact Below.refl _ _ | refine Below.setCell ?_ hb _)
theorem storeL66 {ops : Array Oper} {Q : Exit → Act → World → Prop} {rest : List Oper} {oi : Oper} {a : Act} {W : World} (hN : oi.dst = none) (hg : oi.guard = none) (p q : Operand) (hop : oi.op = .store 66 p q) (l : List Int) (Y : Nat) (hp : a.eval p = .pointer (some ⟨Y, 0, none⟩)) (hq : a.eval q = .agg #[.int .u32 (w4 l 0), .int .u32 (w4 l 4), .int .u32 (w4 l 8), .int .u32 (w4 l 12), .int .u32 (w4 l 16), .int .u32 (w4 l 20), .int .u32 (w4 l 24), .int .u32 (w4 l 28), .int .u32 (w4 l 32), .int .u32 (w4 l 36), .int .u32 (w4 l 40), .int .u32 (w4 l 44), .int .u32 (w4 l 48), .int .u32 (w4 l 52), .int .u32 (w4 l 56), .int .u32 (w4 l 60)]) (hY : W.heap[Y]? = some (.cells #[.int .u32 0, .int .u32 0, .int .u32 0, .int .u32 0, .int .u32 0, .int .u32 0, .int .u32 0, .int .u32 0, .int .u32 0, .int .u32 0, .int .u32 0, .int .u32 0, .int .u32 0, .int .u32 0, .int .u32 0, .int .u32 0] 66 (0, 0)))
    (h : ∀ W1 : World, W1.heap[Y]? = some (.cells #[.int .u32 (w4 l 0), .int .u32 (w4 l 4), .int .u32 (w4 l 8), .int .u32 (w4 l 12), .int .u32 (w4 l 16), .int .u32 (w4 l 20), .int .u32 (w4 l 24), .int .u32 (w4 l 28), .int .u32 (w4 l 32), .int .u32 (w4 l 36), .int .u32 (w4 l 40), .int .u32 (w4 l 44), .int .u32 (w4 l 48), .int .u32 (w4 l 52), .int .u32 (w4 l 56), .int .u32 (w4 l 60)] 66 (0, 0)) → (∀ g, g ≠ Y → W1.heap[g]? = W.heap[g]?) → W1.heap.size = W.heap.size → (∀ b, b ≤ Y → Below b W W1) → wpList Try.prog ops Q rest a W1) : wpList Try.prog ops Q (oi :: rest) a W := by
  refine wpList_plain hg fun K hK => ?_
  obtain ⟨W1, hrun, h1, h2, h3, h4⟩ := storeW a.eval oi p q hop l Y hp hq W hY
  unfold Oper.wp
  rw [hrun]
  show K (a.put oi.dst undef) W1
  rw [hN]
  exact hK _ _ (h W1 h1 h2 h3 h4)
end Go.Proofs.Ytpejeeemefmafaa.RD
