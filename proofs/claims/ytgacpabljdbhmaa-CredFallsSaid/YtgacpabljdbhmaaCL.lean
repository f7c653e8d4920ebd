import Derived.Test.YtgacpabljdbhmaaPCx3
import Derived.Test.YtgacpabljdbhmaaPCx5
import Derived.WalkSpells
import Derived.WalkLawsBesides
namespace Go.Proofs.Ytgacpabljdbhmaa.PC
open Go.RowKit Go.Proofs.YtgacpabljdbhmaaW.PrintWords Go.Proofs.YtgacpabljdbhmaaW.PrintLast Go.Proofs.YtgacpabljdbhmaaW.PrintMore
set_option linter.unusedVariables false
set_option linter.unusedSimpArgs false
namespace L
theorem heap_new_at (w : World) (o : Obj) (n : Nat) (hn : n = w.heap.size) : (w.alloc o).heap[n]? = some o := hn ▸ heap_alloc_new w o
theorem below_drewN' {B : Nat} {w W : World} (h : Below B w W) (n : Nat) : Below B w (W.drewN n) := pw_below_drewN h n
theorem below_drew' {B : Nat} {w W : World} (h : Below B w W) : Below B w W.drew := below_drew h
theorem boxes1 {w w' : World} {c0 : Array Value} {t0 : TypeId} (hb : Below (w.alloc (.cells c0 t0)).heap.size (w.alloc (.cells c0 t0)) w') :
    Aside0 (w'.heap[w.heap.size]? = some (.cells c0 t0 (0, 0))) ∧ Below w.heap.size w w' := by
  have h0 : w'.heap[w.heap.size]? = some (.cells c0 t0 (0, 0)) := (hb.block _ (by simp only [World.size_alloc]; omega)).trans (heap_new_at w (.cells c0 t0) (w.heap.size) (by simp only [World.size_alloc]))
  exact ⟨⟨h0⟩, ((Below.refl _ _).alloc (Nat.le_refl _) _).trans (hb.mono (by simp only [World.size_alloc]; omega))⟩

theorem boxes2 {w w' : World} {c0 c1 : Array Value} {t0 t1 : TypeId} (hb : Below ((w.alloc (.cells c0 t0)).alloc (.cells c1 t1)).heap.size ((w.alloc (.cells c0 t0)).alloc (.cells c1 t1)) w') :
    Aside0 (w'.heap[w.heap.size]? = some (.cells c0 t0 (0, 0))) ∧ Aside0 (w'.heap[w.heap.size + 1]? = some (.cells c1 t1 (0, 0))) ∧ Below w.heap.size w w' := by
  have h0 : w'.heap[w.heap.size]? = some (.cells c0 t0 (0, 0)) := (hb.block _ (by simp only [World.size_alloc]; omega)).trans ((Below.heap_alloc (w.alloc (.cells c0 t0)) (.cells c1 t1) (w.heap.size) (by simp only [World.size_alloc]; omega)).trans (heap_new_at w (.cells c0 t0) (w.heap.size) (by simp only [World.size_alloc])))
  have h1 : w'.heap[w.heap.size + 1]? = some (.cells c1 t1 (0, 0)) := (hb.block _ (by simp only [World.size_alloc]; omega)).trans (heap_new_at (w.alloc (.cells c0 t0)) (.cells c1 t1) (w.heap.size + 1) (by simp only [World.size_alloc]))
  exact ⟨⟨h0⟩, ⟨h1⟩, (((Below.refl _ _).alloc (Nat.le_refl _) _).alloc (by simp only [World.size_alloc]; omega) _).trans (hb.mono (by simp only [World.size_alloc]; omega))⟩

theorem boxes3 {w w' : World} {c0 c1 c2 : Array Value} {t0 t1 t2 : TypeId} (hb : Below (((w.alloc (.cells c0 t0)).alloc (.cells c1 t1)).alloc (.cells c2 t2)).heap.size (((w.alloc (.cells c0 t0)).alloc (.cells c1 t1)).alloc (.cells c2 t2)) w') :
    Aside0 (w'.heap[w.heap.size]? = some (.cells c0 t0 (0, 0))) ∧ Aside0 (w'.heap[w.heap.size + 1]? = some (.cells c1 t1 (0, 0))) ∧ Aside0 (w'.heap[w.heap.size + 2]? = some (.cells c2 t2 (0, 0))) ∧ Below w.heap.size w w' := by
  have h0 : w'.heap[w.heap.size]? = some (.cells c0 t0 (0, 0)) := (hb.block _ (by simp only [World.size_alloc]; omega)).trans ((Below.heap_alloc ((w.alloc (.cells c0 t0)).alloc (.cells c1 t1)) (.cells c2 t2) (w.heap.size) (by simp only [World.size_alloc]; omega)).trans ((Below.heap_alloc (w.alloc (.cells c0 t0)) (.cells c1 t1) (w.heap.size) (by simp only [World.size_alloc]; omega)).trans (heap_new_at w (.cells c0 t0) (w.heap.size) (by simp only [World.size_alloc]))))
  have h1 : w'.heap[w.heap.size + 1]? = some (.cells c1 t1 (0, 0)) := (hb.block _ (by simp only [World.size_alloc]; omega)).trans ((Below.heap_alloc ((w.alloc (.cells c0 t0)).alloc (.cells c1 t1)) (.cells c2 t2) (w.heap.size + 1) (by simp only [World.size_alloc]; omega)).trans (heap_new_at (w.alloc (.cells c0 t0)) (.cells c1 t1) (w.heap.size + 1) (by simp only [World.size_alloc])))
  have h2 : w'.heap[w.heap.size + 2]? = some (.cells c2 t2 (0, 0)) := (hb.block _ (by simp only [World.size_alloc]; omega)).trans (heap_new_at ((w.alloc (.cells c0 t0)).alloc (.cells c1 t1)) (.cells c2 t2) (w.heap.size + 2) (by simp only [World.size_alloc]))
  exact ⟨⟨h0⟩, ⟨h1⟩, ⟨h2⟩, ((((Below.refl _ _).alloc (Nat.le_refl _) _).alloc (by simp only [World.size_alloc]; omega) _).alloc (by simp only [World.size_alloc]; omega) _).trans (hb.mono (by simp only [World.size_alloc]; omega))⟩

theorem boxes4 {w w' : World} {c0 c1 c2 c3 : Array Value} {t0 t1 t2 t3 : TypeId} (hb : Below ((((w.alloc (.cells c0 t0)).alloc (.cells c1 t1)).alloc (.cells c2 t2)).alloc (.cells c3 t3)).heap.size ((((w.alloc (.cells c0 t0)).alloc (.cells c1 t1)).alloc (.cells c2 t2)).alloc (.cells c3 t3)) w') :
    Aside0 (w'.heap[w.heap.size]? = some (.cells c0 t0 (0, 0))) ∧ Aside0 (w'.heap[w.heap.size + 1]? = some (.cells c1 t1 (0, 0))) ∧ Aside0 (w'.heap[w.heap.size + 2]? = some (.cells c2 t2 (0, 0))) ∧ Aside0 (w'.heap[w.heap.size + 3]? = some (.cells c3 t3 (0, 0))) ∧ Below w.heap.size w w' := by
  have h0 : w'.heap[w.heap.size]? = some (.cells c0 t0 (0, 0)) := (hb.block _ (by simp only [World.size_alloc]; omega)).trans ((Below.heap_alloc (((w.alloc (.cells c0 t0)).alloc (.cells c1 t1)).alloc (.cells c2 t2)) (.cells c3 t3) (w.heap.size) (by simp only [World.size_alloc]; omega)).trans ((Below.heap_alloc ((w.alloc (.cells c0 t0)).alloc (.cells c1 t1)) (.cells c2 t2) (w.heap.size) (by simp only [World.size_alloc]; omega)).trans ((Below.heap_alloc (w.alloc (.cells c0 t0)) (.cells c1 t1) (w.heap.size) (by simp only [World.size_alloc]; omega)).trans (heap_new_at w (.cells c0 t0) (w.heap.size) (by simp only [World.size_alloc])))))
  have h1 : w'.heap[w.heap.size + 1]? = some (.cells c1 t1 (0, 0)) := (hb.block _ (by simp only [World.size_alloc]; omega)).trans ((Below.heap_alloc (((w.alloc (.cells c0 t0)).alloc (.cells c1 t1)).alloc (.cells c2 t2)) (.cells c3 t3) (w.heap.size + 1) (by simp only [World.size_alloc]; omega)).trans ((Below.heap_alloc ((w.alloc (.cells c0 t0)).alloc (.cells c1 t1)) (.cells c2 t2) (w.heap.size + 1) (by simp only [World.size_alloc]; omega)).trans (heap_new_at (w.alloc (.cells c0 t0)) (.cells c1 t1) (w.heap.size + 1) (by simp only [World.size_alloc]))))
  have h2 : w'.heap[w.heap.size + 2]? = some (.cells c2 t2 (0, 0)) := (hb.block _ (by simp only [World.size_alloc]; omega)).trans ((Below.heap_alloc (((w.alloc (.cells c0 t0)).alloc (.cells c1 t1)).alloc (.cells c2 t2)) (.cells c3 t3) (w.heap.size + 2) (by simp only [World.size_alloc]; omega)).trans (heap_new_at ((w.alloc (.cells c0 t0)).alloc (.cells c1 t1)) (.cells c2 t2) (w.heap.size + 2) (by simp only [World.size_alloc])))
  have h3 : w'.heap[w.heap.size + 3]? = some (.cells c3 t3 (0, 0)) := (hb.block _ (by simp only [World.size_alloc]; omega)).trans (heap_new_at (((w.alloc (.cells c0 t0)).alloc (.cells c1 t1)).alloc (.cells c2 t2)) (.cells c3 t3) (w.heap.size + 3) (by simp only [World.size_alloc]))
  exact ⟨⟨h0⟩, ⟨h1⟩, ⟨h2⟩, ⟨h3⟩, (((((Below.refl _ _).alloc (Nat.le_refl _) _).alloc (by simp only [World.size_alloc]; omega) _).alloc (by simp only [World.size_alloc]; omega) _).alloc (by simp only [World.size_alloc]; omega) _).trans (hb.mono (by simp only [World.size_alloc]; omega))⟩

theorem boxes5 {w w' : World} {c0 c1 c2 c3 c4 : Array Value} {t0 t1 t2 t3 t4 : TypeId} (hb : Below (((((w.alloc (.cells c0 t0)).alloc (.cells c1 t1)).alloc (.cells c2 t2)).alloc (.cells c3 t3)).alloc (.cells c4 t4)).heap.size (((((w.alloc (.cells c0 t0)).alloc (.cells c1 t1)).alloc (.cells c2 t2)).alloc (.cells c3 t3)).alloc (.cells c4 t4)) w') :
    Aside0 (w'.heap[w.heap.size]? = some (.cells c0 t0 (0, 0))) ∧ Aside0 (w'.heap[w.heap.size + 1]? = some (.cells c1 t1 (0, 0))) ∧ Aside0 (w'.heap[w.heap.size + 2]? = some (.cells c2 t2 (0, 0))) ∧ Aside0 (w'.heap[w.heap.size + 3]? = some (.cells c3 t3 (0, 0))) ∧ Aside0 (w'.heap[w.heap.size + 4]? = some (.cells c4 t4 (0, 0))) ∧ Below w.heap.size w w' := by
  have h0 : w'.heap[w.heap.size]? = some (.cells c0 t0 (0, 0)) := (hb.block _ (by simp only [World.size_alloc]; omega)).trans ((Below.heap_alloc ((((w.alloc (.cells c0 t0)).alloc (.cells c1 t1)).alloc (.cells c2 t2)).alloc (.cells c3 t3)) (.cells c4 t4) (w.heap.size) (by simp only [World.size_alloc]; omega)).trans ((Below.heap_alloc (((w.alloc (.cells c0 t0)).alloc (.cells c1 t1)).alloc (.cells c2 t2)) (.cells c3 t3) (w.heap.size) (by simp only [World.size_alloc]; omega)).trans ((Below.heap_alloc ((w.alloc (.cells c0 t0)).alloc (.cells c1 t1)) (.cells c2 t2) (w.heap.size) (by simp only [World.size_alloc]; omega)).trans ((Below.heap_alloc (w.alloc (.cells c0 t0)) (.cells c1 t1) (w.heap.size) (by simp only [World.size_alloc]; omega)).trans (heap_new_at w (.cells c0 t0) (w.heap.size) (by simp only [World.size_alloc]))))))
  have h1 : w'.heap[w.heap.size + 1]? = some (.cells c1 t1 (0, 0)) := (hb.block _ (by simp only [World.size_alloc]; omega)).trans ((Below.heap_alloc ((((w.alloc (.cells c0 t0)).alloc (.cells c1 t1)).alloc (.cells c2 t2)).alloc (.cells c3 t3)) (.cells c4 t4) (w.heap.size + 1) (by simp only [World.size_alloc]; omega)).trans ((Below.heap_alloc (((w.alloc (.cells c0 t0)).alloc (.cells c1 t1)).alloc (.cells c2 t2)) (.cells c3 t3) (w.heap.size + 1) (by simp only [World.size_alloc]; omega)).trans ((Below.heap_alloc ((w.alloc (.cells c0 t0)).alloc (.cells c1 t1)) (.cells c2 t2) (w.heap.size + 1) (by simp only [World.size_alloc]; omega)).trans (heap_new_at (w.alloc (.cells c0 t0)) (.cells c1 t1) (w.heap.size + 1) (by simp only [World.size_alloc])))))
  have h2 : w'.heap[w.heap.size + 2]? = some (.cells c2 t2 (0, 0)) := (hb.block _ (by simp only [World.size_alloc]; omega)).trans ((Below.heap_alloc ((((w.alloc (.cells c0 t0)).alloc (.cells c1 t1)).alloc (.cells c2 t2)).alloc (.cells c3 t3)) (.cells c4 t4) (w.heap.size + 2) (by simp only [World.size_alloc]; omega)).trans ((Below.heap_alloc (((w.alloc (.cells c0 t0)).alloc (.cells c1 t1)).alloc (.cells c2 t2)) (.cells c3 t3) (w.heap.size + 2) (by simp only [World.size_alloc]; omega)).trans (heap_new_at ((w.alloc (.cells c0 t0)).alloc (.cells c1 t1)) (.cells c2 t2) (w.heap.size + 2) (by simp only [World.size_alloc]))))
  have h3 : w'.heap[w.heap.size + 3]? = some (.cells c3 t3 (0, 0)) := (hb.block _ (by simp only [World.size_alloc]; omega)).trans ((Below.heap_alloc ((((w.alloc (.cells c0 t0)).alloc (.cells c1 t1)).alloc (.cells c2 t2)).alloc (.cells c3 t3)) (.cells c4 t4) (w.heap.size + 3) (by simp only [World.size_alloc]; omega)).trans (heap_new_at (((w.alloc (.cells c0 t0)).alloc (.cells c1 t1)).alloc (.cells c2 t2)) (.cells c3 t3) (w.heap.size + 3) (by simp only [World.size_alloc])))
  have h4 : w'.heap[w.heap.size + 4]? = some (.cells c4 t4 (0, 0)) := (hb.block _ (by simp only [World.size_alloc]; omega)).trans (heap_new_at ((((w.alloc (.cells c0 t0)).alloc (.cells c1 t1)).alloc (.cells c2 t2)).alloc (.cells c3 t3)) (.cells c4 t4) (w.heap.size + 4) (by simp only [World.size_alloc]))
  exact ⟨⟨h0⟩, ⟨h1⟩, ⟨h2⟩, ⟨h3⟩, ⟨h4⟩, ((((((Below.refl _ _).alloc (Nat.le_refl _) _).alloc (by simp only [World.size_alloc]; omega) _).alloc (by simp only [World.size_alloc]; omega) _).alloc (by simp only [World.size_alloc]; omega) _).alloc (by simp only [World.size_alloc]; omega) _).trans (hb.mono (by simp only [World.size_alloc]; omega))⟩

theorem boxes6 {w w' : World} {c0 c1 c2 c3 c4 c5 : Array Value} {t0 t1 t2 t3 t4 t5 : TypeId} (hb : Below ((((((w.alloc (.cells c0 t0)).alloc (.cells c1 t1)).alloc (.cells c2 t2)).alloc (.cells c3 t3)).alloc (.cells c4 t4)).alloc (.cells c5 t5)).heap.size ((((((w.alloc (.cells c0 t0)).alloc (.cells c1 t1)).alloc (.cells c2 t2)).alloc (.cells c3 t3)).alloc (.cells c4 t4)).alloc (.cells c5 t5)) w') :
    Aside0 (w'.heap[w.heap.size]? = some (.cells c0 t0 (0, 0))) ∧ Aside0 (w'.heap[w.heap.size + 1]? = some (.cells c1 t1 (0, 0))) ∧ Aside0 (w'.heap[w.heap.size + 2]? = some (.cells c2 t2 (0, 0))) ∧ Aside0 (w'.heap[w.heap.size + 3]? = some (.cells c3 t3 (0, 0))) ∧ Aside0 (w'.heap[w.heap.size + 4]? = some (.cells c4 t4 (0, 0))) ∧ Aside0 (w'.heap[w.heap.size + 5]? = some (.cells c5 t5 (0, 0))) ∧ Below w.heap.size w w' := by
  have h0 : w'.heap[w.heap.size]? = some (.cells c0 t0 (0, 0)) := (hb.block _ (by simp only [World.size_alloc]; omega)).trans ((Below.heap_alloc (((((w.alloc (.cells c0 t0)).alloc (.cells c1 t1)).alloc (.cells c2 t2)).alloc (.cells c3 t3)).alloc (.cells c4 t4)) (.cells c5 t5) (w.heap.size) (by simp only [World.size_alloc]; omega)).trans ((Below.heap_alloc ((((w.alloc (.cells c0 t0)).alloc (.cells c1 t1)).alloc (.cells c2 t2)).alloc (.cells c3 t3)) (.cells c4 t4) (w.heap.size) (by simp only [World.size_alloc]; omega)).trans ((Below.heap_alloc (((w.alloc (.cells c0 t0)).alloc (.cells c1 t1)).alloc (.cells c2 t2)) (.cells c3 t3) (w.heap.size) (by simp only [World.size_alloc]; omega)).trans ((Below.heap_alloc ((w.alloc (.cells c0 t0)).alloc (.cells c1 t1)) (.cells c2 t2) (w.heap.size) (by simp only [World.size_alloc]; omega)).trans ((Below.heap_alloc (w.alloc (.cells c0 t0)) (.cells c1 t1) (w.heap.size) (by simp only [World.size_alloc]; omega)).trans (heap_new_at w (.cells c0 t0) (w.heap.size) (by simp only [World.size_alloc])))))))
  have h1 : w'.heap[w.heap.size + 1]? = some (.cells c1 t1 (0, 0)) := (hb.block _ (by simp only [World.size_alloc]; omega)).trans ((Below.heap_alloc (((((w.alloc (.cells c0 t0)).alloc (.cells c1 t1)).alloc (.cells c2 t2)).alloc (.cells c3 t3)).alloc (.cells c4 t4)) (.cells c5 t5) (w.heap.size + 1) (by simp only [World.size_alloc]; omega)).trans ((Below.heap_alloc ((((w.alloc (.cells c0 t0)).alloc (.cells c1 t1)).alloc (.cells c2 t2)).alloc (.cells c3 t3)) (.cells c4 t4) (w.heap.size + 1) (by simp only [World.size_alloc]; omega)).trans ((Below.heap_alloc (((w.alloc (.cells c0 t0)).alloc (.cells c1 t1)).alloc (.cells c2 t2)) (.cells c3 t3) (w.heap.size + 1) (by simp only [World.size_alloc]; omega)).trans ((Below.heap_alloc ((w.alloc (.cells c0 t0)).alloc (.cells c1 t1)) (.cells c2 t2) (w.heap.size + 1) (by simp only [World.size_alloc]; omega)).trans (heap_new_at (w.alloc (.cells c0 t0)) (.cells c1 t1) (w.heap.size + 1) (by simp only [World.size_alloc]))))))
  have h2 : w'.heap[w.heap.size + 2]? = some (.cells c2 t2 (0, 0)) := (hb.block _ (by simp only [World.size_alloc]; omega)).trans ((Below.heap_alloc (((((w.alloc (.cells c0 t0)).alloc (.cells c1 t1)).alloc (.cells c2 t2)).alloc (.cells c3 t3)).alloc (.cells c4 t4)) (.cells c5 t5) (w.heap.size + 2) (by simp only [World.size_alloc]; omega)).trans ((Below.heap_alloc ((((w.alloc (.cells c0 t0)).alloc (.cells c1 t1)).alloc (.cells c2 t2)).alloc (.cells c3 t3)) (.cells c4 t4) (w.heap.size + 2) (by simp only [World.size_alloc]; omega)).trans ((Below.heap_alloc (((w.alloc (.cells c0 t0)).alloc (.cells c1 t1)).alloc (.cells c2 t2)) (.cells c3 t3) (w.heap.size + 2) (by simp only [World.size_alloc]; omega)).trans (heap_new_at ((w.alloc (.cells c0 t0)).alloc (.cells c1 t1)) (.cells c2 t2) (w.heap.size + 2) (by simp only [World.size_alloc])))))
  have h3 : w'.heap[w.heap.size + 3]? = some (.cells c3 t3 (0, 0)) := (hb.block _ (by simp only [World.size_alloc]; omega)).trans ((Below.heap_alloc (((((w.alloc (.cells c0 t0)).alloc (.cells c1 t1)).alloc (.cells c2 t2)).alloc (.cells c3 t3)).alloc (.cells c4 t4)) (.cells c5 t5) (w.heap.size + 3) (by simp only [World.size_alloc]; omega)).trans ((Below.heap_alloc ((((w.alloc (.cells c0 t0)).alloc (.cells c1 t1)).alloc (.cells c2 t2)).alloc (.cells c3 t3)) (.cells c4 t4) (w.heap.size + 3) (by simp only [World.size_alloc]; omega)).trans (heap_new_at (((w.alloc (.cells c0 t0)).alloc (.cells c1 t1)).alloc (.cells c2 t2)) (.cells c3 t3) (w.heap.size + 3) (by simp only [World.size_alloc]))))
  have h4 : w'.heap[w.heap.size + 4]? = some (.cells c4 t4 (0, 0)) := (hb.block _ (by simp only [World.size_alloc]; omega)).trans ((Below.heap_alloc (((((w.alloc (.cells c0 t0)).alloc (.cells c1 t1)).alloc (.cells c2 t2)).alloc (.cells c3 t3)).alloc (.cells c4 t4)) (.cells c5 t5) (w.heap.size + 4) (by simp only [World.size_alloc]; omega)).trans (heap_new_at ((((w.alloc (.cells c0 t0)).alloc (.cells c1 t1)).alloc (.cells c2 t2)).alloc (.cells c3 t3)) (.cells c4 t4) (w.heap.size + 4) (by simp only [World.size_alloc])))
  have h5 : w'.heap[w.heap.size + 5]? = some (.cells c5 t5 (0, 0)) := (hb.block _ (by simp only [World.size_alloc]; omega)).trans (heap_new_at (((((w.alloc (.cells c0 t0)).alloc (.cells c1 t1)).alloc (.cells c2 t2)).alloc (.cells c3 t3)).alloc (.cells c4 t4)) (.cells c5 t5) (w.heap.size + 5) (by simp only [World.size_alloc]))
  exact ⟨⟨h0⟩, ⟨h1⟩, ⟨h2⟩, ⟨h3⟩, ⟨h4⟩, ⟨h5⟩, (((((((Below.refl _ _).alloc (Nat.le_refl _) _).alloc (by simp only [World.size_alloc]; omega) _).alloc (by simp only [World.size_alloc]; omega) _).alloc (by simp only [World.size_alloc]; omega) _).alloc (by simp only [World.size_alloc]; omega) _).alloc (by simp only [World.size_alloc]; omega) _).trans (hb.mono (by simp only [World.size_alloc]; omega))⟩

theorem right_total (a0 : Int) (a1 a2 : Bool) (a3 : Int) : wicketgateref11_Right.f a0 a1 a2 a3 = some (okB a0 a3) := by
  unfold wicketgateref11_Right.f okB userB
  by_cases h0 : a0 ≥ 0
  · by_cases h1 : a0 ≤ 9
    · by_cases h2 : a3 ≥ 0
      · simp [h0, h1, h2]
      · have : ¬ 0 ≤ a3 := h2
        simp [h0, h1, this]
    · simp [h0, h1]
  · have : ¬ 0 ≤ a0 := h0
    simp [this]
theorem ref_NoNew (a0 : Int) (a1 a2 : Bool) (a3 : Int) : wicketgateref11_NoNew.f a0 a1 a2 a3 = some (NoNewV a0 a1 a2 a3) := by
  unfold wicketgateref11_NoNew.f NoNewV
  rw [right_total]; cases okB a0 a3 <;> simp
theorem ref_Strict (a0 : Int) (a1 a2 : Bool) (a3 : Int) : wicketgateref11_Strict.f a0 a1 a2 a3 = some (StrictV a0 a1 a2 a3) := by
  unfold wicketgateref11_Strict.f StrictV
  rw [right_total]; cases okB a0 a3 <;> by_cases h : a3 = 2 <;> simp [h]
theorem ref_Filter (a0 : Int) (a1 a2 : Bool) (a3 : Int) : wicketgateref11_Filter.f a0 a1 a2 a3 = some (FilterV a0 a1 a2 a3) := by
  unfold wicketgateref11_Filter.f FilterV
  rw [right_total]; cases okB a0 a3 <;> by_cases h : a3 = 1 <;> cases a1 <;> cases a2 <;> simp [h]
theorem ref_Exec (a0 : Int) (a1 a2 : Bool) (a3 : Int) (o : Int) (s : Bool) : wicketgateref11_Exec.f 3 a0 a1 a2 a3 o s = some (ExecV a0 a1 a2 a3 o s) := by
  unfold wicketgateref11_Exec.f ExecV
  rw [right_total]
  cases okB a0 a3
  · simp
  · by_cases h : o < 0
    · have : ¬ 0 ≤ o := by omega
      simp [h, userB, this, wicketgateref11_Exec.j0]
    · have h' : 0 ≤ o := by omega
      by_cases h2 : o > 9
      · have : ¬ o ≤ 9 := by omega
        simp [h, h2, userB, h', this, wicketgateref11_Exec.j0]
      · have h3 : o ≤ 9 := by omega
        cases s <;> cases a2 <;> simp [h, h2, userB, h', h3, wicketgateref11_Exec.j0]
theorem ref_Drop (a0 : Int) (a1 a2 : Bool) (a3 : Int) (o : Int) : wicketgateref11_Drop.f 3 a0 a1 a2 a3 o = some (DropV a0 a1 a2 a3 o) := by
  unfold wicketgateref11_Drop.f DropV
  rw [right_total]
  cases okB a0 a3
  · simp
  · by_cases h : o < 0
    · have : ¬ 0 ≤ o := by omega
      simp [h, userB, this, wicketgateref11_Drop.j0]
    · have h' : 0 ≤ o := by omega
      by_cases h2 : o > 9
      · have : ¬ o ≤ 9 := by omega
        simp [h, h2, userB, h', this, wicketgateref11_Drop.j0]
      · have h3 : o ≤ 9 := by omega
        by_cases h4 : o = a0
        · subst h4
          cases a1 <;> by_cases h5 : o = 0 <;> simp [h, h2, userB, h', h3, h5, wicketgateref11_Drop.j0]
        · cases a1 <;> by_cases h5 : o = 0 <;> simp [h, h2, userB, h', h3, h4, h5, wicketgateref11_Drop.j0]
          have h6 : ¬ (0 : Int) = a0 := fun e => h4 (h5.trans e)
          simp [h6]

theorem refNoNew_w (a0 : Int) (a1 a2 : Bool) (a3 : Int) (w : World) :
    Calls Try.prog 12 #[.agg #[.int .i64 a0, .bool a1, .bool a2, .int .i64 a3]] w (RetCE (NoNewV a0 a1 a2 a3) w) :=
  (wicketgateref11_NoNew.calls a0 a1 a2 a3 _ _ _ _ _ w (ref_NoNew a0 a1 a2 a3)).mono fun _ _ h => h

theorem refStrict_w (a0 : Int) (a1 a2 : Bool) (a3 : Int) (w : World) :
    Calls Try.prog 17 #[.agg #[.int .i64 a0, .bool a1, .bool a2, .int .i64 a3]] w (RetCE (StrictV a0 a1 a2 a3) w) :=
  (wicketgateref11_Strict.calls a0 a1 a2 a3 _ _ _ _ _ w (ref_Strict a0 a1 a2 a3)).mono fun _ _ h => h

theorem refFilter_w (a0 : Int) (a1 a2 : Bool) (a3 : Int) (w : World) :
    Calls Try.prog 19 #[.agg #[.int .i64 a0, .bool a1, .bool a2, .int .i64 a3]] w (RetCE (FilterV a0 a1 a2 a3) w) :=
  (wicketgateref11_Filter.calls a0 a1 a2 a3 _ _ _ _ _ w (ref_Filter a0 a1 a2 a3)).mono fun _ _ h => h

theorem refExec_w (a0 : Int) (a1 a2 : Bool) (a3 : Int) (o : Int) (s : Bool) (w : World) :
    Calls Try.prog 10 #[.agg #[.int .i64 a0, .bool a1, .bool a2, .int .i64 a3], .agg #[.int .i64 o, .bool s]] w (RetCE (ExecV a0 a1 a2 a3 o s) w) :=
  (wicketgateref11_Exec.calls 3 a0 a1 a2 a3 o s _ _ _ _ _ w (ref_Exec a0 a1 a2 a3 o s)).mono fun _ _ h => h

theorem refDrop_w (a0 : Int) (a1 a2 : Bool) (a3 : Int) (o : Int) (w : World) :
    Calls Try.prog 14 #[.agg #[.int .i64 a0, .bool a1, .bool a2, .int .i64 a3], .int .i64 o] w (RetCE (DropV a0 a1 a2 a3 o) w) :=
  (wicketgateref11_Drop.calls 3 a0 a1 a2 a3 o _ _ _ _ _ w (ref_Drop a0 a1 a2 a3 o)).mono fun _ _ h => h

set_option maxHeartbeats 1000000 in
theorem wakes_w (w : World) : Calls Try.prog 8 #[] w (fun e w' => e = .returned (.bool true) ∧ Below w.heap.size w w') := by
  go_enter Try.func8, Try.ntmps8
  go_wp2_with fail
  refine (cred_First.calls _ _ _ _ _ (by rfl)).mono ?_
  rintro e w1 ⟨rfl, hb⟩
  have hB := hb
  clear hb
  have HB := Aside0.mk hB; clear hB
  go_wp2_with fail
  refine (Drop_w _ _ _ _ _ _).mono ?_
  rintro e w2 ⟨rfl, hb⟩
  have hB := hb
  clear hb
  replace HB := Aside0.mk (HB.out.trans (hB.mono HB.out.size)); clear hB
  go_wp2_with fail
  refine (Exec_w _ _ _ _ _ _ _).mono ?_
  rintro e w3 ⟨rfl, hb⟩
  obtain ⟨hk_c, hB⟩ := boxes1 hb
  clear hb
  have hc_c := blk_cell hk_c.out; have hf_c := blk_frozen hk_c.out; have hl_c := blk_lt hk_c.out
  replace HB := Aside0.mk (HB.out.trans (hB.mono HB.out.size)); clear hB
  go_wp2_with fail
  refine (Filter_w _ _ _ _ _).mono ?_
  rintro e w4 ⟨rfl, hb⟩
  obtain ⟨hk_x, hB⟩ := boxes1 hb
  clear hb
  replace hk_c := Aside0.mk ((hB.block _ (blk_lt hk_c.out)).trans hk_c.out)
  clear hc_c hf_c hl_c
  have hc_c := blk_cell hk_c.out; have hf_c := blk_frozen hk_c.out; have hl_c := blk_lt hk_c.out
  have hc_x := blk_cell hk_x.out; have hf_x := blk_frozen hk_x.out; have hl_x := blk_lt hk_x.out
  replace HB := Aside0.mk (HB.out.trans (hB.mono HB.out.size)); clear hB
  go_wp2_with fail
  go_ret
  exact ⟨rfl, by repeat (first | exact HB.out | exact Below.refl _ _ | refine Below.alloc ?_ (by first | exact Nat.le_refl _ | (have hz := HB.out.size; simp; omega)) _ | refine Below.setCell ?_ (by have hz := HB.out.size; simp; omega) _ | refine below_drewN' ?_ _ | refine below_drew' ?_)⟩

set_option maxHeartbeats 1000000 in
theorem CredRuns_w (a0 : Int) (a1 a2 : Bool) (a3 : Int) (o : Int) (s : Bool) (uid : Int) (w : World) : Calls Try.prog 3 #[.agg #[.int .i64 a0, .bool a1, .bool a2, .int .i64 a3], .agg #[.int .i64 o, .bool s], .int .i64 uid] w (fun e w' => e = .returned (.bool true) ∧ Below w.heap.size w w') := by
  go_enter Try.func3, Try.ntmps3
  go_wp2_with fail
  refine (wakes_w _).mono ?_
  rintro e w1 ⟨rfl, hb⟩
  obtain ⟨hk_c, hk_f, hB⟩ := boxes2 hb
  clear hb
  have hc_c := blk_cell hk_c.out; have hf_c := blk_frozen hk_c.out; have hl_c := blk_lt hk_c.out
  have hc_f := blk_cell hk_f.out; have hf_f := blk_frozen hk_f.out; have hl_f := blk_lt hk_f.out
  have HB := Aside0.mk hB; clear hB
  go_wp2_with fail
  refine (Exec_w _ _ _ _ _ _ _).mono ?_
  rintro e w2 ⟨rfl, hb⟩
  have hB := hb
  clear hb
  replace hk_c := Aside0.mk ((hB.block _ (blk_lt hk_c.out)).trans hk_c.out)
  replace hk_f := Aside0.mk ((hB.block _ (blk_lt hk_f.out)).trans hk_f.out)
  clear hc_c hf_c hl_c
  clear hc_f hf_f hl_f
  have hc_c := blk_cell hk_c.out; have hf_c := blk_frozen hk_c.out; have hl_c := blk_lt hk_c.out
  have hc_f := blk_cell hk_f.out; have hf_f := blk_frozen hk_f.out; have hl_f := blk_lt hk_f.out
  replace HB := Aside0.mk (HB.out.trans (hB.mono HB.out.size)); clear hB
  go_wp2_with fail
  refine (refExec_w _ _ _ _ _ _ _).mono ?_
  rintro e w3 ⟨rfl, hb⟩
  obtain ⟨hk_x, hB⟩ := boxes1 hb
  clear hb
  replace hk_c := Aside0.mk ((hB.block _ (blk_lt hk_c.out)).trans hk_c.out)
  replace hk_f := Aside0.mk ((hB.block _ (blk_lt hk_f.out)).trans hk_f.out)
  clear hc_c hf_c hl_c
  clear hc_f hf_f hl_f
  have hc_c := blk_cell hk_c.out; have hf_c := blk_frozen hk_c.out; have hl_c := blk_lt hk_c.out
  have hc_f := blk_cell hk_f.out; have hf_f := blk_frozen hk_f.out; have hl_f := blk_lt hk_f.out
  have hc_x := blk_cell hk_x.out; have hf_x := blk_frozen hk_x.out; have hl_x := blk_lt hk_x.out
  replace HB := Aside0.mk (HB.out.trans (hB.mono HB.out.size)); clear hB
  go_wp2_with fail
  refine (NoNew_w _ _ _ _ _).mono ?_
  rintro e w4 ⟨rfl, hb⟩
  obtain ⟨hk_wx, hB⟩ := boxes1 hb
  clear hb
  replace hk_c := Aside0.mk ((hB.block _ (blk_lt hk_c.out)).trans hk_c.out)
  replace hk_f := Aside0.mk ((hB.block _ (blk_lt hk_f.out)).trans hk_f.out)
  replace hk_x := Aside0.mk ((hB.block _ (blk_lt hk_x.out)).trans hk_x.out)
  clear hc_c hf_c hl_c
  clear hc_f hf_f hl_f
  clear hc_x hf_x hl_x
  have hc_c := blk_cell hk_c.out; have hf_c := blk_frozen hk_c.out; have hl_c := blk_lt hk_c.out
  have hc_f := blk_cell hk_f.out; have hf_f := blk_frozen hk_f.out; have hl_f := blk_lt hk_f.out
  have hc_x := blk_cell hk_x.out; have hf_x := blk_frozen hk_x.out; have hl_x := blk_lt hk_x.out
  have hc_wx := blk_cell hk_wx.out; have hf_wx := blk_frozen hk_wx.out; have hl_wx := blk_lt hk_wx.out
  replace HB := Aside0.mk (HB.out.trans (hB.mono HB.out.size)); clear hB
  go_wp2_with fail
  refine (refNoNew_w _ _ _ _ _).mono ?_
  rintro e w5 ⟨rfl, hb⟩
  obtain ⟨hk_y, hB⟩ := boxes1 hb
  clear hb
  replace hk_c := Aside0.mk ((hB.block _ (blk_lt hk_c.out)).trans hk_c.out)
  replace hk_f := Aside0.mk ((hB.block _ (blk_lt hk_f.out)).trans hk_f.out)
  replace hk_x := Aside0.mk ((hB.block _ (blk_lt hk_x.out)).trans hk_x.out)
  replace hk_wx := Aside0.mk ((hB.block _ (blk_lt hk_wx.out)).trans hk_wx.out)
  clear hc_c hf_c hl_c
  clear hc_f hf_f hl_f
  clear hc_x hf_x hl_x
  clear hc_wx hf_wx hl_wx
  have hc_c := blk_cell hk_c.out; have hf_c := blk_frozen hk_c.out; have hl_c := blk_lt hk_c.out
  have hc_f := blk_cell hk_f.out; have hf_f := blk_frozen hk_f.out; have hl_f := blk_lt hk_f.out
  have hc_x := blk_cell hk_x.out; have hf_x := blk_frozen hk_x.out; have hl_x := blk_lt hk_x.out
  have hc_wx := blk_cell hk_wx.out; have hf_wx := blk_frozen hk_wx.out; have hl_wx := blk_lt hk_wx.out
  have hc_y := blk_cell hk_y.out; have hf_y := blk_frozen hk_y.out; have hl_y := blk_lt hk_y.out
  replace HB := Aside0.mk (HB.out.trans (hB.mono HB.out.size)); clear hB
  go_wp2_with fail
  refine (Drop_w _ _ _ _ _ _).mono ?_
  rintro e w6 ⟨rfl, hb⟩
  obtain ⟨hk_wy, hB⟩ := boxes1 hb
  clear hb
  replace hk_c := Aside0.mk ((hB.block _ (blk_lt hk_c.out)).trans hk_c.out)
  replace hk_f := Aside0.mk ((hB.block _ (blk_lt hk_f.out)).trans hk_f.out)
  replace hk_x := Aside0.mk ((hB.block _ (blk_lt hk_x.out)).trans hk_x.out)
  replace hk_wx := Aside0.mk ((hB.block _ (blk_lt hk_wx.out)).trans hk_wx.out)
  replace hk_y := Aside0.mk ((hB.block _ (blk_lt hk_y.out)).trans hk_y.out)
  clear hc_c hf_c hl_c
  clear hc_f hf_f hl_f
  clear hc_x hf_x hl_x
  clear hc_wx hf_wx hl_wx
  clear hc_y hf_y hl_y
  have hc_c := blk_cell hk_c.out; have hf_c := blk_frozen hk_c.out; have hl_c := blk_lt hk_c.out
  have hc_f := blk_cell hk_f.out; have hf_f := blk_frozen hk_f.out; have hl_f := blk_lt hk_f.out
  have hc_x := blk_cell hk_x.out; have hf_x := blk_frozen hk_x.out; have hl_x := blk_lt hk_x.out
  have hc_wx := blk_cell hk_wx.out; have hf_wx := blk_frozen hk_wx.out; have hl_wx := blk_lt hk_wx.out
  have hc_y := blk_cell hk_y.out; have hf_y := blk_frozen hk_y.out; have hl_y := blk_lt hk_y.out
  have hc_wy := blk_cell hk_wy.out; have hf_wy := blk_frozen hk_wy.out; have hl_wy := blk_lt hk_wy.out
  replace HB := Aside0.mk (HB.out.trans (hB.mono HB.out.size)); clear hB
  go_wp2_with fail
  refine (refDrop_w _ _ _ _ _ _).mono ?_
  rintro e w7 ⟨rfl, hb⟩
  obtain ⟨hk_z, hB⟩ := boxes1 hb
  clear hb
  replace hk_c := Aside0.mk ((hB.block _ (blk_lt hk_c.out)).trans hk_c.out)
  replace hk_f := Aside0.mk ((hB.block _ (blk_lt hk_f.out)).trans hk_f.out)
  replace hk_x := Aside0.mk ((hB.block _ (blk_lt hk_x.out)).trans hk_x.out)
  replace hk_wx := Aside0.mk ((hB.block _ (blk_lt hk_wx.out)).trans hk_wx.out)
  replace hk_y := Aside0.mk ((hB.block _ (blk_lt hk_y.out)).trans hk_y.out)
  replace hk_wy := Aside0.mk ((hB.block _ (blk_lt hk_wy.out)).trans hk_wy.out)
  clear hc_c hf_c hl_c
  clear hc_f hf_f hl_f
  clear hc_x hf_x hl_x
  clear hc_wx hf_wx hl_wx
  clear hc_y hf_y hl_y
  clear hc_wy hf_wy hl_wy
  have hc_c := blk_cell hk_c.out; have hf_c := blk_frozen hk_c.out; have hl_c := blk_lt hk_c.out
  have hc_f := blk_cell hk_f.out; have hf_f := blk_frozen hk_f.out; have hl_f := blk_lt hk_f.out
  have hc_x := blk_cell hk_x.out; have hf_x := blk_frozen hk_x.out; have hl_x := blk_lt hk_x.out
  have hc_wx := blk_cell hk_wx.out; have hf_wx := blk_frozen hk_wx.out; have hl_wx := blk_lt hk_wx.out
  have hc_y := blk_cell hk_y.out; have hf_y := blk_frozen hk_y.out; have hl_y := blk_lt hk_y.out
  have hc_wy := blk_cell hk_wy.out; have hf_wy := blk_frozen hk_wy.out; have hl_wy := blk_lt hk_wy.out
  have hc_z := blk_cell hk_z.out; have hf_z := blk_frozen hk_z.out; have hl_z := blk_lt hk_z.out
  replace HB := Aside0.mk (HB.out.trans (hB.mono HB.out.size)); clear hB
  go_wp2_with fail
  go_ret
  exact ⟨rfl, by repeat (first | exact HB.out | exact Below.refl _ _ | refine Below.alloc ?_ (by first | exact Nat.le_refl _ | (have hz := HB.out.size; simp; omega)) _ | refine Below.setCell ?_ (by have hz := HB.out.size; simp; omega) _ | refine below_drewN' ?_ _ | refine below_drew' ?_)⟩

set_option maxHeartbeats 1000000 in
theorem CredModes_w (a0 : Int) (a1 a2 : Bool) (a3 : Int) (w : World) : Calls Try.prog 5 #[.agg #[.int .i64 a0, .bool a1, .bool a2, .int .i64 a3]] w (fun e w' => e = .returned (.bool true) ∧ Below w.heap.size w w') := by
  go_enter Try.func5, Try.ntmps5
  go_wp2_with fail
  refine (wakes_w _).mono ?_
  rintro e w1 ⟨rfl, hb⟩
  obtain ⟨hk_c, hB⟩ := boxes1 hb
  clear hb
  have hc_c := blk_cell hk_c.out; have hf_c := blk_frozen hk_c.out; have hl_c := blk_lt hk_c.out
  have HB := Aside0.mk hB; clear hB
  go_wp2_with fail
  refine (Strict_w _ _ _ _ _).mono ?_
  rintro e w2 ⟨rfl, hb⟩
  have hB := hb
  clear hb
  replace hk_c := Aside0.mk ((hB.block _ (blk_lt hk_c.out)).trans hk_c.out)
  clear hc_c hf_c hl_c
  have hc_c := blk_cell hk_c.out; have hf_c := blk_frozen hk_c.out; have hl_c := blk_lt hk_c.out
  replace HB := Aside0.mk (HB.out.trans (hB.mono HB.out.size)); clear hB
  go_wp2_with fail
  refine (refStrict_w _ _ _ _ _).mono ?_
  rintro e w3 ⟨rfl, hb⟩
  obtain ⟨hk_x, hB⟩ := boxes1 hb
  clear hb
  replace hk_c := Aside0.mk ((hB.block _ (blk_lt hk_c.out)).trans hk_c.out)
  clear hc_c hf_c hl_c
  have hc_c := blk_cell hk_c.out; have hf_c := blk_frozen hk_c.out; have hl_c := blk_lt hk_c.out
  have hc_x := blk_cell hk_x.out; have hf_x := blk_frozen hk_x.out; have hl_x := blk_lt hk_x.out
  replace HB := Aside0.mk (HB.out.trans (hB.mono HB.out.size)); clear hB
  go_wp2_with fail
  refine (Filter_w _ _ _ _ _).mono ?_
  rintro e w4 ⟨rfl, hb⟩
  obtain ⟨hk_wx, hB⟩ := boxes1 hb
  clear hb
  replace hk_c := Aside0.mk ((hB.block _ (blk_lt hk_c.out)).trans hk_c.out)
  replace hk_x := Aside0.mk ((hB.block _ (blk_lt hk_x.out)).trans hk_x.out)
  clear hc_c hf_c hl_c
  clear hc_x hf_x hl_x
  have hc_c := blk_cell hk_c.out; have hf_c := blk_frozen hk_c.out; have hl_c := blk_lt hk_c.out
  have hc_x := blk_cell hk_x.out; have hf_x := blk_frozen hk_x.out; have hl_x := blk_lt hk_x.out
  have hc_wx := blk_cell hk_wx.out; have hf_wx := blk_frozen hk_wx.out; have hl_wx := blk_lt hk_wx.out
  replace HB := Aside0.mk (HB.out.trans (hB.mono HB.out.size)); clear hB
  go_wp2_with fail
  refine (refFilter_w _ _ _ _ _).mono ?_
  rintro e w5 ⟨rfl, hb⟩
  obtain ⟨hk_y, hB⟩ := boxes1 hb
  clear hb
  replace hk_c := Aside0.mk ((hB.block _ (blk_lt hk_c.out)).trans hk_c.out)
  replace hk_x := Aside0.mk ((hB.block _ (blk_lt hk_x.out)).trans hk_x.out)
  replace hk_wx := Aside0.mk ((hB.block _ (blk_lt hk_wx.out)).trans hk_wx.out)
  clear hc_c hf_c hl_c
  clear hc_x hf_x hl_x
  clear hc_wx hf_wx hl_wx
  have hc_c := blk_cell hk_c.out; have hf_c := blk_frozen hk_c.out; have hl_c := blk_lt hk_c.out
  have hc_x := blk_cell hk_x.out; have hf_x := blk_frozen hk_x.out; have hl_x := blk_lt hk_x.out
  have hc_wx := blk_cell hk_wx.out; have hf_wx := blk_frozen hk_wx.out; have hl_wx := blk_lt hk_wx.out
  have hc_y := blk_cell hk_y.out; have hf_y := blk_frozen hk_y.out; have hl_y := blk_lt hk_y.out
  replace HB := Aside0.mk (HB.out.trans (hB.mono HB.out.size)); clear hB
  go_wp2_with fail
  go_ret
  exact ⟨rfl, by repeat (first | exact HB.out | exact Below.refl _ _ | refine Below.alloc ?_ (by first | exact Nat.le_refl _ | (have hz := HB.out.size; simp; omega)) _ | refine Below.setCell ?_ (by have hz := HB.out.size; simp; omega) _ | refine below_drewN' ?_ _ | refine below_drew' ?_)⟩
end L
end Go.Proofs.Ytgacpabljdbhmaa.PC
