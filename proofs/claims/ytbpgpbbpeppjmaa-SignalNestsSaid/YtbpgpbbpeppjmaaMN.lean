import Derived.Test.YtbpgpbbpeppjmaaPCx5
namespace Go.Proofs.Ytbpgpbbpeppjmaa.PC
open Go.RowKit Go.Proofs.YtbpgpbbpeppjmaaW.PrintWords Go.Proofs.YtbpgpbbpeppjmaaW.PrintLast Go.Proofs.YtbpgpbbpeppjmaaW.PrintMore
set_option linter.unusedVariables false
set_option linter.unusedSimpArgs false
theorem force_true0 (x y z u : Int) : signal_Force.f 2 true false false 0 0 0 0 ([] : List Bool) x y z u = some (2, true, false, false, 0, 0, 0, 0, [false], false, true, x, y, z, u, 0) := rfl
theorem force_true1 (x y z u : Int) : signal_Force.f 2 true false false 0 0 0 0 [false] x y z u = some (2, true, false, false, 0, 0, 0, 0, [false, false], false, true, x, y, z, u, 0) := rfl
theorem force_true2 (x y z u : Int) : signal_Force.f 2 true false false 0 0 0 0 [false, false] x y z u = some (2, true, false, false, 0, 0, 0, 0, [false, false, false], false, true, x, y, z, u, 0) := rfl
theorem force_true3 (x y z u : Int) : signal_Force.f 2 true false false 0 0 0 0 [false, false, false] x y z u = some (2, true, false, false, 0, 0, 0, 0, [false, false, false, false], false, true, x, y, z, u, 0) := rfl
theorem force_false0 (x y z u : Int) : signal_Force.f 2 false false false 0 0 0 0 ([] : List Bool) x y z u = some (2, false, true, false, 0, 0, 0, 0, [false], false, true, x, y, z, u, 0) := rfl
theorem back_true0 : wicketgatelaw26_SignalNests.j2 59 ([] : List S27) 2 true false false 0 0 0 0 ([] : List Bool) = some true := by decide +kernel
theorem back_true1 : wicketgatelaw26_SignalNests.j2 57 [(⟨2, true, false, false, (⟨0, 0, 0, 0⟩ : S24), []⟩ : S27)] 2 true false false 0 0 0 0 [false] = some true := by decide +kernel
theorem back_true2 : wicketgatelaw26_SignalNests.j2 55 [(⟨2, true, false, false, (⟨0, 0, 0, 0⟩ : S24), []⟩ : S27), (⟨2, true, false, false, (⟨0, 0, 0, 0⟩ : S24), [false]⟩ : S27)] 2 true false false 0 0 0 0 [false, false] = some true := by decide +kernel
theorem back_true3 : wicketgatelaw26_SignalNests.j2 53 [(⟨2, true, false, false, (⟨0, 0, 0, 0⟩ : S24), []⟩ : S27), (⟨2, true, false, false, (⟨0, 0, 0, 0⟩ : S24), [false]⟩ : S27), (⟨2, true, false, false, (⟨0, 0, 0, 0⟩ : S24), [false, false]⟩ : S27)] 2 true false false 0 0 0 0 [false, false, false] = some true := by decide +kernel
theorem back_true4 : wicketgatelaw26_SignalNests.j2 51 [(⟨2, true, false, false, (⟨0, 0, 0, 0⟩ : S24), []⟩ : S27), (⟨2, true, false, false, (⟨0, 0, 0, 0⟩ : S24), [false]⟩ : S27), (⟨2, true, false, false, (⟨0, 0, 0, 0⟩ : S24), [false, false]⟩ : S27), (⟨2, true, false, false, (⟨0, 0, 0, 0⟩ : S24), [false, false, false]⟩ : S27)] 2 true false false 0 0 0 0 [false, false, false, false] = some true := by decide +kernel
theorem back_true4' : wicketgatelaw26_SignalNests.j2 50 [(⟨2, true, false, false, (⟨0, 0, 0, 0⟩ : S24), []⟩ : S27), (⟨2, true, false, false, (⟨0, 0, 0, 0⟩ : S24), [false]⟩ : S27), (⟨2, true, false, false, (⟨0, 0, 0, 0⟩ : S24), [false, false]⟩ : S27), (⟨2, true, false, false, (⟨0, 0, 0, 0⟩ : S24), [false, false, false]⟩ : S27)] 2 true false false 0 0 0 0 [false, false, false, false] = some true := by decide +kernel
theorem fwd_true4 (l : List S24) : wicketgatelaw26_SignalNests.l0 52 true [(⟨2, true, false, false, (⟨0, 0, 0, 0⟩ : S24), []⟩ : S27), (⟨2, true, false, false, (⟨0, 0, 0, 0⟩ : S24), [false]⟩ : S27), (⟨2, true, false, false, (⟨0, 0, 0, 0⟩ : S24), [false, false]⟩ : S27), (⟨2, true, false, false, (⟨0, 0, 0, 0⟩ : S24), [false, false, false]⟩ : S27)] l (l.length : Int) 4 2 true false false 0 0 0 0 [false, false, false, false] = some true := by
  by_cases h : (4 : Int) < (l.length : Int)
  · have e : wicketgatelaw26_SignalNests.l0 52 true [(⟨2, true, false, false, (⟨0, 0, 0, 0⟩ : S24), []⟩ : S27), (⟨2, true, false, false, (⟨0, 0, 0, 0⟩ : S24), [false]⟩ : S27), (⟨2, true, false, false, (⟨0, 0, 0, 0⟩ : S24), [false, false]⟩ : S27), (⟨2, true, false, false, (⟨0, 0, 0, 0⟩ : S24), [false, false, false]⟩ : S27)] l (l.length : Int) 4 2 true false false 0 0 0 0 [false, false, false, false] = wicketgatelaw26_SignalNests.j1 51 true [(⟨2, true, false, false, (⟨0, 0, 0, 0⟩ : S24), []⟩ : S27), (⟨2, true, false, false, (⟨0, 0, 0, 0⟩ : S24), [false]⟩ : S27), (⟨2, true, false, false, (⟨0, 0, 0, 0⟩ : S24), [false, false]⟩ : S27), (⟨2, true, false, false, (⟨0, 0, 0, 0⟩ : S24), [false, false, false]⟩ : S27)] l (l.length : Int) 4 true 2 true false false 0 0 0 0 [false, false, false, false] (rd_T24 l 4).f0 (rd_T24 l 4).f1 (rd_T24 l 4).f2 (rd_T24 l 4).f3 := by
      simp only [wicketgatelaw26_SignalNests.l0]
      rw [if_pos h]
      simp [h]
      all_goals (intro hl; subst hl; simp at h)
    rw [e]
    have e2 : wicketgatelaw26_SignalNests.j1 51 true [(⟨2, true, false, false, (⟨0, 0, 0, 0⟩ : S24), []⟩ : S27), (⟨2, true, false, false, (⟨0, 0, 0, 0⟩ : S24), [false]⟩ : S27), (⟨2, true, false, false, (⟨0, 0, 0, 0⟩ : S24), [false, false]⟩ : S27), (⟨2, true, false, false, (⟨0, 0, 0, 0⟩ : S24), [false, false, false]⟩ : S27)] l (l.length : Int) 4 true 2 true false false 0 0 0 0 [false, false, false, false] (rd_T24 l 4).f0 (rd_T24 l 4).f1 (rd_T24 l 4).f2 (rd_T24 l 4).f3 = wicketgatelaw26_SignalNests.j2 50 [(⟨2, true, false, false, (⟨0, 0, 0, 0⟩ : S24), []⟩ : S27), (⟨2, true, false, false, (⟨0, 0, 0, 0⟩ : S24), [false]⟩ : S27), (⟨2, true, false, false, (⟨0, 0, 0, 0⟩ : S24), [false, false]⟩ : S27), (⟨2, true, false, false, (⟨0, 0, 0, 0⟩ : S24), [false, false, false]⟩ : S27)] 2 true false false 0 0 0 0 [false, false, false, false] := by
      simp only [wicketgatelaw26_SignalNests.j1, if_true]
    exact e2.trans back_true4'
  · simp only [wicketgatelaw26_SignalNests.l0]
    rw [if_neg h]
    exact back_true4
theorem fwd_true3 (l : List S24) : wicketgatelaw26_SignalNests.l0 54 true [(⟨2, true, false, false, (⟨0, 0, 0, 0⟩ : S24), []⟩ : S27), (⟨2, true, false, false, (⟨0, 0, 0, 0⟩ : S24), [false]⟩ : S27), (⟨2, true, false, false, (⟨0, 0, 0, 0⟩ : S24), [false, false]⟩ : S27)] l (l.length : Int) 3 2 true false false 0 0 0 0 [false, false, false] = some true := by
  by_cases h : (3 : Int) < (l.length : Int)
  · have e : wicketgatelaw26_SignalNests.l0 54 true [(⟨2, true, false, false, (⟨0, 0, 0, 0⟩ : S24), []⟩ : S27), (⟨2, true, false, false, (⟨0, 0, 0, 0⟩ : S24), [false]⟩ : S27), (⟨2, true, false, false, (⟨0, 0, 0, 0⟩ : S24), [false, false]⟩ : S27)] l (l.length : Int) 3 2 true false false 0 0 0 0 [false, false, false] = wicketgatelaw26_SignalNests.j1 53 true [(⟨2, true, false, false, (⟨0, 0, 0, 0⟩ : S24), []⟩ : S27), (⟨2, true, false, false, (⟨0, 0, 0, 0⟩ : S24), [false]⟩ : S27), (⟨2, true, false, false, (⟨0, 0, 0, 0⟩ : S24), [false, false]⟩ : S27)] l (l.length : Int) 3 false 2 true false false 0 0 0 0 [false, false, false] (rd_T24 l 3).f0 (rd_T24 l 3).f1 (rd_T24 l 3).f2 (rd_T24 l 3).f3 := by
      simp only [wicketgatelaw26_SignalNests.l0]
      rw [if_pos h]
      simp [h]
      all_goals (intro hl; subst hl; simp at h)
    rw [e]
    have e2 : wicketgatelaw26_SignalNests.j1 53 true [(⟨2, true, false, false, (⟨0, 0, 0, 0⟩ : S24), []⟩ : S27), (⟨2, true, false, false, (⟨0, 0, 0, 0⟩ : S24), [false]⟩ : S27), (⟨2, true, false, false, (⟨0, 0, 0, 0⟩ : S24), [false, false]⟩ : S27)] l (l.length : Int) 3 false 2 true false false 0 0 0 0 [false, false, false] (rd_T24 l 3).f0 (rd_T24 l 3).f1 (rd_T24 l 3).f2 (rd_T24 l 3).f3 = wicketgatelaw26_SignalNests.l0 52 true [(⟨2, true, false, false, (⟨0, 0, 0, 0⟩ : S24), []⟩ : S27), (⟨2, true, false, false, (⟨0, 0, 0, 0⟩ : S24), [false]⟩ : S27), (⟨2, true, false, false, (⟨0, 0, 0, 0⟩ : S24), [false, false]⟩ : S27), (⟨2, true, false, false, (⟨0, 0, 0, 0⟩ : S24), [false, false, false]⟩ : S27)] l (l.length : Int) 4 2 true false false 0 0 0 0 [false, false, false, false] := by
      simp only [wicketgatelaw26_SignalNests.j1]
      rw [force_true3]
      simp [wrap64]
    exact e2.trans (fwd_true4 l)
  · simp only [wicketgatelaw26_SignalNests.l0]
    rw [if_neg h]
    exact back_true3
theorem fwd_true2 (l : List S24) : wicketgatelaw26_SignalNests.l0 56 true [(⟨2, true, false, false, (⟨0, 0, 0, 0⟩ : S24), []⟩ : S27), (⟨2, true, false, false, (⟨0, 0, 0, 0⟩ : S24), [false]⟩ : S27)] l (l.length : Int) 2 2 true false false 0 0 0 0 [false, false] = some true := by
  by_cases h : (2 : Int) < (l.length : Int)
  · have e : wicketgatelaw26_SignalNests.l0 56 true [(⟨2, true, false, false, (⟨0, 0, 0, 0⟩ : S24), []⟩ : S27), (⟨2, true, false, false, (⟨0, 0, 0, 0⟩ : S24), [false]⟩ : S27)] l (l.length : Int) 2 2 true false false 0 0 0 0 [false, false] = wicketgatelaw26_SignalNests.j1 55 true [(⟨2, true, false, false, (⟨0, 0, 0, 0⟩ : S24), []⟩ : S27), (⟨2, true, false, false, (⟨0, 0, 0, 0⟩ : S24), [false]⟩ : S27)] l (l.length : Int) 2 false 2 true false false 0 0 0 0 [false, false] (rd_T24 l 2).f0 (rd_T24 l 2).f1 (rd_T24 l 2).f2 (rd_T24 l 2).f3 := by
      simp only [wicketgatelaw26_SignalNests.l0]
      rw [if_pos h]
      simp [h]
      all_goals (intro hl; subst hl; simp at h)
    rw [e]
    have e2 : wicketgatelaw26_SignalNests.j1 55 true [(⟨2, true, false, false, (⟨0, 0, 0, 0⟩ : S24), []⟩ : S27), (⟨2, true, false, false, (⟨0, 0, 0, 0⟩ : S24), [false]⟩ : S27)] l (l.length : Int) 2 false 2 true false false 0 0 0 0 [false, false] (rd_T24 l 2).f0 (rd_T24 l 2).f1 (rd_T24 l 2).f2 (rd_T24 l 2).f3 = wicketgatelaw26_SignalNests.l0 54 true [(⟨2, true, false, false, (⟨0, 0, 0, 0⟩ : S24), []⟩ : S27), (⟨2, true, false, false, (⟨0, 0, 0, 0⟩ : S24), [false]⟩ : S27), (⟨2, true, false, false, (⟨0, 0, 0, 0⟩ : S24), [false, false]⟩ : S27)] l (l.length : Int) 3 2 true false false 0 0 0 0 [false, false, false] := by
      simp only [wicketgatelaw26_SignalNests.j1]
      rw [force_true2]
      simp [wrap64]
    exact e2.trans (fwd_true3 l)
  · simp only [wicketgatelaw26_SignalNests.l0]
    rw [if_neg h]
    exact back_true2
theorem fwd_true1 (l : List S24) : wicketgatelaw26_SignalNests.l0 58 true [(⟨2, true, false, false, (⟨0, 0, 0, 0⟩ : S24), []⟩ : S27)] l (l.length : Int) 1 2 true false false 0 0 0 0 [false] = some true := by
  by_cases h : (1 : Int) < (l.length : Int)
  · have e : wicketgatelaw26_SignalNests.l0 58 true [(⟨2, true, false, false, (⟨0, 0, 0, 0⟩ : S24), []⟩ : S27)] l (l.length : Int) 1 2 true false false 0 0 0 0 [false] = wicketgatelaw26_SignalNests.j1 57 true [(⟨2, true, false, false, (⟨0, 0, 0, 0⟩ : S24), []⟩ : S27)] l (l.length : Int) 1 false 2 true false false 0 0 0 0 [false] (rd_T24 l 1).f0 (rd_T24 l 1).f1 (rd_T24 l 1).f2 (rd_T24 l 1).f3 := by
      simp only [wicketgatelaw26_SignalNests.l0]
      rw [if_pos h]
      simp [h]
      all_goals (intro hl; subst hl; simp at h)
    rw [e]
    have e2 : wicketgatelaw26_SignalNests.j1 57 true [(⟨2, true, false, false, (⟨0, 0, 0, 0⟩ : S24), []⟩ : S27)] l (l.length : Int) 1 false 2 true false false 0 0 0 0 [false] (rd_T24 l 1).f0 (rd_T24 l 1).f1 (rd_T24 l 1).f2 (rd_T24 l 1).f3 = wicketgatelaw26_SignalNests.l0 56 true [(⟨2, true, false, false, (⟨0, 0, 0, 0⟩ : S24), []⟩ : S27), (⟨2, true, false, false, (⟨0, 0, 0, 0⟩ : S24), [false]⟩ : S27)] l (l.length : Int) 2 2 true false false 0 0 0 0 [false, false] := by
      simp only [wicketgatelaw26_SignalNests.j1]
      rw [force_true1]
      simp [wrap64]
    exact e2.trans (fwd_true2 l)
  · simp only [wicketgatelaw26_SignalNests.l0]
    rw [if_neg h]
    exact back_true1
theorem fwd_true0 (l : List S24) : wicketgatelaw26_SignalNests.l0 60 true ([] : List S27) l (l.length : Int) 0 2 true false false 0 0 0 0 ([] : List Bool) = some true := by
  by_cases h : (0 : Int) < (l.length : Int)
  · have e : wicketgatelaw26_SignalNests.l0 60 true ([] : List S27) l (l.length : Int) 0 2 true false false 0 0 0 0 ([] : List Bool) = wicketgatelaw26_SignalNests.j1 59 true ([] : List S27) l (l.length : Int) 0 false 2 true false false 0 0 0 0 ([] : List Bool) (rd_T24 l 0).f0 (rd_T24 l 0).f1 (rd_T24 l 0).f2 (rd_T24 l 0).f3 := by
      simp only [wicketgatelaw26_SignalNests.l0]
      rw [if_pos h]
      simp [h]
      all_goals (intro hl; subst hl; simp at h)
    rw [e]
    have e2 : wicketgatelaw26_SignalNests.j1 59 true ([] : List S27) l (l.length : Int) 0 false 2 true false false 0 0 0 0 ([] : List Bool) (rd_T24 l 0).f0 (rd_T24 l 0).f1 (rd_T24 l 0).f2 (rd_T24 l 0).f3 = wicketgatelaw26_SignalNests.l0 58 true [(⟨2, true, false, false, (⟨0, 0, 0, 0⟩ : S24), []⟩ : S27)] l (l.length : Int) 1 2 true false false 0 0 0 0 [false] := by
      simp only [wicketgatelaw26_SignalNests.j1]
      rw [force_true0]
      simp [wrap64]
    exact e2.trans (fwd_true1 l)
  · simp only [wicketgatelaw26_SignalNests.l0]
    rw [if_neg h]
    exact back_true0
theorem back_false0 : wicketgatelaw26_SignalNests.j2 59 ([] : List S27) 2 false false false 0 0 0 0 ([] : List Bool) = some true := by decide +kernel
theorem back_false1 : wicketgatelaw26_SignalNests.j2 57 [(⟨2, false, false, false, (⟨0, 0, 0, 0⟩ : S24), []⟩ : S27)] 2 false true false 0 0 0 0 [false] = some true := by decide +kernel
theorem back_false1' : wicketgatelaw26_SignalNests.j2 56 [(⟨2, false, false, false, (⟨0, 0, 0, 0⟩ : S24), []⟩ : S27)] 2 false true false 0 0 0 0 [false] = some true := by decide +kernel
theorem fwd_false1 (l : List S24) : wicketgatelaw26_SignalNests.l0 58 false [(⟨2, false, false, false, (⟨0, 0, 0, 0⟩ : S24), []⟩ : S27)] l (l.length : Int) 1 2 false true false 0 0 0 0 [false] = some true := by
  by_cases h : (1 : Int) < (l.length : Int)
  · have e : wicketgatelaw26_SignalNests.l0 58 false [(⟨2, false, false, false, (⟨0, 0, 0, 0⟩ : S24), []⟩ : S27)] l (l.length : Int) 1 2 false true false 0 0 0 0 [false] = wicketgatelaw26_SignalNests.j1 57 false [(⟨2, false, false, false, (⟨0, 0, 0, 0⟩ : S24), []⟩ : S27)] l (l.length : Int) 1 true 2 false true false 0 0 0 0 [false] (rd_T24 l 1).f0 (rd_T24 l 1).f1 (rd_T24 l 1).f2 (rd_T24 l 1).f3 := by
      simp only [wicketgatelaw26_SignalNests.l0]
      rw [if_pos h]
      simp [h]
      all_goals (intro hl; subst hl; simp at h)
    rw [e]
    have e2 : wicketgatelaw26_SignalNests.j1 57 false [(⟨2, false, false, false, (⟨0, 0, 0, 0⟩ : S24), []⟩ : S27)] l (l.length : Int) 1 true 2 false true false 0 0 0 0 [false] (rd_T24 l 1).f0 (rd_T24 l 1).f1 (rd_T24 l 1).f2 (rd_T24 l 1).f3 = wicketgatelaw26_SignalNests.j2 56 [(⟨2, false, false, false, (⟨0, 0, 0, 0⟩ : S24), []⟩ : S27)] 2 false true false 0 0 0 0 [false] := by
      simp only [wicketgatelaw26_SignalNests.j1, if_true]
    exact e2.trans back_false1'
  · simp only [wicketgatelaw26_SignalNests.l0]
    rw [if_neg h]
    exact back_false1
theorem fwd_false0 (l : List S24) : wicketgatelaw26_SignalNests.l0 60 false ([] : List S27) l (l.length : Int) 0 2 false false false 0 0 0 0 ([] : List Bool) = some true := by
  by_cases h : (0 : Int) < (l.length : Int)
  · have e : wicketgatelaw26_SignalNests.l0 60 false ([] : List S27) l (l.length : Int) 0 2 false false false 0 0 0 0 ([] : List Bool) = wicketgatelaw26_SignalNests.j1 59 false ([] : List S27) l (l.length : Int) 0 false 2 false false false 0 0 0 0 ([] : List Bool) (rd_T24 l 0).f0 (rd_T24 l 0).f1 (rd_T24 l 0).f2 (rd_T24 l 0).f3 := by
      simp only [wicketgatelaw26_SignalNests.l0]
      rw [if_pos h]
      simp [h]
      all_goals (intro hl; subst hl; simp at h)
    rw [e]
    have e2 : wicketgatelaw26_SignalNests.j1 59 false ([] : List S27) l (l.length : Int) 0 false 2 false false false 0 0 0 0 ([] : List Bool) (rd_T24 l 0).f0 (rd_T24 l 0).f1 (rd_T24 l 0).f2 (rd_T24 l 0).f3 = wicketgatelaw26_SignalNests.l0 58 false [(⟨2, false, false, false, (⟨0, 0, 0, 0⟩ : S24), []⟩ : S27)] l (l.length : Int) 1 2 false true false 0 0 0 0 [false] := by
      simp only [wicketgatelaw26_SignalNests.j1]
      rw [force_false0]
      simp [wrap64]
    exact e2.trans (fwd_false1 l)
  · simp only [wicketgatelaw26_SignalNests.l0]
    rw [if_neg h]
    exact back_false0
theorem SignalNests_p (op : Bool) (l : List S24) : wicketgatelaw26_SignalNests.f 60 op l = some true := by
  unfold wicketgatelaw26_SignalNests.f
  rw [wicketgatelaw26_wakes.tt]
  simp only [Option.bind_some, if_true]
  cases op
  · rw [show signal_Set.f 0 false false false 0 0 0 0 ([] : List Bool) 2 false = some (2, false, false, false, 0, 0, 0, 0, [], 0) from rfl]
    simp only [Option.bind_some, if_true]
    exact fwd_false0 l
  · rw [show signal_Set.f 0 false false false 0 0 0 0 ([] : List Bool) 2 true = some (2, true, false, false, 0, 0, 0, 0, [], 0) from rfl]
    simp only [Option.bind_some, if_true]
    exact fwd_true0 l
end Go.Proofs.Ytbpgpbbpeppjmaa.PC
