import Derived.Test.YtbpgpbbpeppjmaaSO
namespace Go.Proofs.Ytbpgpbbpeppjmaa.SG
open Go.RowKit Go.Proofs.YtbpgpbbpeppjmaaW.PrintWords Go.Proofs.YtbpgpbbpeppjmaaW.PrintLast Go.Proofs.YtbpgpbbpeppjmaaW.PrintMore
set_option linter.unusedVariables false
set_option linter.unusedSimpArgs false
/-- A signal that may be. -/
def Good (s : Sg) : Prop := 0 ≤ s.ac ∧ s.ac ≤ 2 ∧ s.l.length ≤ 4 ∧ (s.op = true → s.ac = 2) ∧ (if s.pe = true then s.bl = true ∧ s.ac ≠ 1 else s.co = 0 ∧ s.er = 0 ∧ s.nr = 0 ∧ s.ar = 0)
theorem good_iff (s : Sg) : s.chk = 0 ↔ Good s := by
  unfold Sg.chk Good
  constructor
  · intro h
    refine Classical.byContradiction fun g => ?_
    have e : (360 : Int) = 0 := (if_neg g).symm.trans h
    omega
  · intro h; exact if_pos h
theorem good_drop (s : Sg) (h1 : 0 ≤ s.ac) (h2 : s.ac ≤ 2) (h3 : s.l.length ≤ 4) (h4 : s.op = true → s.ac = 2) : Good s.drop := ⟨h1, h2, h3, h4, by simp [Sg.drop]⟩
theorem good_deliver (s : Sg) (x y z u : Int) (h : Good s) : Good (s.deliver x y z u).1 := by
  obtain ⟨h1, h2, h3, h4, h5⟩ := h
  unfold Sg.deliver
  split
  · exact ⟨h1, h2, h3, h4, h5⟩
  · split
    · split
      · split
        · exact ⟨h1, h2, by simp; omega, h4, h5⟩
        · refine ⟨h1, h2, by simp; omega, h4, ?_⟩
          split
          · rename_i hp; rw [if_pos hp] at h5; exact ⟨rfl, h5.2⟩
          · rename_i hp; rw [if_neg hp] at h5; exact h5
      · exact ⟨h1, h2, h3, h4, h5⟩
    · exact ⟨h1, h2, h3, h4, h5⟩
/-- Behind a change of the flag alone. -/
theorem good_on (s : Sg) (h1 : 0 ≤ s.ac) (h2 : s.ac ≤ 2) (h3 : s.l.length ≤ 4) (h4 : s.op = true → s.ac = 2) (h5 : if s.pe = true then s.ac ≠ 1 else s.co = 0 ∧ s.er = 0 ∧ s.nr = 0 ∧ s.ar = 0) : Good s.on.1 := by
  unfold Sg.on
  split
  · rename_i hb
    refine ⟨h1, h2, h3, h4, ?_⟩
    split
    · rename_i hp; rw [if_pos hp] at h5; exact ⟨hb, h5⟩
    · rename_i hp; rw [if_neg hp] at h5; exact h5
  · split
    · exact good_deliver _ _ _ _ _ (good_drop s h1 h2 h3 h4)
    · rename_i hp
      refine ⟨h1, h2, h3, h4, ?_⟩
      rw [if_neg hp] at h5 ⊢; exact h5
theorem half (s : Sg) (h : Good s) : if s.pe = true then s.ac ≠ 1 else s.co = 0 ∧ s.er = 0 ∧ s.nr = 0 ∧ s.ar = 0 := by
  obtain ⟨h1, h2, h3, h4, h5⟩ := h
  split
  · rename_i hp; rw [if_pos hp] at h5; exact h5.2
  · rename_i hp; rw [if_neg hp] at h5; exact h5
theorem good_block (s : Sg) (b : Bool) (h : Good s) : Good (s.blockD b).1 := good_on _ h.1 h.2.1 h.2.2.1 h.2.2.2.1 (half s h)
theorem good_fork (s : Sg) (h : Good s) : Good s.forkD.1 := good_drop s h.1 h.2.1 h.2.2.1 h.2.2.2.1
theorem good_exec (s : Sg) (h : Good s) : Good s.execD.1 := by
  obtain ⟨h1, h2, h3, h4, h5⟩ := h
  unfold Sg.execD
  refine ⟨by dsimp only; split <;> omega, by dsimp only; split <;> omega, by simp, by simp, ?_⟩
  dsimp only
  split
  · rename_i hp; rw [if_pos hp] at h5; exact ⟨h5.1, by split <;> omega⟩
  · rename_i hp; rw [if_neg hp] at h5; exact h5
theorem good_force (s : Sg) (x y z u : Int) (h : Good s) : Good (s.forceD x y z u).1 := by
  unfold Sg.forceD
  split
  · exact good_deliver _ _ _ _ _ (good_drop _ (by show (0 : Int) ≤ 0; omega) (by show (0 : Int) ≤ 2; omega) h.2.2.1 (by simp))
  · exact good_deliver _ _ _ _ _ h
theorem good_ret (s : Sg) (h : Good s) : Good s.retD.1 := by
  unfold Sg.retD
  split
  · exact h
  · exact good_on _ h.1 h.2.1 (by have := h.2.2.1; simp; omega) h.2.2.2.1 (half s h)
theorem good_set (s : Sg) (a : Int) (q : Bool) (h : Good s) : Good (s.setD a q).1 := by
  have hh := half s h
  obtain ⟨h1, h2, h3, h4, h5⟩ := h
  unfold Sg.setD
  split
  · exact ⟨h1, h2, h3, h4, h5⟩
  · split
    · exact ⟨h1, h2, h3, h4, h5⟩
    · split
      · exact ⟨h1, h2, h3, h4, h5⟩
      · rename_i g1 g2 g3
        have g4 : q = true → a = 2 := fun e => by
          by_cases e2 : a = 2
          · exact e2
          · exact absurd ⟨e, e2⟩ g3
        split
        · exact good_drop _ (by dsimp only; omega) (by dsimp only; omega) h3 g4
        · rename_i g5
          refine ⟨by dsimp only; omega, by dsimp only; omega, h3, g4, ?_⟩
          dsimp only
          split
          · rename_i hp; rw [if_pos hp] at h5; exact ⟨h5.1, g5⟩
          · rename_i hp; rw [if_neg hp] at h5; exact h5
theorem good_send (s : Sg) (x y z u : Int) (h : Good s) : Good (s.sendD x y z u).1 := by
  unfold Sg.sendD
  split
  · exact h
  · split
    · exact good_deliver _ _ _ _ _ h
    · rename_i g1 g2
      obtain ⟨h1, h2, h3, h4, h5⟩ := h
      split
      · refine ⟨h1, h2, h3, h4, ?_⟩
        have hb : s.bl = true := by cases hb : s.bl <;> simp_all
        simp [hb, g1]
      · exact ⟨h1, h2, h3, h4, h5⟩
theorem good_with (s : Sg) (d : Sg × Ht × Int) (hg : Good s → Good d.1) (h : (s.withV d).2.2 = 0) : Good (s.withV d).1 := by
  unfold Sg.withV at h ⊢
  split
  · rename_i hc
    rw [if_pos hc] at h
    split
    · exact hg ((good_iff s).1 hc)
    · rename_i hd; rw [if_neg hd] at h; exact absurd h hd
  · rename_i hc; rw [if_neg hc] at h; exact absurd h hc
theorem good_op (s : Sg) (q a : Int) (f : Bool) (x y z u : Int) (h : (s.opD q a f x y z u).2.2 = 0) : Good (s.opD q a f x y z u).1 := by
  unfold Sg.opD at h ⊢
  by_cases c0 : q = 0
  · rw [if_pos c0] at h ⊢; exact good_with s _ (good_set s a f) h
  rw [if_neg c0] at h ⊢
  by_cases c1 : q = 1
  · rw [if_pos c1] at h ⊢; exact good_with s _ (good_block s f) h
  rw [if_neg c1] at h ⊢
  by_cases c2 : q = 2 ∨ q = 3
  · rw [if_pos c2] at h ⊢; exact good_with s _ (good_send s x y z u) h
  rw [if_neg c2] at h ⊢
  by_cases c3 : q = 4 ∨ q = 5
  · rw [if_pos c3] at h ⊢; exact good_with s _ (good_force s x y z u) h
  rw [if_neg c3] at h ⊢
  by_cases c4 : q = 6 ∨ q = 7
  · rw [if_pos c4] at h ⊢; exact good_with s _ (good_ret s) h
  rw [if_neg c4] at h ⊢
  by_cases c5 : q = 8
  · rw [if_pos c5] at h ⊢; exact good_with s _ (good_fork s) h
  rw [if_neg c5] at h ⊢
  exact good_with s _ (good_exec s) h
theorem force_er (s : Sg) (x y z u : Int) : (s.forceD x y z u).2.2 = 0 := by unfold Sg.forceD; split <;> rfl
theorem withV_force (s : Sg) (x y z u : Int) (h : s.chk = 0) : s.withV (s.forceD x y z u) = s.forceD x y z u := by unfold Sg.withV; rw [if_pos h, if_pos (force_er s x y z u)]
theorem deliver_hit (s : Sg) (x y z u : Int) (h : s.ac ≠ 1) : ((s.deliver x y z u).2.di == (s.deliver x y z u).2.ru) = false ∧ (s.deliver x y z u).2.co = x ∧ (s.deliver x y z u).2.er = y ∧ (s.deliver x y z u).2.nr = z ∧ (s.deliver x y z u).2.ar = u ∧ ((s.deliver x y z u).2.ru = true → s.ac = 2 ∧ (s.deliver x y z u).1.l.length = s.l.length + 1) := by
  unfold Sg.deliver
  rw [if_neg h]
  by_cases h2 : s.ac = 2
  · rw [if_pos h2]
    by_cases h3 : s.l.length < 4
    · rw [if_pos h3]
      by_cases h4 : s.op = true
      · rw [if_pos h4]; exact ⟨rfl, rfl, rfl, rfl, rfl, fun _ => ⟨h2, by simp⟩⟩
      · rw [if_neg h4]; exact ⟨rfl, rfl, rfl, rfl, rfl, fun _ => ⟨h2, by simp⟩⟩
    · rw [if_neg h3]; exact ⟨rfl, rfl, rfl, rfl, rfl, fun h => by simp at h⟩
  · rw [if_neg h2]; exact ⟨rfl, rfl, rfl, rfl, rfl, fun h => by simp at h⟩
theorem force_hit (s : Sg) (x y z u : Int) : ((s.forceD x y z u).2.1.di == (s.forceD x y z u).2.1.ru) = false ∧ (s.forceD x y z u).2.1.co = x ∧ (s.forceD x y z u).2.1.er = y ∧ (s.forceD x y z u).2.1.nr = z ∧ (s.forceD x y z u).2.1.ar = u ∧ ((s.forceD x y z u).2.1.ru = true → s.bl = false ∧ s.ac = 2 ∧ (s.forceD x y z u).1.l.length = s.l.length + 1) := by
  unfold Sg.forceD
  by_cases h : s.bl = true ∨ s.ac = 1
  · rw [if_pos h]
    obtain ⟨q1, q2, q3, q4, q5, q6⟩ := deliver_hit (Sg.drop ⟨0, false, false, s.pe, s.co, s.er, s.nr, s.ar, s.l⟩) x y z u (by simp [Sg.drop])
    exact ⟨q1, q2, q3, q4, q5, fun hr => by have := (q6 hr).1; simp [Sg.drop] at this⟩
  · rw [if_neg h]
    obtain ⟨q1, q2, q3, q4, q5, q6⟩ := deliver_hit s x y z u (fun e => h (Or.inr e))
    exact ⟨q1, q2, q3, q4, q5, fun hr => ⟨by cases hb : s.bl <;> simp_all, (q6 hr).1, (q6 hr).2⟩⟩
end Go.Proofs.Ytbpgpbbpeppjmaa.SG
