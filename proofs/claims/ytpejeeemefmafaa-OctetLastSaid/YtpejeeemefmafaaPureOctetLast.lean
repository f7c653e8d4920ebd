import Derived.Test.YtpejeeemefmafaaPFx3
import Derived.Test.YtpejeeemefmafaaOH
namespace Go.Proofs.Ytpejeeemefmafaa.Pure
open Go.RowKit Go.Proofs.Ytpejeeemefmafaa.PF Go.Proofs.YtpejeeemefmafaaW.PrintWords Go.Proofs.YtpejeeemefmafaaW.PrintLast
set_option linter.unusedVariables false
set_option linter.unusedSimpArgs false
theorem last_step (k : Nat) (a b : Int) (l r : List Int) (i : Nat) (h1 : i < l.length) (h2 : i < r.length) (hi : i < 100) :
    wicketgatelaw01_OctetLast.l0 (k + 1) a b l r (i : Int) = if rd l i = rd r i then wicketgatelaw01_OctetLast.l0 k a b l r ((i : Int) - 1) else some ((decide (a > b)) == (decide ((rd l i) > (rd r i)))) := by
  rw [wicketgatelaw01_OctetLast.l0, if_pos (by omega), if_pos (by omega), if_pos (by omega), if_pos (by omega), w64_id (by omega) (by omega)]
theorem OctetLast : wicketgatelaw01_OctetLast.Pure := by
  intro a b ha hb
  obtain ⟨a0, a1⟩ := u64_rng ha
  obtain ⟨b0, b1⟩ := u64_rng hb
  refine ⟨20, ?_⟩
  unfold wicketgatelaw01_OctetLast.f wicketgatelaw01_wakes.f
  simp only [Option.bind_some, if_true]
  rw [put64_f 20 (by omega) [] a a0 a1 (by simp), put64_f 20 (by omega) [] b b0 b1 (by simp)]
  simp only [Option.bind_some, List.nil_append]
  obtain ⟨x0, x1, x2, x3, x4, x5, x6, x7, ea, p0, p1, p2, p3, p4, p5, p6, p7⟩ := bs8 a a0 a1
  obtain ⟨y0, y1, y2, y3, y4, y5, y6, y7, eb, q0, q1, q2, q3, q4, q5, q6, q7⟩ := bs8 b b0 b1
  rw [ea, eb]
  clear ea eb ha hb a0 a1 b0 b1
  have fin : ∀ (P : Prop) [Decidable P] (Q : Prop) [Decidable Q], (P ↔ Q) → some (decide P == decide Q) = some true := fun P _ Q _ h => by simp [h]
  have s7 := last_step 19 a b [x0, x1, x2, x3, x4, x5, x6, x7] [y0, y1, y2, y3, y4, y5, y6, y7] 7 (by simp) (by simp) (by simp)
  have s6 := last_step 18 a b [x0, x1, x2, x3, x4, x5, x6, x7] [y0, y1, y2, y3, y4, y5, y6, y7] 6 (by simp) (by simp) (by simp)
  have s5 := last_step 17 a b [x0, x1, x2, x3, x4, x5, x6, x7] [y0, y1, y2, y3, y4, y5, y6, y7] 5 (by simp) (by simp) (by simp)
  have s4 := last_step 16 a b [x0, x1, x2, x3, x4, x5, x6, x7] [y0, y1, y2, y3, y4, y5, y6, y7] 4 (by simp) (by simp) (by simp)
  have s3 := last_step 15 a b [x0, x1, x2, x3, x4, x5, x6, x7] [y0, y1, y2, y3, y4, y5, y6, y7] 3 (by simp) (by simp) (by simp)
  have s2 := last_step 14 a b [x0, x1, x2, x3, x4, x5, x6, x7] [y0, y1, y2, y3, y4, y5, y6, y7] 2 (by simp) (by simp) (by simp)
  have s1 := last_step 13 a b [x0, x1, x2, x3, x4, x5, x6, x7] [y0, y1, y2, y3, y4, y5, y6, y7] 1 (by simp) (by simp) (by simp)
  have s0 := last_step 12 a b [x0, x1, x2, x3, x4, x5, x6, x7] [y0, y1, y2, y3, y4, y5, y6, y7] 0 (by simp) (by simp) (by simp)
  simp [rd] at s0 s1 s2 s3 s4 s5 s6 s7
  rw [s7]
  by_cases c7 : x7 = y7
  · rw [if_pos c7, s6]
    by_cases c6 : x6 = y6
    · rw [if_pos c6, s5]
      by_cases c5 : x5 = y5
      · rw [if_pos c5, s4]
        by_cases c4 : x4 = y4
        · rw [if_pos c4, s3]
          by_cases c3 : x3 = y3
          · rw [if_pos c3, s2]
            by_cases c2 : x2 = y2
            · rw [if_pos c2, s1]
              by_cases c1 : x1 = y1
              · rw [if_pos c1, s0]
                by_cases c0 : x0 = y0
                · rw [if_pos c0]
                  have : a = b := by omega
                  subst this
                  simp [wicketgatelaw01_OctetLast.l0]
                · rw [if_neg c0]; exact fin _ _ (by omega)
              · rw [if_neg c1]; exact fin _ _ (by omega)
            · rw [if_neg c2]; exact fin _ _ (by omega)
          · rw [if_neg c3]; exact fin _ _ (by omega)
        · rw [if_neg c4]; exact fin _ _ (by omega)
      · rw [if_neg c5]; exact fin _ _ (by omega)
    · rw [if_neg c6]; exact fin _ _ (by omega)
  · rw [if_neg c7]; exact fin _ _ (by omega)
end Go.Proofs.Ytpejeeemefmafaa.Pure
