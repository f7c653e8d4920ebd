import Derived.Test.YtcbiehinhmkjmaaDoorNP
namespace Go.Proofs.YtcbiehinhmkjmaaDoor.NB
open Go.RowKit Go.Proofs.YtcbiehinhmkjmaaDoorW.PrintWords Go.Proofs.YtcbiehinhmkjmaaDoorW.PrintLast Go.Proofs.YtcbiehinhmkjmaaDoorW.PrintMore
open Go.Proofs.YtcbiehinhmkjmaaDoor.PB
set_option linter.unusedVariables false
set_option linter.unusedSimpArgs false
theorem rd_app {l : List S36} {n : S36} {i : Nat} (h : i < l.length) : rd_T36 (l ++ [n]) (i : Int) = rd_T36 l (i : Int) := by
  rw [rd_at (by rw [List.length_append]; omega), rd_at h, List.getElem_append_left h]
theorem rd_last {l : List S36} {n : S36} : rd_T36 (l ++ [n]) (l.length : Int) = n := by
  rw [rd_at (by rw [List.length_append]; exact Nat.lt_succ_self _)]
  simp
theorem ask_zero {nx : Int} {l : List S36} {t : Int} (h : askE nx l t = 0) : (1 ≤ t ∧ t ≤ 20) ∧ idxV (fun x => x.f1 == t) l = -1 ∧ l.length ≠ 8 ∧ nx ≠ 4611686018427387904 := by
  unfold askE at h
  split at h
  · rename_i h1
    split at h
    · rename_i h2
      split at h
      · cases h
      · rename_i h3
        exact ⟨h1, h2, fun e => h3 (Or.inl e), fun e => h3 (Or.inr e)⟩
    · cases h
  · cases h
theorem ask_none {l : List S36} {t : Int} (h : idxV (fun x => x.f1 == t) l = -1) : ∀ q : Nat, q < l.length → ((rd_T36 l (q : Int)).f1 == t) = false := by
  rcases idx_cases (fun x => x.f1 == t) l with ⟨_, h1⟩ | ⟨k, _, h1, _⟩
  · exact h1
  · rw [h] at h1
    omega
theorem ask_dok {nx : Int} {l : List S36} {t : Int} (x : S29) (h : Dok nx l) (he : askE nx l t = 0) : Dok (nx + 1) (l ++ [newN nx t x]) := by
  obtain ⟨h1, h2, h3, h4⟩ := h
  obtain ⟨e1, e2, e3, e4⟩ := ask_zero he
  have e5 := ask_none e2
  refine ⟨by omega, by omega, by rw [List.length_append, List.length_singleton]; omega, fun i hi => ?_⟩
  rw [List.length_append, List.length_singleton] at hi
  rcases Nat.lt_or_ge i l.length with hil | hil
  · obtain ⟨k1, k2, k3, k4, k5, k6⟩ := h4 i hil
    unfold okAt ckOf tidOf at *
    rw [rd_app hil, List.take_append_of_le_length (Nat.le_of_lt hil)]
    refine ⟨k1, by omega, fun hp => ?_, k4, k5, k6⟩
    have := k3 hp
    rw [show ((i : Int) - 1) = ((i - 1 : Nat) : Int) by omega] at this ⊢
    rw [rd_app (by omega)]
    exact this
  · obtain rfl : i = l.length := by omega
    unfold okAt ckOf tidOf
    rw [rd_last, List.take_append_of_le_length (Nat.le_refl _), List.take_length]
    refine ⟨h1, by show nx < nx + 1; omega, fun hp => ?_, e1.1, e1.2, ?_⟩
    · rw [show ((l.length : Int) - 1) = ((l.length - 1 : Nat) : Int) by omega, rd_app (by omega)]
      exact (h4 (l.length - 1) (by omega)).2.1
    · rw [List.any_eq_false]
      intro y hy
      obtain ⟨q, hq, rfl⟩ := List.mem_iff_getElem.1 hy
      have := e5 q hq
      rw [rd_at hq] at this
      rw [show (newN nx t x).f1 = t from rfl, this]
      exact Bool.false_ne_true
theorem ask_bad {nx : Int} {l : List S36} {t : Int} {x : S29} (h : ¬ (Dok nx l ∧ askE nx l t = 0)) : ∃ er, er ≠ 0 ∧ askR nx l t x = (0, [], er, 0) := by
  unfold askR
  by_cases h1 : Dok nx l
  · have h2 : ¬ askE nx l t = 0 := fun e => h ⟨h1, e⟩
    rw [if_pos h1, if_neg h2]
    refine ⟨askE nx l t, h2, ?_⟩
    unfold askC
    rw [if_neg h2]
  · rw [if_neg h1]
    exact ⟨350, by decide, rfl⟩
end Go.Proofs.YtcbiehinhmkjmaaDoor.NB
