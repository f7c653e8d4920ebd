import Derived.Test.YtmhgckamkokedaaAP
namespace Go.Proofs.Ytmhgckamkokedaa.PB
open Go.RowKit Go.Proofs.YtmhgckamkokedaaW.PrintWords Go.Proofs.YtmhgckamkokedaaW.PrintLast Go.Proofs.YtmhgckamkokedaaW.PrintMore
open Go.Proofs.Ytmhgckamkokedaa.PE.L (act stV stV_snoc stV_len stp combV)
set_option linter.unusedVariables false
set_option linter.unusedSimpArgs false

/-- The first of the most restrictive ones. -/
def First (l : List Int) (n : Nat) : Prop := ∃ h : n < l.length, (∀ j (hj : j < l.length), act l[n] ≤ act l[j]) ∧ ∀ j (hj : j < n), act l[n] < act (l[j]'(by omega))
theorem first_unique {l : List Int} {n m : Nat} (h : First l n) (k : First l m) : n = m := by
  obtain ⟨h1, h2, h3⟩ := h
  obtain ⟨k1, k2, k3⟩ := k
  rcases Nat.lt_trichotomy n m with e | e | e
  · have := k3 n e; have := h2 m k1; omega
  · exact e
  · have := h3 m e; have := k2 n h1; omega
theorem stV_spec (l : List Int) : (l = [] ∧ stV l = (0, -1, 0)) ∨ ∃ n, First l n ∧ ∃ h : n < l.length, stV l = (l[n], (n : Int), (l.length : Int)) := by
  suffices h : ∀ k, k ≤ l.length → (l.take k = [] ∧ stV (l.take k) = (0, -1, 0)) ∨ ∃ n, First (l.take k) n ∧ ∃ h : n < (l.take k).length, stV (l.take k) = ((l.take k)[n], (n : Int), ((l.take k).length : Int)) by
    have := h l.length (Nat.le_refl _)
    rwa [List.take_length] at this
  intro k
  induction k with
  | zero => intro _; exact .inl ⟨by simp, by simp [stV]⟩
  | succ k ih =>
    intro hk
    right
    have e : l.take (k + 1) = l.take k ++ [l[k]] := by rw [List.take_succ_eq_append_getElem (by omega)]
    have hlk : (l.take k).length = k := by simp; omega
    rw [e, stV_snoc]
    generalize hx : l[k] = x
    generalize hp : l.take k = p at *
    have fresh : (∀ j (hj : j < p.length), act x < act p[j]) → First (p ++ [x]) p.length := by
      intro hlt
      refine ⟨by simp, ?_, ?_⟩
      · intro j hj
        rw [List.getElem_append_right (Nat.le_refl _)]
        simp only [Nat.sub_self, List.getElem_cons_zero]
        rcases Nat.lt_or_ge j p.length with h1 | h1
        · rw [List.getElem_append_left h1]; exact Int.le_of_lt (hlt j h1)
        · have : j = p.length := by simp at hj; omega
          subst this
          rw [List.getElem_append_right (Nat.le_refl _)]
          simp
      · intro j hj
        rw [List.getElem_append_right (Nat.le_refl _), List.getElem_append_left hj]
        simpa using hlt j hj
    rcases ih (by omega) with ⟨h1, h2⟩ | ⟨n, hf, hn, h2⟩
    · subst h1
      rw [h2]
      refine ⟨0, fresh (fun j hj => absurd hj (by simp)), by simp, ?_⟩
      unfold stp
      simp
    · rw [h2]
      unfold stp
      dsimp only
      obtain ⟨_, f2, f3⟩ := hf
      by_cases c : act x < act p[n]
      · rw [if_pos (.inr c)]
        refine ⟨p.length, fresh (fun j hj => by have := f2 j hj; omega), by simp, ?_⟩
        simp
      · rw [if_neg (fun h => h.elim (fun h => by omega) c)]
        refine ⟨n, ⟨by simp; omega, ?_, ?_⟩, by simp; omega, ?_⟩
        · intro j hj
          rw [List.getElem_append_left hn]
          rcases Nat.lt_or_ge j p.length with h1 | h1
          · rw [List.getElem_append_left h1]; exact f2 j h1
          · have : j = p.length := by simp at hj; omega
            subst this
            rw [List.getElem_append_right (Nat.le_refl _)]
            simp; omega
        · intro j hj
          rw [List.getElem_append_left hn, List.getElem_append_left (by omega)]
          exact f3 j hj
        · rw [List.getElem_append_left hn]; simp
theorem comb_spec (l : List Int) : (l = [] ∧ combV l = (7, 0, -1)) ∨ ∃ n, First l n ∧ ∃ h : n < l.length, combV l = (act l[n], IntKind.u16.wrap l[n], (n : Int)) := by
  rcases stV_spec l with ⟨h1, h2⟩ | ⟨n, hf, hn, h2⟩
  · left
    refine ⟨h1, ?_⟩
    unfold combV
    rw [h2]
    simp
  · right
    refine ⟨n, hf, hn, ?_⟩
    unfold combV
    rw [h2]
    dsimp only
    rw [if_neg (by omega)]
theorem combine_f (l : List Int) (hl : l.length ≤ 1000) : action_Combine.f l = some ((combV l).1, (combV l).2.1, (combV l).2.2) := by
  unfold action_Combine.f
  rw [if_pos (by omega)]
theorem first_drop {l : List Int} {n i m : Nat} (h : First l n) (k : First (l.drop i) m) (hm : m < (l.drop i).length) : ∃ hn : n < l.length, act l[n] ≤ act (l.drop i)[m] := by
  obtain ⟨h1, h2, _⟩ := h
  refine ⟨h1, ?_⟩
  rw [List.getElem_drop]
  exact h2 _ _
theorem tight_loop (l : List Int) (w : Int) (n : Nat) (hl : l.length ≤ 40) (hf : First l n) (hn : n < l.length) (R : ∀ k, 30 ≤ k → wicketgatelaw06_ActionTighter.l0 k l w (n : Int) l (l.length : Int) (l.length : Int) (act l[n]) (IntKind.u16.wrap l[n]) = some true) :
    ∀ (d i k : Nat), i + d = l.length → d * 2 + 40 < k → wicketgatelaw06_ActionTighter.l0 k l w (n : Int) l (l.length : Int) i (act l[n]) (IntKind.u16.wrap l[n]) = some true := by
  intro d
  induction d with
  | zero =>
    intro i k hi hk
    obtain rfl : i = l.length := by omega
    exact R k (by omega)
  | succ d ih =>
    intro i k hi hk
    obtain ⟨k, rfl⟩ : ∃ m, k = m + 1 + 1 := ⟨k - 2, by omega⟩
    have hi' : i < l.length := by omega
    simp only [wicketgatelaw06_ActionTighter.l0]
    rw [if_pos (by omega), if_pos (by omega), if_pos (by omega), split_f (by omega), rd_at hi']
    simp only [Option.bind_some]
    have hw2 : wrap64 ((i : Int) + 1) = ((i + 1 : Nat) : Int) := by rw [w64_id (by omega) (by omega)]; omega
    have fin : wicketgatelaw06_ActionTighter.j1 (k + 1) l w (n : Int) (i : Int) l (l.length : Int) (i : Int) false (act l[n]) (IntKind.u16.wrap l[n]) = some true := by
      simp only [wicketgatelaw06_ActionTighter.j1, Bool.false_eq_true, if_false]
      rw [if_pos (by omega), if_pos (by omega), combine_f _ (by simp; omega)]
      simp only [Option.bind_some, Int.toNat_natCast]
      rcases comb_spec (l.drop i) with ⟨h1, _⟩ | ⟨m, hm, hml, h2⟩
      · have := congrArg List.length h1
        simp at this
        omega
      · rw [h2]
        dsimp only
        obtain ⟨_, hle⟩ := first_drop hf hm hml
        rw [if_neg (by omega), hw2]
        exact ih (i + 1) k (by omega) (by omega)
    obtain ⟨_, f2, f3⟩ := hf
    have g2 := f2 i hi'
    rw [if_neg (by omega)]
    by_cases c : (i : Int) < (n : Int)
    · rw [if_pos c]
      have g3 := f3 i (by omega)
      have : (act l[i] == act l[n]) = false := by simp; omega
      rw [this]
      exact fin
    · rw [if_neg c]
      exact fin
theorem tight_end (l : List Int) (w v0 v1 at_ : Int) (hl : l.length ≤ 40) (hw0 : 0 ≤ w) (hv : (l = [] ∧ v0 = 7 ∧ v1 = 0 ∧ at_ = -1) ∨ ∃ n, First l n ∧ ∃ h : n < l.length, v0 = act l[n] ∧ v1 = IntKind.u16.wrap l[n] ∧ at_ = (n : Int)) (k : Nat) (hk : 30 ≤ k) :
    wicketgatelaw06_ActionTighter.l0 k l w at_ l (l.length : Int) (l.length : Int) v0 v1 = some true := by
  obtain ⟨k, rfl⟩ : ∃ m, k = m + 1 := ⟨k - 1, by omega⟩
  simp only [wicketgatelaw06_ActionTighter.l0]
  rw [if_neg (by omega)]
  simp only [Option.bind_some, List.length_cons, List.length_nil, List.cons_append, List.nil_append]
  rw [if_pos (by omega), combine_f _ (by simp; omega), split_f (by omega)]
  simp only [Option.bind_some]
  rcases comb_spec (w :: l) with ⟨h1, _⟩ | ⟨m, hm, hml, h2⟩
  · simp at h1
  rw [h2]
  dsimp only
  have zero : First (w :: l) 0 → m = 0 := fun h => first_unique hm h
  rcases hv with ⟨rfl, rfl, rfl, rfl⟩ | ⟨n, hf, hn, rfl, rfl, rfl⟩
  · have : m = 0 := by simp at hml; omega
    subst this
    simp
  · rw [if_neg (by omega)]
    obtain ⟨_, f2, f3⟩ := id hf
    by_cases c : act w ≤ act l[n]
    · rw [if_pos c]
      have : m = 0 := zero ⟨by simp, fun j hj => by
        rcases j with _ | j
        · simp
        · have := f2 j (by simpa using hj); simp; omega, fun j hj => absurd hj (by omega)⟩
      subst this
      simp
    · rw [if_neg c]
      have : m = n + 1 := first_unique hm ⟨by simp; omega, fun j hj => by
        rcases j with _ | j
        · simp; omega
        · have := f2 j (by simpa using hj); simpa using this, fun j hj => by
        rcases j with _ | j
        · simp; omega
        · have := f3 j (by omega); simpa using this⟩
      subst this
      have : wrap64 ((n : Int) + 1) = (n : Int) + 1 := w64_id (by omega) (by omega)
      rw [this]
      simp
theorem ActionTighter_p (l : List Int) (w : Int) (hw0 : 0 ≤ w) : wicketgatelaw06_ActionTighter.f 1000 l w = some true := by
  unfold wicketgatelaw06_ActionTighter.f
  rw [wakes_f (by omega), few_f l]
  simp only [Option.bind_some, if_true]
  have ht : (l.take 40).length ≤ 40 := by simp; omega
  generalize l.take 40 = t at ht
  rw [combine_f t (by omega)]
  simp only [Option.bind_some]
  rcases comb_spec t with ⟨rfl, h2⟩ | ⟨n, hf, hn, h2⟩
  · rw [h2]
    exact tight_end [] w 7 0 (-1) (by simp) hw0 (.inl ⟨rfl, rfl, rfl, rfl⟩) 1000 (by omega)
  · rw [h2]
    exact tight_loop t w n ht hf hn (fun k hk => tight_end t w _ _ _ ht hw0 (.inr ⟨n, hf, hn, rfl, rfl, rfl⟩) k hk) t.length 0 1000 (by omega) (by omega)
end Go.Proofs.Ytmhgckamkokedaa.PB
