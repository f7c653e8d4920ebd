import Derived.Test.YtcbiehinhmkjmaaDoorNP
import Derived.Test.YtcbiehinhmkjmaaDoorPBw
import Derived.Test.YtcbiehinhmkjmaaDoorPBe
namespace Go.Proofs.YtcbiehinhmkjmaaDoor.NB
open Go.RowKit Go.Proofs.YtcbiehinhmkjmaaDoorW.PrintWords Go.Proofs.YtcbiehinhmkjmaaDoorW.PrintLast Go.Proofs.YtcbiehinhmkjmaaDoorW.PrintMore
open Go.Proofs.YtcbiehinhmkjmaaDoor.PB
set_option linter.unusedVariables false
set_option linter.unusedSimpArgs false

def basic (nx : Int) (l : List S36) (i : Nat) : Prop := 1 ≤ ckOf l i ∧ ckOf l i < nx ∧ 1 ≤ tidOf l i ∧ tidOf l i ≤ 20
def pairs (l : List S36) (i j : Nat) : Prop := ckOf l j < ckOf l i ∧ tidOf l j ≠ tidOf l i
theorem any_seen {l : List S36} {i : Nat} {t : Int} (hi : i ≤ l.length) : (l.take i).any (fun x => x.f1 == t) = false ↔ ∀ q : Nat, q < i → tidOf l q ≠ t := by
  rw [List.any_eq_false]
  constructor
  · intro h q hq
    have := h (l[q]'(by omega)) (List.mem_iff_getElem.2 ⟨q, by rw [List.length_take]; omega, by rw [List.getElem_take]⟩)
    unfold tidOf
    rw [rd_at (by omega)]
    simpa using this
  · intro h y hy
    obtain ⟨q, hq, rfl⟩ := List.mem_iff_getElem.1 hy
    rw [List.length_take] at hq
    rw [List.getElem_take]
    have := h q (by omega)
    unfold tidOf at this
    rw [rd_at (by omega)] at this
    simpa using this
theorem sorted_to {nx : Int} {l : List S36} {n : Nat} (hn : n ≤ l.length) (H : ∀ q : Nat, q < n → okAt nx l q) : ∀ i j : Nat, i < j → j < n → ckOf l i < ckOf l j := by
  intro i j
  induction j with
  | zero => intro hij; omega
  | succ j ih =>
    intro hij hj
    have h1 := (H (j + 1) hj).2.2.1 (by omega)
    rw [show (((j + 1 : Nat) : Int) - 1) = ((j : Nat) : Int) by omega] at h1
    rcases Nat.lt_or_ge i j with h2 | h2
    · exact Int.lt_trans (ih h2 (by omega)) h1
    · obtain rfl : i = j := by omega
      exact h1
theorem okAt_iff {nx : Int} {l : List S36} {i : Nat} (hi : i < l.length) (H : ∀ q : Nat, q < i → okAt nx l q) : okAt nx l i ↔ basic nx l i ∧ ∀ q : Nat, q < i → pairs l i q := by
  constructor
  · rintro ⟨h1, h2, h3, h4, h5, h6⟩
    refine ⟨⟨h1, h2, h4, h5⟩, fun q hq => ⟨?_, (any_seen (Nat.le_of_lt hi)).1 h6 q hq⟩⟩
    have h7 := h3 (by omega)
    rw [show ((i : Int) - 1) = ((i - 1 : Nat) : Int) by omega] at h7
    rcases Nat.lt_or_ge q (i - 1) with h8 | h8
    · exact Int.lt_trans (sorted_to (Nat.le_of_lt hi) H q (i - 1) h8 (by omega)) h7
    · obtain rfl : q = i - 1 := by omega
      exact h7
  · rintro ⟨⟨h1, h2, h4, h5⟩, h⟩
    refine ⟨h1, h2, fun hp => ?_, h4, h5, (any_seen (Nat.le_of_lt hi)).2 (fun q hq => (h q hq).2)⟩
    rw [show ((i : Int) - 1) = ((i - 1 : Nat) : Int) by omega]
    exact (h (i - 1) (by omega)).1
theorem right_in (nx : Int) (l : List S36) (i : Nat) (hi : i < l.length) (hl : l.length ≤ 100) (x : S36) (hx : x = rd_T36 l (i : Int)) : ∀ (d j k : Nat), j + d = i → d < k →
    ((∀ q : Nat, j ≤ q → q < i → pairs l i q) → wicketgateref25_Right.l1 k i j nx l x.f0 x.f1 x.f2.f0 x.f2.f1 x.f2.f2 x.f2.f3.f0 x.f2.f3.f1 x.f2.f3.f2 x.f2.f3.f3 x.f2.f3.f4 x.f2.f3.f5 x.f3 = wicketgateref25_Right.l0 (k - (d + 1)) ((i + 1 : Nat) : Int) nx l) ∧ (¬ (∀ q : Nat, j ≤ q → q < i → pairs l i q) → wicketgateref25_Right.l1 k i j nx l x.f0 x.f1 x.f2.f0 x.f2.f1 x.f2.f2 x.f2.f3.f0 x.f2.f3.f1 x.f2.f3.f2 x.f2.f3.f3 x.f2.f3.f4 x.f2.f3.f5 x.f3 = some false) := by
  intro d
  induction d with
  | zero =>
    intro j k hj hk
    obtain ⟨k, rfl⟩ : ∃ n, k = n + 1 := ⟨k - 1, by omega⟩
    obtain rfl : j = i := by omega
    rw [wicketgateref25_Right.l1, if_neg (Int.lt_irrefl _), w_succ j (by omega)]
    exact ⟨fun _ => by rw [show k + 1 - (0 + 1) = k by omega], fun h => absurd (fun q h1 h2 => absurd h2 (Nat.not_lt.2 h1)) h⟩
  | succ d ih =>
    intro j k hj hk
    obtain ⟨k, rfl⟩ : ∃ n, k = n + 1 := ⟨k - 1, by omega⟩
    obtain ⟨i1, i2⟩ := ih (j + 1) k (by omega) (by omega)
    rw [wicketgateref25_Right.l1, if_pos (Int.ofNat_lt.2 (by omega)), if_pos (Int.natCast_nonneg j), if_pos (Int.ofNat_lt.2 (by omega)), w_succ j (by omega)]
    by_cases h1 : (rd_T36 l (j : Int)).f0 ≥ x.f0
    · rw [if_pos h1]
      exact ⟨fun h => absurd (h j (Nat.le_refl _) (by omega)).1 (by unfold ckOf; rw [← hx]; omega), fun _ => rfl⟩
    · rw [if_neg h1]
      by_cases h2 : (rd_T36 l (j : Int)).f1 = x.f1
      · rw [if_pos h2]
        exact ⟨fun h => absurd (show tidOf l j = tidOf l i by unfold tidOf; rw [← hx]; exact h2) (h j (Nat.le_refl _) (by omega)).2, fun _ => rfl⟩
      · rw [if_neg h2]
        have hj0 : pairs l i j := ⟨by unfold ckOf; rw [← hx]; omega, by unfold tidOf; rw [← hx]; exact h2⟩
        refine ⟨fun h => (i1 (fun q a b => h q (by omega) b)).trans (by rw [show k + 1 - (d + 1 + 1) = k - (d + 1) by omega]), fun h => i2 (fun h3 => h (fun q a b => ?_))⟩
        rcases Nat.lt_or_ge j q with h4 | h4
        · exact h3 q h4 b
        · obtain rfl : q = j := by omega
          exact hj0
theorem right_out (nx : Int) (l : List S36) (hl : l.length ≤ 100) : ∀ (d i k : Nat), i + d = l.length → d * 200 < k → (∀ q : Nat, q < i → okAt nx l q) → wicketgateref25_Right.l0 k i nx l = some (decide (∀ q : Nat, q < l.length → okAt nx l q)) := by
  intro d
  induction d with
  | zero =>
    intro i k hi hk H
    obtain ⟨k, rfl⟩ : ∃ n, k = n + 1 := ⟨k - 1, by omega⟩
    obtain rfl : i = l.length := by omega
    rw [wicketgateref25_Right.l0, if_neg (Int.lt_irrefl _), decide_eq_true H]
  | succ d ih =>
    intro i k hi hk H
    obtain ⟨k, rfl⟩ : ∃ n, k = n + 1 := ⟨k - 1, by omega⟩
    obtain ⟨k, rfl⟩ : ∃ n, k = n + 1 := ⟨k - 1, by omega⟩
    have hil : i < l.length := by omega
    obtain ⟨x, hx⟩ : ∃ x, x = rd_T36 l (i : Int) := ⟨_, rfl⟩
    have bad : ¬ okAt nx l i → decide (∀ q : Nat, q < l.length → okAt nx l q) = false := fun h => decide_eq_false (fun h2 => h (h2 i hil))
    have nb : ¬ basic nx l i → ¬ okAt nx l i := fun h h2 => h ((okAt_iff hil H).1 h2).1
    rw [wicketgateref25_Right.l0, if_pos (Int.ofNat_lt.2 hil), if_pos (Int.natCast_nonneg i), ← hx]
    have hj : ∀ b, wicketgateref25_Right.j2 (k + 1) i b nx l x.f0 x.f1 x.f2.f0 x.f2.f1 x.f2.f2 x.f2.f3.f0 x.f2.f3.f1 x.f2.f3.f2 x.f2.f3.f3 x.f2.f3.f4 x.f2.f3.f5 x.f3 = if b = true then some false else wicketgateref25_Right.l1 k i 0 nx l x.f0 x.f1 x.f2.f0 x.f2.f1 x.f2.f2 x.f2.f3.f0 x.f2.f3.f1 x.f2.f3.f2 x.f2.f3.f3 x.f2.f3.f4 x.f2.f3.f5 x.f3 := fun b => by rw [wicketgateref25_Right.j2]
    simp only [hj]
    have hck : ckOf l i = x.f0 := by rw [hx]
    have htd : tidOf l i = x.f1 := by rw [hx]
    by_cases c1 : x.f0 < 1
    · rw [if_pos c1, if_pos trivial, bad (nb (fun h => by have := h.1; omega))]
    rw [if_neg c1]
    by_cases c2 : x.f0 ≥ nx
    · rw [if_pos c2, if_pos trivial, bad (nb (fun h => by have := h.2.1; omega))]
    rw [if_neg c2]
    by_cases c3 : x.f1 < 1
    · rw [if_pos c3, if_pos trivial, bad (nb (fun h => by have := h.2.2.1; omega))]
    rw [if_neg c3]
    by_cases c4 : x.f1 > 20
    · rw [decide_eq_true c4, if_pos rfl, bad (nb (fun h => by have := h.2.2.2; omega))]
    rw [decide_eq_false c4, if_neg Bool.false_ne_true]
    have hb : basic nx l i := ⟨by omega, by omega, by omega, by omega⟩
    obtain ⟨i1, i2⟩ := right_in nx l i hil hl x hx i 0 k (by omega) (by omega)
    by_cases hp : ∀ q : Nat, q < i → pairs l i q
    · have e := i1 (fun q _ b => hp q b)
      rw [show ((0 : Nat) : Int) = 0 from rfl] at e
      rw [e]
      refine ih (i + 1) (k - (i + 1)) (by omega) (by omega) (fun q hq => ?_)
      rcases Nat.lt_or_ge q i with h | h
      · exact H q h
      · obtain rfl : q = i := by omega
        exact (okAt_iff hil H).2 ⟨hb, hp⟩
    · have e := i2 (fun h => hp (fun q b => h q (Nat.zero_le _) b))
      rw [show ((0 : Nat) : Int) = 0 from rfl] at e
      rw [e, bad (fun h => hp ((okAt_iff hil H).1 h).2)]
theorem right_f (k : Nat) (hk : 1 ≤ k - 20001) (nx : Int) (l : List S36) (hl : l.length ≤ 100) : wicketgateref25_Right.f k nx l = some (decide (Dok nx l)) := by
  obtain ⟨k, rfl⟩ : ∃ n, k = n + 1 := ⟨k - 1, by omega⟩
  have hj : ∀ b, wicketgateref25_Right.j0 (k + 1) b nx l = if b = true then some false else wicketgateref25_Right.l0 k 0 nx l := fun b => by rw [wicketgateref25_Right.j0]
  unfold wicketgateref25_Right.f
  simp only [hj]
  by_cases c1 : nx < 1
  · rw [if_pos c1, if_pos trivial, decide_eq_false (fun h => by have := h.1; omega)]
  rw [if_neg c1]
  by_cases c2 : nx > 4611686018427387904
  · rw [if_pos c2, if_pos trivial, decide_eq_false (fun h => by have := h.2.1; omega)]
  rw [if_neg c2]
  by_cases c3 : (l.length : Int) > 8
  · rw [decide_eq_true c3, if_pos rfl, decide_eq_false (fun h => by have := h.2.2.1; omega)]
  rw [decide_eq_false c3, if_neg Bool.false_ne_true, show (0 : Int) = ((0 : Nat) : Int) from rfl, right_out nx l hl l.length 0 k (by omega) (by omega) (fun q hq => absurd hq (Nat.not_lt_zero _))]
  congr 1
  rw [decide_eq_decide]
  exact ⟨fun h => ⟨by omega, by omega, by omega, h⟩, fun h => h.2.2.2⟩
end Go.Proofs.YtcbiehinhmkjmaaDoor.NB
