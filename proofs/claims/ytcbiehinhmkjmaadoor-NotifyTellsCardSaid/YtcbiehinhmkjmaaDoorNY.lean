import Derived.Test.YtcbiehinhmkjmaaDoorNX
namespace Go.Proofs.YtcbiehinhmkjmaaDoor.NB
open Go.RowKit Go.Proofs.YtcbiehinhmkjmaaDoorW.PrintWords Go.Proofs.YtcbiehinhmkjmaaDoorW.PrintLast Go.Proofs.YtcbiehinhmkjmaaDoorW.PrintMore
open Go.Proofs.YtcbiehinhmkjmaaDoor.PB
set_option linter.unusedVariables false
set_option linter.unusedSimpArgs false

theorem erase_step {l : List S36} {p i : Nat} (hi : i < l.length) : (l.take (i + 1)).eraseIdx p = if i = p then (l.take i).eraseIdx p else (l.take i).eraseIdx p ++ [l[i]] := by
  have e : l.take (i + 1) = l.take i ++ [l[i]] := by rw [List.take_add_one, List.getElem?_eq_getElem hi]; rfl
  have hl : (l.take i).length = i := by rw [List.length_take]; omega
  rw [e]
  split
  · rename_i h
    subst h
    have h2 : (l.take i).eraseIdx i = l.take i := List.eraseIdx_of_length_le (by omega)
    rw [h2, List.eraseIdx_append_of_length_le (by omega), hl, Nat.sub_self]
    simp
  · rename_i h
    rcases Nat.lt_or_ge p i with h2 | h2
    · rw [List.eraseIdx_append_of_lt_length (by omega)]
    · rw [List.eraseIdx_append_of_length_le (by omega), List.eraseIdx_of_length_le (l := [l[i]]) (by rw [hl]; simp; omega), List.eraseIdx_of_length_le (by omega)]
theorem without_loop (nx : Int) (l : List S36) (p : Nat) (hl : l.length ≤ 100) : ∀ (d i k : Nat), i + d = l.length → d < k → wicketgateref25_without.l0 k p i nx l nx ((l.take i).eraseIdx p) = some (nx, l.eraseIdx p) := by
  intro d
  induction d with
  | zero =>
    intro i k hi hk
    obtain ⟨k, rfl⟩ : ∃ n, k = n + 1 := ⟨k - 1, by omega⟩
    obtain rfl : i = l.length := by omega
    rw [wicketgateref25_without.l0, if_neg (Int.lt_irrefl _), List.take_length]
  | succ d ih =>
    intro i k hi hk
    obtain ⟨k, rfl⟩ : ∃ n, k = n + 1 := ⟨k - 1, by omega⟩
    have hil : i < l.length := by omega
    have hz := ih (i + 1) k (by omega) (by omega)
    rw [erase_step hil] at hz
    have hle : ((l.take i).eraseIdx p).length ≤ 100 := Nat.le_trans (List.length_eraseIdx_le _ _) (by rw [List.length_take]; omega)
    rw [wicketgateref25_without.l0, if_pos (Int.ofNat_lt.2 hil), w_succ i (by omega)]
    by_cases h : i = p
    · rw [if_pos h] at hz
      rw [if_pos (by omega)]
      exact hz
    · rw [if_neg h] at hz
      rw [if_neg (by omega), if_pos (Int.natCast_nonneg i), if_pos (by omega), ← hz, ← rd_at hil]
theorem without_f (k : Nat) (hk : 200 < k) (nx : Int) (l : List S36) (p : Nat) (hl : l.length ≤ 100) : wicketgateref25_without.f k nx l p = some (nx, cut l p) := by
  unfold wicketgateref25_without.f
  have h := without_loop nx l p hl l.length 0 k (by omega) (by omega)
  rw [List.take_zero, List.eraseIdx_nil] at h
  rw [show (0 : Int) = ((0 : Nat) : Int) from rfl, h]
  unfold cut
  rw [List.eraseIdx_eq_take_drop_succ]
theorem rsame_loop (a b : Int) (l : List S36) (hl : l.length ≤ 1000) : ∀ (d i k : Nat), i + d = l.length → d < k → wicketgateref25_Same.l0 k i a l b l = some true := by
  intro d
  induction d with
  | zero =>
    intro i k hi hk
    obtain ⟨k, rfl⟩ : ∃ n, k = n + 1 := ⟨k - 1, by omega⟩
    rw [wicketgateref25_Same.l0, if_neg (by omega)]
  | succ d ih =>
    intro i k hi hk
    obtain ⟨k, rfl⟩ : ∃ n, k = n + 1 := ⟨k - 1, by omega⟩
    rw [wicketgateref25_Same.l0, if_pos (by omega), if_pos (by omega), if_pos (by omega), show wrap64 ((i : Int) + 1) = ((i + 1 : Nat) : Int) from w_succ i (by omega), ih (i + 1) k (by omega) (by omega)]
    simp
theorem rsame_self (k : Nat) (hk : 2000 ≤ k) (a : Int) (l : List S36) (hl : l.length ≤ 101) : wicketgateref25_Same.f k a l a l = some true := by
  obtain ⟨k, rfl⟩ : ∃ n, k = n + 1 := ⟨k - 1, by omega⟩
  unfold wicketgateref25_Same.f
  rw [if_pos rfl, wicketgateref25_Same.j0, show ((l.length : Int) != (l.length : Int)) = false from by simp, if_neg Bool.false_ne_true, show (0 : Int) = ((0 : Nat) : Int) from rfl, rsame_loop a a l (by omega) l.length 0 k (by omega) (by omega)]
end Go.Proofs.YtcbiehinhmkjmaaDoor.NB
