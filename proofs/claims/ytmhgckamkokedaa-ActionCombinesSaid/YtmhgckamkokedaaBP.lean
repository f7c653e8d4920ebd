import Derived.Test.YtmhgckamkokedaaPCx2
import Derived.Test.YtmhgckamkokedaaAC2
namespace Go.Proofs.Ytmhgckamkokedaa.PC
open Go.RowKit Go.Proofs.YtmhgckamkokedaaW.PrintWords Go.Proofs.YtmhgckamkokedaaW.PrintLast Go.Proofs.YtmhgckamkokedaaW.PrintMore
open Go.Proofs.Ytmhgckamkokedaa.PE.L (act stV stV_snoc stV_len stp combV)
set_option linter.unusedVariables false
set_option linter.unusedSimpArgs false
theorem w64_id {n : Int} (h0 : -9223372036854775808 ≤ n) (h1 : n < 9223372036854775808) : wrap64 n = n := by unfold wrap64; omega
theorem eight (h : Int) (P : Prop) (h0 : h = 32768 → P) (h1 : h = 0 → P) (h2 : h = 3 → P) (h3 : h = 5 → P) (h4 : h = 32704 → P) (h5 : h = 32752 → P) (h6 : h = 32764 → P) (h7 : h = 32767 → P)
    (hn : h ≠ 32768 → h ≠ 0 → h ≠ 3 → h ≠ 5 → h ≠ 32704 → h ≠ 32752 → h ≠ 32764 → h ≠ 32767 → P) : P := by
  by_cases c0 : h = 32768
  · exact h0 c0
  by_cases c1 : h = 0
  · exact h1 c1
  by_cases c2 : h = 3
  · exact h2 c2
  by_cases c3 : h = 5
  · exact h3 c3
  by_cases c4 : h = 32704
  · exact h4 c4
  by_cases c5 : h = 32752
  · exact h5 c5
  by_cases c6 : h = 32764
  · exact h6 c6
  by_cases c7 : h = 32767
  · exact h7 c7
  exact hn c0 c1 c2 c3 c4 c5 c6 c7
theorem rsplit20 (a : Int) : wicketgateref06_Split.f 20 a = some (act a, IntKind.u16.wrap a) := by
  unfold wicketgateref06_Split.f act
  refine eight (a / 65536) _ ?_ ?_ ?_ ?_ ?_ ?_ ?_ ?_ ?_
  · intro e; simp [wicketgateref06_Split.l0, wicketgateref06_Half.f, wrap64, e]
  · intro e; simp [wicketgateref06_Split.l0, wicketgateref06_Half.f, wrap64, e]
  · intro e; simp [wicketgateref06_Split.l0, wicketgateref06_Half.f, wrap64, e]
  · intro e; simp [wicketgateref06_Split.l0, wicketgateref06_Half.f, wrap64, e]
  · intro e; simp [wicketgateref06_Split.l0, wicketgateref06_Half.f, wrap64, e]
  · intro e; simp [wicketgateref06_Split.l0, wicketgateref06_Half.f, wrap64, e]
  · intro e; simp [wicketgateref06_Split.l0, wicketgateref06_Half.f, wrap64, e]
  · intro e; simp [wicketgateref06_Split.l0, wicketgateref06_Half.f, wrap64, e]
  · intro c0 c1 c2 c3 c4 c5 c6 c7; simp [wicketgateref06_Split.l0, wicketgateref06_Half.f, wrap64, c0, c1, c2, c3, c4, c5, c6, c7]
theorem rsplit_f {k : Nat} (hk : 20 ≤ k) (a : Int) : wicketgateref06_Split.f k a = some (act a, IntKind.u16.wrap a) := at_rounds (g := fun k => wicketgateref06_Split.f k a) (fun k => wicketgateref06_Split.mono a k) hk (rsplit20 a)
theorem wakes_f {k : Nat} (hk : 1000 ≤ k) : wicketgatelaw06_wakes.f k = some true := at_rounds (g := fun k => wicketgatelaw06_wakes.f k) wicketgatelaw06_wakes.mono hk wicketgatelaw06_wakes.tt
theorem few_f (l : List Int) : wicketgatelaw06_few.f l = some (l.take 40) := by
  unfold wicketgatelaw06_few.f
  have hm : mn (l.length : Int) 40 = if (l.length : Int) ≤ 40 then (l.length : Int) else 40 := by unfold mn; split <;> split <;> omega
  have ht : l.take (mn (l.length : Int) 40).toNat = l.take 40 := by
    rw [hm]; split
    · rename_i h; rw [List.take_of_length_le (by omega), List.take_of_length_le (by omega)]
    · rfl
  simp only [Option.bind_some, List.length_nil, List.nil_append]
  rw [ht, if_pos (by rw [hm]; split <;> omega), if_pos (by rw [hm]; split <;> omega), if_pos (by simp; omega)]

theorem rd_nat (l : List Int) (i : Nat) (hi : i < l.length) : rd l (i : Int) = l[i] := by simp [rd, hi]
/-- The best word so far, as the reference holds it. -/
def bst (s : Int × Int × Int) : Int × Int := if s.2.1 < 0 then (7, 0) else (act s.1, IntKind.u16.wrap s.1)
theorem rcomb_loop (l : List Int) (hl : l.length ≤ 40) : ∀ (d i k : Nat), i + d = l.length → d + 20 < k → wicketgateref06_Combine.l0 k (stV (l.take i)).2.1 l (l.length : Int) (i : Int) (bst (stV (l.take i))).1 (bst (stV (l.take i))).2 = some (combV l) := by
  intro d
  induction d with
  | zero =>
    intro i k hi hk
    obtain ⟨k, rfl⟩ : ∃ m, k = m + 1 := ⟨k - 1, by omega⟩
    simp only [wicketgateref06_Combine.l0]
    rw [if_neg (by omega), List.take_of_length_le (by omega)]
    unfold bst combV
    split <;> rfl
  | succ d ih =>
    intro i k hi hk
    obtain ⟨k, rfl⟩ : ∃ m, k = m + 1 := ⟨k - 1, by omega⟩
    simp only [wicketgateref06_Combine.l0]
    have hil : i < l.length := by omega
    have hw2 : wrap64 ((i : Int) + 1) = ((i + 1 : Nat) : Int) := by rw [w64_id (by omega) (by omega)]; omega
    rw [if_pos (by omega), if_pos (by omega), if_pos (by omega), rd_nat l i hil, rsplit_f (by omega), hw2]
    simp only [Option.bind_some]
    have hs : l.take (i + 1) = l.take i ++ [l[i]] := by simp
    have hih := ih (i + 1) k (by omega) (by omega)
    have hlen : (stV (l.take i)).2.2 = i := by rw [stV_len]; simp; omega
    rw [hs, stV_snoc] at hih
    unfold stp at hih
    generalize stV (l.take i) = s at *
    obtain ⟨b, wh, n⟩ := s
    dsimp only at hlen hih ⊢
    subst hlen
    by_cases h1 : wh < 0
    · rw [if_pos (.inl h1)] at hih
      rw [if_pos h1]
      simpa [bst, show ¬ ((i : Int) < 0) by omega] using hih
    · have e1 : (bst (b, wh, (i : Int))).1 = act b := by simp [bst, h1]
      rw [if_neg h1, e1]
      by_cases h2 : act l[i] < act b
      · rw [if_pos (.inr h2)] at hih
        rw [if_pos h2]
        simpa [bst, show ¬ ((i : Int) < 0) by omega] using hih
      · rw [if_neg (by simp [h1, h2])] at hih
        rw [if_neg h2]
        simpa [bst, h1] using hih
theorem rcomb_f (k : Nat) (l : List Int) (hl : l.length ≤ 40) (hk : l.length + 20 < k) : wicketgateref06_Combine.f k l = some (combV l) := by
  unfold wicketgateref06_Combine.f
  exact rcomb_loop l hl l.length 0 k (by omega) hk
end Go.Proofs.Ytmhgckamkokedaa.PC
