import Derived.Test.YtclkphiabgajpaaPCx3
import Derived.Test.YtclkphiabgajpaaM0
namespace Go.Proofs.Ytclkphiabgajpaa.PC
open Go.RowKit Go.Proofs.YtclkphiabgajpaaW.PrintWords Go.Proofs.YtclkphiabgajpaaW.PrintLast Go.Proofs.YtclkphiabgajpaaW.PrintMore
open Go.Proofs.Ytclkphiabgajpaa.TA
set_option linter.unusedVariables false
set_option linter.unusedSimpArgs false

theorem rsame_ (a b : Int) (l l' : List Int) (hl : l.length ≤ 30) : wicketgateref10_Same.f a l b l' = some (decide (a = b ∧ l = l')) := by unfold wicketgateref10_Same.f; rw [if_pos hl]
theorem rcopy_ (a : Int) (l : List Int) (hl : l.length ≤ 30) : wicketgateref10_Copy.f a l = some (a, l) := by
  unfold wicketgateref10_Copy.f
  simp only [Option.bind_some, List.length_nil, List.nil_append]
  rw [if_pos (by omega)]
theorem does_l1 (ops : List Int) (o1 o2 : Int) (e : Int) (p : Int) (l : List Int) (q : Int) (l' : List Int) (n1 : Int) (hl : l.length ≤ 22) (hl' : l'.length ≤ 22) (d : Nat) : ∀ (k i : Nat) (nl : List Int), i + d = nl.length → nl.length ≤ 22 → d < k → ∃ k', k' + d + 1 = k ∧
    wicketgatelaw10_PidsDoes.l1 k e ops o1 o2 (nl.length : Int) (i : Int) p l p l n1 nl q l' = (if e = 0 then wicketgatelaw10_PidsDoes.l0 k' ops o1 (wrap64 (o2 + 1)) q l' else wicketgatelaw10_PidsDoes.l0 k' ops o1 (wrap64 (o2 + 1)) p l) := by
  induction d with
  | zero =>
    intro k i nl hi hn hk
    obtain ⟨k, rfl⟩ : ∃ m, k = m + 1 := ⟨k - 1, by omega⟩
    refine ⟨k, by omega, ?_⟩
    simp only [wicketgatelaw10_PidsDoes.l1]
    rw [if_neg (by omega), rsame_ p p l l (by omega)]
    simp only [Option.bind_some, and_self, decide_true, if_true]
    by_cases he : e = 0
    · rw [if_pos he, if_pos he, rcopy_ q l' (by omega)]
      simp only [Option.bind_some]
    · rw [if_neg he, if_neg he]
  | succ d ih =>
    intro k i nl hi hn hk
    obtain ⟨k, rfl⟩ : ∃ m, k = m + 1 := ⟨k - 1, by omega⟩
    have hw : wrap64 ((i : Int) + 1) = ((i + 1 : Nat) : Int) := by unfold wrap64; omega
    obtain ⟨k', h1, h2⟩ := ih k (i + 1) (nl.set (i : Int).toNat 99) (by simp; omega) (by simpa using hn) (by omega)
    refine ⟨k', by omega, ?_⟩
    rw [← h2]
    simp only [wicketgatelaw10_PidsDoes.l1]
    rw [if_pos (by omega), if_pos (by omega), if_pos (by omega), hw, List.length_set]
theorem does_l0 (ops : List Int) (d : Nat) : ∀ (k i : Nat) (last : Int) (used : List Int), i + d = 50 → d * 40 + 2 < k → used.length ≤ 22 → wicketgatelaw10_PidsDoes.l0 k ops (ops.length : Int) (i : Int) last used = some true := by
  induction d with
  | zero =>
    intro k i last used hi hk hl
    obtain ⟨k, rfl⟩ : ∃ m, k = m + 1 := ⟨k - 1, by omega⟩
    rw [wicketgatelaw10_PidsDoes.l0]
    by_cases hlt : i < ops.length
    · rw [if_pos (by omega), if_pos (by omega), if_pos (by omega), if_pos (by omega)]
    · rw [if_neg (by omega)]
  | succ d ih =>
    intro k i last used hi hk hl
    obtain ⟨k, rfl⟩ : ∃ m, k = m + 4 := ⟨k - 4, by omega⟩
    have hw : wrap64 ((i : Int) + 1) = ((i + 1 : Nat) : Int) := by unfold wrap64; omega
    simp only [wicketgatelaw10_PidsDoes.l0]
    by_cases hlt : i < ops.length
    · rw [if_pos (by omega), if_pos (by omega), if_pos (by omega), if_neg (by omega), short_f, List.take_of_length_le hl]
      simp only [Option.bind_some]
      -- the outcome: the same ids, the same error
      have go : ∀ (x12 : Int) (x10 : Int) (n1 : Int) (nl : List Int), nl.length ≤ 22 → wicketgatelaw10_PidsDoes.j2 (k + 2) x10 x10 x12 x12 ops (ops.length : Int) (i : Int) last used last used n1 nl n1 nl = some true := by
        intro x12 x10 n1 nl hnl
        simp only [wicketgatelaw10_PidsDoes.j2]
        rw [if_pos trivial, if_pos trivial, rsame_ n1 n1 nl nl (by omega)]
        simp only [Option.bind_some, and_self, decide_true, if_true]
        rw [rsame_ last last used used (by omega)]
        simp only [Option.bind_some, and_self, decide_true, Bool.not_true, wicketgatelaw10_PidsDoes.j3]
        rw [if_neg (by simp)]
        obtain ⟨k', h1, h2⟩ := does_l1 ops (ops.length : Int) (i : Int) x12 last used n1 nl n1 hl hnl nl.length k 0 nl (by omega) hnl (by omega)
        refine Eq.trans h2 ?_
        rw [hw]
        split
        · exact ih k' (i + 1) n1 nl (by omega) (by omega) hnl
        · exact ih k' (i + 1) last used (by omega) (by omega) hl
      unfold wicketgateref10_Right.f
      rw [if_pos (show used.length ≤ 30 by omega)]
      simp only [Option.bind_some]
      generalize rd ops (i : Int) = o
      cases hg : good last used
      · by_cases ho : o = 0
        · rw [if_pos ho, take_f (by omega)]
          unfold takeV
          rw [hg]
          simp only [Option.bind_some, Bool.false_eq_true, if_false, wicketgatelaw10_PidsDoes.j1]
          exact go 200 0 0 [] (by simp)
        · rw [if_neg ho, free_f o (by omega)]
          unfold freeV
          rw [hg]
          simp only [Option.bind_some, Bool.false_eq_true, if_false, wicketgatelaw10_PidsDoes.j1]
          exact go 200 0 0 [] (by simp)
      · obtain ⟨g0, g1, gu⟩ := good_parts hg
        by_cases ho : o = 0
        · rw [if_pos ho, take_f (by omega)]
          have ht : takeV last used = takeR last used := by unfold takeV; rw [if_pos hg]
          rw [ht]
          unfold wicketgateref10_Take.f
          rw [if_pos ⟨g0, g1, by omega⟩]
          simp only [Option.bind_some, if_true, wicketgatelaw10_PidsDoes.j1]
          refine go _ _ _ _ ?_
          unfold takeR
          split
          · have := up_20 (up_withId used ‹Int›); dsimp only; omega
          · simp
        · rw [if_neg ho, free_f o (by omega)]
          unfold freeV wicketgateref10_Free.f
          rw [if_pos hg, if_pos (show used.length ≤ 30 by omega)]
          simp only [Option.bind_some, if_true, wicketgatelaw10_PidsDoes.j1]
          by_cases hx : o ∈ used
          · rw [if_pos hx]
            refine go _ _ _ _ ?_
            have := up_20 (up_without o gu); dsimp only; omega
          · rw [if_neg hx]
            exact go _ _ _ _ (by simp)
    · rw [if_neg (by omega)]
theorem PidsDoes_p (k : Nat) (hk : 2002 < k) (a : Int) (l ops : List Int) : wicketgatelaw10_PidsDoes.f k a l ops = some true := by
  unfold wicketgatelaw10_PidsDoes.f
  rw [wicketgatelaw10_wakes.tt]
  simp only [Option.bind_some, if_true]
  rw [short_f]
  simp only [Option.bind_some]
  have h := does_l0 ops 50 k 0 a (l.take 22) (by omega) (by omega) (by simp; omega)
  simp only [Int.natCast_zero] at h
  exact h
end Go.Proofs.Ytclkphiabgajpaa.PC
