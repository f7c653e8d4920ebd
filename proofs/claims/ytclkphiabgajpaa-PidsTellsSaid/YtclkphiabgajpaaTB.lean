import Derived.Test.YtclkphiabgajpaaTA
import Derived.Test.YtclkphiabgajpaaPBx1
import Derived.Test.YtclkphiabgajpaaPBx2
namespace Go.Proofs.Ytclkphiabgajpaa.TA
open Go.RowKit Go.Proofs.YtclkphiabgajpaaW.PrintWords Go.Proofs.YtclkphiabgajpaaW.PrintLast Go.Proofs.YtclkphiabgajpaaW.PrintMore
set_option linter.unusedVariables false
set_option linter.unusedSimpArgs false
def ids : List Int := [1, 2, 3, 4, 5, 6, 7, 8, 9, 10, 11, 12, 13, 14, 15, 16, 17, 18, 19, 20]
/-- Ids that rise from above lo, to 20. -/
def Up : Int → List Int → Bool
  | _, [] => true
  | lo, x :: l => decide (lo < x) && decide (x ≤ 20) && Up x l
def good (last : Int) (used : List Int) : Bool := decide (0 ≤ last) && decide (last ≤ 20) && Up 0 used
def idOf (last : Int) (k : Nat) : Int := (last + (k : Int)) % 20 + 1
def upto {α : Type} (f : Nat → α) (k : Nat) : List α := (List.range k).map f
/-- The first free one. -/
def firstV (last : Int) (used : List Int) : Option Int := (upto (idOf last) 20).find? (fun x => !decide (x ∈ used))
def withId (used : List Int) (x : Int) : List Int := ids.filter (fun y => decide (y = x) || decide (y ∈ used))
theorem rd_nat (l : List Int) (i : Nat) (h : i < l.length) : rd l (i : Int) = l[i] := by simp [rd, h]
theorem w_succ (i n : Nat) (h : i < n) (hn : n ≤ 1000) : wrap64 ((i : Int) + 1) = ((i + 1 : Nat) : Int) := by unfold wrap64; omega
theorem check_l0 (l : List Int) (hl : l.length ≤ 1000) (d : Nat) : ∀ (k i : Nat) (lo : Int) (ok : Bool), i + d = l.length → d < k → PB.pids_Check.l0 k lo ok l (l.length : Int) (i : Int) = some (cond (ok && Up lo (l.drop i)) 0 200) := by
  induction d with
  | zero =>
    intro k i lo ok hi hk
    obtain ⟨k, rfl⟩ : ∃ m, k = m + 1 := ⟨k - 1, by omega⟩
    simp only [PB.pids_Check.l0]
    rw [if_neg (by omega), List.drop_of_length_le (by omega)]
    simp only [Up, Bool.and_true]
    cases ok <;> rfl
  | succ d ih =>
    intro k i lo ok hi hk
    obtain ⟨k, rfl⟩ : ∃ m, k = m + 1 := ⟨k - 1, by omega⟩
    have hlt : i < l.length := by omega
    simp only [PB.pids_Check.l0]
    rw [if_pos (by omega), if_pos (by omega), if_pos (by omega), rd_nat l i hlt, w_succ i l.length hlt hl, List.drop_eq_getElem_cons hlt]
    simp only [Up]
    rw [ih k (i + 1) _ _ (by omega) (by omega), ih k (i + 1) _ _ (by omega) (by omega)]
    by_cases h1 : ok = true
    · rw [if_pos h1]
      by_cases h2 : l[i] > lo
      · rw [if_pos h2, h1, decide_eq_true (show lo < l[i] from h2)]
        simp
      · rw [if_neg h2, decide_eq_false (show ¬ lo < l[i] from h2)]
        simp
    · rw [if_neg h1]
      have : ok = false := by cases ok <;> simp_all
      rw [this]
      simp
theorem check_f (k : Nat) (last : Int) (used : List Int) (hl : used.length ≤ 1000) (hk : used.length + 1 < k) : PB.pids_Check.f k last used = some (cond (good last used) 0 200) := by
  obtain ⟨k, rfl⟩ : ∃ m, k = m + 1 := ⟨k - 1, by omega⟩
  unfold PB.pids_Check.f good
  have h := fun ok => check_l0 used hl used.length k 0 0 ok (by omega) (by omega)
  simp only [Int.ofNat_zero, Int.natCast_zero, List.drop_zero] at h
  simp only [PB.pids_Check.j0]
  by_cases h1 : last ≥ 0
  · rw [if_pos h1, decide_eq_true (show 0 ≤ last from h1), Bool.true_and]
    exact h _
  · rw [if_neg h1, decide_eq_false (show ¬ 0 ≤ last from h1)]
    refine (h false).trans ?_
    simp
theorem index_l0 (l : List Int) (x : Int) (hl : l.length ≤ 1000) (d : Nat) : ∀ (k i : Nat), i + d = l.length → d < k → ∃ r, PB.slices_Index_int_int.l0 k l x (l.length : Int) (i : Int) = some r ∧ (r ≥ 0 ↔ x ∈ l.drop i) := by
  induction d with
  | zero =>
    intro k i hi hk
    obtain ⟨k, rfl⟩ : ∃ m, k = m + 1 := ⟨k - 1, by omega⟩
    refine ⟨-1, ?_, ?_⟩
    · simp only [PB.slices_Index_int_int.l0]; rw [if_neg (by omega)]
    · rw [List.drop_of_length_le (by omega)]; simp
  | succ d ih =>
    intro k i hi hk
    obtain ⟨k, rfl⟩ : ∃ m, k = m + 1 := ⟨k - 1, by omega⟩
    have hlt : i < l.length := by omega
    simp only [PB.slices_Index_int_int.l0]
    rw [if_pos (by omega), if_pos (by omega), if_pos (by omega), rd_nat l i hlt, w_succ i l.length hlt hl, List.drop_eq_getElem_cons hlt]
    by_cases h : x = l[i]
    · rw [if_pos h]
      exact ⟨_, rfl, ⟨fun _ => by rw [h]; exact List.mem_cons_self .., fun _ => by omega⟩⟩
    · rw [if_neg h]
      obtain ⟨r, h1, h2⟩ := ih k (i + 1) (by omega) (by omega)
      exact ⟨r, h1, by rw [h2, List.mem_cons]; exact ⟨.inr, fun q => q.resolve_left h⟩⟩
theorem contains_f (k : Nat) (l : List Int) (x : Int) (hl : l.length ≤ 1000) (hk : l.length < k) : PB.slices_Contains_int_int.f k l x = some (decide (x ∈ l)) := by
  unfold PB.slices_Contains_int_int.f PB.slices_Index_int_int.f
  obtain ⟨r, h1, h2⟩ := index_l0 l x hl l.length k 0 (by omega) hk
  simp only [Int.natCast_zero, List.drop_zero] at h1 h2
  rw [h1]
  simp only [Option.bind_some]
  rw [decide_eq_decide.2 h2]
theorem has_f (k : Nat) (last : Int) (l : List Int) (x : Int) (hl : l.length ≤ 1000) (hk : l.length < k) : PB.pids_Has.f k last l x = some (decide (x ∈ l)) := by
  unfold PB.pids_Has.f
  rw [contains_f k l x hl hk]; rfl
theorem rhas_l0 (l : List Int) (x : Int) (hl : l.length ≤ 1000) (d : Nat) : ∀ (k i : Nat), i + d = l.length → d < k → PB.wicketgateref10_Has.l0 k x l (l.length : Int) (i : Int) = some (decide (x ∈ l.drop i)) := by
  induction d with
  | zero =>
    intro k i hi hk
    obtain ⟨k, rfl⟩ : ∃ m, k = m + 1 := ⟨k - 1, by omega⟩
    simp only [PB.wicketgateref10_Has.l0]
    rw [if_neg (by omega), List.drop_of_length_le (by omega)]; simp
  | succ d ih =>
    intro k i hi hk
    obtain ⟨k, rfl⟩ : ∃ m, k = m + 1 := ⟨k - 1, by omega⟩
    have hlt : i < l.length := by omega
    simp only [PB.wicketgateref10_Has.l0]
    rw [if_pos (by omega), if_pos (by omega), if_pos (by omega), rd_nat l i hlt, w_succ i l.length hlt hl, List.drop_eq_getElem_cons hlt]
    by_cases h : l[i] = x
    · rw [if_pos h]; simp [h]
    · rw [if_neg h, ih k (i + 1) (by omega) (by omega)]
      have : ¬ x = l[i] := fun e => h e.symm
      congr 1
      rw [decide_eq_decide, List.mem_cons]
      exact ⟨.inr, fun q => q.resolve_left this⟩
theorem rhas_f (k : Nat) (last : Int) (l : List Int) (x : Int) (hl : l.length ≤ 1000) (hk : l.length < k) : PB.wicketgateref10_Has.f k last l x = some (decide (x ∈ l)) := by
  unfold PB.wicketgateref10_Has.f
  have := rhas_l0 l x hl l.length k 0 (by omega) hk
  simpa using this
def lowOf (l : List Int) (i : Nat) : Int := if i = 0 then 0 else l[i - 1]?.getD 0
theorem right_l0 (l : List Int) (last : Int) (hl : l.length ≤ 1000) (d : Nat) : ∀ (k i : Nat), i + d = l.length → d < k → 0 ≤ lowOf l i → PB.wicketgateref10_Right.l0 k l (l.length : Int) (i : Int) last l = some (Up (lowOf l i) (l.drop i)) := by
  induction d with
  | zero =>
    intro k i hi hk _
    obtain ⟨k, rfl⟩ : ∃ m, k = m + 1 := ⟨k - 1, by omega⟩
    simp only [PB.wicketgateref10_Right.l0]
    rw [if_neg (by omega), List.drop_of_length_le (by omega)]; rfl
  | succ d ih =>
    intro k i hi hk hlow
    obtain ⟨k, rfl⟩ : ∃ m, k = m + 1 := ⟨k - 1, by omega⟩
    have hlt : i < l.length := by omega
    have hnext : lowOf l (i + 1) = l[i] := by unfold lowOf; rw [if_neg (by omega)]; simp [hlt]
    simp only [PB.wicketgateref10_Right.l0]
    rw [if_pos (by omega), if_pos (by omega), if_pos (by omega), rd_nat l i hlt, w_succ i l.length hlt hl, List.drop_eq_getElem_cons hlt]
    simp only [Up]
    by_cases h1 : l[i] < 1
    · rw [if_pos h1, decide_eq_false (show ¬ lowOf l i < l[i] by omega)]; simp
    rw [if_neg h1]
    by_cases h2 : l[i] > 20
    · rw [if_pos h2, decide_eq_false (show ¬ l[i] ≤ 20 by omega)]; simp
    rw [if_neg h2, decide_eq_true (show l[i] ≤ 20 by omega), ih k (i + 1) (by omega) (by omega) (by rw [hnext]; omega), hnext]
    by_cases h3 : i = 0
    · have : lowOf l i = 0 := by unfold lowOf; rw [if_pos h3]
      rw [if_neg (by omega), this, decide_eq_true (show (0 : Int) < l[i] by omega)]
      simp
    · have e : wrap64 ((i : Int) - 1) = ((i - 1 : Nat) : Int) := by unfold wrap64; omega
      have hp : lowOf l i = l[i - 1] := by unfold lowOf; rw [if_neg h3]; simp [show i - 1 < l.length by omega]
      rw [if_pos (by omega), e, if_pos (by omega), if_pos (by omega), rd_nat l (i - 1) (by omega), hp]
      by_cases h4 : l[i - 1] ≥ l[i]
      · rw [if_pos h4, decide_eq_false (show ¬ l[i - 1] < l[i] by omega)]; simp
      · rw [if_neg h4, decide_eq_true (show l[i - 1] < l[i] by omega)]; simp
theorem right_f (k : Nat) (last : Int) (l : List Int) (hl : l.length ≤ 1000) (hk : l.length + 1 < k) : PB.wicketgateref10_Right.f k last l = some (good last l) := by
  obtain ⟨k, rfl⟩ : ∃ m, k = m + 1 := ⟨k - 1, by omega⟩
  have h := right_l0 l last hl l.length k 0 (by omega) (by omega) (by simp [lowOf])
  simp only [lowOf, if_true, Int.natCast_zero, List.drop_zero] at h
  unfold PB.wicketgateref10_Right.f good
  simp only [PB.wicketgateref10_Right.j0]
  by_cases h1 : last < 0
  · rw [if_pos h1, if_pos trivial, decide_eq_false (show ¬ 0 ≤ last by omega)]; rfl
  · rw [if_neg h1, decide_eq_true (show 0 ≤ last by omega)]
    by_cases h2 : last > 20
    · rw [decide_eq_true h2, if_pos rfl, decide_eq_false (show ¬ last ≤ 20 by omega)]; rfl
    · rw [decide_eq_false h2, if_neg (by simp), decide_eq_true (show last ≤ 20 by omega), h]; rfl
theorem ids_get (m : Nat) (h : m < 20) : ids.drop m = ((m + 1 : Nat) : Int) :: ids.drop (m + 1) := by
  have : ∀ m : Fin 20, ids.drop m.1 = ((m.1 + 1 : Nat) : Int) :: ids.drop (m.1 + 1) := by decide
  exact this ⟨m, h⟩
theorem rtake_l1 (x last : Int) (used : List Int) (o1 : Int) (hl : used.length ≤ 30) (d : Nat) : ∀ (k m : Nat) (acc : List Int), m + d = 20 → d + 40 < k → acc.length ≤ 100 * (m + 1) → PB.wicketgateref10_Take.l1 k x ((m + 1 : Nat) : Int) last used o1 acc = some (o1, acc ++ (ids.drop m).filter (fun y => decide (y = x) || decide (y ∈ used)), x, 0) := by
  induction d with
  | zero =>
    intro k m acc hi hk ha
    obtain ⟨k, rfl⟩ : ∃ m, k = m + 1 := ⟨k - 1, by omega⟩
    obtain rfl : m = 20 := by omega
    simp only [PB.wicketgateref10_Take.l1]
    rw [if_neg (by omega)]
    simp [ids]
  | succ d ih =>
    intro k m acc hi hk ha
    obtain ⟨k, rfl⟩ : ∃ m, k = m + 1 := ⟨k - 1, by omega⟩
    simp only [PB.wicketgateref10_Take.l1]
    rw [if_pos (by omega), ids_get m (by omega), w_succ (m + 1) 22 (by omega) (by omega), rhas_f k last used _ (by omega) (by omega)]
    simp only [Option.bind_some, List.filter_cons]
    by_cases h1 : ((m + 1 : Nat) : Int) = x
    · rw [if_pos h1, if_pos (by omega), ih k (m + 1) _ (by omega) (by omega) (by simp; omega)]
      rw [decide_eq_true h1, Bool.true_or, if_pos rfl, List.append_assoc]; rfl
    · rw [if_neg h1]
      by_cases h2 : ((m + 1 : Nat) : Int) ∈ used
      · rw [if_pos (by simpa using h2), if_pos (by omega), ih k (m + 1) _ (by omega) (by omega) (by simp; omega)]
        rw [decide_eq_true h2, Bool.or_true, if_pos rfl, List.append_assoc]; rfl
      · rw [if_neg (by simpa using h2), ih k (m + 1) _ (by omega) (by omega) (by omega)]
        simp only [decide_eq_false h1, decide_eq_false h2, Bool.or_self, Bool.false_eq_true, if_false]
theorem idOf_w (last : Int) (m : Nat) (h0 : 0 ≤ last) (h1 : last ≤ 20) (hm : m < 20) : wrap64 ((Int.tmod (wrap64 (last + (m : Int))) 20) + 1) = idOf last m := by
  have e : wrap64 (last + (m : Int)) = last + (m : Int) := by unfold wrap64; omega
  rw [e, Int.tmod_eq_emod_of_nonneg (by omega)]
  unfold wrap64 idOf
  omega
theorem upto_succ {α : Type} (f : Nat → α) (k : Nat) : upto f (k + 1) = upto f k ++ [f k] := by simp [upto, List.range_succ]
theorem upto_length {α : Type} (f : Nat → α) (k : Nat) : (upto f k).length = k := by simp [upto]
/-- The ids from the m-th on. -/
def from_ (last : Int) (m : Nat) : List Int := (List.range' m (20 - m)).map (idOf last)
theorem from_succ (last : Int) (m : Nat) (h : m < 20) : from_ last m = idOf last m :: from_ last (m + 1) := by
  unfold from_
  rw [show 20 - m = (20 - (m + 1)) + 1 by omega, List.range'_succ]
  rfl
theorem from_zero (last : Int) : from_ last 0 = upto (idOf last) 20 := by
  unfold from_ upto
  rw [List.range_eq_range']
def takeR (last : Int) (used : List Int) : Int × List Int × Int × Int := match firstV last used with
  | some x => (x, withId used x, x, 0)
  | none => (0, [], 0, 24)
theorem rtake_l0 (last : Int) (used : List Int) (h0 : 0 ≤ last) (h1 : last ≤ 20) (hl : used.length ≤ 30) (d : Nat) : ∀ (k m : Nat), m + d = 20 → d + 70 < k → PB.wicketgateref10_Take.l0 k (m : Int) last used = some (match (from_ last m).find? (fun x => !decide (x ∈ used)) with | some x => (x, withId used x, x, 0) | none => (0, [], 0, 24)) := by
  induction d with
  | zero =>
    intro k m hi hk
    obtain ⟨k, rfl⟩ : ∃ m, k = m + 1 := ⟨k - 1, by omega⟩
    obtain rfl : m = 20 := by omega
    simp only [PB.wicketgateref10_Take.l0]
    rw [if_neg (by omega)]
    simp [from_]
  | succ d ih =>
    intro k m hi hk
    obtain ⟨k, rfl⟩ : ∃ m, k = m + 1 := ⟨k - 1, by omega⟩
    simp only [PB.wicketgateref10_Take.l0]
    rw [if_pos (by omega), idOf_w last m h0 h1 (by omega), rhas_f k last used _ (by omega) (by omega), from_succ last m (by omega)]
    simp only [Option.bind_some, List.find?_cons]
    by_cases h2 : idOf last m ∈ used
    · rw [if_pos (by simpa using h2), w_succ m 22 (by omega) (by omega), ih k (m + 1) (by omega) (by omega)]
      rw [decide_eq_true h2]
      rfl
    · rw [if_neg (by simpa using h2)]
      rw [decide_eq_false h2]
      have := rtake_l1 (idOf last m) last used (idOf last m) hl 20 k 0 [] (by omega) (by omega) (by simp)
      simp only [Nat.zero_add, Int.natCast_one, List.nil_append, List.drop_zero] at this
      rw [this]
      rfl
theorem rtake_f (last : Int) (used : List Int) (h0 : 0 ≤ last) (h1 : last ≤ 20) (hl : used.length ≤ 30) : PB.wicketgateref10_Take.f 100 last used = some (takeR last used) := by
  unfold PB.wicketgateref10_Take.f takeR firstV
  have := rtake_l0 last used h0 h1 hl 20 100 0 (by omega) (by omega)
  rw [from_zero] at this
  simpa using this
theorem rfree_l0 (x last : Int) (l : List Int) (hl : l.length ≤ 1000) (d : Nat) : ∀ (k i : Nat) (acc : List Int), i + d = l.length → d < k → acc.length ≤ i → PB.wicketgateref10_Free.l0 k x l (l.length : Int) (i : Int) last acc = some (last, acc ++ (l.drop i).filter (fun y => !decide (y = x)), 0) := by
  induction d with
  | zero =>
    intro k i acc hi hk ha
    obtain ⟨k, rfl⟩ : ∃ m, k = m + 1 := ⟨k - 1, by omega⟩
    simp only [PB.wicketgateref10_Free.l0]
    rw [if_neg (by omega), List.drop_of_length_le (by omega)]; simp
  | succ d ih =>
    intro k i acc hi hk ha
    obtain ⟨k, rfl⟩ : ∃ m, k = m + 1 := ⟨k - 1, by omega⟩
    have hlt : i < l.length := by omega
    simp only [PB.wicketgateref10_Free.l0]
    rw [if_pos (by omega), if_pos (by omega), if_pos (by omega), rd_nat l i hlt, w_succ i l.length hlt hl, List.drop_eq_getElem_cons hlt]
    by_cases h : l[i] = x
    · rw [if_pos h, ih k (i + 1) _ (by omega) (by omega) (by omega)]
      simp [List.filter_cons, h, -List.getElem_cons_drop]
    · rw [if_neg h, if_pos (by omega), ih k (i + 1) _ (by omega) (by omega) (by simp; omega)]
      simp [List.filter_cons, h, -List.getElem_cons_drop]
def without (used : List Int) (x : Int) : List Int := used.filter (fun y => !decide (y = x))
theorem rfree_f (k : Nat) (last : Int) (l : List Int) (x : Int) (hl : l.length ≤ 1000) (hk : l.length < k) : PB.wicketgateref10_Free.f k last l x = some (if x ∈ l then (last, without l x, 0) else (0, [], 4)) := by
  unfold PB.wicketgateref10_Free.f
  rw [rhas_f k last l x hl hk]
  simp only [Option.bind_some]
  by_cases h : x ∈ l
  · rw [if_pos (by simpa using h), if_pos h]
    have := rfree_l0 x last l hl l.length k 0 [] (by omega) hk (by simp)
    simpa [without] using this
  · rw [if_neg (by simpa using h), if_neg h]
theorem rsame_l0 (a b : Int) (l l' : List Int) (hl : l.length ≤ 1000) (hll : l.length = l'.length) (d : Nat) : ∀ (k i : Nat), i + d = l.length → d < k → PB.wicketgateref10_Same.l0 k (l.length : Int) (i : Int) a l b l' = some (decide (l.drop i = l'.drop i)) := by
  induction d with
  | zero =>
    intro k i hi hk
    obtain ⟨k, rfl⟩ : ∃ m, k = m + 1 := ⟨k - 1, by omega⟩
    simp only [PB.wicketgateref10_Same.l0]
    rw [if_neg (by omega), List.drop_of_length_le (by omega), List.drop_of_length_le (by omega)]; simp
  | succ d ih =>
    intro k i hi hk
    obtain ⟨k, rfl⟩ : ∃ m, k = m + 1 := ⟨k - 1, by omega⟩
    have hlt : i < l.length := by omega
    have hlt' : i < l'.length := by omega
    simp only [PB.wicketgateref10_Same.l0]
    rw [if_pos (by omega), if_pos (by omega), if_pos (by omega), if_pos (by omega), rd_nat l i hlt, rd_nat l' i hlt', w_succ i l.length hlt hl, List.drop_eq_getElem_cons hlt, List.drop_eq_getElem_cons hlt']
    by_cases h : l[i] = l'[i]
    · rw [if_pos h, ih k (i + 1) (by omega) (by omega)]
      simp [h, -List.getElem_cons_drop]
    · rw [if_neg h]; simp [h, -List.getElem_cons_drop]
theorem rsame_f (k : Nat) (a b : Int) (l l' : List Int) (hl : l.length ≤ 1000) (hk : l.length + 1 < k) : PB.wicketgateref10_Same.f k a l b l' = some (decide (a = b ∧ l = l')) := by
  obtain ⟨k, rfl⟩ : ∃ m, k = m + 1 := ⟨k - 1, by omega⟩
  unfold PB.wicketgateref10_Same.f
  simp only [PB.wicketgateref10_Same.j0]
  by_cases h1 : a = b
  · rw [if_pos h1]
    by_cases h2 : l.length = l'.length
    · rw [if_neg (by simp [h2])]
      have := rsame_l0 a b l l' hl h2 l.length k 0 (by omega) (by omega)
      simp only [Int.natCast_zero, List.drop_zero] at this
      rw [this]; simp [h1]
    · rw [if_pos (by simpa using fun e => h2 (by omega))]
      have : ¬ l = l' := fun e => h2 (by rw [e])
      simp [this]
  · rw [if_neg h1, if_pos trivial]; simp [h1]
theorem equal_l0 (l l' : List Int) (hl : l.length ≤ 1000) (hll : l.length = l'.length) (d : Nat) : ∀ (k i : Nat), i + d = l.length → d < k → PB.slices_Equal_int_int.l0 k l l' (l.length : Int) (i : Int) = some (decide (l.drop i = l'.drop i)) := by
  induction d with
  | zero =>
    intro k i hi hk
    obtain ⟨k, rfl⟩ : ∃ m, k = m + 1 := ⟨k - 1, by omega⟩
    simp only [PB.slices_Equal_int_int.l0]
    rw [if_neg (by omega), List.drop_of_length_le (by omega), List.drop_of_length_le (by omega)]; simp
  | succ d ih =>
    intro k i hi hk
    obtain ⟨k, rfl⟩ : ∃ m, k = m + 1 := ⟨k - 1, by omega⟩
    have hlt : i < l.length := by omega
    have hlt' : i < l'.length := by omega
    simp only [PB.slices_Equal_int_int.l0]
    rw [if_pos (by omega), if_pos (by omega), if_pos (by omega), if_pos (by omega), rd_nat l i hlt, rd_nat l' i hlt', w_succ i l.length hlt hl, List.drop_eq_getElem_cons hlt, List.drop_eq_getElem_cons hlt']
    by_cases h : l[i] = l'[i]
    · rw [if_pos h, ih k (i + 1) (by omega) (by omega)]
      simp [h, -List.getElem_cons_drop]
    · rw [if_neg h]; simp [h, -List.getElem_cons_drop]
theorem same_f (k : Nat) (a b : Int) (l l' : List Int) (hl : l.length ≤ 1000) (hk : l.length < k) : PB.pids_Same.f k a l b l' = some (decide (a = b ∧ l = l')) := by
  unfold PB.pids_Same.f PB.slices_Equal_int_int.f
  by_cases h1 : a = b
  · rw [if_pos h1]
    by_cases h2 : l.length = l'.length
    · rw [if_pos (by omega)]
      have := equal_l0 l l' hl h2 l.length k 0 (by omega) (by omega)
      simp only [Int.natCast_zero, List.drop_zero] at this
      rw [this]; simp [h1]
    · rw [if_neg (by omega)]
      have : ¬ l = l' := fun e => h2 (by rw [e])
      simp [this]
  · rw [if_neg h1]; simp [h1]
/-! ids as sets -/
theorem up_lt : ∀ (l : List Int) (lo : Int), Up lo l = true → ∀ x ∈ l, lo < x ∧ x ≤ 20
  | [], _, _, x, hx => by simp at hx
  | y :: l, lo, h, x, hx => by
    simp only [Up, Bool.and_eq_true, decide_eq_true_eq] at h
    rcases List.mem_cons.1 hx with rfl | hx
    · exact h.1
    · have := up_lt l y h.2 x hx; omega
theorem up_mono : ∀ (l : List Int) (lo lo' : Int), lo' ≤ lo → Up lo l = true → Up lo' l = true
  | [], _, _, _, _ => rfl
  | y :: l, lo, lo', hle, h => by
    simp only [Up, Bool.and_eq_true, decide_eq_true_eq] at h ⊢
    exact ⟨⟨by omega, h.1.2⟩, h.2⟩
theorem up_filter (p : Int → Bool) : ∀ (l : List Int) (lo : Int), Up lo l = true → Up lo (l.filter p) = true
  | [], _, _ => rfl
  | y :: l, lo, h => by
    simp only [Up, Bool.and_eq_true, decide_eq_true_eq] at h
    rw [List.filter_cons]
    split
    · simp only [Up, Bool.and_eq_true, decide_eq_true_eq]
      exact ⟨h.1, up_filter p l y h.2⟩
    · exact up_mono _ y lo (by omega) (up_filter p l y h.2)
theorem up_ids : Up 0 ids = true := by decide
theorem mem_ids (x : Int) : x ∈ ids ↔ 1 ≤ x ∧ x ≤ 20 := by
  constructor
  · intro h
    have := up_lt ids 0 up_ids x h
    omega
  · rintro ⟨h1, h2⟩
    obtain ⟨n, rfl⟩ : ∃ n : Nat, x = (n : Int) := ⟨x.toNat, by omega⟩
    have : ∀ n : Fin 21, 1 ≤ n.1 → ((n.1 : Nat) : Int) ∈ ids := by decide
    exact this ⟨n, by omega⟩ (by show 1 ≤ n; omega)
/-- Two rows that rise and have the same members are one. -/
theorem up_ext : ∀ (l l' : List Int) (lo : Int), Up lo l = true → Up lo l' = true → (∀ x, x ∈ l ↔ x ∈ l') → l = l'
  | [], [], _, _, _, _ => rfl
  | [], y :: l', _, _, _, h => by have := (h y).2 (by simp); simp at this
  | x :: l, [], _, _, _, h => by have := (h x).1 (by simp); simp at this
  | x :: l, y :: l', lo, h1, h2, h => by
    simp only [Up, Bool.and_eq_true, decide_eq_true_eq] at h1 h2
    have e : x = y := by
      have a := (h x).1 (by simp)
      have b := (h y).2 (by simp)
      rcases List.mem_cons.1 a with a | a
      · exact a
      rcases List.mem_cons.1 b with b | b
      · exact b.symm
      have := up_lt l' y h2.2 x a
      have := up_lt l x h1.2 y b
      omega
    subst e
    congr 1
    refine up_ext l l' x h1.2 h2.2 (fun z => ?_)
    have hz := h z
    simp only [List.mem_cons] at hz
    constructor
    · intro q
      have := up_lt l x h1.2 z q
      rcases hz.1 (.inr q) with q' | q'
      · omega
      · exact q'
    · intro q
      have := up_lt l' x h2.2 z q
      rcases hz.2 (.inr q) with q' | q'
      · omega
      · exact q'
theorem up_len : ∀ (l : List Int) (lo : Int), lo ≤ 20 → Up lo l = true → (l.length : Int) ≤ 20 - lo
  | [], _, h, _ => by simp; omega
  | y :: l, lo, h0, h => by
    simp only [Up, Bool.and_eq_true, decide_eq_true_eq] at h
    have := up_len l y (by omega) h.2
    simp only [List.length_cons]
    omega
theorem up_20 {l : List Int} (h : Up 0 l = true) : l.length ≤ 20 := by have := up_len l 0 (by omega) h; omega
theorem up_append : ∀ (a b : List Int) (lo : Int), Up lo a = true → (∀ x, x ∈ a → ∀ y, y ∈ b → x < y) → Up lo b = true → Up lo (a ++ b) = true
  | [], _, _, _, _, h => h
  | x :: a, b, lo, h1, h2, h3 => by
    simp only [Up, Bool.and_eq_true, decide_eq_true_eq, List.cons_append] at h1 ⊢
    refine ⟨h1.1, up_append a b x h1.2 (fun y hy => h2 y (List.mem_cons_of_mem _ hy)) ?_⟩
    cases b with
    | nil => rfl
    | cons y b =>
      simp only [Up, Bool.and_eq_true, decide_eq_true_eq] at h3 ⊢
      exact ⟨⟨h2 x (by simp) y (by simp), h3.1.2⟩, h3.2⟩
theorem up_take : ∀ (l : List Int) (lo : Int) (i : Nat), Up lo l = true → Up lo (l.take i) = true
  | _, _, 0, _ => by simp [Up]
  | [], _, _ + 1, _ => by simp [Up]
  | y :: l, lo, i + 1, h => by
    simp only [Up, Bool.and_eq_true, decide_eq_true_eq, List.take_succ_cons] at h ⊢
    exact ⟨h.1, up_take l y i h.2⟩
theorem up_drop : ∀ (l : List Int) (lo : Int) (i : Nat), Up lo l = true → Up lo (l.drop i) = true
  | _, _, 0, h => by simpa using h
  | [], _, _ + 1, _ => by simp [Up]
  | y :: l, lo, i + 1, h => by
    simp only [Up, Bool.and_eq_true, decide_eq_true_eq, List.drop_succ_cons] at h ⊢
    exact up_mono _ y lo (by omega) (up_drop l y i h.2)
theorem up_raise {l : List Int} {lo x : Int} (h : Up lo l = true) (hx : ∀ y ∈ l, x < y) : Up x l = true := by
  cases l with
  | nil => rfl
  | cons y l =>
    simp only [Up, Bool.and_eq_true, decide_eq_true_eq] at h ⊢
    exact ⟨⟨hx y (by simp), h.1.2⟩, h.2⟩
/-! the search -/
theorem up_get : ∀ (l : List Int) (lo : Int), Up lo l = true → ∀ (a b : Nat) (hab : a < b) (hb : b < l.length), l[a] < l[b]
  | [], _, _, a, b, _, hb => by simp at hb
  | y :: l, lo, h, a, b, hab, hb => by
    simp only [Up, Bool.and_eq_true, decide_eq_true_eq] at h
    obtain ⟨b, rfl⟩ : ∃ c, b = c + 1 := ⟨b - 1, by omega⟩
    rcases Nat.eq_zero_or_pos a with rfl | ha
    · simp only [List.getElem_cons_zero, List.getElem_cons_succ]
      exact (up_lt l y h.2 _ (List.getElem_mem _)).1
    · obtain ⟨a, rfl⟩ : ∃ c, a = c + 1 := ⟨a - 1, by omega⟩
      simp only [List.getElem_cons_succ]
      exact up_get l y h.2 a b (by omega) (by simpa using hb)
theorem bs_l0 (l : List Int) (x : Int) (hl : l.length ≤ 1000) (hs : Up 0 l = true) (d : Nat) : ∀ (k i j : Nat), j - i ≤ d → d < k → i ≤ j → j ≤ l.length → (∀ y ∈ l.take i, y < x) → (∀ y ∈ l.drop j, x ≤ y) →
    ∃ r : Nat, r ≤ l.length ∧ PB.slices_BinarySearch_int_int.l0 k l x (l.length : Int) (i : Int) (j : Int) = some ((r : Int), decide (x ∈ l)) ∧ (∀ y ∈ l.take r, y < x) ∧ (∀ y ∈ l.drop r, x ≤ y) := by
  induction d with
  | zero =>
    intro k i j hd hk hij hj h1 h2
    obtain ⟨k, rfl⟩ : ∃ m, k = m + 1 := ⟨k - 1, by omega⟩
    obtain rfl : i = j := by omega
    exact ⟨i, hj, by
      simp only [PB.slices_BinarySearch_int_int.l0]
      rw [if_neg (by omega)]
      by_cases hn : i < l.length
      · rw [if_pos (by omega), if_pos (by omega), if_pos (by omega), rd_nat l i hn]
        by_cases h3 : l[i] = x
        · rw [if_pos h3, decide_eq_true (h3 ▸ List.getElem_mem hn)]
        · rw [if_neg h3]
          have hno : ¬ x ∈ l := by
            intro hx
            rw [← List.take_append_drop i l] at hx
            rcases List.mem_append.1 hx with hx | hx
            · have := h1 x hx; omega
            · obtain ⟨m, hm, hmx⟩ := List.getElem_of_mem hx
              rw [List.getElem_drop] at hmx
              have hge := h2 l[i] (by rw [List.drop_eq_getElem_cons hn]; exact List.mem_cons_self ..)
              rcases Nat.eq_zero_or_pos m with rfl | hp
              · exact h3 (by simpa using hmx)
              · have := up_get l 0 hs i (i + m) (by omega) (by simp at hm; omega)
                omega
          rw [decide_eq_false hno]
          unfold PB.slices_isNaN_int.f
          simp
      · rw [if_neg (by omega)]
        have hno : ¬ x ∈ l := by
          intro hx
          have := h1 x (by rw [List.take_of_length_le (by omega)]; exact hx)
          omega
        rw [decide_eq_false hno], h1, h2⟩
  | succ d ih =>
    intro k i j hd hk hij hj h1 h2
    obtain ⟨k, rfl⟩ : ∃ m, k = m + 1 := ⟨k - 1, by omega⟩
    by_cases hlt : i < j
    · have e : wrap64 ((IntKind.u64.wrap (wrap64 ((i : Int) + (j : Int)))) / 2) = (((i + j) / 2 : Nat) : Int) := by
        have e1 : wrap64 ((i : Int) + (j : Int)) = ((i + j : Nat) : Int) := by unfold wrap64; omega
        rw [e1]
        have e2 : IntKind.u64.wrap ((i + j : Nat) : Int) = ((i + j : Nat) : Int) := by rw [IntKind.wrap_u64]; omega
        rw [e2]
        unfold wrap64; omega
      obtain ⟨h, hh⟩ : ∃ h, h = (i + j) / 2 := ⟨_, rfl⟩
      have hhl : h < l.length := by omega
      simp only [PB.slices_BinarySearch_int_int.l0]
      rw [if_pos (by omega), e, ← hh, if_pos (by omega), if_pos (by omega), rd_nat l h hhl]
      have hless : PB.cmp_Less_int.f l[h] x = some (decide (l[h] < x)) := by
        unfold PB.cmp_Less_int.f PB.cmp_isNaN_int.f
        simp
      rw [hless]
      simp only [Option.bind_some]
      have ht : ∀ m (hm : m < l.length), m < h → l[m] < l[h] := fun m hm hmh => up_get l 0 hs m h hmh hhl
      by_cases h3 : l[h] < x
      · rw [if_pos (by simpa using h3), w_succ h l.length hhl hl]
        refine ih k (h + 1) j (by omega) (by omega) (by omega) hj ?_ h2
        intro y hy
        rw [List.take_succ_eq_append_getElem hhl] at hy
        rcases List.mem_append.1 hy with hy | hy
        · obtain ⟨m, hm, rfl⟩ := List.getElem_of_mem hy
          rw [List.getElem_take]
          have := ht m (by simp at hm; omega) (by simp at hm; omega)
          omega
        · rw [List.mem_singleton.1 hy]; exact h3
      · rw [if_neg (by simpa using h3)]
        refine ih k i h (by omega) (by omega) (by omega) (by omega) h1 ?_
        intro y hy
        obtain ⟨m, hm, rfl⟩ := List.getElem_of_mem hy
        rw [List.getElem_drop]
        rcases Nat.eq_zero_or_pos m with rfl | hp
        · simp only [Nat.add_zero]; omega
        · have := up_get l 0 hs h (h + m) (by omega) (by simp at hm; omega)
          omega
    · obtain rfl : i = j := by omega
      exact ⟨i, hj, by
      simp only [PB.slices_BinarySearch_int_int.l0]
      rw [if_neg (by omega)]
      by_cases hn : i < l.length
      · rw [if_pos (by omega), if_pos (by omega), if_pos (by omega), rd_nat l i hn]
        by_cases h3 : l[i] = x
        · rw [if_pos h3, decide_eq_true (h3 ▸ List.getElem_mem hn)]
        · rw [if_neg h3]
          have hno : ¬ x ∈ l := by
            intro hx
            rw [← List.take_append_drop i l] at hx
            rcases List.mem_append.1 hx with hx | hx
            · have := h1 x hx; omega
            · obtain ⟨m, hm, hmx⟩ := List.getElem_of_mem hx
              rw [List.getElem_drop] at hmx
              have hge := h2 l[i] (by rw [List.drop_eq_getElem_cons hn]; exact List.mem_cons_self ..)
              rcases Nat.eq_zero_or_pos m with rfl | hp
              · exact h3 (by simpa using hmx)
              · have := up_get l 0 hs i (i + m) (by omega) (by simp at hm; omega)
                omega
          rw [decide_eq_false hno]
          unfold PB.slices_isNaN_int.f
          simp
      · rw [if_neg (by omega)]
        have hno : ¬ x ∈ l := by
          intro hx
          have := h1 x (by rw [List.take_of_length_le (by omega)]; exact hx)
          omega
        rw [decide_eq_false hno], h1, h2⟩
theorem bs_f (l : List Int) (x : Int) (hs : Up 0 l = true) : ∃ r : Nat, r ≤ l.length ∧ PB.slices_BinarySearch_int_int.f 60 l x = some ((r : Int), decide (x ∈ l)) ∧ (∀ y ∈ l.take r, y < x) ∧ (∀ y ∈ l.drop r, x ≤ y) := by
  have hl := up_20 hs
  unfold PB.slices_BinarySearch_int_int.f
  have := bs_l0 l x (by omega) hs l.length 60 0 l.length (by omega) (by omega) (by omega) (by omega) (by simp) (by simp)
  simpa using this
theorem up_withId (used : List Int) (x : Int) : Up 0 (withId used x) = true := up_filter _ _ _ up_ids
theorem mem_withId (used : List Int) (x y : Int) : y ∈ withId used x ↔ (1 ≤ y ∧ y ≤ 20) ∧ (y = x ∨ y ∈ used) := by
  unfold withId
  rw [List.mem_filter, mem_ids]
  simp
/-- What is put in at its place. -/
theorem ins_eq (l : List Int) (x : Int) (r : Nat) (hs : Up 0 l = true) (hx0 : 1 ≤ x) (hx1 : x ≤ 20) (hno : x ∉ l) (h1 : ∀ y ∈ l.take r, y < x) (h2 : ∀ y ∈ l.drop r, x ≤ y) : l.take r ++ x :: l.drop r = withId l x := by
  have h3 : ∀ y ∈ l.drop r, x < y := fun y hy => by
    have := h2 y hy
    have : x ≠ y := fun e => hno (e ▸ List.mem_of_mem_drop hy)
    omega
  refine up_ext _ _ 0 (up_append _ _ 0 (up_take l 0 r hs) ?_ ?_) (up_withId l x) (fun z => ?_)
  · intro a ha b hb
    rcases List.mem_cons.1 hb with rfl | hb
    · exact h1 a ha
    · have := h1 a ha; have := h3 b hb; omega
  · simp only [Up, Bool.and_eq_true, decide_eq_true_eq]
    exact ⟨⟨by omega, hx1⟩, up_raise (up_drop l 0 r hs) h3⟩
  · rw [mem_withId, List.mem_append, List.mem_cons]
    have hz : z ∈ l ↔ z ∈ l.take r ∨ z ∈ l.drop r := by rw [← List.mem_append, List.take_append_drop]
    rw [hz]
    constructor
    · intro q
      refine ⟨?_, ?_⟩
      · rcases q with q | q | q
        · have := up_lt l 0 hs z (List.mem_of_mem_take q); omega
        · omega
        · have := up_lt l 0 hs z (List.mem_of_mem_drop q); omega
      · rcases q with q | q | q
        · exact .inr (.inl q)
        · exact .inl q
        · exact .inr (.inr q)
    · rintro ⟨_, q | q | q⟩
      · exact .inr (.inl q)
      · exact .inl q
      · exact .inr (.inr q)
theorem ins_length (l : List Int) (x : Int) (hs : Up 0 l = true) (hx0 : 1 ≤ x) (hx1 : x ≤ 20) (hno : x ∉ l) : (withId l x).length = l.length + 1 := by
  obtain ⟨r, hr, _, h1, h2⟩ := bs_f l x hs
  rw [← ins_eq l x r hs hx0 hx1 hno h1 h2]
  exact ins_len l r x hr
/-- What is taken out at its place. -/
theorem del_eq (l : List Int) (x : Int) (r : Nat) (hs : Up 0 l = true) (hx : x ∈ l) (hr : r ≤ l.length) (h1 : ∀ y ∈ l.take r, y < x) (h2 : ∀ y ∈ l.drop r, x ≤ y) : r < l.length ∧ l.take r ++ l.drop (r + 1) = without l x := by
  have hrl : r < l.length := by
    by_cases h : r < l.length
    · exact h
    · have := h1 x (by rw [List.take_of_length_le (by omega)]; exact hx)
      omega
  have hrx : l[r] = x := by
    have ha := h2 l[r] (by rw [List.drop_eq_getElem_cons hrl]; exact List.mem_cons_self ..)
    rw [← List.take_append_drop r l] at hx
    rcases List.mem_append.1 hx with hx | hx
    · have := h1 x hx; omega
    · rw [List.drop_eq_getElem_cons hrl] at hx
      rcases List.mem_cons.1 hx with hx | hx
      · exact hx.symm
      · obtain ⟨m, hm, hmx⟩ := List.getElem_of_mem hx
        rw [List.getElem_drop] at hmx
        have := up_get l 0 hs r (r + 1 + m) (by omega) (by simp at hm; omega)
        omega
  refine ⟨hrl, ?_⟩
  unfold without
  conv => rhs; rw [← List.take_append_drop r l, List.drop_eq_getElem_cons hrl, hrx]
  rw [List.filter_append, List.filter_cons]
  have e1 : (l.take r).filter (fun y => !decide (y = x)) = l.take r := by
    rw [List.filter_eq_self]
    intro y hy
    have := h1 y hy
    have : ¬ y = x := by omega
    simp [this]
  have e2 : (l.drop (r + 1)).filter (fun y => !decide (y = x)) = l.drop (r + 1) := by
    rw [List.filter_eq_self]
    intro y hy
    obtain ⟨m, hm, hmx⟩ := List.getElem_of_mem hy
    rw [List.getElem_drop] at hmx
    have := up_get l 0 hs r (r + 1 + m) (by omega) (by simp at hm; omega)
    have : ¬ y = x := by omega
    simp [this]
  rw [e1, e2]
  simp
theorem del_length (l : List Int) (x : Int) (hs : Up 0 l = true) (hx : x ∈ l) : (without l x).length + 1 = l.length := by
  obtain ⟨r, hr, _, h1, h2⟩ := bs_f l x hs
  obtain ⟨h3, h4⟩ := del_eq l x r hs hx hr h1 h2
  rw [← h4, List.length_append, List.length_take, List.length_drop]
  omega
end Go.Proofs.Ytclkphiabgajpaa.TA
