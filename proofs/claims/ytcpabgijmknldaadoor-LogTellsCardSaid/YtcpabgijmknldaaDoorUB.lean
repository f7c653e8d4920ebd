import Derived.Test.YtcpabgijmknldaaDoorPUx2
import Derived.Test.YtcpabgijmknldaaDoorPUx3
namespace Go.Proofs.YtcpabgijmknldaaDoor.PS.U
open Go.RowKit Go.Proofs.YtcpabgijmknldaaDoorW.PrintWords Go.Proofs.YtcpabgijmknldaaDoorW.PrintLast Go.Proofs.YtcpabgijmknldaaDoorW.PrintMore
open Go.Proofs.YtcpabgijmknldaaDoor.PS (u64_id w64_id rd_at eta31)
set_option linter.unusedVariables false
set_option linter.unusedSimpArgs false
/-- The last lines, so many. -/
def tailN (l : List S31) (room : Int) : List S31 := l.drop ((l.length : Int) - room).toNat
theorem mx_ (a b : Int) : mx a b = if a ≤ b then b else a := by unfold mx; split <;> split <;> omega
theorem cut_f (l : List S31) (a : Int) (h0 : 0 ≤ a) (h1 : a ≤ 1000) (hl : l.length ≤ 100000) : log_cut.f l a = some (tailN l a) := by
  unfold log_cut.f tailN
  rw [w64_id (by omega) (by omega), mx_]
  split
  · rename_i h
    rw [if_pos (by omega), if_pos (by omega)]
    have : ((l.length : Int) - a).toNat = 0 := by omega
    rw [this]; rfl
  · rw [if_pos (by omega), if_pos (by omega)]
theorem last_loop (l : List S31) (a : Int) (h0 : 0 ≤ a) (h1 : a ≤ 1000) (hl : l.length ≤ 100000) :
    ∀ (d i k : Nat) (acc : List S31), i + d = l.length → d < k → acc.length ≤ i → wicketgateref27_last.l0 k l a acc i = some (acc ++ l.drop (max i ((l.length : Int) - a).toNat)) := by
  intro d
  induction d with
  | zero =>
    intro i k acc hi hk ha
    obtain ⟨k, rfl⟩ : ∃ m, k = m + 1 := ⟨k - 1, by omega⟩
    simp only [wicketgateref27_last.l0]
    rw [if_neg (by omega), List.drop_eq_nil_of_le (by omega), List.append_nil]
  | succ d ih =>
    intro i k acc hi hk ha
    obtain ⟨k, rfl⟩ : ∃ m, k = m + 1 := ⟨k - 1, by omega⟩
    have hi' : i < l.length := by omega
    simp only [wicketgateref27_last.l0]
    rw [if_pos (by omega), w64_id (n := (l.length : Int) - i) (by omega) (by omega)]
    have hw2 : wrap64 ((i : Int) + 1) = ((i + 1 : Nat) : Int) := by rw [w64_id (by omega) (by omega)]; omega
    rw [hw2]
    by_cases hc : (l.length : Int) - i ≤ a
    · rw [if_pos hc, if_pos (by omega), if_pos (by omega)]
      rw [ih (i + 1) k _ (by omega) (by omega) (by simp; omega)]
      have e : (⟨(rd_T31 l (i : Int)).f0, (rd_T31 l (i : Int)).f1, (rd_T31 l (i : Int)).f2, (rd_T31 l (i : Int)).f3, (⟨(rd_T31 l (i : Int)).f4.f0, (rd_T31 l (i : Int)).f4.f1⟩ : S29)⟩ : S31) = l[i] := by rw [rd_at hi']
      rw [e, show max (i + 1) ((l.length : Int) - a).toNat = i + 1 by omega, show max i ((l.length : Int) - a).toNat = i by omega, List.append_assoc]
      congr 2
      exact (List.drop_eq_getElem_cons hi').symm
    · rw [if_neg hc, ih (i + 1) k acc (by omega) (by omega) (by omega)]
      rw [show max (i + 1) ((l.length : Int) - a).toNat = ((l.length : Int) - a).toNat by omega, show max i ((l.length : Int) - a).toNat = ((l.length : Int) - a).toNat by omega]
theorem last_f (k : Nat) (l : List S31) (a : Int) (h0 : 0 ≤ a) (h1 : a ≤ 1000) (hl : l.length ≤ 100000) (hk : l.length < k) : wicketgateref27_last.f k l a = some (tailN l a) := by
  unfold wicketgateref27_last.f
  rw [show (0 : Int) = ((0 : Nat) : Int) from rfl, last_loop l a h0 h1 hl l.length 0 k [] (by omega) hk (by simp)]
  unfold tailN
  simp

/-- The two ways to compare two rows of lines answer alike. -/
theorem same_both (l m : List S31) (hl : l.length ≤ 50000) (hm : l.length = m.length) : ∀ (d i k : Nat), i + d = l.length → d < k → ∃ b, api_Line_32.l0 k l m (l.length : Int) i = some b ∧ wicketgateref27_SameLines.l0 k l m i = some b := by
  intro d
  induction d with
  | zero =>
    intro i k hi hk
    obtain ⟨k, rfl⟩ : ∃ n, k = n + 1 := ⟨k - 1, by omega⟩
    simp only [api_Line_32.l0, wicketgateref27_SameLines.l0]
    rw [if_neg (by omega), if_neg (by omega)]
    exact ⟨true, rfl, rfl⟩
  | succ d ih =>
    intro i k hi hk
    obtain ⟨k, rfl⟩ : ∃ n, k = n + 1 := ⟨k - 1, by omega⟩
    simp only [api_Line_32.l0, wicketgateref27_SameLines.l0]
    have hw2 : wrap64 ((i : Int) + 1) = ((i + 1 : Nat) : Int) := by rw [w64_id (by omega) (by omega)]; omega
    have a1 : (i : Int) < (l.length : Int) := by omega
    have a2 : (0 : Int) ≤ (i : Int) := by omega
    have a3 : (i : Int) < (m.length : Int) := by omega
    simp only [if_pos a1, if_pos a2, if_pos a3, hw2]
    obtain ⟨cc, hcc⟩ : ∃ cc, cc = (!((rd_T31 l (i : Int)).f0 == (rd_T31 m (i : Int)).f0) || (!((rd_T31 l (i : Int)).f1 == (rd_T31 m (i : Int)).f1) || (!((rd_T31 l (i : Int)).f2 == (rd_T31 m (i : Int)).f2) || (!((rd_T31 l (i : Int)).f3 == (rd_T31 m (i : Int)).f3) || (!((rd_T31 l (i : Int)).f4.f0 == (rd_T31 m (i : Int)).f4.f0) || !((rd_T31 l (i : Int)).f4.f1 == (rd_T31 m (i : Int)).f4.f1)))))) := ⟨_, rfl⟩
    rw [← hcc]
    cases cc
    · simp only [Bool.false_eq_true, if_false]
      exact ih (i + 1) k (by omega) (by omega)
    · exact ⟨false, rfl, rfl⟩
theorem lines_both (l m : List S31) (hl : l.length ≤ 300) : ∃ b, api_Line_32.f 1000 l m = some b ∧ wicketgateref27_SameLines.f 1000 l m = some b := by
  unfold api_Line_32.f wicketgateref27_SameLines.f
  by_cases h : (l.length : Int) = m.length
  · rw [if_pos h, if_pos h]
    have := same_both l m (by omega) (by omega) l.length 0 1000 (by omega) (by omega)
    simpa using this
  · rw [if_neg h, if_neg h]
    exact ⟨false, rfl, rfl⟩
theorem ring_both (a b : Int) (l : List S31) (c d : Int) (m : List S31) (hl : l.length ≤ 300) : ∃ r, log_Same.f 1000 a b l c d m = some r ∧ wicketgateref27_Same.f 1000 a b l c d m = some r := by
  unfold log_Same.f wicketgateref27_Same.f
  obtain ⟨r, h1, h2⟩ := lines_both l m hl
  by_cases h3 : a = c
  · rw [if_pos h3, if_pos h3]
    by_cases h4 : b = d
    · rw [if_pos h4, if_pos h4, h1, h2]; exact ⟨r, rfl, rfl⟩
    · rw [if_neg h4, if_neg h4]; exact ⟨false, rfl, rfl⟩
  · rw [if_neg h3, if_neg h3]; exact ⟨false, rfl, rfl⟩
theorem lines_self_loop (l : List S31) (hl : l.length ≤ 50000) : ∀ (d i k : Nat), i + d = l.length → d < k → wicketgateref27_SameLines.l0 k l l i = some true := by
  intro d
  induction d with
  | zero =>
    intro i k hi hk
    obtain ⟨k, rfl⟩ : ∃ n, k = n + 1 := ⟨k - 1, by omega⟩
    simp only [wicketgateref27_SameLines.l0]
    rw [if_neg (by omega)]
  | succ d ih =>
    intro i k hi hk
    obtain ⟨k, rfl⟩ : ∃ n, k = n + 1 := ⟨k - 1, by omega⟩
    simp only [wicketgateref27_SameLines.l0]
    have hw2 : wrap64 ((i : Int) + 1) = ((i + 1 : Nat) : Int) := by rw [w64_id (by omega) (by omega)]; omega
    rw [if_pos (by omega), if_pos (by omega), if_pos (by omega), hw2, ih (i + 1) k (by omega) (by omega)]
    simp
theorem ring_self (a b : Int) (l : List S31) (hl : l.length ≤ 300) : wicketgateref27_Same.f 1000 a b l a b l = some true := by
  unfold wicketgateref27_Same.f wicketgateref27_SameLines.f
  have h := lines_self_loop l (by omega) l.length 0 1000 (by omega) (by omega)
  rw [if_pos rfl, if_pos rfl, if_pos rfl, show (0 : Int) = ((0 : Nat) : Int) from rfl, h]
  rfl
/-- What comes of a ring of another room. -/
def widenV (room nx : Int) (l : List S31) (a : Int) : Int × Int × List S31 × Int := if Rok room nx l then (if a < 1 ∨ a > 32 ∨ (nx - 1 > l.length ∧ a > room) then (0, 0, [], 2) else (a, nx, tailN l a, 0)) else (0, 0, [], 370)
theorem rwiden_f (room nx : Int) (l : List S31) (a : Int) (hW : Wide room nx l) : wicketgateref27_Widen.f 1000 room nx l a = some (widenV room nx l a) := by
  unfold wicketgateref27_Widen.f widenV
  rw [show wicketgateref27_Right.f room nx l = some (decide (Rok room nx l)) from if_pos hW]
  simp only [Option.bind_some]
  by_cases hR : Rok room nx l
  · have hrok := hR
    obtain ⟨q1, q2, q3, q4, q5, q6, _⟩ := hrok
    have hl := hW.2.2.2
    rw [decide_eq_true hR, if_pos rfl, if_pos hR, u64_id (n := nx - 1) (by omega) (by omega), u64_id (n := (l.length : Int)) (by omega) (by omega)]
    by_cases h1 : a < 1
    · rw [if_pos h1, if_pos (.inl h1)]
    · rw [if_neg h1]
      by_cases h2 : a > 32
      · rw [if_pos h2, if_pos (.inr (.inl h2))]
      · rw [if_neg h2, last_f 1000 l a (by omega) (by omega) (by omega) (by omega)]
        simp only [Option.bind_some]
        by_cases h3 : nx - 1 > l.length
        · rw [if_pos h3]
          by_cases h4 : a > room
          · rw [if_pos h4, if_pos (.inr (.inr ⟨h3, h4⟩))]
          · rw [if_neg h4, if_neg (by omega)]
        · rw [if_neg h3, if_neg (by omega)]
  · rw [decide_eq_false hR, if_neg (by decide), if_neg hR]
theorem clone_f (l : List S31) (hl : l.length ≤ 50000) : api_Line_28.f l = some l := by
  unfold api_Line_28.f
  simp only [Option.bind_some, List.length_nil, List.nil_append]
  rw [if_pos (by omega)]
theorem widen_f (room nx : Int) (l : List S31) (a : Int) (hW : Wide room nx l) : log_Widen.f 1000 room nx l a = some (widenV room nx l a) := by
  unfold log_Widen.f widenV
  rw [show log_Dropped.f room nx l = some (if Rok room nx l then (nx - 1 - l.length, 0) else (0, 370)) from if_pos hW]
  simp only [Option.bind_some]
  by_cases hR : Rok room nx l
  · have hrok := hR
    obtain ⟨q1, q2, q3, q4, q5, q6, _⟩ := hrok
    have hl := hW.2.2.2
    rw [if_pos hR, if_pos hR]
    dsimp only
    rw [if_pos rfl]
    have hj : ∀ h0 : 1 ≤ a, a ≤ 32 → log_Widen.j0 1000 a false room nx l = some (a, nx, tailN l a, 0) := fun h0 h1 => by
      show log_Widen.j0 (999 + 1) a false room nx l = _
      simp only [log_Widen.j0, Bool.false_eq_true, if_false]
      rw [cut_f l a (by omega) (by omega) (by omega)]
      simp only [Option.bind_some]
      rw [clone_f _ (by unfold tailN; simp; omega)]
      rfl
    have hj2 : log_Widen.j0 1000 a true room nx l = some (0, 0, [], 2) := by
      show log_Widen.j0 (999 + 1) a true room nx l = _
      simp only [log_Widen.j0, if_true]
    by_cases h1 : a < 1
    · rw [if_pos h1, if_pos (.inl h1), hj2]
    · rw [if_neg h1]
      by_cases h2 : a > 32
      · rw [if_pos h2, if_pos (.inr (.inl h2)), hj2]
      · rw [if_neg h2]
        by_cases h4 : a > room
        · rw [if_pos h4]
          by_cases h3 : nx - 1 > l.length
          · rw [decide_eq_true (by omega), if_pos (.inr (.inr ⟨h3, h4⟩)), hj2]
          · rw [decide_eq_false (by omega), if_neg (by omega), hj (by omega) (by omega)]
        · rw [if_neg h4, if_neg (by omega), hj (by omega) (by omega)]
  · rw [if_neg hR, if_neg hR]
    rfl
end Go.Proofs.YtcpabgijmknldaaDoor.PS.U
