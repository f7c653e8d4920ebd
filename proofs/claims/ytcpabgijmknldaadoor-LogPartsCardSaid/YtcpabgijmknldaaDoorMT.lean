import Derived.Test.YtcpabgijmknldaaDoorPTx1
namespace Go.Proofs.YtcpabgijmknldaaDoor.PS.T
open Go.RowKit Go.Proofs.YtcpabgijmknldaaDoorW.PrintWords Go.Proofs.YtcpabgijmknldaaDoorW.PrintLast Go.Proofs.YtcpabgijmknldaaDoorW.PrintMore
open Go.Proofs.YtcpabgijmknldaaDoor.PS (u64_id w64_id rd_at eta31)
set_option linter.unusedVariables false
set_option linter.unusedSimpArgs false

theorem mx2_ (a b : Int) : mx a b = if a ≤ b then b else a := by
  unfold mx; split <;> split <;> omega
theorem e_wakes : wicketgatelaw27_wakes.f = some true := if_pos trivial
theorem e_copied (room nx : Int) (l : List S31) (hl : l.length ≤ 300) : wicketgatelaw27_copied.f room nx l = some (room, nx, l) := if_pos hl
theorem e_same (l : List S31) (hl : l.length ≤ 300) : wicketgateref27_SameLines.f l l = some true := if_pos ⟨rfl, hl⟩
section
variable {room nx : Int} {l : List S31} (hW : Wide room nx l)
include hW
theorem e_since (num : Int) (h0 : 0 ≤ num) (h1 : num ≤ 18446744073709551615) : log_Since.f room nx l num = some (sinceV room nx num l) := if_pos ⟨hW, h0, h1⟩
theorem e_of (tid : Int) : log_Of.f room nx l tid = some (if Rok room nx l then (ownL tid l, 0) else ([], 370)) := if_pos hW
theorem e_check : log_Check.f room nx l = some (if Rok room nx l then 0 else 370) := if_pos hW
theorem e_dropped : log_Dropped.f room nx l = some (if Rok room nx l then (nx - 1 - l.length, 0) else (0, 370)) := if_pos hW
theorem e_right : wicketgateref27_Right.f room nx l = some (decide (Rok room nx l)) := if_pos hW
end
theorem e_rsince (room nx num : Int) (l : List S31) (hl : l.length ≤ 300) (h0 : 0 ≤ num) (hR : 1 ≤ nx ∧ nx ≤ 4611686018427387904 ∧ (l.length : Int) ≤ nx - 1) : wicketgateref27_Since.f room nx l num = some (fromL num l, goneR (nx - 1 - l.length) num) := if_pos ⟨hl, h0, hR⟩
theorem reads_loop (room nx tid g : Int) (l F : List S31) (hl : l.length ≤ 200) (hF : F.length ≤ 200) (hR : 1 ≤ nx ∧ nx ≤ 4611686018427387904 ∧ (l.length : Int) ≤ nx - 1) : ∀ (d i k : Nat) (acc : List S31), i + d = l.length → d < k → acc.length ≤ i → acc ++ ownL tid (l.drop i) = ownL tid l → wicketgatelaw27_LogReads.l0 k tid F g 0 (ownL tid l) 0 (nx - 1 - l.length) 0 F g acc l (l.length : Int) i room nx l = some true := by
  intro d
  induction d with
  | zero =>
    intro i k acc hi hk ha hacc
    obtain ⟨k, rfl⟩ : ∃ m, k = m + 1 := ⟨k - 1, by omega⟩
    simp only [wicketgatelaw27_LogReads.l0]
    rw [List.drop_eq_nil_of_le (by omega)] at hacc
    have e : acc = ownL tid l := by simpa [ownL] using hacc
    have hol : (ownL tid l).length ≤ 300 := Nat.le_trans (List.length_filter_le _ _) (by omega)
    rw [if_neg (by omega), e, e_same F (by omega), e_same (ownL tid l) hol]
    simp only [Option.bind_some, if_true, if_pos]
    rw [u64_id (n := nx - 1) (by omega) (by omega), u64_id (n := (l.length : Int)) (by omega) (by omega), u64_id (by omega) (by omega)]
    simp
  | succ d ih =>
    intro i k acc hi hk ha hacc
    obtain ⟨k, rfl⟩ : ∃ m, k = m + 1 := ⟨k - 1, by omega⟩
    simp only [wicketgatelaw27_LogReads.l0]
    have hil : i < l.length := by omega
    have hw2 : wrap64 ((i : Int) + 1) = ((i + 1 : Nat) : Int) := by rw [w64_id (by omega) (by omega)]; omega
    rw [if_pos (by omega), if_pos (by omega), if_pos (by omega), rd_at hil, hw2]
    rw [List.drop_eq_getElem_cons hil] at hacc
    simp only [eta31]
    by_cases h : (l[i]).f1 = tid
    · rw [show ownL tid (l[i] :: l.drop (i + 1)) = l[i] :: ownL tid (l.drop (i + 1)) from List.filter_cons_of_pos (by simpa using h)] at hacc
      rw [if_pos h, if_pos (by omega), ih (i + 1) k _ (by omega) (by omega) (by simp; omega) (by rw [← hacc]; simp)]
    · rw [show ownL tid (l[i] :: l.drop (i + 1)) = ownL tid (l.drop (i + 1)) from List.filter_cons_of_neg (by simpa using h)] at hacc
      rw [if_neg h, ih (i + 1) k _ (by omega) (by omega) (by omega) hacc]
theorem LogReads_k (k : Nat) (hk : 300 < k) (room nx : Int) (l : List S31) (num tid : Int) (hd : Dat l) (hr : -9223372036854775808 ≤ room ∧ room ≤ 9223372036854775807) (hn : 0 ≤ nx ∧ nx ≤ 18446744073709551615) (h0 : 0 ≤ num) (h1 : num ≤ 18446744073709551615) : wicketgatelaw27_LogReads.f k room nx l num tid = some true := by
  unfold wicketgatelaw27_LogReads.f
  rw [e_wakes]
  simp only [Option.bind_some, if_true]
  by_cases hl : (l.length : Int) > 200
  · rw [if_pos hl]
  · have hW : Wide room nx l := ⟨hd, hr, hn, by omega⟩
    rw [if_neg hl, e_copied room nx l (by omega)]
    simp only [Option.bind_some]
    rw [e_since hW num h0 h1, e_of hW tid, e_dropped hW, e_right hW]
    simp only [Option.bind_some]
    by_cases hR : Rok room nx l
    · obtain ⟨q1, q2, q3, q4, q5, q6, _⟩ := id hR
      unfold sinceV
      rw [if_pos hR, if_pos hR, if_pos hR, decide_eq_true hR, if_pos rfl, e_rsince room nx num l (by omega) h0 ⟨q3, q4, q6⟩]
      simp only [Option.bind_some]
      have := reads_loop room nx tid (goneR (nx - 1 - l.length) num) l (fromL num l) (by omega) (Nat.le_trans (List.length_filter_le _ _) (by omega)) ⟨q3, q4, q6⟩ l.length 0 k [] (by omega) (by omega) (by simp) (by simp)
      simpa using this
    · unfold sinceV
      rw [if_neg hR, if_neg hR, if_neg hR, decide_eq_false hR]
      simp
theorem LogReads_p (room nx : Int) (l : List S31) (num tid : Int) (hd : Dat l) (hr : -9223372036854775808 ≤ room ∧ room ≤ 9223372036854775807) (hn : 0 ≤ nx ∧ nx ≤ 18446744073709551615) (h0 : 0 ≤ num) (h1 : num ≤ 18446744073709551615) : wicketgatelaw27_LogReads.f 1000 room nx l num tid = some true := LogReads_k 1000 (by decide) room nx l num tid hd hr hn h0 h1
/-- How many lines are of a thread before t. -/
def cntL (t : Int) (l : List S31) : Nat := (l.filter (fun x => decide (x.f1 < t))).length
theorem cnt_step (t : Int) : ∀ l : List S31, cntL (t + 1) l = cntL t l + (ownL t l).length
  | [] => rfl
  | x :: xs => by
    have ih := cnt_step t xs
    unfold cntL ownL at ih ⊢
    rw [List.filter_cons, List.filter_cons, List.filter_cons]
    by_cases h1 : x.f1 < t
    · rw [if_pos (by simp; omega), if_pos (by simp; omega), if_neg (by simp; omega)]; simp only [List.length_cons]; omega
    · by_cases h2 : x.f1 = t
      · rw [if_pos (by simp; omega), if_neg (by simp; omega), if_pos (by simp; omega)]; simp only [List.length_cons]; omega
      · rw [if_neg (by simp; omega), if_neg (by simp; omega), if_neg (by simp; omega)]; omega
theorem cnt_le (t : Int) (l : List S31) : cntL t l ≤ l.length := List.length_filter_le _ _
theorem from_drop (room nx num : Int) (l : List S31) (hR : Rok room nx l) : fromL num l = l.drop (num - (nx - l.length)).toNat := by
  have hf : ∀ i (hi : i < l.length), (l[i]).f0 = nx - ((l.length : Int) - i) := fun i hi => by
    have a := (hR.2.2.2.2.2.2.2 i hi).2.2.1
    rw [rd_at hi] at a
    exact a
  obtain ⟨c, hc⟩ : ∃ c, c = (num - (nx - l.length)).toNat := ⟨_, rfl⟩
  rw [← hc]
  unfold fromL
  conv => lhs; rw [← List.take_append_drop c l]
  rw [List.filter_append]
  rw [List.filter_eq_nil_iff.2, List.nil_append, List.filter_eq_self.2]
  · intro x hx
    obtain ⟨j, hj, rfl⟩ := List.mem_drop_iff_getElem.1 hx
    have := hf (c + j) (by omega)
    exact decide_eq_true (by omega)
  · intro x hx
    obtain ⟨j, hj, rfl⟩ := List.mem_take_iff_getElem.1 hx
    have hjl : j < l.length := by omega
    have := hf j hjl
    simp only [decide_eq_true_eq]
    omega
theorem parts_loop (room nx num g : Int) (l F : List S31) (hW : Wide room nx l) (hR : Rok room nx l) (hl : l.length ≤ 200) (hF : ((F.length : Int) + g) = if (if num ≤ 1 then 1 else num) < nx then nx - (if num ≤ 1 then 1 else num) else 0) (hg : 0 ≤ g) (h0 : 0 ≤ num) (hFl : F.length ≤ 200) : ∀ (d : Nat) (t : Int) (k : Nat), t + d = 21 → 1 ≤ t → d < k → wicketgatelaw27_LogParts.l0 k num F g (cntL t l : Nat) t room nx l = some true := by
  intro d
  induction d with
  | zero =>
    intro t k ht h1 hk
    obtain ⟨k, rfl⟩ : ∃ m, k = m + 1 := ⟨k - 1, by omega⟩
    obtain rfl : t = 21 := by omega
    simp only [wicketgatelaw27_LogParts.l0]
    have hrok := hR
    obtain ⟨q1, q2, q3, q4, q5, q6, _, q8⟩ := hrok
    have hcnt : cntL 21 l = l.length := by
      unfold cntL
      rw [List.filter_eq_self.2]
      intro x hx
      obtain ⟨i, hi, rfl⟩ := List.getElem_of_mem hx
      have a := (q8 i hi).2.2.2.2
      rw [rd_at hi] at a
      exact decide_eq_true (by omega)
    have hs : sinceV room nx nx l = ([], 0, 0) := by
      unfold sinceV
      rw [if_pos hR, from_drop room nx nx l hR, List.drop_eq_nil_of_le (by omega)]
      unfold goneR
      rw [if_neg (by omega), if_pos (by omega)]
    rw [if_neg (by omega), e_since hW nx (by omega) (by omega), hs, hcnt, mx2_]
    simp only [Option.bind_some, List.length_nil]
    by_cases hlt : (if num ≤ 1 then 1 else num) < nx
    · rw [if_pos hlt] at hF ⊢
      have hb : 0 ≤ nx - (if num ≤ 1 then 1 else num) ∧ nx - (if num ≤ 1 then 1 else num) ≤ nx := by split <;> omega
      rw [if_pos trivial, u64_id (n := (F.length : Int)) (by omega) (by omega), hF, u64_id (by omega) (by omega)]
      simp
    · rw [if_neg hlt] at hF ⊢
      rw [if_pos trivial, u64_id (n := (F.length : Int)) (by omega) (by omega), hF, u64_id (by omega) (by omega)]
      simp
  | succ d ih =>
    intro t k ht h1 hk
    obtain ⟨k, rfl⟩ : ∃ m, k = m + 1 := ⟨k - 1, by omega⟩
    simp only [wicketgatelaw27_LogParts.l0]
    have hc := cnt_step t l
    have hcl := cnt_le (t + 1) l
    rw [if_pos (by omega), e_of hW t, if_pos hR]
    simp only [Option.bind_some, if_true]
    rw [w64_id (n := t + 1) (by omega) (by omega), w64_id (by omega) (by omega), show ((cntL t l : Nat) : Int) + ((ownL t l).length : Int) = ((cntL (t + 1) l : Nat) : Int) by omega]
    exact ih (t + 1) k (by omega) (by omega) (by omega)
theorem LogParts_k (k : Nat) (hk : 300 < k) (room nx : Int) (l : List S31) (num : Int) (hd : Dat l) (hr : -9223372036854775808 ≤ room ∧ room ≤ 9223372036854775807) (hn : 0 ≤ nx ∧ nx ≤ 18446744073709551615) (h0 : 0 ≤ num) (h1 : num ≤ 18446744073709551615) : wicketgatelaw27_LogParts.f k room nx l num = some true := by
  unfold wicketgatelaw27_LogParts.f
  rw [e_wakes]
  simp only [Option.bind_some, if_true]
  by_cases hl : (l.length : Int) > 200
  · rw [if_pos hl]
  · have hW : Wide room nx l := ⟨hd, hr, hn, by omega⟩
    rw [if_neg hl, e_since hW num h0 h1, e_check hW]
    simp only [Option.bind_some]
    by_cases hR : Rok room nx l
    · have hrok := hR
      obtain ⟨q1, q2, q3, q4, q5, q6, _, q8⟩ := hrok
      unfold sinceV
      rw [if_pos hR, if_pos hR, if_pos rfl]
      have hc1 : cntL 1 l = 0 := by
        unfold cntL
        rw [List.filter_eq_nil_iff.2]
        · rfl
        intro x hx
        obtain ⟨i, hi, rfl⟩ := List.getElem_of_mem hx
        have a := (q8 i hi).2.2.2.1
        rw [rd_at hi] at a
        simp only [decide_eq_true_eq]
        omega
      have hfl : (fromL num l).length = l.length - (num - (nx - l.length)).toNat := by rw [from_drop room nx num l hR, List.length_drop]
      have hg : 0 ≤ goneR (nx - 1 - l.length) num := by unfold goneR; split <;> (try split) <;> omega
      have hF : ((fromL num l).length : Int) + goneR (nx - 1 - l.length) num = if (if num ≤ 1 then 1 else num) < nx then nx - (if num ≤ 1 then 1 else num) else 0 := by
        rw [hfl]
        unfold goneR
        by_cases hz : num = 0
        · subst hz; rw [if_pos rfl, show (if (0 : Int) ≤ 1 then (1 : Int) else 0) = 1 from rfl]; split <;> omega
        · rw [if_neg hz, show (if num ≤ 1 then 1 else num) = num by split <;> omega]
          split <;> split <;> omega
      have := parts_loop room nx num (goneR (nx - 1 - l.length) num) l (fromL num l) hW hR (by omega) hF hg h0 (by omega) 20 1 k (by omega) (by omega) (by omega)
      rw [hc1] at this
      simpa using this
    · unfold sinceV
      rw [if_neg hR, if_neg hR]
      simp
theorem LogParts_p (room nx : Int) (l : List S31) (num : Int) (hd : Dat l) (hr : -9223372036854775808 ≤ room ∧ room ≤ 9223372036854775807) (hn : 0 ≤ nx ∧ nx ≤ 18446744073709551615) (h0 : 0 ≤ num) (h1 : num ≤ 18446744073709551615) : wicketgatelaw27_LogParts.f 1000 room nx l num = some true := LogParts_k 1000 (by decide) room nx l num hd hr hn h0 h1
end Go.Proofs.YtcpabgijmknldaaDoor.PS.T
