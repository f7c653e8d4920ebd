import Derived.Test.YtclkphiabgajpaaPDx3
namespace Go.Proofs.Ytclkphiabgajpaa.PD
open Go.RowKit Go.Proofs.YtclkphiabgajpaaW.PrintWords Go.Proofs.YtclkphiabgajpaaW.PrintLast Go.Proofs.YtclkphiabgajpaaW.PrintMore
open Go.Proofs.Ytclkphiabgajpaa.TA
set_option linter.unusedVariables false
set_option linter.unusedSimpArgs false
theorem getD_get (l : List Int) (n : Nat) (h : n < l.length) : l.getD n 0 = l[n] := by simp [h]
theorem full_len {last : Int} {used : List Int} (hg : good last used = true) (h : firstV last used = none) : used.length = 20 := by
  obtain ⟨h0, h1, hu⟩ := good_parts hg
  have hall : ∀ y, y ∈ ids → y ∈ used := fun y hy => by
    have hy' := (mem_ids y).1 hy
    unfold firstV at h
    rw [List.find?_eq_none] at h
    have := h (idOf last ((y - 1 - last) % 20).toNat) (by unfold upto; exact List.mem_map.2 ⟨_, List.mem_range.2 (by omega), rfl⟩)
    have e : idOf last ((y - 1 - last) % 20).toNat = y := by unfold idOf; omega
    rw [e] at this
    simpa using this
  have : used = ids := up_ext used ids 0 hu up_ids (fun x => ⟨fun hx => (mem_ids x).2 (by have := up_lt used 0 hu x hx; omega), hall x⟩)
  rw [this]; rfl
theorem good_mk {x : Int} {l : List Int} (h0 : 0 ≤ x) (h1 : x ≤ 20) (h : Up 0 l = true) : good x l = true := by
  unfold good
  simp [h0, h1, h]
theorem good_len {last : Int} {used : List Int} (hg : good last used = true) : used.length ≤ 20 := up_20 (good_parts hg).2.2
theorem up_without {l : List Int} (x : Int) (h : Up 0 l = true) : Up 0 (without l x) = true := up_filter _ _ _ h
theorem mem_without (l : List Int) (x y : Int) : y ∈ without l x ↔ y ∈ l ∧ y ≠ x := by unfold without; rw [List.mem_filter]; simp
theorem wsucc (i : Int) (n : Int) (h0 : 0 ≤ i) (h : i < n) (hn : n ≤ 1000) : wrap64 (i + 1) = i + 1 := by unfold wrap64; omega
theorem mn_ (a b : Int) : mn a b = if a ≤ b then a else b := by unfold mn; split <;> split <;> omega
theorem short_f (a : Int) (l : List Int) : wicketgatelaw10_short.f a l = some (a, l.take 22) := by
  unfold wicketgatelaw10_short.f
  simp only [Option.bind_some, List.length_nil, List.nil_append]
  rw [mn_]
  split
  · rename_i h
    rw [if_pos (by omega), if_pos (by omega), if_pos (by simp; omega)]
    congr 2
    rw [List.take_of_length_le (by simp), List.take_of_length_le (by omega)]
  · rw [if_pos (by omega), if_pos (by omega), if_pos (by simp; omega)]
    rfl
theorem take_f {last : Int} {used : List Int} (hl : used.length ≤ 30) : pids_Take.f last used = some (takeV last used) := by unfold pids_Take.f; rw [if_pos hl]
theorem free_f {last : Int} {used : List Int} (x : Int) (hl : used.length ≤ 30) : pids_Free.f last used x = some (freeV last used x) := by unfold pids_Free.f; rw [if_pos hl]
theorem chk_f {last : Int} {used : List Int} (hl : used.length ≤ 30) : pids_Check.f last used = some (cond (good last used) 0 200) := by unfold pids_Check.f; rw [if_pos hl]
theorem hs_f {last : Int} {used : List Int} (x : Int) (hl : used.length ≤ 30) : pids_Has.f last used x = some (decide (x ∈ used)) := by unfold pids_Has.f; rw [if_pos hl]
theorem takeV_some {last : Int} {used : List Int} (hg : good last used = true) {x : Int} (h : firstV last used = some x) : takeV last used = (x, withId used x, x, 0) := by unfold takeV takeR; rw [if_pos hg, h]
theorem takeV_none {last : Int} {used : List Int} (hg : good last used = true) (h : firstV last used = none) : takeV last used = (0, [], 0, 24) := by unfold takeV takeR; rw [if_pos hg, h]

theorem tells_l1 (x0 x14 : List S24) (x1 : List Int) (x15 x16 : Int) (p : Int) (l : List Int) (hl : l.length ≤ 22) (hx : x1.length ≤ 9223372036854775807) (d : Nat) : ∀ (k i : Nat), i + d = x1.length → d < k → ∃ k', k' + d + 1 = k ∧
    wicketgatelaw10_PidsTells.l1 k x0 x1 x14 x15 x16 x1 (x1.length : Int) (i : Int) p l = wicketgatelaw10_PidsTells.l0 k' x0 x1 x14 x15 (wrap64 (x16 + 1)) := by
  induction d with
  | zero =>
    intro k i hi hk
    obtain ⟨k, rfl⟩ : ∃ m, k = m + 1 := ⟨k - 1, by omega⟩
    refine ⟨k, by omega, ?_⟩
    rw [wicketgatelaw10_PidsTells.l1]
    rw [if_neg (by omega)]
  | succ d ih =>
    intro k i hi hk
    obtain ⟨k, rfl⟩ : ∃ m, k = m + 1 := ⟨k - 1, by omega⟩
    have hw : wrap64 ((i : Int) + 1) = ((i + 1 : Nat) : Int) := by unfold wrap64; omega
    obtain ⟨k', h1, h2⟩ := ih k (i + 1) (by omega) (by omega)
    refine ⟨k', by omega, ?_⟩
    rw [← h2, wicketgatelaw10_PidsTells.l1]
    rw [if_pos (by omega), if_pos (by omega), if_pos (by omega), hw, hs_f _ (by omega)]
    unfold wicketgateref10_Has.f
    rw [if_pos (show l.length ≤ 30 by omega)]
    simp only [Option.bind_some, bne_self_eq_false, Bool.false_eq_true, if_false, ite_self]
theorem tells_l0 (x0 : List S24) (x1 : List Int) (hx : x1.length ≤ 9223372036854775807) (d : Nat) : ∀ (k i : Nat), i + d = 10 → (d + 1) * (x1.length + 4) ≤ k → wicketgatelaw10_PidsTells.l0 k x0 x1 x0 (x0.length : Int) (i : Int) = some true := by
  induction d with
  | zero =>
    intro k i hi hk
    obtain ⟨k, rfl⟩ : ∃ m, k = m + 1 := ⟨k - 1, by omega⟩
    rw [wicketgatelaw10_PidsTells.l0]
    by_cases hlt : i < x0.length
    · rw [if_pos (by omega), if_pos (by omega), if_pos (by omega), if_pos (by omega)]
    · rw [if_neg (by omega)]
  | succ d ih =>
    intro k i hi hk
    have hk' : (d + 1) * (x1.length + 4) + (x1.length + 4) ≤ k := by rw [Nat.succ_mul] at hk; exact hk
    obtain ⟨k, rfl⟩ : ∃ m, k = m + 2 := ⟨k - 2, by omega⟩
    have hw : wrap64 ((i : Int) + 1) = ((i + 1 : Nat) : Int) := by unfold wrap64; omega
    rw [wicketgatelaw10_PidsTells.l0]
    by_cases hlt : i < x0.length
    · rw [if_pos (by omega), if_pos (by omega), if_pos (by omega), if_neg (by omega), short_f]
      simp only [Option.bind_some]
      rw [if_pos (by omega), short_f]
      simp only [Option.bind_some]
      generalize (rd_T24 x0 (i : Int)).f0 = a
      generalize hl : (rd_T24 x0 (i : Int)).f1.take 22 = l
      generalize (rd_T24 x0 0).f0 = b
      generalize (rd_T24 x0 0).f1.take 22 = l'
      have hl' : l.length ≤ 22 := by rw [← hl]; simp; omega
      clear hl
      have go : wicketgatelaw10_PidsTells.j1 (k + 1) x0 x1 x0 (x0.length : Int) (i : Int) false a l = some true := by
        rw [wicketgatelaw10_PidsTells.j1, if_neg (by simp)]
        obtain ⟨k', h1, h2⟩ := tells_l1 x0 x0 x1 (x0.length : Int) (i : Int) a l hl' hx x1.length k 0 (by omega) (by omega)
        simp only [Int.natCast_zero] at h2
        rw [h2, hw]
        exact ih k' (i + 1) (by omega) (by omega)
      rw [chk_f (by omega)]
      unfold wicketgateref10_Right.f pids_Same.f wicketgateref10_Same.f
      rw [if_pos (show l.length ≤ 30 by omega)]
      simp only [Option.bind_some, if_pos (show l.length ≤ 30 by omega), bne_self_eq_false]
      cases good a l
      · rw [if_neg (by decide), if_neg (by decide), if_pos (by decide)]
        exact go
      · rw [if_neg (by decide), if_pos (by decide)]
        exact go
    · rw [if_neg (by omega)]
theorem PidsTells_p (x0 : List S24) (x1 : List Int) (hx : x1.length ≤ 9223372036854775807) : wicketgatelaw10_PidsTells.f (20 * x1.length + 100) x0 x1 = some true := by
  unfold wicketgatelaw10_PidsTells.f
  rw [wicketgatelaw10_wakes.tt]
  simp only [Option.bind_some, if_true]
  have h := tells_l0 x0 x1 hx 10 (20 * x1.length + 100) 0 (by omega) (by omega)
  simp only [Int.natCast_zero] at h
  exact h
end Go.Proofs.Ytclkphiabgajpaa.PD
