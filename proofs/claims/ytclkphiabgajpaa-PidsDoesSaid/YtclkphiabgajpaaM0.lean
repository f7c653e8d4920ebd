import Derived.Test.YtclkphiabgajpaaPCx2
namespace Go.Proofs.Ytclkphiabgajpaa.PC
open Go.RowKit Go.Proofs.YtclkphiabgajpaaW.PrintWords Go.Proofs.YtclkphiabgajpaaW.PrintLast Go.Proofs.YtclkphiabgajpaaW.PrintMore
open Go.Proofs.Ytclkphiabgajpaa.TA
set_option linter.unusedVariables false
set_option linter.unusedSimpArgs false
theorem getD_get (l : List Int) (n : Nat) (h : n < l.length) : l.getD n 0 = l[n] := by simp [h]
theorem full_len {last : Int} {used : List Int} (hg : good last used = true) (h : firstV last used = none) : used.length = 20 := by
  obtain ⟨h0, h1, hu⟩ := good_parts hg
  have hall : ∀ y, y ∈ ids → y ∈ used := fun y hy => by
    have hy' := (mem_ids y).1 hy
    unfold firstV at h
    rw [List.find?_eq_none] at h
    have := h (idOf last ((y - 1 - last) % 20).toNat) (by unfold upto; exact List.mem_map.2 ⟨_, List.mem_range.2 (by omega), rfl⟩)
    have e : idOf last ((y - 1 - last) % 20).toNat = y := by unfold idOf; omega
    rw [e] at this
    simpa using this
  have : used = ids := up_ext used ids 0 hu up_ids (fun x => ⟨fun hx => (mem_ids x).2 (by have := up_lt used 0 hu x hx; omega), hall x⟩)
  rw [this]; rfl
theorem good_mk {x : Int} {l : List Int} (h0 : 0 ≤ x) (h1 : x ≤ 20) (h : Up 0 l = true) : good x l = true := by
  unfold good
  simp [h0, h1, h]
theorem good_len {last : Int} {used : List Int} (hg : good last used = true) : used.length ≤ 20 := up_20 (good_parts hg).2.2
theorem up_without {l : List Int} (x : Int) (h : Up 0 l = true) : Up 0 (without l x) = true := up_filter _ _ _ h
theorem mem_without (l : List Int) (x y : Int) : y ∈ without l x ↔ y ∈ l ∧ y ≠ x := by unfold without; rw [List.mem_filter]; simp
theorem wsucc (i : Int) (n : Int) (h0 : 0 ≤ i) (h : i < n) (hn : n ≤ 1000) : wrap64 (i + 1) = i + 1 := by unfold wrap64; omega
theorem mn_ (a b : Int) : mn a b = if a ≤ b then a else b := by unfold mn; split <;> split <;> omega
theorem short_f (a : Int) (l : List Int) : wicketgatelaw10_short.f a l = some (a, l.take 22) := by
  unfold wicketgatelaw10_short.f
  simp only [Option.bind_some, List.length_nil, List.nil_append]
  rw [mn_]
  split
  · rename_i h
    rw [if_pos (by omega), if_pos (by omega), if_pos (by simp; omega)]
    congr 2
    rw [List.take_of_length_le (by simp), List.take_of_length_le (by omega)]
  · rw [if_pos (by omega), if_pos (by omega), if_pos (by simp; omega)]
    rfl
theorem take_f {last : Int} {used : List Int} (hl : used.length ≤ 30) : pids_Take.f last used = some (takeV last used) := by unfold pids_Take.f; rw [if_pos hl]
theorem free_f {last : Int} {used : List Int} (x : Int) (hl : used.length ≤ 30) : pids_Free.f last used x = some (freeV last used x) := by unfold pids_Free.f; rw [if_pos hl]
theorem chk_f {last : Int} {used : List Int} (hl : used.length ≤ 30) : pids_Check.f last used = some (cond (good last used) 0 200) := by unfold pids_Check.f; rw [if_pos hl]
theorem hs_f {last : Int} {used : List Int} (x : Int) (hl : used.length ≤ 30) : pids_Has.f last used x = some (decide (x ∈ used)) := by unfold pids_Has.f; rw [if_pos hl]
theorem takeV_some {last : Int} {used : List Int} (hg : good last used = true) {x : Int} (h : firstV last used = some x) : takeV last used = (x, withId used x, x, 0) := by unfold takeV takeR; rw [if_pos hg, h]
theorem takeV_none {last : Int} {used : List Int} (hg : good last used = true) (h : firstV last used = none) : takeV last used = (0, [], 0, 24) := by unfold takeV takeR; rw [if_pos hg, h]
end Go.Proofs.Ytclkphiabgajpaa.PC
