import Derived.Test.YtclkphiabgajpaaPCx4
import Derived.Test.YtclkphiabgajpaaM0
namespace Go.Proofs.Ytclkphiabgajpaa.PC
open Go.RowKit Go.Proofs.YtclkphiabgajpaaW.PrintWords Go.Proofs.YtclkphiabgajpaaW.PrintLast Go.Proofs.YtclkphiabgajpaaW.PrintMore
open Go.Proofs.Ytclkphiabgajpaa.TA
set_option linter.unusedVariables false
set_option linter.unusedSimpArgs false

theorem counts_l0 (ops : List Int) (d : Nat) : ∀ (k i : Nat) (last : Int) (used : List Int), i + d = 60 → d < k → good last used = true → wicketgatelaw10_PidsCounts.l0 k ops (ops.length : Int) (i : Int) last used = some true := by
  induction d with
  | zero =>
    intro k i last used hi hk hg
    obtain ⟨k, rfl⟩ : ∃ m, k = m + 1 := ⟨k - 1, by omega⟩
    rw [wicketgatelaw10_PidsCounts.l0]
    by_cases hlt : i < ops.length
    · rw [if_pos (by omega), if_pos (by omega), if_pos (by omega), if_pos (by omega)]
    · rw [if_neg (by omega)]
  | succ d ih =>
    intro k i last used hi hk hg
    obtain ⟨k, rfl⟩ : ∃ m, k = m + 1 := ⟨k - 1, by omega⟩
    obtain ⟨g0, g1, gu⟩ := good_parts hg
    have hl := good_len hg
    have hw : wrap64 ((i : Int) + 1) = ((i + 1 : Nat) : Int) := by unfold wrap64; omega
    simp only [wicketgatelaw10_PidsCounts.l0]
    by_cases hlt : i < ops.length
    · rw [if_pos (by omega), if_pos (by omega), if_pos (by omega), if_neg (by omega), hw]
      generalize rd ops (i : Int) = o
      by_cases ho : o = 0
      · rw [if_pos ho, take_f (by omega)]
        cases hv : firstV last used with
        | some x =>
          obtain ⟨hx0, hx1, hxn⟩ := first_free hv
          have hlen := ins_length used x gu hx0 hx1 hxn
          rw [takeV_some hg hv]
          simp only [Option.bind_some]
          rw [if_pos trivial, hs_f x (by omega), hs_f x (by omega)]
          simp only [Option.bind_some]
          rw [decide_eq_false hxn, decide_eq_true ((mem_withId used x x).2 ⟨⟨hx0, hx1⟩, .inl rfl⟩), if_neg (by simp), if_pos rfl, if_pos (by rw [hlen]; unfold wrap64; omega), chk_f (by omega), good_mk (by omega) hx1 (up_withId used x)]
          simp only [Option.bind_some, cond_true, if_true]
          exact ih k (i + 1) _ _ (by omega) (by omega) (good_mk (by omega) hx1 (up_withId used x))
        | none =>
          rw [takeV_none hg hv]
          simp only [Option.bind_some]
          rw [if_neg (by decide), if_pos trivial, if_pos (by have := full_len hg hv; omega)]
          exact ih k (i + 1) _ _ (by omega) (by omega) hg
      · rw [if_neg ho, free_f o (by omega)]
        unfold freeV slices_Contains_int_int.f
        rw [if_pos hg, if_pos (show used.length ≤ 30 by omega)]
        by_cases hx : o ∈ used
        · have hlen := del_length used o gu hx
          rw [if_pos hx]
          simp only [Option.bind_some]
          rw [if_neg (by simp [hx]), if_pos trivial, hs_f o (by omega)]
          simp only [Option.bind_some]
          rw [decide_eq_false (fun h => ((mem_without used o o).1 h).2 rfl), if_neg (by simp), if_pos (by rw [← hlen]; unfold wrap64; omega), chk_f (by omega), good_mk g0 g1 (up_without o gu)]
          simp only [Option.bind_some, cond_true, if_true]
          exact ih k (i + 1) _ _ (by omega) (by omega) (good_mk g0 g1 (up_without o gu))
        · rw [if_neg hx]
          simp only [Option.bind_some]
          rw [if_neg (by simp [hx]), if_neg (by decide)]
          exact ih k (i + 1) _ _ (by omega) (by omega) hg
    · rw [if_neg (by omega)]
theorem PidsCounts_p (a : Int) (l ops : List Int) : wicketgatelaw10_PidsCounts.f 100 a l ops = some true := by
  unfold wicketgatelaw10_PidsCounts.f
  rw [wicketgatelaw10_wakes.tt]
  simp only [Option.bind_some, if_true]
  rw [short_f]
  simp only [Option.bind_some]
  rw [chk_f (by simp; omega)]
  simp only [Option.bind_some]
  cases hg : good a (l.take 22)
  · rfl
  · simp only [cond_true, if_true]
    exact counts_l0 ops 60 100 0 a (l.take 22) (by omega) (by omega) hg
/-! ### PidsLate -/
theorem rot_all : (ids.all fun id => (List.range 20).all fun k => upto (idOf ((upto (idOf id) 20).getD k 0)) 20 == (upto (idOf id) 20).drop (k + 1) ++ (upto (idOf id) 20).take (k + 1)) = true := by decide +kernel
theorem last_all : (ids.all fun id => (upto (idOf id) 20).getD 19 0 == id) = true := by decide +kernel
theorem rot (id : Int) (hid : id ∈ ids) (k : Nat) (hk : k < 20) : upto (idOf ((upto (idOf id) 20).getD k 0)) 20 = (upto (idOf id) 20).drop (k + 1) ++ (upto (idOf id) 20).take (k + 1) := by
  have := List.all_eq_true.1 (List.all_eq_true.1 rot_all id hid) k (List.mem_range.2 hk)
  simpa using this
theorem S_last (id : Int) (hid : id ∈ ids) : (upto (idOf id) 20).getD 19 0 = id := by
  have := List.all_eq_true.1 last_all id hid
  simpa using this
theorem S_len (id : Int) : (upto (idOf id) 20).length = 20 := upto_length _ _
theorem S_all (id y : Int) (h0 : 1 ≤ y) (h1 : y ≤ 20) : y ∈ upto (idOf id) 20 := by
  unfold upto
  refine List.mem_map.2 ⟨((y - 1 - id) % 20).toNat, List.mem_range.2 (by omega), ?_⟩
  unfold idOf; omega
theorem S_ids (id y : Int) (h : y ∈ upto (idOf id) 20) : 1 ≤ y ∧ y ≤ 20 := by
  unfold upto at h
  obtain ⟨k, _, rfl⟩ := List.mem_map.1 h
  unfold idOf; omega
theorem find_split {p : Int → Bool} : ∀ {l : List Int} {y : Int}, l.find? p = some y → ∃ pre post, l = pre ++ y :: post ∧ (∀ z ∈ pre, p z = false) ∧ p y = true
  | [], _, h => by simp at h
  | x :: l, y, h => by
    rw [List.find?_cons] at h
    cases hp : p x with
    | true => rw [hp] at h; obtain rfl := Option.some.inj h; exact ⟨[], l, rfl, by simp, hp⟩
    | false =>
      rw [hp] at h
      obtain ⟨pre, post, e, h1, h2⟩ := find_split h
      exact ⟨x :: pre, post, by rw [e]; rfl, fun z hz => (List.mem_cons.1 hz).elim (fun q => q ▸ hp) (h1 z), h2⟩
/-- From the id that was freed on: m of the others have been gone over. -/
def Inv (id last : Int) (used : List Int) (m : Nat) : Prop := m ≤ 19 ∧ upto (idOf last) 20 = (upto (idOf id) 20).drop m ++ (upto (idOf id) 20).take m ∧ (∀ z ∈ (upto (idOf id) 20).take m, z ∈ used) ∧ id ∉ used
theorem inv_step {id last : Int} {used : List Int} {m : Nat} (hid : id ∈ ids) (h : Inv id last used m) (hg : good last used = true) :
    ∃ y, firstV last used = some y ∧ ((y = id ∧ used.length = 19) ∨ (y ≠ id ∧ used.length < 19 ∧ ∃ m', Inv id y (withId used y) m')) := by
  obtain ⟨hm, ho, ht, hn⟩ := h
  obtain ⟨g0, g1, gu⟩ := good_parts hg
  have hid' := (mem_ids id).1 hid
  have hS := S_len id
  have hidS : id ∈ (upto (idOf id) 20).drop m := by
    have e : (upto (idOf id) 20)[19]'(by omega) = id := by have := S_last id hid; rw [getD_get _ _ (by omega)] at this; exact this
    have h2 : ((upto (idOf id) 20).drop m)[19 - m]'(by simp [hS]; omega) = id := by
      rw [List.getElem_drop]
      refine Eq.trans ?_ e
      congr 1; omega
    have h3 := List.getElem_mem (l := (upto (idOf id) 20).drop m) (n := 19 - m) (by simp [hS]; omega)
    rw [h2] at h3
    exact h3
  unfold firstV
  rw [ho, List.find?_append]
  cases hf : ((upto (idOf id) 20).drop m).find? (fun x => !decide (x ∈ used)) with
  | none =>
    rw [List.find?_eq_none] at hf
    have := hf id hidS
    simp [hn] at this
  | some y =>
    refine ⟨y, rfl, ?_⟩
    obtain ⟨pre, post, e, hp1, hp2⟩ := find_split hf
    have hyn : y ∉ used := by simpa using hp2
    have hyS : y ∈ upto (idOf id) 20 := List.mem_of_mem_drop (by rw [e]; simp)
    have hy' := S_ids id y hyS
    have hle : pre.length + 1 ≤ 20 - m := by
      have := congrArg List.length e
      simp [hS] at this
      omega
    have htake : (upto (idOf id) 20).take (m + pre.length) = (upto (idOf id) 20).take m ++ pre := by
      rw [List.take_add, e]
      simp
    have htake1 : (upto (idOf id) 20).take (m + pre.length + 1) = (upto (idOf id) 20).take m ++ (pre ++ [y]) := by
      rw [Nat.add_assoc, List.take_add, e]
      rw [show pre ++ y :: post = (pre ++ [y]) ++ post by simp]
      rw [List.take_left' (by simp)]
    have hgetd : (upto (idOf id) 20).getD (m + pre.length) 0 = y := by
      rw [getD_get _ _ (by omega)]
      have h2 : ((upto (idOf id) 20).drop m)[pre.length]'(by simp [hS]; omega) = y := by simp [e]
      rw [List.getElem_drop] at h2
      exact h2
    have hused : ∀ z ∈ (upto (idOf id) 20).take (m + pre.length), z ∈ used := fun z hz => by
      rw [htake] at hz
      rcases List.mem_append.1 hz with hz | hz
      · exact ht z hz
      · simpa using hp1 z hz
    have hlen1 := ins_length used id gu hid'.1 hid'.2 hn
    by_cases hy : y = id
    · refine .inl ⟨hy, ?_⟩
      have hpos : m + pre.length = 19 := by
        have hi : idOf id (m + pre.length) = y := by
          rw [← hgetd, getD_get _ _ (by omega)]
          simp [upto]
        rw [hy] at hi
        unfold idOf at hi
        omega
      have hall : withId used id = ids := up_ext _ _ 0 (up_withId used id) up_ids (fun z => by
        rw [mem_withId, mem_ids]
        refine ⟨fun q => q.1, fun q => ⟨q, ?_⟩⟩
        have hz := S_all id z q.1 q.2
        rw [← List.take_append_drop 19 (upto (idOf id) 20)] at hz
        rcases List.mem_append.1 hz with hz | hz
        · exact .inr (hused z (by rw [hpos]; exact hz))
        · have hd : (upto (idOf id) 20).drop 19 = [id] := by
            rw [List.drop_eq_getElem_cons (by omega), List.drop_of_length_le (by omega)]
            congr 1
            have := S_last id hid
            rwa [getD_get _ _ (by omega)] at this
          rw [hd] at hz
          exact .inl (List.mem_singleton.1 hz))
      rw [hall] at hlen1
      have : ids.length = 20 := rfl
      omega
    · refine .inr ⟨hy, ?_, m + pre.length + 1, ?_, ?_, ?_, ?_⟩
      · have hyn2 : y ∉ withId used id := fun h => by
          rcases ((mem_withId used id y).1 h).2 with h | h
          · exact hy h
          · exact hyn h
        have hlen2 := ins_length (withId used id) y (up_withId used id) hy'.1 hy'.2 hyn2
        have := up_20 (up_withId (withId used id) y)
        omega
      · have : m + pre.length ≠ 19 := fun h => hy (by rw [← hgetd, h]; exact S_last id hid)
        omega
      · rw [← hgetd]; exact rot id hid _ (by omega)
      · intro z hz
        rw [htake1] at hz
        rw [mem_withId]
        have hzS : z ∈ upto (idOf id) 20 := by
          rcases List.mem_append.1 hz with q | q
          · exact List.mem_of_mem_take q
          · exact List.mem_of_mem_drop (by rw [e, show pre ++ y :: post = (pre ++ [y]) ++ post by simp]; exact List.mem_append_left _ q)
        refine ⟨S_ids id z hzS, ?_⟩
        rcases List.mem_append.1 hz with q | q
        · exact .inr (ht z q)
        · rcases List.mem_append.1 q with q | q
          · exact .inr (by simpa using hp1 z q)
          · exact .inl (List.mem_singleton.1 q)
      · intro h
        rcases ((mem_withId used y id).1 h).2 with h | h
        · exact hy h.symm
        · exact hn h

theorem withId_ids {used : List Int} (hu : Up 0 used = true) (h : used.length = 20) (last : Int) : firstV last used = none := by
  unfold firstV
  rw [List.find?_eq_none]
  intro y hy
  have hy' := S_ids last y hy
  by_cases hm : y ∈ used
  · simp [hm]
  · have h1 := ins_length used y hu hy'.1 hy'.2 hm
    have h2 := up_20 (up_withId used y)
    omega
theorem late_l0 (id : Int) (hid : id ∈ ids) (d : Nat) : ∀ (k c : Nat) (last : Int) (used : List Int), c + d = 20 → d < k → used.length = c → good last used = true → (c < 20 → ∃ m, Inv id last used m) → wicketgatelaw10_PidsLate.l0 k id (c : Int) last used = some true := by
  induction d with
  | zero =>
    intro k c last used hc hk hl hg _
    obtain ⟨k, rfl⟩ : ∃ m, k = m + 1 := ⟨k - 1, by omega⟩
    obtain rfl : c = 20 := by omega
    simp only [wicketgatelaw10_PidsLate.l0]
    rw [if_neg (by omega), take_f (by omega), takeV_none hg (withId_ids (good_parts hg).2.2 hl last)]
    rfl
  | succ d ih =>
    intro k c last used hc hk hl hg hI
    obtain ⟨k, rfl⟩ : ∃ m, k = m + 1 := ⟨k - 1, by omega⟩
    obtain ⟨m, hI⟩ := hI (by omega)
    obtain ⟨y, hv, hcase⟩ := inv_step hid hI hg
    obtain ⟨hy0, hy1, hyn⟩ := first_free hv
    have hlen := ins_length used y (good_parts hg).2.2 hy0 hy1 hyn
    have hw : wrap64 ((c : Int) + 1) = ((c + 1 : Nat) : Int) := by unfold wrap64; omega
    simp only [wicketgatelaw10_PidsLate.l0]
    rw [if_pos (by omega), take_f (by omega), takeV_some hg hv]
    simp only [Option.bind_some, if_true]
    have hg' : good y (withId used y) = true := good_mk (by omega) hy1 (up_withId used y)
    rcases hcase with ⟨e, h19⟩ | ⟨e, h19, m', hI'⟩
    · have e1 : (y == id) = true := by simp [e]
      have e2 : ((c : Int) == 19) = true := by simp; omega
      rw [e1, e2, if_neg (by decide), hw]
      exact ih k (c + 1) y _ (by omega) (by omega) (by omega) hg' (fun h => by omega)
    · have e1 : (y == id) = false := by simp [e]
      have e2 : ((c : Int) == 19) = false := by simp; omega
      rw [e1, e2, if_neg (by decide), hw]
      exact ih k (c + 1) y _ (by omega) (by omega) (by omega) hg' (fun _ => ⟨m', hI'⟩)
theorem PidsLate_p (a : Int) (l : List Int) : wicketgatelaw10_PidsLate.f 100 a l = some true := by
  unfold wicketgatelaw10_PidsLate.f
  rw [wicketgatelaw10_wakes.tt]
  simp only [Option.bind_some, if_true]
  rw [short_f]
  simp only [Option.bind_some]
  generalize hu : l.take 22 = used
  have hl : used.length ≤ 22 := by rw [← hu]; simp; omega
  clear hu
  rw [chk_f (by omega)]
  simp only [Option.bind_some]
  cases hg : good a used
  · simp only [cond_false]
    rw [if_neg (by decide)]
    simp only [wicketgatelaw10_PidsLate.j0, if_true]
  · simp only [cond_true, if_true, wicketgatelaw10_PidsLate.j0]
    obtain ⟨g0, g1, gu⟩ := good_parts hg
    by_cases h20 : used.length = 20
    · have : ((used.length : Int) == 20) = true := by simp; omega
      rw [this, if_pos rfl]
    · have : ((used.length : Int) == 20) = false := by simp; omega
      rw [this, if_neg (by simp), take_f (by omega)]
      cases hv : firstV a used with
      | none => exact absurd (full_len hg hv) h20
      | some x =>
        obtain ⟨hx0, hx1, hxn⟩ := first_free hv
        have hlen := ins_length used x gu hx0 hx1 hxn
        have hg' : good x (withId used x) = true := good_mk (by omega) hx1 (up_withId used x)
        have hback : without (withId used x) x = used := up_ext _ _ 0 (up_without x (up_withId used x)) gu (fun z => by
          rw [mem_without, mem_withId]
          constructor
          · rintro ⟨⟨_, q⟩, hz⟩
            exact q.resolve_left hz
          · intro q
            have := up_lt used 0 gu z q
            exact ⟨⟨by omega, .inr q⟩, fun e => hxn (e ▸ q)⟩)
        rw [takeV_some hg hv]
        simp only [Option.bind_some, if_true]
        rw [free_f x (by omega)]
        unfold freeV
        rw [if_pos hg', if_pos ((mem_withId used x x).2 ⟨⟨hx0, hx1⟩, .inl rfl⟩), hback]
        simp only [Option.bind_some, if_true]
        have := good_len hg
        have hid : x ∈ ids := (mem_ids x).2 ⟨hx0, hx1⟩
        have hr := rot x hid 19 (by omega)
        rw [S_last x hid] at hr
        refine late_l0 x hid (20 - used.length) 99 used.length x used (by omega) (by omega) rfl (good_mk (by omega) hx1 gu) (fun _ => ⟨0, by omega, by simp, by simp, hxn⟩)
end Go.Proofs.Ytclkphiabgajpaa.PC
