import Derived.Test.YtcpabgijmknldaaDoorRJ
import Derived.Test.YtcpabgijmknldaaDoorPSx4
import Derived.Test.YtcpabgijmknldaaDoorPSx5
import Derived.Test.YtcpabgijmknldaaDoorPSx6
namespace Go.Proofs.YtcpabgijmknldaaDoor.PS
open Go.RowKit Go.Proofs.YtcpabgijmknldaaDoorW.PrintWords Go.Proofs.YtcpabgijmknldaaDoorW.PrintLast Go.Proofs.YtcpabgijmknldaaDoorW.PrintMore
open Go.Proofs.YtcpabgijmknldaaDoor.PE.L (Ef OfV OfE effV)
open Go.Proofs.YtcpabgijmknldaaDoor.RG (sinceB upto upto_length backAt takeWhile_all)
set_option linter.unusedVariables false
set_option linter.unusedSimpArgs false
theorem u64_id {n : Int} (h0 : 0 ≤ n) (h1 : n < 18446744073709551616) : IntKind.u64.wrap n = n := by
  simp [IntKind.wrap, IntKind.bits, IntKind.signed]; omega
theorem w64_id {n : Int} (h0 : -9223372036854775808 ≤ n) (h1 : n < 9223372036854775808) : wrap64 n = n := by unfold wrap64; omega
theorem of_f (a d : Int) (tr li : Bool) (h0 : 0 ≤ d) (h1 : d ≤ 65535) : effect_Of.f a d tr li = some ((OfV a d tr li).en, (OfV a d tr li).ru, (OfV a d tr li).re, (OfV a d tr li).si, (OfV a d tr li).co, (OfV a d tr li).lo, (OfV a d tr li).as_, OfE a) := by
  unfold effect_Of.f; rw [if_pos ⟨h0, h1⟩]
theorem refof_f (a d : Int) (tr li : Bool) (h0 : 0 ≤ d) (h1 : d ≤ 65535) : wicketgateref21_Of.f a d tr li = some ((OfV a d tr li).en, (OfV a d tr li).ru, (OfV a d tr li).re, (OfV a d tr li).si, (OfV a d tr li).co, (OfV a d tr li).lo, (OfV a d tr li).as_, OfE a) := by
  unfold wicketgateref21_Of.f; rw [if_pos ⟨h0, h1⟩]
/-- May the verdict's effect be logged? -/
def lo (a d : Int) : Bool := (OfV a d false false).lo
theorem logged_f (a d : Int) (h0 : 0 ≤ d) (h1 : d ≤ 65535) : log_logged.f a d = some (lo a d, OfE a) := by
  unfold log_logged.f lo
  rw [of_f a d false false h0 h1]
  simp
theorem thread_f (n : Int) : log_thread.f n = some (decide (1 ≤ n) && decide (n ≤ 20)) := by
  unfold log_thread.f
  by_cases h : n ≥ 1
  · have : 1 ≤ n := h
    rw [if_pos h]; simp [this]
  · have : ¬ 1 ≤ n := h
    rw [if_neg h]; simp [this]
/-- The data of lines are within their kind. -/
def Dat (l : List S31) : Prop := ∀ x ∈ l, 0 ≤ x.f4.f1 ∧ x.f4.f1 ≤ 65535
theorem Dat.at {l : List S31} (h : Dat l) {i : Nat} (hi : i < l.length) : 0 ≤ (rd_T31 l i).f4.f1 ∧ (rd_T31 l i).f4.f1 ≤ 65535 := by
  have : rd_T31 l i = l[i] := by unfold rd_T31; simp [hi]
  rw [this]
  exact h _ (List.getElem_mem hi)
/-- May line i of l be, where the next number is nx? -/
def lineOk (nx : Int) (l : List S31) (i : Nat) : Prop :=
  lo (rd_T31 l i).f4.f0 (rd_T31 l i).f4.f1 = true ∧ OfE (rd_T31 l i).f4.f0 = 0 ∧ (rd_T31 l i).f0 = nx - ((l.length : Int) - i) ∧ 1 ≤ (rd_T31 l i).f1 ∧ (rd_T31 l i).f1 ≤ 20
instance (nx : Int) (l : List S31) (i : Nat) : Decidable (lineOk nx l i) := by unfold lineOk; infer_instance
/-- May a ring be? -/
def Rok (room nx : Int) (l : List S31) : Prop :=
  1 ≤ room ∧ room ≤ 32 ∧ 1 ≤ nx ∧ nx ≤ 4611686018427387904 ∧ (l.length : Int) ≤ room ∧ (l.length : Int) ≤ nx - 1 ∧ ((l.length : Int) = room ∨ (l.length : Int) = nx - 1) ∧ ∀ i : Nat, i < l.length → lineOk nx l i
instance (room nx : Int) (l : List S31) : Decidable (Rok room nx l) := by unfold Rok; infer_instance
theorem check_loop (nx : Int) (l : List S31) (hd : Dat l) (h0 : 1 ≤ nx) (h1 : nx ≤ 4611686018427387904) (hl : (l.length : Int) ≤ nx - 1) (hl2 : (l.length : Int) ≤ 32) :
    ∀ (d i k : Nat), i + d = l.length → d < k → log_Check.l0 k (nx - l.length) l (l.length : Int) i = some (if ∀ j : Nat, j < l.length → i ≤ j → lineOk nx l j then 0 else 370) := by
  intro d
  induction d with
  | zero =>
    intro i k hi hk
    obtain ⟨k, rfl⟩ : ∃ m, k = m + 1 := ⟨k - 1, by omega⟩
    simp only [log_Check.l0]
    rw [if_neg (by omega), if_pos (by intro j h1 h2; omega)]
  | succ d ih =>
    intro i k hi hk
    obtain ⟨k, rfl⟩ : ∃ m, k = m + 1 := ⟨k - 1, by omega⟩
    have hi' : i < l.length := by omega
    obtain ⟨hd0, hd1⟩ := hd.at hi'
    simp only [log_Check.l0]
    rw [if_pos (by omega), if_pos (by omega), if_pos (by omega), logged_f _ _ hd0 hd1, thread_f]
    simp only [Option.bind_some]
    have hw : IntKind.u64.wrap (nx - l.length + IntKind.u64.wrap (i : Int)) = nx - ((l.length : Int) - i) := by
      rw [u64_id (n := (i : Int)) (by omega) (by omega), u64_id (by omega) (by omega)]
      omega
    have hw2 : wrap64 ((i : Int) + 1) = ((i + 1 : Nat) : Int) := by rw [w64_id (by omega) (by omega)]; omega
    rw [hw, hw2, ih (i + 1) k (by omega) (by omega)]
    by_cases hk1 : lineOk nx l i
    · obtain ⟨q1, q2, q3, q4, q5⟩ := hk1
      rw [if_pos q1, if_pos q2, if_pos q3]
      simp only [q4, q5, decide_true, Bool.and_self, if_true]
      congr 1
      by_cases hr : ∀ j : Nat, j < l.length → i + 1 ≤ j → lineOk nx l j
      · rw [if_pos hr, if_pos]
        intro j h2 h1
        rcases Nat.lt_or_ge i j with h | h
        · exact hr j h2 h
        · obtain rfl : j = i := by omega
          exact ⟨q1, q2, q3, q4, q5⟩
      · rw [if_neg hr, if_neg]
        intro h
        exact hr fun j h2 h1 => h j h2 (by omega)
    · rw [if_neg (c := ∀ j : Nat, j < l.length → i ≤ j → lineOk nx l j) (fun h => hk1 (h i hi' (Nat.le_refl _)))]
      unfold lineOk at hk1
      by_cases q1 : lo (rd_T31 l i).f4.f0 (rd_T31 l i).f4.f1 = true
      · rw [if_pos q1]
        by_cases q2 : OfE (rd_T31 l i).f4.f0 = 0
        · rw [if_pos q2]
          by_cases q3 : (rd_T31 l i).f0 = nx - ((l.length : Int) - i)
          · rw [if_pos q3]
            have : (decide (1 ≤ (rd_T31 l (i : Int)).f1) && decide ((rd_T31 l (i : Int)).f1 ≤ 20)) = false := by
              rw [Bool.and_eq_false_iff]
              by_cases q4 : 1 ≤ (rd_T31 l (i : Int)).f1
              · right; exact decide_eq_false (fun q5 => hk1 ⟨q1, q2, q3, q4, q5⟩)
              · left; exact decide_eq_false q4
            simp [this]
          · rw [if_neg q3]
        · rw [if_neg q2]
      · rw [if_neg q1]
theorem mn_ (a b : Int) : mn a b = if a ≤ b then a else b := by unfold mn; split <;> split <;> omega
theorem check_f (k : Nat) (room nx : Int) (l : List S31) (hd : Dat l) (hr : -9223372036854775808 ≤ room ∧ room ≤ 9223372036854775807) (hn : 0 ≤ nx ∧ nx ≤ 18446744073709551615) (hl : l.length ≤ 100000) (hk : l.length + 3 < k) :
    log_Check.f k room nx l = some (if Rok room nx l then 0 else 370) := by
  obtain ⟨k, rfl⟩ : ∃ m, k = m + 1 := ⟨k - 1, by omega⟩
  have bad : ∀ h : ¬ Rok room nx l, log_Check.j0 (k + 1) true room nx l = some (if Rok room nx l then 0 else 370) := fun h => by
    simp only [log_Check.j0]; rw [if_neg h]; rfl
  unfold log_Check.f
  by_cases c1 : room < 1
  · rw [if_pos c1]; exact bad (fun h => by have := h.1; omega)
  rw [if_neg c1]
  by_cases c2 : room > 32
  · rw [if_pos c2]; exact bad (fun h => by have := h.2.1; omega)
  rw [if_neg c2]
  by_cases c3 : nx < 1
  · rw [if_pos c3]; exact bad (fun h => by have := h.2.2.1; omega)
  rw [if_neg c3]
  by_cases c4 : nx > 4611686018427387904
  · rw [if_pos c4]; exact bad (fun h => by have := h.2.2.2.1; omega)
  rw [if_neg c4, u64_id (n := (l.length : Int)) (by omega) (by omega), u64_id (n := nx - 1) (by omega) (by omega), u64_id (n := room) (by omega) (by omega), mn_]
  by_cases c5 : (l.length : Int) = if nx - 1 ≤ room then nx - 1 else room
  · have h5 : ((l.length : Int) != if nx - 1 ≤ room then nx - 1 else room) = false := by simpa using c5
    have hl1 : (l.length : Int) ≤ nx - 1 ∧ (l.length : Int) ≤ room ∧ ((l.length : Int) = room ∨ (l.length : Int) = nx - 1) := by
      split at c5 <;> omega
    rw [h5]
    simp only [log_Check.j0]
    rw [u64_id (n := (l.length : Int)) (by omega) (by omega), u64_id (n := nx - l.length) (by omega) (by omega)]
    have := check_loop nx l hd (by omega) (by omega) (by omega) (by omega) l.length 0 k (by omega) (by omega)
    simp only [Bool.false_eq_true, if_false]
    refine this.trans ?_
    congr 1
    by_cases hq : Rok room nx l
    · rw [if_pos hq, if_pos (fun j hj _ => hq.2.2.2.2.2.2.2 j hj)]
    · rw [if_neg hq, if_neg]
      intro h
      exact hq ⟨by omega, by omega, by omega, by omega, hl1.2.1, hl1.1, hl1.2.2, fun j hj => h j hj (Nat.zero_le _)⟩
  · have h5 : ((l.length : Int) != if nx - 1 ≤ room then nx - 1 else room) = true := by simpa using c5
    rw [h5]
    exact bad (fun h => c5 (by obtain ⟨_, _, _, _, h1, h2, h3, _⟩ := h; split <;> omega))
theorem right_loop (room nx : Int) (l : List S31) (hd : Dat l) (h0 : 1 ≤ nx) (h1 : nx ≤ 4611686018427387904) (hl : (l.length : Int) ≤ nx - 1) (hl2 : (l.length : Int) ≤ 32) :
    ∀ (d i k : Nat), i + d = l.length → d < k → wicketgateref27_Right.l0 k (l.length : Int) i room nx l = some (decide (∀ j : Nat, j < l.length → i ≤ j → lineOk nx l j)) := by
  intro d
  induction d with
  | zero =>
    intro i k hi hk
    obtain ⟨k, rfl⟩ : ∃ m, k = m + 1 := ⟨k - 1, by omega⟩
    simp only [wicketgateref27_Right.l0]
    rw [if_neg (by omega), decide_eq_true]
    intro j h1 h2; omega
  | succ d ih =>
    intro i k hi hk
    obtain ⟨k, rfl⟩ : ∃ m, k = m + 1 := ⟨k - 1, by omega⟩
    have hi' : i < l.length := by omega
    obtain ⟨hd0, hd1⟩ := hd.at hi'
    simp only [wicketgateref27_Right.l0]
    rw [if_pos (by omega), if_pos (by omega), if_pos (by omega), refof_f _ _ _ _ hd0 hd1]
    simp only [Option.bind_some]
    have hw : IntKind.u64.wrap (nx - IntKind.u64.wrap (wrap64 ((l.length : Int) - (i : Int)))) = nx - ((l.length : Int) - i) := by
      rw [w64_id (by omega) (by omega), u64_id (n := (l.length : Int) - i) (by omega) (by omega), u64_id (by omega) (by omega)]
    have hw2 : wrap64 ((i : Int) + 1) = ((i + 1 : Nat) : Int) := by rw [w64_id (by omega) (by omega)]; omega
    rw [hw, hw2, ih (i + 1) k (by omega) (by omega)]
    by_cases hk1 : lineOk nx l i
    · have hk2 := hk1
      obtain ⟨q1, q2, q3, q4, q5⟩ := hk1
      unfold lo at q1
      rw [if_pos q2, if_pos q1, if_neg (by omega), if_neg (by omega), if_pos q3]
      congr 1
      rw [decide_eq_decide]
      constructor
      · intro hr j h2 h1
        rcases Nat.lt_or_ge i j with h | h
        · exact hr j h2 h
        · obtain rfl : j = i := by omega
          exact hk2
      · intro h j h2 h1
        exact h j h2 (by omega)
    · rw [decide_eq_false (p := ∀ j : Nat, j < l.length → i ≤ j → lineOk nx l j) (fun h => hk1 (h i hi' (Nat.le_refl _)))]
      unfold lineOk lo at hk1
      by_cases q2 : OfE (rd_T31 l i).f4.f0 = 0
      · rw [if_pos q2]
        by_cases q1 : (OfV (rd_T31 l i).f4.f0 (rd_T31 l i).f4.f1 false false).lo = true
        · rw [if_pos q1]
          by_cases q4 : (rd_T31 l (i : Int)).f1 < 1
          · rw [if_pos q4]
          · rw [if_neg q4]
            by_cases q5 : (rd_T31 l (i : Int)).f1 > 20
            · rw [if_pos q5]
            · rw [if_neg q5, if_neg (fun q3 => hk1 ⟨q1, q2, q3, by omega, by omega⟩)]
        · rw [if_neg q1]
      · rw [if_neg q2]
theorem right_f (k : Nat) (room nx : Int) (l : List S31) (hd : Dat l) (hr : -9223372036854775808 ≤ room ∧ room ≤ 9223372036854775807) (hn : 0 ≤ nx ∧ nx ≤ 18446744073709551615) (hl : l.length ≤ 100000) (hk : l.length + 4 < k) :
    wicketgateref27_Right.f k room nx l = some (decide (Rok room nx l)) := by
  obtain ⟨k, rfl⟩ : ∃ m, k = m + 1 + 1 := ⟨k - 2, by omega⟩
  have bad : ∀ h : ¬ Rok room nx l, wicketgateref27_Right.j0 (k + 1 + 1) true room nx l = some (decide (Rok room nx l)) := fun h => by
    simp only [wicketgateref27_Right.j0]; rw [decide_eq_false h]; rfl
  unfold wicketgateref27_Right.f
  by_cases c1 : room < 1
  · rw [if_pos c1]; exact bad (fun h => by have := h.1; omega)
  rw [if_neg c1]
  by_cases c2 : room > 32
  · rw [if_pos c2]; exact bad (fun h => by have := h.2.1; omega)
  rw [if_neg c2]
  by_cases c3 : nx < 1
  · rw [if_pos c3]; exact bad (fun h => by have := h.2.2.1; omega)
  rw [if_neg c3]
  by_cases c4 : nx > 4611686018427387904
  · rw [decide_eq_true c4]; exact bad (fun h => by have := h.2.2.2.1; omega)
  rw [decide_eq_false c4]
  simp only [wicketgateref27_Right.j0]
  simp only [Bool.false_eq_true, if_false]
  have fin : ∀ m : Int, ((l.length : Int) = m ↔ ((l.length : Int) ≤ room ∧ (l.length : Int) ≤ nx - 1 ∧ ((l.length : Int) = room ∨ (l.length : Int) = nx - 1))) → wicketgateref27_Right.j1 (k + 1) m room nx l = some (decide (Rok room nx l)) := by
    intro m hm
    simp only [wicketgateref27_Right.j1]
    by_cases c5 : (l.length : Int) = m
    · rw [if_pos c5, ← c5]
      obtain ⟨e1, e2, e3⟩ := hm.1 c5
      have := right_loop room nx l hd (by omega) (by omega) (by omega) (by omega) l.length 0 k (by omega) (by omega)
      refine this.trans ?_
      congr 1
      rw [decide_eq_decide]
      constructor
      · intro h
        exact ⟨by omega, by omega, by omega, by omega, e1, e2, e3, fun j hj => h j hj (Nat.zero_le _)⟩
      · intro h j hj _
        exact h.2.2.2.2.2.2.2 j hj
    · rw [if_neg c5, decide_eq_false]
      intro h
      obtain ⟨_, _, _, _, e1, e2, e3, _⟩ := h
      exact c5 (hm.2 ⟨e1, e2, e3⟩)
  rw [u64_id (n := nx - 1) (by omega) (by omega), u64_id (n := room) (by omega) (by omega)]
  by_cases c6 : nx - 1 < room
  · rw [if_pos c6, w64_id (by omega) (by omega)]
    exact fin _ (by omega)
  · rw [if_neg c6]
    exact fin _ (by omega)
theorem rd_at {l : List S31} {i : Nat} (hi : i < l.length) : rd_T31 l (i : Int) = l[i] := by unfold rd_T31; simp [hi]
theorem same_loop (l : List S31) (hl : l.length ≤ 50000) : ∀ (d i k : Nat), i + d = l.length → d < k → wicketgateref27_SameLines.l0 k l l i = some true := by
  intro d
  induction d with
  | zero =>
    intro i k hi hk
    obtain ⟨k, rfl⟩ : ∃ m, k = m + 1 := ⟨k - 1, by omega⟩
    simp only [wicketgateref27_SameLines.l0]
    rw [if_neg (by omega)]
  | succ d ih =>
    intro i k hi hk
    obtain ⟨k, rfl⟩ : ∃ m, k = m + 1 := ⟨k - 1, by omega⟩
    simp only [wicketgateref27_SameLines.l0]
    have hw2 : wrap64 ((i : Int) + 1) = ((i + 1 : Nat) : Int) := by rw [w64_id (by omega) (by omega)]; omega
    rw [if_pos (by omega), if_pos (by omega), if_pos (by omega), hw2, ih (i + 1) k (by omega) (by omega)]
    simp
theorem copied_f (room nx : Int) (l : List S31) (hl : l.length ≤ 50000) : wicketgatelaw27_copied.f room nx l = some (room, nx, l) := by
  unfold wicketgatelaw27_copied.f
  simp only [Option.bind_some, List.length_nil, List.nil_append]
  rw [if_pos (by omega)]

theorem eta31 (x : S31) : (⟨x.f0, x.f1, x.f2, x.f3, (⟨x.f4.f0, x.f4.f1⟩ : S29)⟩ : S31) = x := rfl
theorem dropped2_f (k : Nat) (room nx : Int) (l : List S31) (hd : Dat l) (hr : -9223372036854775808 ≤ room ∧ room ≤ 9223372036854775807) (hn : 0 ≤ nx ∧ nx ≤ 18446744073709551615) (hl : l.length ≤ 1000) (hk : l.length + 3 < k) :
    log_Dropped.f k room nx l = some (if Rok room nx l then (nx - 1 - l.length, 0) else (0, 370)) := by
  unfold log_Dropped.f
  rw [check_f k room nx l hd hr hn (by omega) hk]
  simp only [Option.bind_some]
  by_cases hR : Rok room nx l
  · rw [if_pos hR, if_pos rfl, if_pos hR]
    obtain ⟨r1, r2, r3, r4, r5, r6, _⟩ := hR
    rw [u64_id (n := nx - 1) (by omega) (by omega), u64_id (n := (l.length : Int)) (by omega) (by omega), u64_id (by omega) (by omega)]
  · rw [if_neg hR, if_neg (by decide), if_neg hR]
/-- A thread's own lines. -/
def ownL (tid : Int) (l : List S31) : List S31 := l.filter (fun x => decide (x.f1 = tid))
/-- The lines from a number on. -/
def fromL (num : Int) (l : List S31) : List S31 := l.filter (fun x => decide (num ≤ x.f0))
theorem of_loop (tid : Int) (l : List S31) (hl : l.length ≤ 1000) : ∀ (d i k : Nat) (acc : List S31), i + d = l.length → d < k → acc.length ≤ i → log_Of.l0 k tid acc l (l.length : Int) i = some (acc ++ ownL tid (l.drop i), 0) := by
  intro d
  induction d with
  | zero =>
    intro i k acc hi hk ha
    obtain ⟨k, rfl⟩ : ∃ m, k = m + 1 := ⟨k - 1, by omega⟩
    simp only [log_Of.l0]
    rw [if_neg (by omega), List.drop_eq_nil_of_le (by omega)]
    simp [ownL]
  | succ d ih =>
    intro i k acc hi hk ha
    obtain ⟨k, rfl⟩ : ∃ m, k = m + 1 := ⟨k - 1, by omega⟩
    simp only [log_Of.l0]
    have hil : i < l.length := by omega
    have hw2 : wrap64 ((i : Int) + 1) = ((i + 1 : Nat) : Int) := by rw [w64_id (by omega) (by omega)]; omega
    rw [if_pos (by omega), if_pos (by omega), if_pos (by omega), rd_at hil, hw2, List.drop_eq_getElem_cons hil]
    simp only [eta31]
    by_cases h : (l[i]).f1 = tid
    · rw [if_pos h, if_pos (by omega), ih (i + 1) k _ (by omega) (by omega) (by simp; omega)]
      rw [show ownL tid (l[i] :: l.drop (i + 1)) = l[i] :: ownL tid (l.drop (i + 1)) from List.filter_cons_of_pos (by simpa using h)]
      simp
    · rw [if_neg h, ih (i + 1) k _ (by omega) (by omega) (by omega)]
      rw [show ownL tid (l[i] :: l.drop (i + 1)) = ownL tid (l.drop (i + 1)) from List.filter_cons_of_neg (by simpa using h)]
theorem of2_f (k : Nat) (room nx : Int) (l : List S31) (tid : Int) (hd : Dat l) (hr : -9223372036854775808 ≤ room ∧ room ≤ 9223372036854775807) (hn : 0 ≤ nx ∧ nx ≤ 18446744073709551615) (hl : l.length ≤ 1000) (hk : l.length + 3 < k) :
    log_Of.f k room nx l tid = some (if Rok room nx l then (ownL tid l, 0) else ([], 370)) := by
  unfold log_Of.f
  rw [check_f k room nx l hd hr hn (by omega) hk]
  simp only [Option.bind_some]
  by_cases hR : Rok room nx l
  · rw [if_pos hR, if_pos rfl, if_pos hR]
    have := of_loop tid l hl l.length 0 k [] (by omega) (by omega) (by simp)
    simpa using this
  · rw [if_neg hR, if_neg (by decide), if_neg hR]
theorem rev_loop (l : List S31) (hl : l.length ≤ 1000) : ∀ (d i k : Nat) (x : List S31), i + d = l.length → d < k → x.length = l.length → (∀ j, j < l.length → x[j]? = if j < i ∨ l.length < j + 1 + i then l[l.length - 1 - j]? else l[j]?) → api_Line_37.l0 k x (i : Int) ((l.length : Int) - 1 - i) = some l.reverse := by
  intro d
  induction d with
  | zero =>
    intro i k x hi hk hx h
    obtain ⟨k, rfl⟩ : ∃ m, k = m + 1 := ⟨k - 1, by omega⟩
    simp only [api_Line_37.l0]
    rw [if_neg (by omega)]
    refine congrArg some (List.ext_getElem? fun j => ?_)
    by_cases hj : j < l.length
    · rw [h j hj, List.getElem?_reverse hj, if_pos (by omega)]
    · rw [List.getElem?_eq_none (by omega), List.getElem?_eq_none (by simp; omega)]
  | succ d ih =>
    intro i k x hi hk hx h
    obtain ⟨k, rfl⟩ : ∃ m, k = m + 1 := ⟨k - 1, by omega⟩
    simp only [api_Line_37.l0]
    by_cases hlt : (i : Int) < (l.length : Int) - 1 - i
    · obtain ⟨p, hp⟩ : ∃ p : Nat, p = l.length - 1 - i := ⟨_, rfl⟩
      have hpe : (l.length : Int) - 1 - i = (p : Int) := by omega
      have hw2 : wrap64 ((i : Int) + 1) = ((i + 1 : Nat) : Int) := by rw [w64_id (by omega) (by omega)]; omega
      have hw3 : wrap64 ((p : Int) - 1) = (l.length : Int) - 1 - ((i + 1 : Nat) : Int) := by rw [w64_id (by omega) (by omega)]; omega
      rw [if_pos hlt, hpe, if_pos (by omega), if_pos (by omega), if_pos (by omega), if_pos (by omega), hw2, hw3]
      simp only [eta31, Int.toNat_natCast]
      have hix : i < x.length := by omega
      have hpx : p < x.length := by omega
      rw [rd_at hix, rd_at hpx]
      refine ih (i + 1) k _ (by omega) (by omega) (by simp [hx]) fun j hj => ?_
      have ei := h i (by omega)
      have ep := h p (by omega)
      rw [if_neg (by omega)] at ei ep
      rw [List.getElem?_set, List.getElem?_set, List.length_set]
      by_cases h1 : p = j
      · rw [if_pos h1, if_pos hpx, if_pos (by omega), ← List.getElem?_eq_getElem hix, ei]
        congr 1; omega
      · rw [if_neg h1]
        by_cases h2 : i = j
        · rw [if_pos h2, if_pos hix, if_pos (by omega), ← List.getElem?_eq_getElem hpx, ep]
          congr 1; omega
        · rw [if_neg h2, h j hj]
          by_cases h3 : j < i ∨ l.length < j + 1 + i
          · rw [if_pos h3, if_pos (by omega)]
          · rw [if_neg h3, if_neg (by omega)]
    · rw [if_neg hlt]
      refine congrArg some (List.ext_getElem? fun j => ?_)
      by_cases hj : j < l.length
      · rw [h j hj, List.getElem?_reverse hj]
        by_cases h3 : j < i ∨ l.length < j + 1 + i
        · rw [if_pos h3]
        · rw [if_neg h3]; congr 1; omega
      · rw [List.getElem?_eq_none (by omega), List.getElem?_eq_none (by simp; omega)]
theorem reverse_f (k : Nat) (l : List S31) (hl : l.length ≤ 1000) (hk : l.length < k) : api_Line_37.f k l = some l.reverse := by
  unfold api_Line_37.f
  have h := rev_loop l hl l.length 0 k l (by omega) hk rfl (fun j hj => by rw [if_neg (by omega)])
  rw [w64_id (by omega) (by omega)]
  simpa using h
/-- How many lines of a number or a later one are gone, where g are gone in all. -/
def goneR (g num : Int) : Int := if num = 0 then g else if g < num then 0 else g - num + 1
theorem rsince_loop (num room nx : Int) (l : List S31) (hl : l.length ≤ 1000) (h0 : 0 ≤ num) (hR : 1 ≤ nx ∧ nx ≤ 4611686018427387904 ∧ (l.length : Int) ≤ nx - 1) : ∀ (d i k : Nat) (acc : List S31), i + d = l.length → d < k → acc.length ≤ i → wicketgateref27_Since.l0 k num acc i room nx l = some (acc ++ fromL num (l.drop i), goneR (nx - 1 - l.length) num) := by
  intro d
  induction d with
  | zero =>
    intro i k acc hi hk ha
    obtain ⟨k, rfl⟩ : ∃ m, k = m + 1 := ⟨k - 1, by omega⟩
    simp only [wicketgateref27_Since.l0]
    rw [if_neg (by omega), List.drop_eq_nil_of_le (by omega), u64_id (n := nx - 1) (by omega) (by omega), u64_id (n := (l.length : Int)) (by omega) (by omega), u64_id (n := nx - 1 - l.length) (by omega) (by omega)]
    unfold goneR
    simp only [fromL, List.filter_nil, List.append_nil]
    by_cases h1 : num = 0
    · rw [if_pos h1, if_pos h1]
      by_cases h2 : (1 : Int) > nx - 1 - l.length
      · rw [if_pos h2]; congr 2; omega
      · rw [if_neg h2, u64_id (n := nx - 1 - l.length - 1) (by omega) (by omega), u64_id (by omega) (by omega)]; congr 2; omega
    · rw [if_neg h1, if_neg h1]
      by_cases h2 : num > nx - 1 - l.length
      · rw [if_pos h2, if_pos h2]
      · rw [if_neg h2, if_neg h2, u64_id (n := nx - 1 - l.length - num) (by omega) (by omega), u64_id (by omega) (by omega)]
  | succ d ih =>
    intro i k acc hi hk ha
    obtain ⟨k, rfl⟩ : ∃ m, k = m + 1 := ⟨k - 1, by omega⟩
    simp only [wicketgateref27_Since.l0]
    have hil : i < l.length := by omega
    have hw2 : wrap64 ((i : Int) + 1) = ((i + 1 : Nat) : Int) := by rw [w64_id (by omega) (by omega)]; omega
    rw [if_pos (by omega), if_pos (by omega), rd_at hil, hw2, List.drop_eq_getElem_cons hil]
    simp only [eta31]
    by_cases h : num ≤ (l[i]).f0
    · rw [if_pos h, if_pos (by omega), ih (i + 1) k _ (by omega) (by omega) (by simp; omega)]
      rw [show fromL num (l[i] :: l.drop (i + 1)) = l[i] :: fromL num (l.drop (i + 1)) from List.filter_cons_of_pos (by simpa using h)]
      simp
    · rw [if_neg (by omega), ih (i + 1) k _ (by omega) (by omega) (by omega)]
      rw [show fromL num (l[i] :: l.drop (i + 1)) = fromL num (l.drop (i + 1)) from List.filter_cons_of_neg (by simpa using h)]
theorem rsince_f (k : Nat) (num room nx : Int) (l : List S31) (hl : l.length ≤ 1000) (h0 : 0 ≤ num) (hR : 1 ≤ nx ∧ nx ≤ 4611686018427387904 ∧ (l.length : Int) ≤ nx - 1) (hk : l.length < k) : wicketgateref27_Since.f k room nx l num = some (fromL num l, goneR (nx - 1 - l.length) num) := by
  unfold wicketgateref27_Since.f
  have := rsince_loop num room nx l hl h0 hR l.length 0 k [] (by omega) hk (by simp)
  simpa using this
theorem gone_r (g num : Int) (h0 : 0 ≤ num) (h1 : num ≤ 18446744073709551615) (h2 : 0 ≤ g) (h3 : g ≤ 4611686018427387904) : RG.goneV g num = goneR g num := by
  unfold RG.goneV goneR
  by_cases hg : g < num
  · rw [if_pos hg, if_neg (by omega), if_pos hg]
  · rw [if_neg hg]
    by_cases hn : num = 0
    · subst hn
      rw [if_pos (by decide), if_pos rfl]
      by_cases hz : g = 0
      · subst hz; decide
      · rw [u64_id (n := g - 1) (by omega) (by omega), u64_id (by omega) (by omega)]; omega
    · rw [if_neg (by omega), if_neg hn, if_neg hg, u64_id (n := g - num) (by omega) (by omega), u64_id (by omega) (by omega)]
theorem takeWhile_filter {p : S31 → Bool} : ∀ {l : List S31}, l.Pairwise (fun a b => p b = true → p a = true) → l.takeWhile p = l.filter p
  | [], _ => rfl
  | x :: xs, h => by
    rw [List.pairwise_cons] at h
    rw [List.takeWhile_cons, List.filter_cons]
    by_cases hx : p x = true
    · rw [if_pos hx, if_pos hx, takeWhile_filter h.2]
    · rw [if_neg hx, if_neg hx]
      refine (List.filter_eq_nil_iff.2 fun y hy hp => hx (h.1 y hy hp)).symm
theorem upto_rev (l : List S31) : upto (fun k => (backAt l k).2) l.length = l.reverse := by
  refine List.ext_getElem? fun j => ?_
  by_cases hj : j < l.length
  · rw [List.getElem?_reverse hj]
    unfold upto
    rw [List.getElem?_map, List.getElem?_range hj]
    have e : (l.length : Int) - 1 - j = ((l.length - 1 - j : Nat) : Int) := by omega
    have hl : l.length - 1 - j < l.length := by omega
    simp only [Option.map_some, backAt]
    rw [e, rd_at hl, List.getElem?_eq_getElem hl]
  · rw [List.getElem?_eq_none (by rw [upto_length]; omega), List.getElem?_eq_none (by simp; omega)]
theorem sinceB_f (room nx num : Int) (l : List S31) (hR : Rok room nx l) : (sinceB l num).reverse = fromL num l := by
  unfold sinceB
  rw [upto_rev, takeWhile_filter, List.filter_reverse, List.reverse_reverse]
  · rfl
  · rw [List.pairwise_reverse, List.pairwise_iff_getElem]
    intro i j hi hj hij h
    have a := (hR.2.2.2.2.2.2.2 i hi).2.2.1
    have b := (hR.2.2.2.2.2.2.2 j hj).2.2.1
    rw [rd_at hi] at a
    rw [rd_at hj] at b
    have h' := of_decide_eq_true h
    exact decide_eq_true (by omega)
theorem sinceB_len (num : Int) (l : List S31) : (sinceB l num).length ≤ l.length := by
  unfold sinceB
  exact Nat.le_trans (List.takeWhile_sublist _).length_le (by rw [upto_length]; exact Nat.le_refl _)
/-- What Since answers. -/
def sinceV (room nx num : Int) (l : List S31) : List S31 × Int × Int := if Rok room nx l then (fromL num l, goneR (nx - 1 - l.length) num, 0) else ([], 0, 370)
/-- What a ring's parts are within. -/
abbrev Wide (room nx : Int) (l : List S31) : Prop := Dat l ∧ (-9223372036854775808 ≤ room ∧ room ≤ 9223372036854775807) ∧ (0 ≤ nx ∧ nx ≤ 18446744073709551615) ∧ l.length ≤ 300
deriving instance DecidableEq for S29
deriving instance DecidableEq for S31
instance (l : List S31) : Decidable (Dat l) := by unfold Dat; infer_instance
theorem same2_f (k : Nat) (l : List S31) (hl : l.length ≤ 50000) (hk : l.length < k) : wicketgateref27_SameLines.f k l l = some true := by
  unfold wicketgateref27_SameLines.f
  rw [if_pos rfl]
  exact same_loop l hl l.length 0 k (by omega) hk
theorem wakes_ok : wicketgatelaw27_wakes.f 100 = some true := by decide +kernel
end Go.Proofs.YtcpabgijmknldaaDoor.PS
