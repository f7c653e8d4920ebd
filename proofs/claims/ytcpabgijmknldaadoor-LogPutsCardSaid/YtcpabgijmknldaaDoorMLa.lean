import Derived.Test.YtcpabgijmknldaaDoorPLax
namespace Go.Proofs.YtcpabgijmknldaaDoor.PLa
open Go.RowKit Go.Proofs.YtcpabgijmknldaaDoorW.PrintWords Go.Proofs.YtcpabgijmknldaaDoorW.PrintLast Go.Proofs.YtcpabgijmknldaaDoorW.PrintMore
open Go.Proofs.YtcpabgijmknldaaDoor.PE.L (Ef OfV OfE effV)
set_option linter.unusedVariables false
set_option linter.unusedSimpArgs false
theorem u64_id {n : Int} (h0 : 0 ≤ n) (h1 : n < 18446744073709551616) : IntKind.u64.wrap n = n := by
  simp [IntKind.wrap, IntKind.bits, IntKind.signed]; omega
theorem w64_id {n : Int} (h0 : -9223372036854775808 ≤ n) (h1 : n < 9223372036854775808) : wrap64 n = n := by unfold wrap64; omega
theorem of_f (a d : Int) (tr li : Bool) (h0 : 0 ≤ d) (h1 : d ≤ 65535) : effect_Of.f a d tr li = some ((OfV a d tr li).en, (OfV a d tr li).ru, (OfV a d tr li).re, (OfV a d tr li).si, (OfV a d tr li).co, (OfV a d tr li).lo, (OfV a d tr li).as_, OfE a) := by
  unfold effect_Of.f; rw [if_pos ⟨h0, h1⟩]
theorem refof_f (a d : Int) (tr li : Bool) (h0 : 0 ≤ d) (h1 : d ≤ 65535) : wicketgateref21_Of.f a d tr li = some ((OfV a d tr li).en, (OfV a d tr li).ru, (OfV a d tr li).re, (OfV a d tr li).si, (OfV a d tr li).co, (OfV a d tr li).lo, (OfV a d tr li).as_, OfE a) := by
  unfold wicketgateref21_Of.f; rw [if_pos ⟨h0, h1⟩]
/-- May the verdict's effect be logged? -/
def lo (a d : Int) : Bool := (OfV a d false false).lo
theorem logged_f (a d : Int) (h0 : 0 ≤ d) (h1 : d ≤ 65535) : log_logged.f a d = some (lo a d, OfE a) := by
  unfold log_logged.f lo
  rw [of_f a d false false h0 h1]
  simp
theorem thread_f (n : Int) : log_thread.f n = some (decide (1 ≤ n) && decide (n ≤ 20)) := by
  unfold log_thread.f
  by_cases h : n ≥ 1
  · have : 1 ≤ n := h
    rw [if_pos h]; simp [this]
  · have : ¬ 1 ≤ n := h
    rw [if_neg h]; simp [this]
/-- The data of lines are within their kind. -/
def Dat (l : List S31) : Prop := ∀ x ∈ l, 0 ≤ x.f4.f1 ∧ x.f4.f1 ≤ 65535
theorem Dat.at {l : List S31} (h : Dat l) {i : Nat} (hi : i < l.length) : 0 ≤ (rd_T31 l i).f4.f1 ∧ (rd_T31 l i).f4.f1 ≤ 65535 := by
  have : rd_T31 l i = l[i] := by unfold rd_T31; simp [hi]
  rw [this]
  exact h _ (List.getElem_mem hi)
/-- May line i of l be, where the next number is nx? -/
def lineOk (nx : Int) (l : List S31) (i : Nat) : Prop :=
  lo (rd_T31 l i).f4.f0 (rd_T31 l i).f4.f1 = true ∧ OfE (rd_T31 l i).f4.f0 = 0 ∧ (rd_T31 l i).f0 = nx - ((l.length : Int) - i) ∧ 1 ≤ (rd_T31 l i).f1 ∧ (rd_T31 l i).f1 ≤ 20
instance (nx : Int) (l : List S31) (i : Nat) : Decidable (lineOk nx l i) := by unfold lineOk; infer_instance
/-- May a ring be? -/
def Rok (room nx : Int) (l : List S31) : Prop :=
  1 ≤ room ∧ room ≤ 32 ∧ 1 ≤ nx ∧ nx ≤ 4611686018427387904 ∧ (l.length : Int) ≤ room ∧ (l.length : Int) ≤ nx - 1 ∧ ((l.length : Int) = room ∨ (l.length : Int) = nx - 1) ∧ ∀ i : Nat, i < l.length → lineOk nx l i
instance (room nx : Int) (l : List S31) : Decidable (Rok room nx l) := by unfold Rok; infer_instance
theorem check_loop (nx : Int) (l : List S31) (hd : Dat l) (h0 : 1 ≤ nx) (h1 : nx ≤ 4611686018427387904) (hl : (l.length : Int) ≤ nx - 1) (hl2 : (l.length : Int) ≤ 32) :
    ∀ (d i k : Nat), i + d = l.length → d < k → log_Check.l0 k (nx - l.length) l (l.length : Int) i = some (if ∀ j : Nat, j < l.length → i ≤ j → lineOk nx l j then 0 else 370) := by
  intro d
  induction d with
  | zero =>
    intro i k hi hk
    obtain ⟨k, rfl⟩ : ∃ m, k = m + 1 := ⟨k - 1, by omega⟩
    simp only [log_Check.l0]
    rw [if_neg (by omega), if_pos (by intro j h1 h2; omega)]
  | succ d ih =>
    intro i k hi hk
    obtain ⟨k, rfl⟩ : ∃ m, k = m + 1 := ⟨k - 1, by omega⟩
    have hi' : i < l.length := by omega
    obtain ⟨hd0, hd1⟩ := hd.at hi'
    simp only [log_Check.l0]
    rw [if_pos (by omega), if_pos (by omega), if_pos (by omega), logged_f _ _ hd0 hd1, thread_f]
    simp only [Option.bind_some]
    have hw : IntKind.u64.wrap (nx - l.length + IntKind.u64.wrap (i : Int)) = nx - ((l.length : Int) - i) := by
      rw [u64_id (n := (i : Int)) (by omega) (by omega), u64_id (by omega) (by omega)]
      omega
    have hw2 : wrap64 ((i : Int) + 1) = ((i + 1 : Nat) : Int) := by rw [w64_id (by omega) (by omega)]; omega
    rw [hw, hw2, ih (i + 1) k (by omega) (by omega)]
    by_cases hk1 : lineOk nx l i
    · obtain ⟨q1, q2, q3, q4, q5⟩ := hk1
      rw [if_pos q1, if_pos q2, if_pos q3]
      simp only [q4, q5, decide_true, Bool.and_self, if_true]
      congr 1
      by_cases hr : ∀ j : Nat, j < l.length → i + 1 ≤ j → lineOk nx l j
      · rw [if_pos hr, if_pos]
        intro j h2 h1
        rcases Nat.lt_or_ge i j with h | h
        · exact hr j h2 h
        · obtain rfl : j = i := by omega
          exact ⟨q1, q2, q3, q4, q5⟩
      · rw [if_neg hr, if_neg]
        intro h
        exact hr fun j h2 h1 => h j h2 (by omega)
    · rw [if_neg (c := ∀ j : Nat, j < l.length → i ≤ j → lineOk nx l j) (fun h => hk1 (h i hi' (Nat.le_refl _)))]
      unfold lineOk at hk1
      by_cases q1 : lo (rd_T31 l i).f4.f0 (rd_T31 l i).f4.f1 = true
      · rw [if_pos q1]
        by_cases q2 : OfE (rd_T31 l i).f4.f0 = 0
        · rw [if_pos q2]
          by_cases q3 : (rd_T31 l i).f0 = nx - ((l.length : Int) - i)
          · rw [if_pos q3]
            have : (decide (1 ≤ (rd_T31 l (i : Int)).f1) && decide ((rd_T31 l (i : Int)).f1 ≤ 20)) = false := by
              rw [Bool.and_eq_false_iff]
              by_cases q4 : 1 ≤ (rd_T31 l (i : Int)).f1
              · right; exact decide_eq_false (fun q5 => hk1 ⟨q1, q2, q3, q4, q5⟩)
              · left; exact decide_eq_false q4
            simp [this]
          · rw [if_neg q3]
        · rw [if_neg q2]
      · rw [if_neg q1]
theorem mn_ (a b : Int) : mn a b = if a ≤ b then a else b := by unfold mn; split <;> split <;> omega
theorem check_f (k : Nat) (room nx : Int) (l : List S31) (hd : Dat l) (hr : -9223372036854775808 ≤ room ∧ room ≤ 9223372036854775807) (hn : 0 ≤ nx ∧ nx ≤ 18446744073709551615) (hl : l.length ≤ 100000) (hk : l.length + 3 < k) :
    log_Check.f k room nx l = some (if Rok room nx l then 0 else 370) := by
  obtain ⟨k, rfl⟩ : ∃ m, k = m + 1 := ⟨k - 1, by omega⟩
  have bad : ∀ h : ¬ Rok room nx l, log_Check.j0 (k + 1) true room nx l = some (if Rok room nx l then 0 else 370) := fun h => by
    simp only [log_Check.j0]; rw [if_neg h]; rfl
  unfold log_Check.f
  by_cases c1 : room < 1
  · rw [if_pos c1]; exact bad (fun h => by have := h.1; omega)
  rw [if_neg c1]
  by_cases c2 : room > 32
  · rw [if_pos c2]; exact bad (fun h => by have := h.2.1; omega)
  rw [if_neg c2]
  by_cases c3 : nx < 1
  · rw [if_pos c3]; exact bad (fun h => by have := h.2.2.1; omega)
  rw [if_neg c3]
  by_cases c4 : nx > 4611686018427387904
  · rw [if_pos c4]; exact bad (fun h => by have := h.2.2.2.1; omega)
  rw [if_neg c4, u64_id (n := (l.length : Int)) (by omega) (by omega), u64_id (n := nx - 1) (by omega) (by omega), u64_id (n := room) (by omega) (by omega), mn_]
  by_cases c5 : (l.length : Int) = if nx - 1 ≤ room then nx - 1 else room
  · have h5 : ((l.length : Int) != if nx - 1 ≤ room then nx - 1 else room) = false := by simpa using c5
    have hl1 : (l.length : Int) ≤ nx - 1 ∧ (l.length : Int) ≤ room ∧ ((l.length : Int) = room ∨ (l.length : Int) = nx - 1) := by
      split at c5 <;> omega
    rw [h5]
    simp only [log_Check.j0]
    rw [u64_id (n := (l.length : Int)) (by omega) (by omega), u64_id (n := nx - l.length) (by omega) (by omega)]
    have := check_loop nx l hd (by omega) (by omega) (by omega) (by omega) l.length 0 k (by omega) (by omega)
    simp only [Bool.false_eq_true, if_false]
    refine this.trans ?_
    congr 1
    by_cases hq : Rok room nx l
    · rw [if_pos hq, if_pos (fun j hj _ => hq.2.2.2.2.2.2.2 j hj)]
    · rw [if_neg hq, if_neg]
      intro h
      exact hq ⟨by omega, by omega, by omega, by omega, hl1.2.1, hl1.1, hl1.2.2, fun j hj => h j hj (Nat.zero_le _)⟩
  · have h5 : ((l.length : Int) != if nx - 1 ≤ room then nx - 1 else room) = true := by simpa using c5
    rw [h5]
    exact bad (fun h => c5 (by obtain ⟨_, _, _, _, h1, h2, h3, _⟩ := h; split <;> omega))
theorem right_loop (room nx : Int) (l : List S31) (hd : Dat l) (h0 : 1 ≤ nx) (h1 : nx ≤ 4611686018427387904) (hl : (l.length : Int) ≤ nx - 1) (hl2 : (l.length : Int) ≤ 32) :
    ∀ (d i k : Nat), i + d = l.length → d < k → wicketgateref27_Right.l0 k (l.length : Int) i room nx l = some (decide (∀ j : Nat, j < l.length → i ≤ j → lineOk nx l j)) := by
  intro d
  induction d with
  | zero =>
    intro i k hi hk
    obtain ⟨k, rfl⟩ : ∃ m, k = m + 1 := ⟨k - 1, by omega⟩
    simp only [wicketgateref27_Right.l0]
    rw [if_neg (by omega), decide_eq_true]
    intro j h1 h2; omega
  | succ d ih =>
    intro i k hi hk
    obtain ⟨k, rfl⟩ : ∃ m, k = m + 1 := ⟨k - 1, by omega⟩
    have hi' : i < l.length := by omega
    obtain ⟨hd0, hd1⟩ := hd.at hi'
    simp only [wicketgateref27_Right.l0]
    rw [if_pos (by omega), if_pos (by omega), if_pos (by omega), refof_f _ _ _ _ hd0 hd1]
    simp only [Option.bind_some]
    have hw : IntKind.u64.wrap (nx - IntKind.u64.wrap (wrap64 ((l.length : Int) - (i : Int)))) = nx - ((l.length : Int) - i) := by
      rw [w64_id (by omega) (by omega), u64_id (n := (l.length : Int) - i) (by omega) (by omega), u64_id (by omega) (by omega)]
    have hw2 : wrap64 ((i : Int) + 1) = ((i + 1 : Nat) : Int) := by rw [w64_id (by omega) (by omega)]; omega
    rw [hw, hw2, ih (i + 1) k (by omega) (by omega)]
    by_cases hk1 : lineOk nx l i
    · have hk2 := hk1
      obtain ⟨q1, q2, q3, q4, q5⟩ := hk1
      unfold lo at q1
      rw [if_pos q2, if_pos q1, if_neg (by omega), if_neg (by omega), if_pos q3]
      congr 1
      rw [decide_eq_decide]
      constructor
      · intro hr j h2 h1
        rcases Nat.lt_or_ge i j with h | h
        · exact hr j h2 h
        · obtain rfl : j = i := by omega
          exact hk2
      · intro h j h2 h1
        exact h j h2 (by omega)
    · rw [decide_eq_false (p := ∀ j : Nat, j < l.length → i ≤ j → lineOk nx l j) (fun h => hk1 (h i hi' (Nat.le_refl _)))]
      unfold lineOk lo at hk1
      by_cases q2 : OfE (rd_T31 l i).f4.f0 = 0
      · rw [if_pos q2]
        by_cases q1 : (OfV (rd_T31 l i).f4.f0 (rd_T31 l i).f4.f1 false false).lo = true
        · rw [if_pos q1]
          by_cases q4 : (rd_T31 l (i : Int)).f1 < 1
          · rw [if_pos q4]
          · rw [if_neg q4]
            by_cases q5 : (rd_T31 l (i : Int)).f1 > 20
            · rw [if_pos q5]
            · rw [if_neg q5, if_neg (fun q3 => hk1 ⟨q1, q2, q3, by omega, by omega⟩)]
        · rw [if_neg q1]
      · rw [if_neg q2]
theorem right_f (k : Nat) (room nx : Int) (l : List S31) (hd : Dat l) (hr : -9223372036854775808 ≤ room ∧ room ≤ 9223372036854775807) (hn : 0 ≤ nx ∧ nx ≤ 18446744073709551615) (hl : l.length ≤ 100000) (hk : l.length + 4 < k) :
    wicketgateref27_Right.f k room nx l = some (decide (Rok room nx l)) := by
  obtain ⟨k, rfl⟩ : ∃ m, k = m + 1 + 1 := ⟨k - 2, by omega⟩
  have bad : ∀ h : ¬ Rok room nx l, wicketgateref27_Right.j0 (k + 1 + 1) true room nx l = some (decide (Rok room nx l)) := fun h => by
    simp only [wicketgateref27_Right.j0]; rw [decide_eq_false h]; rfl
  unfold wicketgateref27_Right.f
  by_cases c1 : room < 1
  · rw [if_pos c1]; exact bad (fun h => by have := h.1; omega)
  rw [if_neg c1]
  by_cases c2 : room > 32
  · rw [if_pos c2]; exact bad (fun h => by have := h.2.1; omega)
  rw [if_neg c2]
  by_cases c3 : nx < 1
  · rw [if_pos c3]; exact bad (fun h => by have := h.2.2.1; omega)
  rw [if_neg c3]
  by_cases c4 : nx > 4611686018427387904
  · rw [decide_eq_true c4]; exact bad (fun h => by have := h.2.2.2.1; omega)
  rw [decide_eq_false c4]
  simp only [wicketgateref27_Right.j0]
  simp only [Bool.false_eq_true, if_false]
  have fin : ∀ m : Int, ((l.length : Int) = m ↔ ((l.length : Int) ≤ room ∧ (l.length : Int) ≤ nx - 1 ∧ ((l.length : Int) = room ∨ (l.length : Int) = nx - 1))) → wicketgateref27_Right.j1 (k + 1) m room nx l = some (decide (Rok room nx l)) := by
    intro m hm
    simp only [wicketgateref27_Right.j1]
    by_cases c5 : (l.length : Int) = m
    · rw [if_pos c5, ← c5]
      obtain ⟨e1, e2, e3⟩ := hm.1 c5
      have := right_loop room nx l hd (by omega) (by omega) (by omega) (by omega) l.length 0 k (by omega) (by omega)
      refine this.trans ?_
      congr 1
      rw [decide_eq_decide]
      constructor
      · intro h
        exact ⟨by omega, by omega, by omega, by omega, e1, e2, e3, fun j hj => h j hj (Nat.zero_le _)⟩
      · intro h j hj _
        exact h.2.2.2.2.2.2.2 j hj
    · rw [if_neg c5, decide_eq_false]
      intro h
      obtain ⟨_, _, _, _, e1, e2, e3, _⟩ := h
      exact c5 (hm.2 ⟨e1, e2, e3⟩)
  rw [u64_id (n := nx - 1) (by omega) (by omega), u64_id (n := room) (by omega) (by omega)]
  by_cases c6 : nx - 1 < room
  · rw [if_pos c6, w64_id (by omega) (by omega)]
    exact fin _ (by omega)
  · rw [if_neg c6]
    exact fin _ (by omega)
theorem rd_at {l : List S31} {i : Nat} (hi : i < l.length) : rd_T31 l (i : Int) = l[i] := by unfold rd_T31; simp [hi]
/-- The last lines, so many. -/
def tailN (l : List S31) (room : Int) : List S31 := l.drop ((l.length : Int) - room).toNat
theorem mx_ (a b : Int) : mx a b = if a ≤ b then b else a := by unfold mx; split <;> split <;> omega
theorem cut_f (l : List S31) (a : Int) (h0 : 0 ≤ a) (h1 : a ≤ 1000) (hl : l.length ≤ 100000) : log_cut.f l a = some (tailN l a) := by
  unfold log_cut.f tailN
  rw [w64_id (by omega) (by omega), mx_]
  split
  · rename_i h
    rw [if_pos (by omega), if_pos (by omega)]
    have : ((l.length : Int) - a).toNat = 0 := by omega
    rw [this]; rfl
  · rw [if_pos (by omega), if_pos (by omega)]
theorem last_loop (l : List S31) (a : Int) (h0 : 0 ≤ a) (h1 : a ≤ 1000) (hl : l.length ≤ 100000) :
    ∀ (d i k : Nat) (acc : List S31), i + d = l.length → d < k → acc.length ≤ i → wicketgateref27_last.l0 k l a acc i = some (acc ++ l.drop (max i ((l.length : Int) - a).toNat)) := by
  intro d
  induction d with
  | zero =>
    intro i k acc hi hk ha
    obtain ⟨k, rfl⟩ : ∃ m, k = m + 1 := ⟨k - 1, by omega⟩
    simp only [wicketgateref27_last.l0]
    rw [if_neg (by omega), List.drop_eq_nil_of_le (by omega), List.append_nil]
  | succ d ih =>
    intro i k acc hi hk ha
    obtain ⟨k, rfl⟩ : ∃ m, k = m + 1 := ⟨k - 1, by omega⟩
    have hi' : i < l.length := by omega
    simp only [wicketgateref27_last.l0]
    rw [if_pos (by omega), w64_id (n := (l.length : Int) - i) (by omega) (by omega)]
    have hw2 : wrap64 ((i : Int) + 1) = ((i + 1 : Nat) : Int) := by rw [w64_id (by omega) (by omega)]; omega
    rw [hw2]
    by_cases hc : (l.length : Int) - i ≤ a
    · rw [if_pos hc, if_pos (by omega), if_pos (by omega)]
      rw [ih (i + 1) k _ (by omega) (by omega) (by simp; omega)]
      have e : (⟨(rd_T31 l (i : Int)).f0, (rd_T31 l (i : Int)).f1, (rd_T31 l (i : Int)).f2, (rd_T31 l (i : Int)).f3, (⟨(rd_T31 l (i : Int)).f4.f0, (rd_T31 l (i : Int)).f4.f1⟩ : S29)⟩ : S31) = l[i] := by rw [rd_at hi']
      rw [e, show max (i + 1) ((l.length : Int) - a).toNat = i + 1 by omega, show max i ((l.length : Int) - a).toNat = i by omega, List.append_assoc]
      congr 2
      exact (List.drop_eq_getElem_cons hi').symm
    · rw [if_neg hc, ih (i + 1) k acc (by omega) (by omega) (by omega)]
      rw [show max (i + 1) ((l.length : Int) - a).toNat = ((l.length : Int) - a).toNat by omega, show max i ((l.length : Int) - a).toNat = ((l.length : Int) - a).toNat by omega]
theorem last_f (k : Nat) (l : List S31) (a : Int) (h0 : 0 ≤ a) (h1 : a ≤ 1000) (hl : l.length ≤ 100000) (hk : l.length < k) : wicketgateref27_last.f k l a = some (tailN l a) := by
  unfold wicketgateref27_last.f
  rw [show (0 : Int) = ((0 : Nat) : Int) from rfl, last_loop l a h0 h1 hl l.length 0 k [] (by omega) hk (by simp)]
  unfold tailN
  simp
def bad (tid act : Int) : Bool := !(decide (1 ≤ tid) && decide (tid ≤ 20)) || (OfE act != 0)
def PutV (room nx : Int) (l : List S31) (tid nr arch act dat : Int) : Int × Int × List S31 × Bool × Int :=
  if Rok room nx l then (if bad tid act = true then (0, 0, [], false, 2) else if lo act dat = true then (if nx = 4611686018427387904 then (0, 0, [], false, 6) else (room, nx + 1, tailN (l ++ [⟨nx, tid, nr, arch, ⟨act, dat⟩⟩]) room, true, 0)) else (room, nx, l, false, 0)) else (0, 0, [], false, 370)
theorem put_f (k : Nat) (room nx : Int) (l : List S31) (tid nr arch act dat : Int) (hd : Dat l) (hr : -9223372036854775808 ≤ room ∧ room ≤ 9223372036854775807) (hn : 0 ≤ nx ∧ nx ≤ 18446744073709551615) (hl : l.length ≤ 50000) (hk : l.length + 3 < k) (h0 : 0 ≤ dat) (h1 : dat ≤ 65535) :
    log_Put.f k room nx l tid nr arch act dat = some (PutV room nx l tid nr arch act dat) := by
  unfold log_Put.f PutV
  rw [check_f k room nx l hd hr hn (by omega) hk]
  simp only [Option.bind_some]
  by_cases hR : Rok room nx l
  · rw [if_pos hR, if_pos rfl, if_pos hR, logged_f act dat h0 h1, thread_f]
    simp only [Option.bind_some]
    obtain ⟨k, rfl⟩ : ∃ m, k = m + 1 := ⟨k - 1, by omega⟩
    have e : (if (decide (1 ≤ tid) && decide (tid ≤ 20)) = true then log_Put.j0 (k + 1) tid nr arch (lo act dat) (OfE act != 0) room nx l act dat else log_Put.j0 (k + 1) tid nr arch (lo act dat) true room nx l act dat) = log_Put.j0 (k + 1) tid nr arch (lo act dat) (bad tid act) room nx l act dat := by
      unfold bad
      cases (decide (1 ≤ tid) && decide (tid ≤ 20)) <;> simp
    rw [e]
    simp only [log_Put.j0]
    obtain ⟨r1, r2, n1, n2, l1, l2, l3, _⟩ := hR
    cases bad tid act
    · simp only [Bool.false_eq_true, if_false]
      cases lo act dat
      · simp
      · simp only [if_true]
        by_cases hx : nx = 4611686018427387904
        · rw [if_pos hx, if_pos hx]
        · rw [if_neg hx, if_neg hx]
          unfold api_Line.f
          simp only [Option.bind_some, List.length_nil, List.nil_append, List.length_append, List.length_cons]
          rw [if_pos (by omega)]
          simp only [Option.bind_some]
          rw [if_pos (by omega), cut_f _ room (by omega) (by omega) (by simp; omega), u64_id (by omega) (by omega)]
          rfl
    · simp
  · rw [if_neg hR, if_neg hR]; rfl
theorem rput_loop (l : List S31) (room nx num tid nr arch act dat : Int) (h0 : 0 ≤ room) (h1 : room ≤ 1000) (hl : l.length ≤ 50000) :
    ∀ (d i k : Nat) (acc : List S31), i + d = l.length → l.length + d + 2 < k → acc.length = i → wicketgateref27_Put.l0 k acc i room nx l num tid nr arch act dat = some (room, IntKind.u64.wrap (nx + 1), tailN (acc ++ l.drop i ++ [⟨num, tid, nr, arch, ⟨act, dat⟩⟩]) room, true, 0) := by
  intro d
  induction d with
  | zero =>
    intro i k acc hi hk ha
    obtain ⟨k, rfl⟩ : ∃ m, k = m + 1 := ⟨k - 1, by omega⟩
    simp only [wicketgateref27_Put.l0]
    rw [if_neg (by omega), if_pos (by omega), last_f k _ room h0 h1 (by simp; omega) (by simp; omega)]
    simp only [Option.bind_some]
    rw [List.drop_eq_nil_of_le (by omega), List.append_nil]
  | succ d ih =>
    intro i k acc hi hk ha
    obtain ⟨k, rfl⟩ : ∃ m, k = m + 1 := ⟨k - 1, by omega⟩
    have hi' : i < l.length := by omega
    simp only [wicketgateref27_Put.l0]
    have hw2 : wrap64 ((i : Int) + 1) = ((i + 1 : Nat) : Int) := by rw [w64_id (by omega) (by omega)]; omega
    rw [if_pos (by omega), if_pos (by omega), if_pos (by omega), hw2, ih (i + 1) k _ (by omega) (by omega) (by simp; omega)]
    have e : (⟨(rd_T31 l (i : Int)).f0, (rd_T31 l (i : Int)).f1, (rd_T31 l (i : Int)).f2, (rd_T31 l (i : Int)).f3, (⟨(rd_T31 l (i : Int)).f4.f0, (rd_T31 l (i : Int)).f4.f1⟩ : S29)⟩ : S31) = l[i] := by rw [rd_at hi']
    rw [e, List.append_assoc acc, List.drop_eq_getElem_cons hi']
    rfl
theorem refput_f (k : Nat) (room nx : Int) (l : List S31) (num tid nr arch act dat : Int) (hd : Dat l) (hr : -9223372036854775808 ≤ room ∧ room ≤ 9223372036854775807) (hn : 0 ≤ nx ∧ nx ≤ 18446744073709551615) (hl : l.length ≤ 50000) (hk : l.length + l.length + 6 < k) (h0 : 0 ≤ dat) (h1 : dat ≤ 65535) :
    wicketgateref27_Put.f k room nx l num tid nr arch act dat = some (PutV room nx l tid nr arch act dat) := by
  unfold wicketgateref27_Put.f PutV
  rw [right_f k room nx l hd hr hn (by omega) (by omega)]
  simp only [Option.bind_some]
  by_cases hR : Rok room nx l
  · rw [decide_eq_true hR, if_pos rfl, if_pos hR, refof_f act dat _ _ h0 h1]
    simp only [Option.bind_some]
    obtain ⟨k, rfl⟩ : ∃ m, k = m + 1 := ⟨k - 1, by omega⟩
    have e : ∀ f : Bool → Option (Int × Int × List S31 × Bool × Int), (if tid < 1 then f true else if tid > 20 then f true else f (OfE act != 0)) = f (bad tid act) := by
      intro f
      unfold bad
      by_cases t1 : tid < 1
      · have : ¬ 1 ≤ tid := by omega
        simp [t1, this]
      · have t1' : 1 ≤ tid := by omega
        by_cases t2 : tid > 20
        · have : ¬ tid ≤ 20 := by omega
          simp [t1, t2, this]
        · have : tid ≤ 20 := by omega
          simp [t1, t2, this, t1']
    refine (e fun b => wicketgateref27_Put.j0 (k + 1) b room nx l num tid nr arch act dat _ _ _ _ _ _ _).trans ?_
    simp only [wicketgateref27_Put.j0]
    obtain ⟨r1, r2, n1, n2, l1, l2, l3, _⟩ := hR
    cases bad tid act
    · simp only [Bool.false_eq_true, if_false]
      have elo : (OfV act dat false false).lo = lo act dat := rfl
      rw [elo]
      cases lo act dat
      · simp
      · simp only [if_true]
        by_cases hx : nx = 4611686018427387904
        · rw [if_pos hx, if_pos hx]
        · rw [if_neg hx, if_neg hx]
          have := rput_loop l room nx nx tid nr arch act dat (by omega) (by omega) hl l.length 0 k [] (by omega) (by omega) rfl
          rw [show ((0 : Int)) = ((0 : Nat) : Int) from rfl, this, u64_id (by omega) (by omega)]
          rfl
    · simp
  · rw [decide_eq_false hR, if_neg hR]; rfl
theorem same_loop (l : List S31) (hl : l.length ≤ 50000) : ∀ (d i k : Nat), i + d = l.length → d < k → wicketgateref27_SameLines.l0 k l l i = some true := by
  intro d
  induction d with
  | zero =>
    intro i k hi hk
    obtain ⟨k, rfl⟩ : ∃ m, k = m + 1 := ⟨k - 1, by omega⟩
    simp only [wicketgateref27_SameLines.l0]
    rw [if_neg (by omega)]
  | succ d ih =>
    intro i k hi hk
    obtain ⟨k, rfl⟩ : ∃ m, k = m + 1 := ⟨k - 1, by omega⟩
    simp only [wicketgateref27_SameLines.l0]
    have hw2 : wrap64 ((i : Int) + 1) = ((i + 1 : Nat) : Int) := by rw [w64_id (by omega) (by omega)]; omega
    rw [if_pos (by omega), if_pos (by omega), if_pos (by omega), hw2, ih (i + 1) k (by omega) (by omega)]
    simp
theorem same_f (k : Nat) (room nx : Int) (l : List S31) (hl : l.length ≤ 50000) (hk : l.length < k) : wicketgateref27_Same.f k room nx l room nx l = some true := by
  unfold wicketgateref27_Same.f wicketgateref27_SameLines.f
  rw [if_pos rfl, if_pos rfl, if_pos rfl, show ((0 : Int)) = ((0 : Nat) : Int) from rfl, same_loop l hl l.length 0 k (by omega) hk]
  rfl
theorem copied_f (room nx : Int) (l : List S31) (hl : l.length ≤ 50000) : wicketgatelaw27_copied.f room nx l = some (room, nx, l) := by
  unfold wicketgatelaw27_copied.f
  simp only [Option.bind_some, List.length_nil, List.nil_append]
  rw [if_pos (by omega)]
theorem tailN_len (l : List S31) (room : Int) (h0 : 0 ≤ room) : ((tailN l room).length : Int) = if (l.length : Int) ≤ room then (l.length : Int) else room := by
  unfold tailN
  rw [List.length_drop]
  split <;> omega
theorem PutV_len (room nx : Int) (l : List S31) (tid nr arch act dat : Int) : (PutV room nx l tid nr arch act dat).2.2.1.length ≤ l.length + 1 := by
  unfold PutV
  split
  · split
    · simp
    · split
      · split
        · simp
        · first | (simp [tailN]; done) | (simp [tailN]; omega)
      · simp
  · simp
theorem LogPuts_p (room nx : Int) (l : List S31) (num tid nr arch act dat : Int) (hd : Dat l) (hr : -9223372036854775808 ≤ room ∧ room ≤ 9223372036854775807) (hn : 0 ≤ nx ∧ nx ≤ 18446744073709551615) (h0 : 0 ≤ dat) (h1 : dat ≤ 65535) :
    wicketgatelaw27_LogPuts.f 1000 room nx l num tid nr arch act dat = some true := by
  unfold wicketgatelaw27_LogPuts.f
  rw [wicketgatelaw27_wakes.tt]
  simp only [Option.bind_some, if_true]
  by_cases hl : (l.length : Int) > 200
  · rw [if_pos hl]
  · rw [if_neg hl, copied_f room nx l (by omega)]
    simp only [Option.bind_some]
    rw [put_f 1000 room nx l tid nr arch act dat hd hr hn (by omega) (by omega) h0 h1, refput_f 1000 room nx l num tid nr arch act dat hd hr hn (by omega) (by omega) h0 h1]
    simp only [Option.bind_some, if_true, beq_self_eq_true]
    have := PutV_len room nx l tid nr arch act dat
    rw [same_f 1000 _ _ _ (by omega) (by omega), same_f 1000 room nx l (by omega) (by omega)]
    rfl
end Go.Proofs.YtcpabgijmknldaaDoor.PLa
