import Derived.Test.YtcpabgijmknldaaDoorPNx
namespace Go.Proofs.YtcpabgijmknldaaDoor.PN
open Go.RowKit Go.Proofs.YtcpabgijmknldaaDoorW.PrintWords Go.Proofs.YtcpabgijmknldaaDoorW.PrintLast Go.Proofs.YtcpabgijmknldaaDoorW.PrintMore
open Go.Proofs.YtcpabgijmknldaaDoor.PE.L (Ef OfV OfE effV)
set_option linter.unusedVariables false
set_option linter.unusedSimpArgs false
theorem u64_id {n : Int} (h0 : 0 ≤ n) (h1 : n < 18446744073709551616) : IntKind.u64.wrap n = n := by
  simp [IntKind.wrap, IntKind.bits, IntKind.signed]; omega
theorem w64_id {n : Int} (h0 : -9223372036854775808 ≤ n) (h1 : n < 9223372036854775808) : wrap64 n = n := by unfold wrap64; omega
theorem of_f (a d : Int) (tr li : Bool) (h0 : 0 ≤ d) (h1 : d ≤ 65535) : effect_Of.f a d tr li = some ((OfV a d tr li).en, (OfV a d tr li).ru, (OfV a d tr li).re, (OfV a d tr li).si, (OfV a d tr li).co, (OfV a d tr li).lo, (OfV a d tr li).as_, OfE a) := by
  unfold effect_Of.f; rw [if_pos ⟨h0, h1⟩]
/-- May the verdict's effect be logged? -/
def lo (a d : Int) : Bool := (OfV a d false false).lo
theorem logged_f (a d : Int) (h0 : 0 ≤ d) (h1 : d ≤ 65535) : log_logged.f a d = some (lo a d, OfE a) := by
  unfold log_logged.f lo
  rw [of_f a d false false h0 h1]
  simp
theorem thread_f (n : Int) : log_thread.f n = some (decide (1 ≤ n) && decide (n ≤ 20)) := by
  unfold log_thread.f
  by_cases h : n ≥ 1
  · have : 1 ≤ n := h
    rw [if_pos h]; simp [this]
  · have : ¬ 1 ≤ n := h
    rw [if_neg h]; simp [this]
/-- The data of lines are within their kind. -/
def Dat (l : List S31) : Prop := ∀ x ∈ l, 0 ≤ x.f4.f1 ∧ x.f4.f1 ≤ 65535
theorem Dat.at {l : List S31} (h : Dat l) {i : Nat} (hi : i < l.length) : 0 ≤ (rd_T31 l i).f4.f1 ∧ (rd_T31 l i).f4.f1 ≤ 65535 := by
  have : rd_T31 l i = l[i] := by unfold rd_T31; simp [hi]
  rw [this]
  exact h _ (List.getElem_mem hi)
/-- May line i of l be, where the next number is nx? -/
def lineOk (nx : Int) (l : List S31) (i : Nat) : Prop :=
  lo (rd_T31 l i).f4.f0 (rd_T31 l i).f4.f1 = true ∧ OfE (rd_T31 l i).f4.f0 = 0 ∧ (rd_T31 l i).f0 = nx - ((l.length : Int) - i) ∧ 1 ≤ (rd_T31 l i).f1 ∧ (rd_T31 l i).f1 ≤ 20
instance (nx : Int) (l : List S31) (i : Nat) : Decidable (lineOk nx l i) := by unfold lineOk; infer_instance
/-- May a ring be? -/
def Rok (room nx : Int) (l : List S31) : Prop :=
  1 ≤ room ∧ room ≤ 32 ∧ 1 ≤ nx ∧ nx ≤ 4611686018427387904 ∧ (l.length : Int) ≤ room ∧ (l.length : Int) ≤ nx - 1 ∧ ((l.length : Int) = room ∨ (l.length : Int) = nx - 1) ∧ ∀ i : Nat, i < l.length → lineOk nx l i
instance (room nx : Int) (l : List S31) : Decidable (Rok room nx l) := by unfold Rok; infer_instance
theorem check_loop (nx : Int) (l : List S31) (hd : Dat l) (h0 : 1 ≤ nx) (h1 : nx ≤ 4611686018427387904) (hl : (l.length : Int) ≤ nx - 1) (hl2 : (l.length : Int) ≤ 32) :
    ∀ (d i k : Nat), i + d = l.length → d < k → log_Check.l0 k (nx - l.length) l (l.length : Int) i = some (if ∀ j : Nat, j < l.length → i ≤ j → lineOk nx l j then 0 else 370) := by
  intro d
  induction d with
  | zero =>
    intro i k hi hk
    obtain ⟨k, rfl⟩ : ∃ m, k = m + 1 := ⟨k - 1, by omega⟩
    simp only [log_Check.l0]
    rw [if_neg (by omega), if_pos (by intro j h1 h2; omega)]
  | succ d ih =>
    intro i k hi hk
    obtain ⟨k, rfl⟩ : ∃ m, k = m + 1 := ⟨k - 1, by omega⟩
    have hi' : i < l.length := by omega
    obtain ⟨hd0, hd1⟩ := hd.at hi'
    simp only [log_Check.l0]
    rw [if_pos (by omega), if_pos (by omega), if_pos (by omega), logged_f _ _ hd0 hd1, thread_f]
    simp only [Option.bind_some]
    have hw : IntKind.u64.wrap (nx - l.length + IntKind.u64.wrap (i : Int)) = nx - ((l.length : Int) - i) := by
      rw [u64_id (n := (i : Int)) (by omega) (by omega), u64_id (by omega) (by omega)]
      omega
    have hw2 : wrap64 ((i : Int) + 1) = ((i + 1 : Nat) : Int) := by rw [w64_id (by omega) (by omega)]; omega
    rw [hw, hw2, ih (i + 1) k (by omega) (by omega)]
    by_cases hk1 : lineOk nx l i
    · obtain ⟨q1, q2, q3, q4, q5⟩ := hk1
      rw [if_pos q1, if_pos q2, if_pos q3]
      simp only [q4, q5, decide_true, Bool.and_self, if_true]
      congr 1
      by_cases hr : ∀ j : Nat, j < l.length → i + 1 ≤ j → lineOk nx l j
      · rw [if_pos hr, if_pos]
        intro j h2 h1
        rcases Nat.lt_or_ge i j with h | h
        · exact hr j h2 h
        · obtain rfl : j = i := by omega
          exact ⟨q1, q2, q3, q4, q5⟩
      · rw [if_neg hr, if_neg]
        intro h
        exact hr fun j h2 h1 => h j h2 (by omega)
    · rw [if_neg (c := ∀ j : Nat, j < l.length → i ≤ j → lineOk nx l j) (fun h => hk1 (h i hi' (Nat.le_refl _)))]
      unfold lineOk at hk1
      by_cases q1 : lo (rd_T31 l i).f4.f0 (rd_T31 l i).f4.f1 = true
      · rw [if_pos q1]
        by_cases q2 : OfE (rd_T31 l i).f4.f0 = 0
        · rw [if_pos q2]
          by_cases q3 : (rd_T31 l i).f0 = nx - ((l.length : Int) - i)
          · rw [if_pos q3]
            have : (decide (1 ≤ (rd_T31 l (i : Int)).f1) && decide ((rd_T31 l (i : Int)).f1 ≤ 20)) = false := by
              rw [Bool.and_eq_false_iff]
              by_cases q4 : 1 ≤ (rd_T31 l (i : Int)).f1
              · right; exact decide_eq_false (fun q5 => hk1 ⟨q1, q2, q3, q4, q5⟩)
              · left; exact decide_eq_false q4
            simp [this]
          · rw [if_neg q3]
        · rw [if_neg q2]
      · rw [if_neg q1]
theorem mn_ (a b : Int) : mn a b = if a ≤ b then a else b := by unfold mn; split <;> split <;> omega
theorem check_f (k : Nat) (room nx : Int) (l : List S31) (hd : Dat l) (hr : -9223372036854775808 ≤ room ∧ room ≤ 9223372036854775807) (hn : 0 ≤ nx ∧ nx ≤ 18446744073709551615) (hl : l.length ≤ 100000) (hk : l.length + 3 < k) :
    log_Check.f k room nx l = some (if Rok room nx l then 0 else 370) := by
  obtain ⟨k, rfl⟩ : ∃ m, k = m + 1 := ⟨k - 1, by omega⟩
  have bad : ∀ h : ¬ Rok room nx l, log_Check.j0 (k + 1) true room nx l = some (if Rok room nx l then 0 else 370) := fun h => by
    simp only [log_Check.j0]; rw [if_neg h]; rfl
  unfold log_Check.f
  by_cases c1 : room < 1
  · rw [if_pos c1]; exact bad (fun h => by have := h.1; omega)
  rw [if_neg c1]
  by_cases c2 : room > 32
  · rw [if_pos c2]; exact bad (fun h => by have := h.2.1; omega)
  rw [if_neg c2]
  by_cases c3 : nx < 1
  · rw [if_pos c3]; exact bad (fun h => by have := h.2.2.1; omega)
  rw [if_neg c3]
  by_cases c4 : nx > 4611686018427387904
  · rw [if_pos c4]; exact bad (fun h => by have := h.2.2.2.1; omega)
  rw [if_neg c4, u64_id (n := (l.length : Int)) (by omega) (by omega), u64_id (n := nx - 1) (by omega) (by omega), u64_id (n := room) (by omega) (by omega), mn_]
  by_cases c5 : (l.length : Int) = if nx - 1 ≤ room then nx - 1 else room
  · have h5 : ((l.length : Int) != if nx - 1 ≤ room then nx - 1 else room) = false := by simpa using c5
    have hl1 : (l.length : Int) ≤ nx - 1 ∧ (l.length : Int) ≤ room ∧ ((l.length : Int) = room ∨ (l.length : Int) = nx - 1) := by
      split at c5 <;> omega
    rw [h5]
    simp only [log_Check.j0]
    rw [u64_id (n := (l.length : Int)) (by omega) (by omega), u64_id (n := nx - l.length) (by omega) (by omega)]
    have := check_loop nx l hd (by omega) (by omega) (by omega) (by omega) l.length 0 k (by omega) (by omega)
    simp only [Bool.false_eq_true, if_false]
    refine this.trans ?_
    congr 1
    by_cases hq : Rok room nx l
    · rw [if_pos hq, if_pos (fun j hj _ => hq.2.2.2.2.2.2.2 j hj)]
    · rw [if_neg hq, if_neg]
      intro h
      exact hq ⟨by omega, by omega, by omega, by omega, hl1.2.1, hl1.1, hl1.2.2, fun j hj => h j hj (Nat.zero_le _)⟩
  · have h5 : ((l.length : Int) != if nx - 1 ≤ room then nx - 1 else room) = true := by simpa using c5
    rw [h5]
    exact bad (fun h => c5 (by obtain ⟨_, _, _, _, h1, h2, h3, _⟩ := h; split <;> omega))
theorem rd_at {l : List S31} {i : Nat} (hi : i < l.length) : rd_T31 l (i : Int) = l[i] := by unfold rd_T31; simp [hi]
/-- The last lines, so many. -/
def tailN (l : List S31) (room : Int) : List S31 := l.drop ((l.length : Int) - room).toNat
theorem mx_ (a b : Int) : mx a b = if a ≤ b then b else a := by unfold mx; split <;> split <;> omega
theorem cut_f (l : List S31) (a : Int) (h0 : 0 ≤ a) (h1 : a ≤ 1000) (hl : l.length ≤ 100000) : log_cut.f l a = some (tailN l a) := by
  unfold log_cut.f tailN
  rw [w64_id (by omega) (by omega), mx_]
  split
  · rename_i h
    rw [if_pos (by omega), if_pos (by omega)]
    have : ((l.length : Int) - a).toNat = 0 := by omega
    rw [this]; rfl
  · rw [if_pos (by omega), if_pos (by omega)]
def bad (tid act : Int) : Bool := !(decide (1 ≤ tid) && decide (tid ≤ 20)) || (OfE act != 0)
def PutV (room nx : Int) (l : List S31) (tid nr arch act dat : Int) : Int × Int × List S31 × Bool × Int :=
  if Rok room nx l then (if bad tid act = true then (0, 0, [], false, 2) else if lo act dat = true then (if nx = 4611686018427387904 then (0, 0, [], false, 6) else (room, nx + 1, tailN (l ++ [⟨nx, tid, nr, arch, ⟨act, dat⟩⟩]) room, true, 0)) else (room, nx, l, false, 0)) else (0, 0, [], false, 370)
theorem put_f (k : Nat) (room nx : Int) (l : List S31) (tid nr arch act dat : Int) (hd : Dat l) (hr : -9223372036854775808 ≤ room ∧ room ≤ 9223372036854775807) (hn : 0 ≤ nx ∧ nx ≤ 18446744073709551615) (hl : l.length ≤ 50000) (hk : l.length + 3 < k) (h0 : 0 ≤ dat) (h1 : dat ≤ 65535) :
    log_Put.f k room nx l tid nr arch act dat = some (PutV room nx l tid nr arch act dat) := by
  unfold log_Put.f PutV
  rw [check_f k room nx l hd hr hn (by omega) hk]
  simp only [Option.bind_some]
  by_cases hR : Rok room nx l
  · rw [if_pos hR, if_pos rfl, if_pos hR, logged_f act dat h0 h1, thread_f]
    simp only [Option.bind_some]
    obtain ⟨k, rfl⟩ : ∃ m, k = m + 1 := ⟨k - 1, by omega⟩
    have e : (if (decide (1 ≤ tid) && decide (tid ≤ 20)) = true then log_Put.j0 (k + 1) tid nr arch (lo act dat) (OfE act != 0) room nx l act dat else log_Put.j0 (k + 1) tid nr arch (lo act dat) true room nx l act dat) = log_Put.j0 (k + 1) tid nr arch (lo act dat) (bad tid act) room nx l act dat := by
      unfold bad
      cases (decide (1 ≤ tid) && decide (tid ≤ 20)) <;> simp
    rw [e]
    simp only [log_Put.j0]
    obtain ⟨r1, r2, n1, n2, l1, l2, l3, _⟩ := hR
    cases bad tid act
    · simp only [Bool.false_eq_true, if_false]
      cases lo act dat
      · simp
      · simp only [if_true]
        by_cases hx : nx = 4611686018427387904
        · rw [if_pos hx, if_pos hx]
        · rw [if_neg hx, if_neg hx]
          unfold api_Line_28.f
          simp only [Option.bind_some, List.length_nil, List.nil_append, List.length_append, List.length_cons]
          rw [if_pos (by omega)]
          simp only [Option.bind_some]
          rw [if_pos (by omega), cut_f _ room (by omega) (by omega) (by simp; omega), u64_id (by omega) (by omega)]
          rfl
    · simp
  · rw [if_neg hR, if_neg hR]; rfl
theorem tailN_len (l : List S31) (room : Int) (h0 : 0 ≤ room) : ((tailN l room).length : Int) = if (l.length : Int) ≤ room then (l.length : Int) else room := by
  unfold tailN
  rw [List.length_drop]
  split <;> omega
theorem PutV_len (room nx : Int) (l : List S31) (tid nr arch act dat : Int) : (PutV room nx l tid nr arch act dat).2.2.1.length ≤ l.length + 1 := by
  unfold PutV
  split
  · split
    · simp
    · split
      · split
        · simp
        · first | (simp [tailN]; done) | (simp [tailN]; omega)
      · simp
  · simp
theorem dropped_f (k : Nat) (room nx : Int) (l : List S31) (hd : Dat l) (hR : Rok room nx l) (hl : l.length ≤ 50000) (hk : l.length + 3 < k) : log_Dropped.f k room nx l = some (nx - 1 - l.length, 0) := by
  obtain ⟨r1, r2, n1, n2, l1, l2, l3, _⟩ := id hR
  unfold log_Dropped.f
  rw [check_f k room nx l hd (by omega) (by omega) (by omega) hk, if_pos hR]
  simp only [Option.bind_some]
  rw [if_pos trivial, u64_id (n := nx - 1) (by omega) (by omega), u64_id (n := (l.length : Int)) (by omega) (by omega), u64_id (by omega) (by omega)]
/-- All known lines, by their numbers. -/
def Inv (all : List S31) : Prop := ∀ j (h : j < all.length), all[j].f0 = (j : Int) + 1 ∧ lo all[j].f4.f0 all[j].f4.f1 = true ∧ OfE all[j].f4.f0 = 0 ∧ 1 ≤ all[j].f1 ∧ all[j].f1 ≤ 20 ∧ 0 ≤ all[j].f4.f1 ∧ all[j].f4.f1 ≤ 65535
theorem tail_at {all : List S31} {room : Int} {i : Nat} (h0 : 0 ≤ room) (hi : i < (tailN all room).length) : ∃ h : ((all.length : Int) - room).toNat + i < all.length, (tailN all room)[i] = all[((all.length : Int) - room).toNat + i] := by
  have : i < all.length - ((all.length : Int) - room).toNat := by simpa [tailN] using hi
  exact ⟨by omega, by simp [tailN]⟩
theorem ring_ok {room : Int} {all : List S31} (h0 : 1 ≤ room) (h1 : room ≤ 32) (hI : Inv all) (ha : all.length ≤ 1000) : Rok room ((all.length : Int) + 1) (tailN all room) := by
  have hl := tailN_len all room (by omega)
  refine ⟨h0, h1, by omega, by omega, ?_, ?_, ?_, ?_⟩
  · rw [hl]; split <;> omega
  · rw [hl]; split <;> omega
  · rw [hl]; split <;> omega
  · intro i hi
    obtain ⟨hj, e⟩ := tail_at (by omega) hi
    have hr := rd_at hi
    obtain ⟨q1, q2, q3, q4, q5, _⟩ := hI _ hj
    unfold lineOk
    rw [hr, e]
    refine ⟨q2, q3, ?_, q4, q5⟩
    rw [q1, hl]
    split <;> omega
theorem dat_tail {room : Int} {all : List S31} (hI : Inv all) : Dat (tailN all room) := by
  intro x hx
  have hx' : x ∈ all := List.mem_of_mem_drop hx
  obtain ⟨j, hj, rfl⟩ := List.mem_iff_getElem.1 hx'
  obtain ⟨_, _, _, _, _, q6, q7⟩ := hI j hj
  exact ⟨q6, q7⟩
theorem tail_step (all : List S31) (x : S31) (room : Int) (h0 : 0 ≤ room) : tailN (tailN all room ++ [x]) room = tailN (all ++ [x]) room := by
  unfold tailN
  rw [← List.drop_append_of_le_length (l₂ := [x]) (by omega : ((all.length : Int) - room).toNat ≤ all.length), List.drop_drop]
  congr 1
  simp only [List.length_drop, List.length_append, List.length_cons, List.length_nil]
  omega
theorem inv_step {all : List S31} {x : S31} (hI : Inv all) (h1 : lo x.f4.f0 x.f4.f1 = true) (h2 : bad x.f1 x.f4.f0 = false) (h3 : 0 ≤ x.f4.f1 ∧ x.f4.f1 ≤ 65535) : Inv (all ++ [⟨(all.length : Int) + 1, x.f1, x.f2, x.f3, ⟨x.f4.f0, x.f4.f1⟩⟩]) := by
  intro j hj
  rcases Nat.lt_or_ge j all.length with h | h
  · rw [List.getElem_append_left h]
    exact hI j h
  · have : j = all.length := by simp at hj; omega
    subst this
    rw [List.getElem_append_right (Nat.le_refl _)]
    simp only [Nat.sub_self, List.getElem_cons_zero]
    unfold bad at h2
    simp at h2
    exact ⟨by first | trivial | rfl, h1, by simpa using h2.2, h2.1.1, h2.1.2, h3.1, h3.2⟩

theorem clone_f (l : List S31) (hl : l.length ≤ 50000) : api_Line_28.f l = some l := by
  unfold api_Line_28.f
  simp only [Option.bind_some, List.length_nil, List.nil_append]
  rw [if_pos (by omega)]
theorem widen_f (k : Nat) (room nx : Int) (l : List S31) (a : Int) (hd : Dat l) (hR : Rok room nx l) (hl : l.length ≤ 50000) (hk : l.length + 4 < k) (h0 : 1 ≤ a) (h1 : a ≤ room) : log_Widen.f k room nx l a = some (a, nx, tailN l a, 0) := by
  have hR' := hR
  obtain ⟨r1, r2, _⟩ := hR'
  obtain ⟨k, rfl⟩ : ∃ m, k = m + 1 := ⟨k - 1, by omega⟩
  unfold log_Widen.f
  rw [dropped_f (k + 1) room nx l hd hR hl (by omega)]
  simp only [Option.bind_some]
  rw [if_pos trivial, if_neg (by omega), if_neg (by omega), if_neg (by omega)]
  simp only [log_Widen.j0, Bool.false_eq_true, if_false]
  rw [cut_f l a (by omega) (by omega) (by omega)]
  simp only [Option.bind_some]
  rw [clone_f _ (by unfold tailN; simp; omega)]
  rfl
theorem eq_loop (l : List S31) (hl : l.length ≤ 50000) : ∀ (d i k : Nat), i + d = l.length → d < k → api_Line_32.l0 k l l (l.length : Int) i = some true := by
  intro d
  induction d with
  | zero =>
    intro i k hi hk
    obtain ⟨k, rfl⟩ : ∃ m, k = m + 1 := ⟨k - 1, by omega⟩
    simp only [api_Line_32.l0]
    rw [if_neg (by omega)]
  | succ d ih =>
    intro i k hi hk
    obtain ⟨k, rfl⟩ : ∃ m, k = m + 1 := ⟨k - 1, by omega⟩
    simp only [api_Line_32.l0]
    have hw2 : wrap64 ((i : Int) + 1) = ((i + 1 : Nat) : Int) := by rw [w64_id (by omega) (by omega)]; omega
    rw [if_pos (by omega), if_pos (by omega), if_pos (by omega), if_pos (by omega), hw2, ih (i + 1) k (by omega) (by omega)]
    simp
theorem lsame_f (k : Nat) (room nx : Int) (l : List S31) (hl : l.length ≤ 50000) (hk : l.length < k) : log_Same.f k room nx l room nx l = some true := by
  unfold log_Same.f api_Line_32.f
  rw [if_pos rfl, if_pos rfl, if_pos rfl, show ((0 : Int)) = ((0 : Nat) : Int) from rfl, eq_loop l hl l.length 0 k (by omega) hk]
  rfl
/-- All known lines behind another one. -/
def nxt (all : List S31) (x : S31) : List S31 := if lo x.f4.f0 x.f4.f1 = true then all ++ [⟨(all.length : Int) + 1, x.f1, x.f2, x.f3, ⟨x.f4.f0, x.f4.f1⟩⟩] else all
theorem nxt_len (all : List S31) (x : S31) : (nxt all x).length ≤ all.length + 1 := by unfold nxt; split <;> simp
theorem nxt_inv {all : List S31} {x : S31} (hI : Inv all) (h2 : bad x.f1 x.f4.f0 = false) (h3 : 0 ≤ x.f4.f1 ∧ x.f4.f1 ≤ 65535) : Inv (nxt all x) := by
  unfold nxt
  split
  · rename_i h1; exact inv_step hI h1 h2 h3
  · exact hI
theorem put_bad {room : Int} {all : List S31} (h0 : 1 ≤ room) (h1 : room ≤ 32) (hI : Inv all) (ha : all.length ≤ 100) (x : S31) (hx : 0 ≤ x.f4.f1 ∧ x.f4.f1 ≤ 65535) (hb : bad x.f1 x.f4.f0 = true) :
    log_Put.f 1000 room ((all.length : Int) + 1) (tailN all room) x.f1 x.f2 x.f3 x.f4.f0 x.f4.f1 = some (0, 0, [], false, 2) := by
  have hR := ring_ok h0 h1 hI (by omega)
  have hl := tailN_len all room (by omega)
  have hlt : (tailN all room).length ≤ 32 := by split at hl <;> omega
  rw [put_f 1000 room _ _ _ _ _ _ _ (dat_tail hI) (by omega) (by omega) (by omega) (by omega) hx.1 hx.2]
  unfold PutV
  rw [if_pos hR, if_pos hb]
theorem put_good {room : Int} {all : List S31} (h0 : 1 ≤ room) (h1 : room ≤ 32) (hI : Inv all) (ha : all.length ≤ 100) (x : S31) (hx : 0 ≤ x.f4.f1 ∧ x.f4.f1 ≤ 65535) (hb : bad x.f1 x.f4.f0 = false) :
    log_Put.f 1000 room ((all.length : Int) + 1) (tailN all room) x.f1 x.f2 x.f3 x.f4.f0 x.f4.f1 = some (room, ((nxt all x).length : Int) + 1, tailN (nxt all x) room, lo x.f4.f0 x.f4.f1, 0) := by
  have hR := ring_ok h0 h1 hI (by omega)
  have hl := tailN_len all room (by omega)
  have hlt : (tailN all room).length ≤ 32 := by split at hl <;> omega
  rw [put_f 1000 room _ _ _ _ _ _ _ (dat_tail hI) (by omega) (by omega) (by omega) (by omega) hx.1 hx.2]
  unfold PutV nxt
  rw [if_pos hR, if_neg (by simp [hb])]
  by_cases hlo : lo x.f4.f0 x.f4.f1 = true
  · rw [if_pos hlo, if_neg (by omega), if_pos hlo, tail_step _ _ _ (by omega)]
    simp [hlo]
  · rw [if_neg hlo, if_neg hlo]
    have : lo x.f4.f0 x.f4.f1 = false := by simpa using hlo
    rw [this]
theorem tail_narrow (all : List S31) (room narrow : Int) (h0 : 0 ≤ narrow) (h1 : narrow ≤ room) : tailN (tailN all room) narrow = tailN all narrow := by
  unfold tailN
  rw [List.drop_drop]
  congr 1
  simp only [List.length_drop]
  omega
end Go.Proofs.YtcpabgijmknldaaDoor.PN
