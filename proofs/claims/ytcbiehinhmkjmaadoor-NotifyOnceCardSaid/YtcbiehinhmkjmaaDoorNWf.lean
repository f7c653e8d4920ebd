import Derived.Test.YtcbiehinhmkjmaaDoorNWd
import Derived.Test.YtcbiehinhmkjmaaDoorNW
namespace Go.Proofs.YtcbiehinhmkjmaaDoor.NB
open Go.RowKit Go.Proofs.YtcbiehinhmkjmaaDoorW.PrintWords Go.Proofs.YtcbiehinhmkjmaaDoorW.PrintLast Go.Proofs.YtcbiehinhmkjmaaDoorW.PrintMore
open Go.Proofs.YtcbiehinhmkjmaaDoor.PB
set_option linter.unusedVariables false
set_option linter.unusedSimpArgs false

def waitV (nx : Int) (l : List S36) : List Int := open Classical in if Dok nx l then srt (l.map (fun x => x.f1)) else []
theorem wait_ok {nx : Int} {l : List S36} (h : Dok nx l) : waitV nx l = srt (l.map (fun x => x.f1)) := if_pos h
theorem wait_no {nx : Int} {l : List S36} (h : ¬ Dok nx l) : waitV nx l = [] := if_neg h
theorem srt_len (l : List Int) : (srt l).length = l.length := List.length_mergeSort l
def tidIn (l : List S36) (n : Int) : List Int := (l.map (fun x => x.f1)).filter (fun t => t == n)
def tidOut (l : List S36) : Nat → List Int
  | 0 => []
  | m + 1 => tidOut l m ++ tidIn l ((m + 1 : Nat) : Int)
theorem tidIn_len (l : List S36) (n : Int) : (tidIn l n).length ≤ l.length := by
  unfold tidIn
  exact Nat.le_trans (List.length_filter_le _ _) (by rw [List.length_map]; exact Nat.le_refl _)
theorem tidOut_len (l : List S36) (m : Nat) : (tidOut l m).length ≤ m * l.length := by
  induction m with
  | zero => exact Nat.zero_le _
  | succ m ih =>
    rw [tidOut, List.length_append, Nat.succ_mul]
    have := tidIn_len l ((m + 1 : Nat) : Int)
    omega
theorem tidIn_step (l : List S36) (n : Int) (q : Nat) (hq : q < l.length) : tidIn (l.take (q + 1)) n = tidIn (l.take q) n ++ (if (rd_T36 l (q : Int)).f1 = n then [(rd_T36 l (q : Int)).f1] else []) := by
  unfold tidIn
  rw [List.take_add_one, List.getElem?_eq_getElem hq, rd_at hq]
  simp only [Option.toList_some, List.map_append, List.map_cons, List.map_nil, List.filter_append]
  congr 1
  by_cases h : l[q].f1 = n
  · rw [if_pos h]
    simp [h]
  · rw [if_neg h]
    simp [h]
theorem tidOut_perm (l : List S36) (h : ∀ t ∈ l.map (fun x => x.f1), 1 ≤ t) (m : Nat) : (tidOut l m).Perm ((l.map (fun x => x.f1)).filter (fun t => decide (t ≤ (m : Int)))) := by
  induction m with
  | zero =>
    rw [tidOut, List.filter_eq_nil_iff.2 (fun t ht => by have := h t ht; simp; omega)]
  | succ m ih =>
    rw [tidOut]
    refine (ih.append_right _).trans ?_
    have h2 := List.filter_append_perm (fun t => decide (t ≤ (m : Int))) ((l.map (fun x => x.f1)).filter (fun t => decide (t ≤ ((m + 1 : Nat) : Int))))
    rw [List.filter_filter, List.filter_filter] at h2
    have e1 : (l.map (fun x => x.f1)).filter (fun a => decide (a ≤ (m : Int)) && decide (a ≤ ((m + 1 : Nat) : Int))) = (l.map (fun x => x.f1)).filter (fun t => decide (t ≤ (m : Int))) := List.filter_congr (fun t _ => by by_cases h : t ≤ (m : Int) <;> simp [h] <;> omega)
    have e2 : (l.map (fun x => x.f1)).filter (fun a => !decide (a ≤ (m : Int)) && decide (a ≤ ((m + 1 : Nat) : Int))) = tidIn l ((m + 1 : Nat) : Int) := List.filter_congr (fun t _ => by rw [Bool.eq_iff_iff]; simp; omega)
    rw [e1, e2] at h2
    exact h2
theorem tidOut_le (l : List S36) (m : Nat) : (∀ t ∈ tidOut l m, t ≤ (m : Int)) ∧ (tidOut l m).Pairwise (fun a b => decide (a ≤ b) = true) := by
  induction m with
  | zero => exact ⟨fun t ht => by simp [tidOut] at ht, List.Pairwise.nil⟩
  | succ m ih =>
    have hin : ∀ t ∈ tidIn l ((m + 1 : Nat) : Int), t = ((m + 1 : Nat) : Int) := fun t ht => by
      have := (List.mem_filter.1 ht).2
      simpa using this
    refine ⟨fun t ht => ?_, ?_⟩
    · rw [tidOut, List.mem_append] at ht
      rcases ht with ht | ht
      · have := ih.1 t ht
        omega
      · rw [hin t ht]
        exact Int.le_refl _
    · rw [tidOut, List.pairwise_append]
      refine ⟨ih.2, ?_, fun a ha b hb => ?_⟩
      · refine List.pairwise_of_forall_mem_list (fun a ha b hb => ?_)
        rw [hin a ha, hin b hb]
        simp
      · have := ih.1 a ha
        rw [hin b hb]
        simp
        omega
theorem dok_tids {nx : Int} {l : List S36} (h : Dok nx l) : ∀ t ∈ l.map (fun x => x.f1), 1 ≤ t ∧ t ≤ 20 := by
  intro t ht
  obtain ⟨x, hx, rfl⟩ := List.mem_map.1 ht
  obtain ⟨q, hq, rfl⟩ := List.mem_iff_getElem.1 hx
  have := h.2.2.2 q hq
  unfold okAt tidOf at this
  rw [rd_at hq] at this
  exact ⟨this.2.2.2.1, this.2.2.2.2.1⟩
theorem tids_srt {nx : Int} {l : List S36} (h : Dok nx l) : tidOut l 20 = srt (l.map (fun x => x.f1)) := by
  have h1 := tidOut_perm l (fun t ht => (dok_tids h t ht).1) 20
  rw [List.filter_eq_self.2 (fun t ht => by have := (dok_tids h t ht).2; simp; omega)] at h1
  refine List.Perm.eq_of_pairwise (le := fun a b => a ≤ b) (fun a b _ _ h1 h2 => Int.le_antisymm h1 h2) ((tidOut_le l 20).2.imp (fun h => of_decide_eq_true h)) ?_ (h1.trans (List.mergeSort_perm _ _).symm)
  exact (List.pairwise_mergeSort (le := fun a b => decide (a ≤ b)) (fun a b c h1 h2 => by simp at *; omega) (fun a b => by simp; omega) _).imp (fun h => of_decide_eq_true h)
def validA (l : List S36) (ck : Int) : Bool := l.any (fun x => x.f0 == ck && x.f3)
theorem validA_step (l : List S36) (ck : Int) (q : Nat) (hq : q < l.length) : validA (l.take (q + 1)) ck = (validA (l.take q) ck || ((rd_T36 l (q : Int)).f0 == ck && (rd_T36 l (q : Int)).f3)) := by
  unfold validA
  rw [List.take_add_one, List.getElem?_eq_getElem hq, rd_at hq]
  simp only [Option.toList_some, List.any_append, List.any_cons, List.any_nil, Bool.or_false]
theorem valid_no {nx : Int} {l : List S36} {ck : Int} (h : ¬ Dok nx l) : validV nx l ck = false := decide_eq_false (fun h2 => h h2.1)
theorem valid_any {nx : Int} {l : List S36} {ck : Int} (h : Dok nx l) : validV nx l ck = validA l ck := by
  have hs := dok_sorted h
  rcases idx_cases (fun x => x.f0 == ck) l with ⟨h1, h2⟩ | ⟨k, hk, h1, h2, h3⟩
  · have e : validV nx l ck = false := decide_eq_false (fun h4 => h4.2.1 h1)
    rw [e]
    symm
    unfold validA
    rw [List.any_eq_false]
    intro x hx
    obtain ⟨q, hq, rfl⟩ := List.mem_iff_getElem.1 hx
    have := h2 q hq
    rw [rd_at hq] at this
    rw [this]
    simp
  · have h4 : ansI l ck = (k : Int) := h1
    have e : validV nx l ck = l[k].f3 := by
      unfold validV
      rw [h4, rd_at hk]
      cases h : l[k].f3 <;> simp [h, *]
    rw [e]
    unfold validA
    have hck : l[k].f0 = ck := by rw [rd_at hk] at h2; simpa using h2
    cases h5 : l[k].f3 with
    | true => exact (List.any_eq_true.2 ⟨l[k], List.getElem_mem hk, by simp [hck, h5]⟩).symm
    | false =>
      symm
      rw [List.any_eq_false]
      intro x hx
      obtain ⟨q, hq, rfl⟩ := List.mem_iff_getElem.1 hx
      by_cases hqk : q = k
      · subst hqk
        simp [h5]
      · have h6 : l[q].f0 ≠ ck := by
          intro h7
          rcases Nat.lt_or_gt_of_ne hqk with h8 | h8
          · have := hs q k h8 hk
            unfold ckOf at this
            rw [rd_at hq, rd_at hk] at this
            omega
          · have := hs k q h8 hq
            unfold ckOf at this
            rw [rd_at hq, rd_at hk] at this
            omega
        simp [h6]
set_option maxRecDepth 100000 in
set_option maxHeartbeats 4000000 in
theorem waiting_w (nx : Int) (A : Option Addr) (c : Nat) (l : List S36) (hl : l.length ≤ 100) (hc : l.length ≤ c) (w : World) (hr : Kd.C k36 w A l.length l) :
    Calls Tryd.prog 22 #[.agg #[.int .u64 nx, .slice A l.length c]] w fun e w' => ∃ (A' : Option Addr) (n' c' : Nat), e = .returned (.slice A' n' c') ∧ n' = (waitV nx l).length ∧ Kd.R (Kd.int .i64) 3 w' w.heap.size (fun _ => True) (.slice A' n' c') (waitV nx l) ∧ Below w.heap.size w w' := by
  obtain ⟨m, hm⟩ : ∃ m, m = l.length := ⟨_, rfl⟩
  have HL := Lib.hid hl
  have hB1 : Below w.heap.size w (w.alloc (.cells #[.int .u64 nx, .slice A m c] 25)) := bel_al (Below.refl _ _) _
  have HB1 := Lib.hid hB1
  have HC1 := Lib.hid (Kd.C_below hr hB1)
  have HX1 := Lib.hid (al_new w (.cells #[.int .u64 nx, .slice A m c] 25))
  have HCK : Hid (∀ W : World, Kd.C k36 W A m l → Calls Tryd.prog 21 #[.agg #[.int .u64 nx, .slice A m c]] W fun e w' => e = .returned (.int .i64 (chkV nx l)) ∧ Below W.heap.size W w') := by
    rw [hm]
    exact Lib.hid (fun W h => check_w nx A c l hc W h)
  have HRS : Hid (l.length ≤ 100 → ∀ W : World, Kd.C k36 W A m l → Calls Tryd.prog 40 #[.slice A m c, .func (.func 41) #[] #[]] W fun e w' => ∃ (A' : Option Addr) (n' c' : Nat), e = .returned (.slice A' n' c') ∧ n' = m ∧ Kd.R (Kd.int .i64) 3 w' W.heap.size (fun _ => True) (.slice A' n' c') (srt (l.map (fun x => x.f1))) ∧ Below W.heap.size W w') := by
    rw [hm]
    exact Lib.hid (fun hl W h => rising_w A c l hl W h)
  have HM := Lib.hid hm
  rw [← hm] at HC1 ⊢
  clear hr hB1 hc hl hm
  by_cases hok : Dok nx l
  case neg =>
    have HV := Lib.hid (chk_no hok)
    have HW := Lib.hid (wait_no hok)
    clear hok
    go_enter Tryd.func22, Tryd.ntmps22
    go_wp2_with (first | (go_at_call 21; (with_reducible refine (HCK.out _ HC1.out).mono ?_); rintro e w3 ⟨he, hb⟩; rw [HV.out] at he; subst he; have HB3 := Lib.hid (HB1.out.trans (hb.mono HB1.out.size)); have HX3 := Lib.hid ((hb.block _ (blk_lt HX1.out)).trans HX1.out); have HC3 := Lib.hid (Kd.C_below HC1.out hb); clear hb; have y0 := blk_cell HX3.out 0; have y1 := blk_cell HX3.out 1))
    go_ret
    exact ⟨none, 0, 0, rfl, by rw [HW.out]; rfl, by rw [HW.out]; exact Kd.R_nil _ _ _ _ _, HB3.out⟩
  have HV := Lib.hid (chk_ok hok)
  have HW := Lib.hid (wait_ok hok)
  clear hok
  go_enter Tryd.func22, Tryd.ntmps22
  go_wp2_with (first | (go_at_call 21; (with_reducible refine (HCK.out _ HC1.out).mono ?_); rintro e w3 ⟨he, hb⟩; rw [HV.out] at he; subst he; have HB3 := Lib.hid (HB1.out.trans (hb.mono HB1.out.size)); have HX3 := Lib.hid ((hb.block _ (blk_lt HX1.out)).trans HX1.out); have HC3 := Lib.hid (Kd.C_below HC1.out hb); clear hb; have y0 := blk_cell HX3.out 0; have y1 := blk_cell HX3.out 1) | (go_at_call 40; (with_reducible refine (HRS.out HL.out _ HC3.out).mono ?_); rintro e w4 ⟨A4, n4, c4, rfl, hn4, hR4, hb4⟩; have HN4 := Lib.hid hn4; have HR4 := Lib.hid (Kd.R_lower hR4 HB3.out.size); have HB4 := Lib.hid (HB3.out.trans (hb4.mono HB3.out.size)); clear hn4 hR4 hb4))
  go_ret
  exact ⟨A4, n4, c4, rfl, by rw [HW.out, srt_len, List.length_map, HN4.out, HM.out], by rw [HW.out]; exact HR4.out, HB4.out⟩
end Go.Proofs.YtcbiehinhmkjmaaDoor.NB
