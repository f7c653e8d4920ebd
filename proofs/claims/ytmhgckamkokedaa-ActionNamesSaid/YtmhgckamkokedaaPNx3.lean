-- printed by wip/tools/xprint.py (a program of this repo's over the kit's print)
import Derived.Test.YtmhgckamkokedaaPNx0
import Derived.Test.YtmhgckamkokedaaPNx2
namespace Go.Proofs.Ytmhgckamkokedaa.PN
open Go.RowKit Go.Proofs.YtmhgckamkokedaaW.PrintWords Go.Proofs.YtmhgckamkokedaaW.PrintLast Go.Proofs.YtmhgckamkokedaaW.PrintMore
attribute [local go_sem] max2_int min2_int max_two min_two max_three min_three max_four min_four   -- for this text's walks alone
set_option linter.unusedVariables false
set_option linter.unusedSimpArgs false

/-! ### wicketgatelaw06_ActionNames: function 5 -/
mutual
def wicketgatelaw06_ActionNames.j1 : Nat → List ByteArray → Option (Bool)
 | 0, _ => none
 | k + 1, x1 => wicketgatelaw06_ActionNames.l1 k x1 (x1.length : Int) 0
def wicketgatelaw06_ActionNames.l1 : Nat → List ByteArray → Int → Int → Option (Bool)
 | 0, _, _, _ => none
 | k + 1, x43, x44, x45 => if x45 < x44 then (if 0 ≤ x45 then (if x45 < (x43.length : Int) then (if x45 = 20 then (some true) else (if 0 ≤ (mn ((rdOf ByteArray.empty x43 x45).size : Int) 20) then (if (mn ((rdOf ByteArray.empty x43 x45).size : Int) 20) ≤ ((rdOf ByteArray.empty x43 x45).size : Int) then (wicketgatelaw06_ActionNames.l2 k ((rdOf ByteArray.empty x43 x45).extract 0 ((mn ((rdOf ByteArray.empty x43 x45).size : Int) 20) : Int).toNat) 0 false x43 x44 x45 0) else (none)) else (none))) else (none)) else (none)) else (some true)
def wicketgatelaw06_ActionNames.l2 : Nat → ByteArray → Int → Bool → List ByteArray → Int → Int → Int → Option (Bool)
 | 0, _, _, _, _, _, _, _ => none
 | k + 1, x10, x11, x12, x43, x44, x45, x57 => if x57 < 8 then ((wicketgateref06_Name.f x57).bind fun t145 => (if t145.toList = x10.toList then (wicketgatelaw06_ActionNames.l2 k x10 x57 true x43 x44 x45 (wrap64 (x57 + 1))) else (wicketgatelaw06_ActionNames.l2 k x10 x11 x12 x43 x44 x45 (wrap64 (x57 + 1))))) else ((action_Action.f k x10).bind fun bt146 => (if bt146.1 = x11 then (if (bt146.2 != x12) = true then (some false) else (wicketgatelaw06_ActionNames.l1 k x43 x44 (wrap64 (x45 + 1)))) else (some false)))
def wicketgatelaw06_ActionNames.l0 : Nat → List ByteArray → List Int → Int → Int → Option (Bool)
 | 0, _, _, _, _ => none
 | k + 1, x1, x18, x19, x20 => if x20 < x19 then (if 0 ≤ x20 then (if x20 < (x18.length : Int) then (if x20 = 20 then (wicketgatelaw06_ActionNames.j1 k x1) else ((action_Name.f (rd x18 x20)).bind fun bt141 => ((wicketgateref06_Name.f (rd x18 x20)).bind fun t143 => (if bt141.1.toList = t143.toList then (if (bt141.2 != (bt141.1.toList != ([] : List UInt8))) = true then (some false) else (wicketgatelaw06_ActionNames.l0 k x1 x18 x19 (wrap64 (x20 + 1)))) else (some false))))) else (none)) else (none)) else (wicketgatelaw06_ActionNames.j1 k x1)
end
def wicketgatelaw06_ActionNames.f (k : Nat) (l0 : List Int) (l1 : List ByteArray) : Option (Bool) := (wicketgatelaw06_wakes.f k).bind fun t139 => (if t139 = true then (wicketgatelaw06_ActionNames.l0 k l1 l0 (l0.length : Int) 0) else (some false))
theorem wicketgatelaw06_ActionNames.mono_l : ∀ k, (∀ y0, LeO (wicketgatelaw06_ActionNames.j1 k y0) (wicketgatelaw06_ActionNames.j1 (k + 1) y0)) ∧ (∀ y0 y1 y2, LeO (wicketgatelaw06_ActionNames.l1 k y0 y1 y2) (wicketgatelaw06_ActionNames.l1 (k + 1) y0 y1 y2)) ∧ (∀ y0 y1 y2 y3 y4 y5 y6, LeO (wicketgatelaw06_ActionNames.l2 k y0 y1 y2 y3 y4 y5 y6) (wicketgatelaw06_ActionNames.l2 (k + 1) y0 y1 y2 y3 y4 y5 y6)) ∧ (∀ y0 y1 y2 y3, LeO (wicketgatelaw06_ActionNames.l0 k y0 y1 y2 y3) (wicketgatelaw06_ActionNames.l0 (k + 1) y0 y1 y2 y3))
 | 0 => ⟨fun _ r h => by simp [wicketgatelaw06_ActionNames.j1] at h, fun _ _ _ r h => by simp [wicketgatelaw06_ActionNames.l1] at h, fun _ _ _ _ _ _ _ r h => by simp [wicketgatelaw06_ActionNames.l2] at h, fun _ _ _ _ r h => by simp [wicketgatelaw06_ActionNames.l0] at h⟩
 | k + 1 => by
  obtain ⟨ih0, ih1, ih2, ih3⟩ := wicketgatelaw06_ActionNames.mono_l k
  refine ⟨?_, ?_, ?_, ?_⟩
  ·intro y0
   unfold wicketgatelaw06_ActionNames.j1
   repeat' first
   | (with_reducible exact ih0 _)
   | (with_reducible exact ih1 _ _ _)
   | (with_reducible exact ih2 _ _ _ _ _ _ _)
   | (with_reducible exact ih3 _ _ _ _)
   | (with_reducible exact action_Action.mono _ _)
   | (with_reducible exact wicketgatelaw06_wakes.mono _)
   | (with_reducible exact LeO.refl _)
   | (with_reducible exact LeO.none _)
   | (with_reducible refine LeO.ite ?_ ?_)
   | (with_reducible refine LeO.bind ?_ (fun _ => ?_))
   | exact ih0 _
   | exact ih1 _ _ _
   | exact ih2 _ _ _ _ _ _ _
   | exact ih3 _ _ _ _
   | exact action_Action.mono _ _
   | exact wicketgatelaw06_wakes.mono _
   | exact LeO.none _
   | refine LeO.ite ?_ ?_
   | refine LeO.bind ?_ (fun _ => ?_)
  ·intro y0 y1 y2
   unfold wicketgatelaw06_ActionNames.l1
   repeat' first
   | (with_reducible exact ih0 _)
   | (with_reducible exact ih1 _ _ _)
   | (with_reducible exact ih2 _ _ _ _ _ _ _)
   | (with_reducible exact ih3 _ _ _ _)
   | (with_reducible exact action_Action.mono _ _)
   | (with_reducible exact wicketgatelaw06_wakes.mono _)
   | (with_reducible exact LeO.refl _)
   | (with_reducible exact LeO.none _)
   | (with_reducible refine LeO.ite ?_ ?_)
   | (with_reducible refine LeO.bind ?_ (fun _ => ?_))
   | exact ih0 _
   | exact ih1 _ _ _
   | exact ih2 _ _ _ _ _ _ _
   | exact ih3 _ _ _ _
   | exact action_Action.mono _ _
   | exact wicketgatelaw06_wakes.mono _
   | exact LeO.none _
   | refine LeO.ite ?_ ?_
   | refine LeO.bind ?_ (fun _ => ?_)
  ·intro y0 y1 y2 y3 y4 y5 y6
   unfold wicketgatelaw06_ActionNames.l2
   repeat' first
   | (with_reducible exact ih0 _)
   | (with_reducible exact ih1 _ _ _)
   | (with_reducible exact ih2 _ _ _ _ _ _ _)
   | (with_reducible exact ih3 _ _ _ _)
   | (with_reducible exact action_Action.mono _ _)
   | (with_reducible exact wicketgatelaw06_wakes.mono _)
   | (with_reducible exact LeO.refl _)
   | (with_reducible exact LeO.none _)
   | (with_reducible refine LeO.ite ?_ ?_)
   | (with_reducible refine LeO.bind ?_ (fun _ => ?_))
   | exact ih0 _
   | exact ih1 _ _ _
   | exact ih2 _ _ _ _ _ _ _
   | exact ih3 _ _ _ _
   | exact action_Action.mono _ _
   | exact wicketgatelaw06_wakes.mono _
   | exact LeO.none _
   | refine LeO.ite ?_ ?_
   | refine LeO.bind ?_ (fun _ => ?_)
  ·intro y0 y1 y2 y3
   unfold wicketgatelaw06_ActionNames.l0
   repeat' first
   | (with_reducible exact ih0 _)
   | (with_reducible exact ih1 _ _ _)
   | (with_reducible exact ih2 _ _ _ _ _ _ _)
   | (with_reducible exact ih3 _ _ _ _)
   | (with_reducible exact action_Action.mono _ _)
   | (with_reducible exact wicketgatelaw06_wakes.mono _)
   | (with_reducible exact LeO.refl _)
   | (with_reducible exact LeO.none _)
   | (with_reducible refine LeO.ite ?_ ?_)
   | (with_reducible refine LeO.bind ?_ (fun _ => ?_))
   | exact ih0 _
   | exact ih1 _ _ _
   | exact ih2 _ _ _ _ _ _ _
   | exact ih3 _ _ _ _
   | exact action_Action.mono _ _
   | exact wicketgatelaw06_wakes.mono _
   | exact LeO.none _
   | refine LeO.ite ?_ ?_
   | refine LeO.bind ?_ (fun _ => ?_)
theorem wicketgatelaw06_ActionNames.mono : ∀ a0 a1 k, LeO (wicketgatelaw06_ActionNames.f k a0 a1) (wicketgatelaw06_ActionNames.f (k + 1) a0 a1) := by
 intro a0 a1 k
 obtain ⟨ih0, ih1, ih2, ih3⟩ := wicketgatelaw06_ActionNames.mono_l k
 unfold wicketgatelaw06_ActionNames.f
 repeat' first
   | (with_reducible exact ih0 _)
   | (with_reducible exact ih1 _ _ _)
   | (with_reducible exact ih2 _ _ _ _ _ _ _)
   | (with_reducible exact ih3 _ _ _ _)
   | (with_reducible exact action_Action.mono _ _)
   | (with_reducible exact wicketgatelaw06_wakes.mono _)
   | (with_reducible exact LeO.refl _)
   | (with_reducible exact LeO.none _)
   | (with_reducible refine LeO.ite ?_ ?_)
   | (with_reducible refine LeO.bind ?_ (fun _ => ?_))
   | exact ih0 _
   | exact ih1 _ _ _
   | exact ih2 _ _ _ _ _ _ _
   | exact ih3 _ _ _ _
   | exact action_Action.mono _ _
   | exact wicketgatelaw06_wakes.mono _
   | exact LeO.none _
   | refine LeO.ite ?_ ?_
   | refine LeO.bind ?_ (fun _ => ?_)
set_option maxHeartbeats 8000000 in
set_option maxRecDepth 100000 in
theorem wicketgatelaw06_ActionNames.calls (k : Nat) (A0 : Option Addr) (c0 : Nat) (l0 : List Int) (A1 : Option Addr) (c1 : Nat) (l1 : List ByteArray) (r : Bool) (w : World) (hr0 : Kd.C (Kd.int .i64) w A0 l0.length l0) (hc0 : l0.length ≤ c0) (hr1 : Kd.C Kd.string w A1 l1.length l1) (hc1 : l1.length ≤ c1) (h : wicketgatelaw06_ActionNames.f k l0 l1 = some r) (hr_ : r = true := by rfl) :
  Calls Try.prog 5 #[.slice A0 l0.length c0, .slice A1 l1.length c1] w fun e w' => e = .returned (.bool r) ∧ Below w.heap.size w w' := by
 have HRr := Aside0.mk hr_
 clear hr_
 have HR0 := Aside0.mk hr0
 have HC0 := Aside0.mk hc0
 clear hr0 hc0
 have HR1 := Aside0.mk hr1
 have HC1 := Aside0.mk hc1
 clear hr1 hc1
 have HB := Aside0.mk (Below.refl w.heap.size w)
 have H : ((wicketgatelaw06_wakes.f k).bind fun t139 => (if t139 = true then (wicketgatelaw06_ActionNames.l0 k l1 l0 (l0.length : Int) 0) else (some false))) = some r := h
 clear h
 replace H := Option.bind_eq_some_iff.mp H
 obtain ⟨t139, A30, H⟩ := H
 replace H : (if t139 = true then (wicketgatelaw06_ActionNames.l0 k l1 l0 (l0.length : Int) 0) else (some false)) = some r := H
 have A3 := Aside0.mk A30
 clear A30
 by_cases c4 : t139 = true
 ·subst c4
  have H1 : (wicketgatelaw06_ActionNames.l0 k l1 l0 (l0.length : Int) 0) = some r := by rw [if_pos rfl] at H; exact H
  clear H
  have H := H1
  clear H1
  have HC5 := Aside0.mk H
  clear H
  go_enter Try.func5, Try.ntmps5
  go_upto_block 0 with (first | ((with_reducible refine gate_callee (f := 8) rfl ?_); refine goesL_ (some 16) rfl rfl Try.func8 (by kernel_rfl) rfl #[] rfl (by (try simp only [List.map_toArray, List.map_cons, List.map_nil]); first | done | rfl | (simp only [List.length_drop, List.length_take]; rfl)) ?_; (with_reducible refine (wicketgatelaw06_wakes.calls k  true _ A3.out).mono ?_); rintro e w6 ⟨rfl, hb⟩; refine ⟨_, rfl, ?_⟩; have n0_ := Aside0.mk (below_step (by repeat (first | (with_reducible first | exact HB.out | apply below_alloc | apply pw_below_drewN | apply below_drew1) | exact HB.out)) hb); clear HB; have HB := n0_; clear n0_; (try clear hb); (try clear hb2); (try clear hk); (try clear hi)))
  (try simp only [Act.put, List.setIfInBounds_toArray, List.set_cons_zero, List.set_cons_succ])
  go_cut [] (fun wc => ∃ (kq : Nat), Aside0 (wicketgatelaw06_ActionNames.j1 kq l1 = some r) ∧ Aside0 (kq ≤ k) ∧ Aside0 (Below w.heap.size w wc))
  case first =>
   have H := HC5.out
   clear HC5
   have H' := Aside0.mk H
   clear H
   go_wp2
   go_loopg [20] k (fun kq v20 w' => ∃ (x20_1 : Int), v20 = .int .i64 x20_1 ∧ Aside0 (wicketgatelaw06_ActionNames.l0 kq l1 l0 (l0.length : Int) x20_1 = some r) ∧ Aside0 (kq ≤ k) ∧ Aside0 (Below w.heap.size w w'))
   case atStart => exact ⟨(0), (by first | rfl | (simp; done) | (simp [*]; done)), H', ⟨Nat.le_refl _⟩, ⟨by repeat (first | (with_reducible first | exact HB.out | apply below_alloc | apply pw_below_drewN | apply below_drew1) | exact HB.out)⟩⟩
   case round =>
    clear H'
    try clear c1
    try clear p2
    try clear c4
    try clear c5
    obtain ⟨x20_1, rfl, HA, HK1, HB⟩ := hrel
    cases gk with
    | zero => exact absurd HA.out (by simp [wicketgatelaw06_ActionNames.l0])
    | succ k1 =>
     have H := HA.out
     clear HA
     simp only [wicketgatelaw06_ActionNames.l0] at H
     by_cases c7 : x20_1 < (l0.length : Int)
     ·rw [if_pos c7] at H
      have c7b0 : decide (x20_1 < (l0.length : Int)) = true := decide_eq_true c7
      clear c7
      (first | rw [c7b0] | (simp only [i64_w, i32_w]; rw [c7b0]) | skip)
      by_cases c8 : 0 ≤ x20_1
      ·rw [if_pos c8] at H
       have c8b0 : decide (0 ≤ x20_1) = true := decide_eq_true c8
       clear c8
       by_cases c9 : x20_1 < (l0.length : Int)
       ·rw [if_pos c9] at H
        have c9b0 : decide (x20_1 < (l0.length : Int)) = true := decide_eq_true c9
        clear c9
        by_cases c10 : x20_1 = 20
        ·rw [if_pos c10] at H
         have c10b0 : (x20_1 == 20) = true := beq_iff_eq.mpr c10
         have c10b1 : (x20_1 != 20) = false := bne_eq_false_iff_eq.mpr c10
         clear c10
         have H' := Aside0.mk H
         clear H
         have p140 : 0 ≤ (x20_1 : Int) := of_decide_eq_true (by first | (with_reducible assumption) | assumption)
         have q140 : x20_1 < (l0.length : Int) := of_decide_eq_true (by first | (with_reducible assumption) | assumption)
         obtain ⟨ad140, e140, hx140_0⟩ := Kd.at_int HR0.out x20_1 p140 q140
         cases e140
         replace hx140_0 := (HB.out.cell (World.block_lt_of_cell? w _ hx140_0)).trans hx140_0
         replace p140 := eq_true p140
         replace q140 := eq_true q140
         go_wp2
         go_meet
         case rel => exact ⟨_, H', ⟨by have := HK1.out; first | omega | exact Nat.le_refl _⟩, ⟨by repeat (first | (with_reducible first | exact HB.out | apply below_alloc | apply pw_below_drewN | apply below_drew1) | exact HB.out)⟩⟩
        ·rw [if_neg c10] at H
         have c10b0 : (x20_1 == 20) = false := beq_eq_false_iff_ne.mpr c10
         have c10b1 : (x20_1 != 20) = true := bne_iff_ne.mpr c10
         replace H := Option.bind_eq_some_iff.mp H
         obtain ⟨⟨t141, t142⟩, A110, H⟩ := H
         replace H : ((wicketgateref06_Name.f (rd l0 x20_1)).bind fun t143 => (if t141.toList = t143.toList then (if (t142 != (t141.toList != ([] : List UInt8))) = true then (some false) else (wicketgatelaw06_ActionNames.l0 k1 l1 l0 (l0.length : Int) (wrap64 (x20_1 + 1)))) else (some false))) = some r := H
         have A11 := Aside0.mk A110
         clear A110
         replace H := Option.bind_eq_some_iff.mp H
         obtain ⟨t143, A120, H⟩ := H
         replace H : (if t141.toList = t143.toList then (if (t142 != (t141.toList != ([] : List UInt8))) = true then (some false) else (wicketgatelaw06_ActionNames.l0 k1 l1 l0 (l0.length : Int) (wrap64 (x20_1 + 1)))) else (some false)) = some r := H
         have A12 := Aside0.mk A120
         clear A120
         by_cases c13 : t141.toList = t143.toList
         ·rw [if_pos c13] at H
          have c13b0 : (t141.toList == t143.toList) = true := beq_iff_eq.mpr c13
          have c13b1 : (t141.toList != t143.toList) = false := bne_eq_false_iff_eq.mpr c13
          clear c13
          by_cases c14 : (t142 != (t141.toList != ([] : List UInt8))) = true
          ·rw [if_pos c14] at H
           have c14b0 : (t142 != (t141.toList != ([] : List UInt8))) = true := c14
           (try (have c14b1 : decide (t142 = (t141.toList != ([] : List UInt8))) = false := by simpa using c14))
           (try (have c14b2 : (t142 == (t141.toList != ([] : List UInt8))) = false := by simpa using c14))
           (try (have c14b3 : ¬ (t142 = (t141.toList != ([] : List UInt8))) := by simpa using c14))
           clear c14
           exact absurd ((Option.some.inj H).trans HRr.out) (by simp)
          ·rw [if_neg c14] at H
           have c14b0 : t142 = !t141.toList.isEmpty := by have h_ := c14; revert h_; cases t142 <;> cases t141.toList <;> simp
           subst c14b0
           clear c14
           have H' := Aside0.mk H
           clear H
           have p140 : 0 ≤ (x20_1 : Int) := of_decide_eq_true (by first | (with_reducible assumption) | assumption)
           have q140 : x20_1 < (l0.length : Int) := of_decide_eq_true (by first | (with_reducible assumption) | assumption)
           obtain ⟨ad140, e140, hx140_0⟩ := Kd.at_int HR0.out x20_1 p140 q140
           cases e140
           replace hx140_0 := (HB.out.cell (World.block_lt_of_cell? w _ hx140_0)).trans hx140_0
           replace p140 := eq_true p140
           replace q140 := eq_true q140
           go_wp2_with (first | ((with_reducible refine gate_callee (f := 17) rfl ?_); refine goesL_ (some 29) rfl rfl Try.func17 (by kernel_rfl) rfl #[.int .i64 (rd l0 x20_1)] rfl (by (try simp only [List.map_toArray, List.map_cons, List.map_nil]); first | done | rfl | (simp only [List.length_drop, List.length_take]; rfl)) ?_; (with_reducible refine (action_Name.calls (rd l0 x20_1) t141 (!t141.toList.isEmpty) _ A11.out).mono ?_); rintro e w15 ⟨rfl, hb⟩; refine ⟨_, rfl, ?_⟩; have n0_ := Aside0.mk (below_step (by repeat (first | (with_reducible first | exact HB.out | apply below_alloc | apply pw_below_drewN | apply below_drew1) | exact HB.out)) hb); clear HB; have HB := n0_; clear n0_; (try clear hb); (try clear hb2); (try clear hk); (try clear hi)) | ((with_reducible refine gate_callee (f := 18) rfl ?_); refine goesL_ (some 34) rfl rfl Try.func18 (by kernel_rfl) rfl #[.int .i64 (rd l0 x20_1)] rfl (by (try simp only [List.map_toArray, List.map_cons, List.map_nil]); first | done | rfl | (simp only [List.length_drop, List.length_take]; rfl)) ?_; (with_reducible refine (wicketgateref06_Name.calls (rd l0 x20_1) t143 _ A12.out).mono ?_); rintro e w' ⟨rfl, ⟨nd, rfl⟩⟩; refine ⟨_, rfl, ?_⟩))
           go_roundg k1
           case measure => have := HK1.out; omega
           case rel => exact ⟨(wrap64 (x20_1 + 1)), (by first | rfl | (simp; done) | (simp [*]; done)), H', ⟨by have := HK1.out; omega⟩, ⟨by repeat (first | (with_reducible first | exact HB.out | apply below_alloc | apply pw_below_drewN | apply below_drew1) | exact HB.out)⟩⟩
         ·rw [if_neg c13] at H
          have c13b0 : (t141.toList == t143.toList) = false := beq_eq_false_iff_ne.mpr c13
          have c13b1 : (t141.toList != t143.toList) = true := bne_iff_ne.mpr c13
          exact absurd ((Option.some.inj H).trans HRr.out) (by simp)
       ·rw [if_neg c9] at H
        exact absurd H (by simp)
      ·rw [if_neg c8] at H
       exact absurd H (by simp)
     ·rw [if_neg c7] at H
      have c7b0 : decide (x20_1 < (l0.length : Int)) = false := decide_eq_false c7
      clear c7
      (first | rw [c7b0] | (simp only [i64_w, i32_w]; rw [c7b0]) | skip)
      have H' := Aside0.mk H
      clear H
      go_wp2
      go_meet
      case rel => exact ⟨_, H', ⟨by have := HK1.out; first | omega | exact Nat.le_refl _⟩, ⟨by repeat (first | (with_reducible first | exact HB.out | apply below_alloc | apply pw_below_drewN | apply below_drew1) | exact HB.out)⟩⟩
  case rest =>
   clear HC5
   try clear c1
   try clear p1
   try clear q1
   try clear hx1
   try clear p2
   try clear c4
   try clear c5
   try clear p6
   try clear c7
   try clear c7b0
   try clear c8
   try clear c8b0
   try clear c9
   try clear c9b0
   try clear c10
   try clear c10b0
   try clear c10b1
   try clear c13
   try clear c13b0
   try clear c13b1
   try clear c14
   try clear c14b0
   try clear c14b1
   try clear c14b2
   try clear p14
   try clear q14
   try clear hx14
   try clear hx140_0
   try clear p140
   try clear p2
   try clear q140
   obtain ⟨kq, HA, HJ4, HB⟩ := hcut
   cases kq with
   | zero => exact absurd HA.out (by simp [wicketgatelaw06_ActionNames.j1])
   | succ kj4 =>
    have H := HA.out
    clear HA
    simp only [wicketgatelaw06_ActionNames.j1] at H
    have H' := Aside0.mk H
    clear H
    go_wp2
    go_loopg [45] kj4 (fun kq v45 w' => ∃ (x45_2 : Int), v45 = .int .i64 x45_2 ∧ Aside0 (wicketgatelaw06_ActionNames.l1 kq l1 (l1.length : Int) x45_2 = some r) ∧ Aside0 (kq ≤ kj4) ∧ Aside0 (Below w.heap.size w w'))
    case atStart => exact ⟨(0), (by first | rfl | (simp; done) | (simp [*]; done)), H', ⟨Nat.le_refl _⟩, ⟨by repeat (first | (with_reducible first | exact HB.out | apply below_alloc | apply pw_below_drewN | apply below_drew1) | exact HB.out)⟩⟩
    case round =>
     clear H'
     try clear c1
     try clear p1
     try clear q1
     try clear hx1
     try clear p2
     try clear c4
     try clear c5
     try clear p6
     try clear c7
     try clear c7b0
     try clear c8
     try clear c8b0
     try clear c9
     try clear c9b0
     try clear c10
     try clear c10b0
     try clear c10b1
     try clear c13
     try clear c13b0
     try clear c13b1
     try clear c14
     try clear c14b0
     try clear c14b1
     try clear c14b2
     try clear p14
     try clear q14
     try clear hx14
     try clear hx140_0
     try clear p1
     try clear p14
     try clear p140
     try clear p2
     try clear p6
     try clear q1
     try clear q14
     try clear q140
     obtain ⟨x45_2, rfl, HA, HK2, HB⟩ := hrel
     cases gk with
     | zero => exact absurd HA.out (by simp [wicketgatelaw06_ActionNames.l1])
     | succ k2 =>
      have H := HA.out
      clear HA
      simp only [wicketgatelaw06_ActionNames.l1] at H
      by_cases c16 : x45_2 < (l1.length : Int)
      ·rw [if_pos c16] at H
       have c16b0 : decide (x45_2 < (l1.length : Int)) = true := decide_eq_true c16
       clear c16
       by_cases c17 : 0 ≤ x45_2
       ·rw [if_pos c17] at H
        have c17b0 : decide (0 ≤ x45_2) = true := decide_eq_true c17
        clear c17
        by_cases c18 : x45_2 < (l1.length : Int)
        ·rw [if_pos c18] at H
         have c18b0 : decide (x45_2 < (l1.length : Int)) = true := decide_eq_true c18
         clear c18
         by_cases c19 : x45_2 = 20
         ·rw [if_pos c19] at H
          have c19b0 : (x45_2 == 20) = true := beq_iff_eq.mpr c19
          have c19b1 : (x45_2 != 20) = false := bne_eq_false_iff_eq.mpr c19
          clear c19
          obtain rfl := Option.some.inj H
          have p144 : 0 ≤ (x45_2 : Int) := of_decide_eq_true (by first | (with_reducible assumption) | assumption)
          have q144 : x45_2 < (l1.length : Int) := of_decide_eq_true (by first | (with_reducible assumption) | assumption)
          obtain ⟨ad144, e144, hx144_0⟩ := Kd.at_string HR1.out x45_2 p144 q144
          cases e144
          replace hx144_0 := (HB.out.cell (World.block_lt_of_cell? w _ hx144_0)).trans hx144_0
          replace p144 := eq_true p144
          replace q144 := eq_true q144
          go_wp2
          go_ret
          exact ⟨by first | rfl | (simp [errW_none, errW_some] <;> rfl) | (simp [*, errW_none, errW_some] <;> rfl), by repeat (first | (with_reducible first | exact HB.out | apply below_alloc | apply pw_below_drewN | apply below_drew1) | exact HB.out)⟩
         ·rw [if_neg c19] at H
          have c19b0 : (x45_2 == 20) = false := beq_eq_false_iff_ne.mpr c19
          have c19b1 : (x45_2 != 20) = true := bne_iff_ne.mpr c19
          obtain ⟨ji20, hji20⟩ : ∃ j_ : Int, (mn ((rdOf ByteArray.empty l1 x45_2).size : Int) 20) = j_ := ⟨_, rfl⟩
          replace H : (if 0 ≤ (ji20) then (if (ji20) ≤ ((rdOf ByteArray.empty l1 x45_2).size : Int) then (wicketgatelaw06_ActionNames.l2 k2 ((rdOf ByteArray.empty l1 x45_2).extract 0 ((ji20) : Int).toNat) 0 false l1 (l1.length : Int) x45_2 0) else (none)) else (none)) = some r := by first | (rw [hji20] at H; exact H) | (simp only [hji20] at H ⊢; exact H)
          have hji20_ : (if 20 < ((rdOf ByteArray.empty l1 x45_2).size : Int) then 20 else ((rdOf ByteArray.empty l1 x45_2).size : Int)) = ji20 := hji20
          by_cases c21 : 0 ≤ (ji20)
          ·rw [if_pos c21] at H
           have c21b0 := eq_true c21
           have c21b1 : decide (0 ≤ (ji20)) = true := decide_eq_true c21
           clear c21
           by_cases c22 : (ji20) ≤ ((rdOf ByteArray.empty l1 x45_2).size : Int)
           ·rw [if_pos c22] at H
            have c22b0 := eq_true c22
            have c22b1 : decide ((ji20) ≤ ((rdOf ByteArray.empty l1 x45_2).size : Int)) = true := decide_eq_true c22
            clear c22
            have H' := Aside0.mk H
            clear H
            have p144 : 0 ≤ (x45_2 : Int) := of_decide_eq_true (by first | (with_reducible assumption) | assumption)
            have q144 : x45_2 < (l1.length : Int) := of_decide_eq_true (by first | (with_reducible assumption) | assumption)
            obtain ⟨ad144, e144, hx144_0⟩ := Kd.at_string HR1.out x45_2 p144 q144
            cases e144
            replace hx144_0 := (HB.out.cell (World.block_lt_of_cell? w _ hx144_0)).trans hx144_0
            replace p144 := eq_true p144
            replace q144 := eq_true q144
            go_wp2
            go_loopg [11, 12, 57] k2 (fun kq v11 v12 v57 w' => ∃ (x11_3 : Int) (x12_3 : Bool) (x57_3 : Int), v11 = .int .i64 x11_3 ∧ v12 = .bool x12_3 ∧ v57 = .int .i64 x57_3 ∧ Aside0 (wicketgatelaw06_ActionNames.l2 kq ((rdOf ByteArray.empty l1 x45_2).extract 0 ((ji20) : Int).toNat) x11_3 x12_3 l1 (l1.length : Int) x45_2 x57_3 = some r) ∧ Aside0 (kq ≤ k2) ∧ Aside0 (Below w.heap.size w w'))
            case atStart => exact ⟨(0), (false), (0), (by first | rfl | (simp; done) | (simp [*]; done)), (by first | rfl | (simp; done) | (simp [*]; done)), (by first | rfl | (simp; done) | (simp [*]; done)), H', ⟨Nat.le_refl _⟩, ⟨by repeat (first | (with_reducible first | exact HB.out | apply below_alloc | apply pw_below_drewN | apply below_drew1) | exact HB.out)⟩⟩
            case round =>
             clear H'
             try clear c1
             try clear p1
             try clear q1
             try clear hx1
             try clear c2
             try clear p2
             try clear c4
             try clear c5
             try clear p6
             try clear c7
             try clear c7b0
             try clear c8
             try clear c8b0
             try clear c9
             try clear c9b0
             try clear c10
             try clear c10b0
             try clear c10b1
             try clear c13
             try clear c13b0
             try clear c13b1
             try clear c14
             try clear c14b0
             try clear c14b1
             try clear c14b2
             try clear p14
             try clear q14
             try clear hx14
             try clear c16
             try clear c16b0
             try clear c17
             try clear c17b0
             try clear c18
             try clear c18b0
             try clear c19
             try clear c19b0
             try clear c19b1
             try clear c21
             try clear c21b0
             try clear c21b1
             try clear c22
             try clear c22b0
             try clear c22b1
             try clear hx140_0
             try clear hx144_0
             try clear p1
             try clear p14
             try clear p140
             try clear p144
             try clear p2
             try clear p6
             try clear q1
             try clear q14
             try clear q140
             try clear q144
             obtain ⟨x11_3, x12_3, x57_3, rfl, rfl, rfl, HA, HK3, HB⟩ := hrel
             cases gk with
             | zero => exact absurd HA.out (by simp [wicketgatelaw06_ActionNames.l2])
             | succ k3 =>
              have H := HA.out
              clear HA
              simp only [wicketgatelaw06_ActionNames.l2] at H
              by_cases c23 : x57_3 < 8
              ·rw [if_pos c23] at H
               have c23b0 : decide (x57_3 < 8) = true := decide_eq_true c23
               clear c23
               replace H := Option.bind_eq_some_iff.mp H
               obtain ⟨t145, A240, H⟩ := H
               replace H : (if t145.toList = ((rdOf ByteArray.empty l1 x45_2).extract 0 ((ji20) : Int).toNat).toList then (wicketgatelaw06_ActionNames.l2 k3 ((rdOf ByteArray.empty l1 x45_2).extract 0 ((ji20) : Int).toNat) x57_3 true l1 (l1.length : Int) x45_2 (wrap64 (x57_3 + 1))) else (wicketgatelaw06_ActionNames.l2 k3 ((rdOf ByteArray.empty l1 x45_2).extract 0 ((ji20) : Int).toNat) x11_3 x12_3 l1 (l1.length : Int) x45_2 (wrap64 (x57_3 + 1)))) = some r := H
               have A24 := Aside0.mk A240
               clear A240
               by_cases c25 : t145.toList = ((rdOf ByteArray.empty l1 x45_2).extract 0 ((ji20) : Int).toNat).toList
               ·rw [if_pos c25] at H
                have c25b0 : (t145.toList == ((rdOf ByteArray.empty l1 x45_2).extract 0 ((ji20) : Int).toNat).toList) = true := beq_iff_eq.mpr c25
                have c25b1 : (t145.toList != ((rdOf ByteArray.empty l1 x45_2).extract 0 ((ji20) : Int).toNat).toList) = false := bne_eq_false_iff_eq.mpr c25
                clear c25
                have H' := Aside0.mk H
                clear H
                go_wp2_with (first | ((with_reducible refine gate_callee (f := 18) rfl ?_); refine goesL_ (some 61) rfl rfl Try.func18 (by kernel_rfl) rfl #[.int .i64 x57_3] rfl (by (try simp only [List.map_toArray, List.map_cons, List.map_nil]); first | done | rfl | (simp only [List.length_drop, List.length_take]; rfl)) ?_; (with_reducible refine (wicketgateref06_Name.calls x57_3 t145 _ A24.out).mono ?_); rintro e w' ⟨rfl, ⟨nd, rfl⟩⟩; refine ⟨_, rfl, ?_⟩))
                go_roundg k3
                case measure => have := HJ4.out; have := HK2.out; have := HK3.out; omega
                case rel => exact ⟨(x57_3), (true), (wrap64 (x57_3 + 1)), (by first | rfl | (simp; done) | (simp [*]; done)), (by first | rfl | (simp; done) | (simp [*]; done)), (by first | rfl | (simp; done) | (simp [*]; done)), H', ⟨by have := HJ4.out; have := HK2.out; have := HK3.out; omega⟩, ⟨by repeat (first | (with_reducible first | exact HB.out | apply below_alloc | apply pw_below_drewN | apply below_drew1) | exact HB.out)⟩⟩
               ·rw [if_neg c25] at H
                have c25b0 : (t145.toList == ((rdOf ByteArray.empty l1 x45_2).extract 0 ((ji20) : Int).toNat).toList) = false := beq_eq_false_iff_ne.mpr c25
                have c25b1 : (t145.toList != ((rdOf ByteArray.empty l1 x45_2).extract 0 ((ji20) : Int).toNat).toList) = true := bne_iff_ne.mpr c25
                have H' := Aside0.mk H
                clear H
                go_wp2_with (first | ((with_reducible refine gate_callee (f := 18) rfl ?_); refine goesL_ (some 61) rfl rfl Try.func18 (by kernel_rfl) rfl #[.int .i64 x57_3] rfl (by (try simp only [List.map_toArray, List.map_cons, List.map_nil]); first | done | rfl | (simp only [List.length_drop, List.length_take]; rfl)) ?_; (with_reducible refine (wicketgateref06_Name.calls x57_3 t145 _ A24.out).mono ?_); rintro e w' ⟨rfl, ⟨nd, rfl⟩⟩; refine ⟨_, rfl, ?_⟩))
                go_roundg k3
                case measure => have := HJ4.out; have := HK2.out; have := HK3.out; omega
                case rel => exact ⟨(x11_3), (x12_3), (wrap64 (x57_3 + 1)), (by first | rfl | (simp; done) | (simp [*]; done)), (by first | rfl | (simp; done) | (simp [*]; done)), (by first | rfl | (simp; done) | (simp [*]; done)), H', ⟨by have := HJ4.out; have := HK2.out; have := HK3.out; omega⟩, ⟨by repeat (first | (with_reducible first | exact HB.out | apply below_alloc | apply pw_below_drewN | apply below_drew1) | exact HB.out)⟩⟩
              ·rw [if_neg c23] at H
               have c23b0 : decide (x57_3 < 8) = false := decide_eq_false c23
               clear c23
               replace H := Option.bind_eq_some_iff.mp H
               obtain ⟨⟨t146, t147⟩, A260, H⟩ := H
               replace H : (if t146 = x11_3 then (if (t147 != x12_3) = true then (some false) else (wicketgatelaw06_ActionNames.l1 k3 l1 (l1.length : Int) (wrap64 (x45_2 + 1)))) else (some false)) = some r := H
               have A26 := Aside0.mk A260
               clear A260
               by_cases c27 : t146 = x11_3
               ·rw [if_pos c27] at H
                have c27b0 : (t146 == x11_3) = true := beq_iff_eq.mpr c27
                have c27b1 : (t146 != x11_3) = false := bne_eq_false_iff_eq.mpr c27
                clear c27
                by_cases c28 : (t147 != x12_3) = true
                ·rw [if_pos c28] at H
                 have c28b0 : (t147 != x12_3) = true := c28
                 (try (have c28b1 : decide (t147 = x12_3) = false := by simpa using c28))
                 (try (have c28b2 : (t147 == x12_3) = false := by simpa using c28))
                 (try (have c28b3 : ¬ (t147 = x12_3) := by simpa using c28))
                 clear c28
                 exact absurd ((Option.some.inj H).trans HRr.out) (by simp)
                ·rw [if_neg c28] at H
                 have c28b0 : (t147 != x12_3) = false := by simpa using c28
                 (try (have c28b1 : decide (t147 = x12_3) = true := by simpa using c28))
                 (try (have c28b2 : (t147 == x12_3) = true := by simpa using c28))
                 clear c28
                 have H' := Aside0.mk H
                 clear H
                 go_wp2_with (first | ((with_reducible refine gate_callee (f := 19) rfl ?_); refine goesL_ (some 68) rfl rfl Try.func19 (by kernel_rfl) rfl #[.string ((rdOf ByteArray.empty l1 x45_2).extract 0 ((ji20) : Int).toNat)] rfl (by (try simp only [List.map_toArray, List.map_cons, List.map_nil]); first | done | (simp only [hji20]; rfl) | rfl | (simp only [List.length_drop, List.length_take]; rfl)) ?_; (with_reducible refine (action_Action.calls k3 ((rdOf ByteArray.empty l1 x45_2).extract 0 ((ji20) : Int).toNat) t146 t147 _ A26.out).mono ?_); rintro e w29 ⟨rfl, hb⟩; refine ⟨_, rfl, ?_⟩; have n0_ := Aside0.mk (below_step (by repeat (first | (with_reducible first | exact HB.out | apply below_alloc | apply pw_below_drewN | apply below_drew1) | exact HB.out)) hb); clear HB; have HB := n0_; clear n0_; (try clear hb); (try clear hb2); (try clear hk); (try clear hi)))
                 go_roundg k3
                 case measure => have := HJ4.out; have := HK2.out; have := HK3.out; omega
                 case rel => exact ⟨(wrap64 (x45_2 + 1)), (by first | rfl | (simp; done) | (simp [*]; done)), H', ⟨by have := HJ4.out; have := HK2.out; have := HK3.out; omega⟩, ⟨by repeat (first | (with_reducible first | exact HB.out | apply below_alloc | apply pw_below_drewN | apply below_drew1) | exact HB.out)⟩⟩
               ·rw [if_neg c27] at H
                have c27b0 : (t146 == x11_3) = false := beq_eq_false_iff_ne.mpr c27
                have c27b1 : (t146 != x11_3) = true := bne_iff_ne.mpr c27
                exact absurd ((Option.some.inj H).trans HRr.out) (by simp)
           ·rw [if_neg c22] at H
            exact absurd H (by simp)
          ·rw [if_neg c21] at H
           exact absurd H (by simp)
        ·rw [if_neg c18] at H
         exact absurd H (by simp)
       ·rw [if_neg c17] at H
        exact absurd H (by simp)
      ·rw [if_neg c16] at H
       have c16b0 : decide (x45_2 < (l1.length : Int)) = false := decide_eq_false c16
       clear c16
       obtain rfl := Option.some.inj H
       go_wp2
       go_ret
       exact ⟨by first | rfl | (simp [errW_none, errW_some] <;> rfl) | (simp [*, errW_none, errW_some] <;> rfl), by repeat (first | (with_reducible first | exact HB.out | apply below_alloc | apply pw_below_drewN | apply below_drew1) | exact HB.out)⟩
 ·replace c4 := Bool.eq_false_iff.mpr c4
  subst c4
  have H1 : (some false) = some r := by rw [if_neg (show ¬ (false = true) by decide)] at H; exact H
  clear H
  have H := H1
  clear H1
  exact absurd ((Option.some.inj H).trans HRr.out) (by simp)

end Go.Proofs.Ytmhgckamkokedaa.PN
