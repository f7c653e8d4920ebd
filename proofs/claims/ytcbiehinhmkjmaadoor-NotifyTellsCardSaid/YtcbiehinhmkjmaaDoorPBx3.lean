-- printed by wip/tools/xprint.py (a program of this repo's over the kit's print)
import Derived.Test.YtcbiehinhmkjmaaDoorPBx0
namespace Go.Proofs.YtcbiehinhmkjmaaDoor.PB
open Go.RowKit Go.Proofs.YtcbiehinhmkjmaaDoorW.PrintWords Go.Proofs.YtcbiehinhmkjmaaDoorW.PrintLast Go.Proofs.YtcbiehinhmkjmaaDoorW.PrintMore
attribute [local go_sem] max2_int min2_int max_two min_two max_three min_three max_four min_four   -- for this text's walks alone
set_option linter.unusedVariables false
set_option linter.unusedSimpArgs false

/-! ### wicketgateref25_Right: function 23 -/
mutual
def wicketgateref25_Right.j0 : Nat → Bool → Int → List (S36) → Option (Bool)
 | 0, _, _, _ => none
 | k + 1, x19, x146000, x146001 => if x19 = true then (some false) else (wicketgateref25_Right.l0 k 0 x146000 x146001)
def wicketgateref25_Right.l0 : Nat → Int → Int → List (S36) → Option (Bool)
 | 0, _, _, _ => none
 | k + 1, x3, x146000, x146001 => if x3 < (x146001.length : Int) then (if 0 ≤ x3 then (if ((rd_T36 x146001 x3).f0) < 1 then (wicketgateref25_Right.j2 k x3 true x146000 x146001 ((rd_T36 x146001 x3).f0) ((rd_T36 x146001 x3).f1) ((rd_T36 x146001 x3).f2.f0) ((rd_T36 x146001 x3).f2.f1) ((rd_T36 x146001 x3).f2.f2) ((rd_T36 x146001 x3).f2.f3.f0) ((rd_T36 x146001 x3).f2.f3.f1) ((rd_T36 x146001 x3).f2.f3.f2) ((rd_T36 x146001 x3).f2.f3.f3) ((rd_T36 x146001 x3).f2.f3.f4) ((rd_T36 x146001 x3).f2.f3.f5) ((rd_T36 x146001 x3).f3)) else (if ((rd_T36 x146001 x3).f0) ≥ x146000 then (wicketgateref25_Right.j2 k x3 true x146000 x146001 ((rd_T36 x146001 x3).f0) ((rd_T36 x146001 x3).f1) ((rd_T36 x146001 x3).f2.f0) ((rd_T36 x146001 x3).f2.f1) ((rd_T36 x146001 x3).f2.f2) ((rd_T36 x146001 x3).f2.f3.f0) ((rd_T36 x146001 x3).f2.f3.f1) ((rd_T36 x146001 x3).f2.f3.f2) ((rd_T36 x146001 x3).f2.f3.f3) ((rd_T36 x146001 x3).f2.f3.f4) ((rd_T36 x146001 x3).f2.f3.f5) ((rd_T36 x146001 x3).f3)) else (if ((rd_T36 x146001 x3).f1) < 1 then (wicketgateref25_Right.j2 k x3 true x146000 x146001 ((rd_T36 x146001 x3).f0) ((rd_T36 x146001 x3).f1) ((rd_T36 x146001 x3).f2.f0) ((rd_T36 x146001 x3).f2.f1) ((rd_T36 x146001 x3).f2.f2) ((rd_T36 x146001 x3).f2.f3.f0) ((rd_T36 x146001 x3).f2.f3.f1) ((rd_T36 x146001 x3).f2.f3.f2) ((rd_T36 x146001 x3).f2.f3.f3) ((rd_T36 x146001 x3).f2.f3.f4) ((rd_T36 x146001 x3).f2.f3.f5) ((rd_T36 x146001 x3).f3)) else (wicketgateref25_Right.j2 k x3 (decide (((rd_T36 x146001 x3).f1) > 20)) x146000 x146001 ((rd_T36 x146001 x3).f0) ((rd_T36 x146001 x3).f1) ((rd_T36 x146001 x3).f2.f0) ((rd_T36 x146001 x3).f2.f1) ((rd_T36 x146001 x3).f2.f2) ((rd_T36 x146001 x3).f2.f3.f0) ((rd_T36 x146001 x3).f2.f3.f1) ((rd_T36 x146001 x3).f2.f3.f2) ((rd_T36 x146001 x3).f2.f3.f3) ((rd_T36 x146001 x3).f2.f3.f4) ((rd_T36 x146001 x3).f2.f3.f5) ((rd_T36 x146001 x3).f3))))) else (none)) else (some true)
def wicketgateref25_Right.j2 : Nat → Int → Bool → Int → List (S36) → Int → Int → Int → Int → Int → Int → Int → Int → Int → Int → Int → Bool → Option (Bool)
 | 0, _, _, _, _, _, _, _, _, _, _, _, _, _, _, _, _ => none
 | k + 1, x3, x51, x146000, x146001, x148000, x148001, x148002, x148003, x148004, x148005, x148006, x148007, x148008, x148009, x148010, x148011 => if x51 = true then (some false) else (wicketgateref25_Right.l1 k x3 0 x146000 x146001 x148000 x148001 x148002 x148003 x148004 x148005 x148006 x148007 x148008 x148009 x148010 x148011)
def wicketgateref25_Right.l1 : Nat → Int → Int → Int → List (S36) → Int → Int → Int → Int → Int → Int → Int → Int → Int → Int → Int → Bool → Option (Bool)
 | 0, _, _, _, _, _, _, _, _, _, _, _, _, _, _, _, _ => none
 | k + 1, x3, x5, x146000, x146001, x148000, x148001, x148002, x148003, x148004, x148005, x148006, x148007, x148008, x148009, x148010, x148011 => if x5 < x3 then (if 0 ≤ x5 then (if x5 < (x146001.length : Int) then (if ((rd_T36 x146001 x5).f0) ≥ x148000 then (some false) else (if ((rd_T36 x146001 x5).f1) = x148001 then (some false) else (wicketgateref25_Right.l1 k x3 (wrap64 (x5 + 1)) x146000 x146001 x148000 x148001 x148002 x148003 x148004 x148005 x148006 x148007 x148008 x148009 x148010 x148011))) else (none)) else (none)) else (wicketgateref25_Right.l0 k (wrap64 (x3 + 1)) x146000 x146001)
end
def wicketgateref25_Right.f (k : Nat) (a0_0 : Int) (l0_1 : List (S36)) : Option (Bool) := if a0_0 < 1 then (wicketgateref25_Right.j0 k true a0_0 l0_1) else (if a0_0 > 4611686018427387904 then (wicketgateref25_Right.j0 k true a0_0 l0_1) else (wicketgateref25_Right.j0 k (decide ((l0_1.length : Int) > 8)) a0_0 l0_1))
theorem wicketgateref25_Right.mono_l : ∀ k, (∀ y0 y1 y2, LeO (wicketgateref25_Right.j0 k y0 y1 y2) (wicketgateref25_Right.j0 (k + 1) y0 y1 y2)) ∧ (∀ y0 y1 y2, LeO (wicketgateref25_Right.l0 k y0 y1 y2) (wicketgateref25_Right.l0 (k + 1) y0 y1 y2)) ∧ (∀ y0 y1 y2 y3 y4 y5 y6 y7 y8 y9 y10 y11 y12 y13 y14 y15, LeO (wicketgateref25_Right.j2 k y0 y1 y2 y3 y4 y5 y6 y7 y8 y9 y10 y11 y12 y13 y14 y15) (wicketgateref25_Right.j2 (k + 1) y0 y1 y2 y3 y4 y5 y6 y7 y8 y9 y10 y11 y12 y13 y14 y15)) ∧ (∀ y0 y1 y2 y3 y4 y5 y6 y7 y8 y9 y10 y11 y12 y13 y14 y15, LeO (wicketgateref25_Right.l1 k y0 y1 y2 y3 y4 y5 y6 y7 y8 y9 y10 y11 y12 y13 y14 y15) (wicketgateref25_Right.l1 (k + 1) y0 y1 y2 y3 y4 y5 y6 y7 y8 y9 y10 y11 y12 y13 y14 y15))
 | 0 => ⟨fun _ _ _ r h => by simp [wicketgateref25_Right.j0] at h, fun _ _ _ r h => by simp [wicketgateref25_Right.l0] at h, fun _ _ _ _ _ _ _ _ _ _ _ _ _ _ _ _ r h => by simp [wicketgateref25_Right.j2] at h, fun _ _ _ _ _ _ _ _ _ _ _ _ _ _ _ _ r h => by simp [wicketgateref25_Right.l1] at h⟩
 | k + 1 => by
  obtain ⟨ih0, ih1, ih2, ih3⟩ := wicketgateref25_Right.mono_l k
  refine ⟨?_, ?_, ?_, ?_⟩
  ·intro y0 y1 y2
   unfold wicketgateref25_Right.j0
   repeat' first
   | (with_reducible exact ih0 _ _ _)
   | (with_reducible exact ih1 _ _ _)
   | (with_reducible exact ih2 _ _ _ _ _ _ _ _ _ _ _ _ _ _ _ _)
   | (with_reducible exact ih3 _ _ _ _ _ _ _ _ _ _ _ _ _ _ _ _)
   | (with_reducible exact LeO.refl _)
   | (with_reducible exact LeO.none _)
   | (with_reducible refine LeO.ite ?_ ?_)
   | (with_reducible refine LeO.bind ?_ (fun _ => ?_))
   | exact ih0 _ _ _
   | exact ih1 _ _ _
   | exact ih2 _ _ _ _ _ _ _ _ _ _ _ _ _ _ _ _
   | exact ih3 _ _ _ _ _ _ _ _ _ _ _ _ _ _ _ _
   | exact LeO.none _
   | refine LeO.ite ?_ ?_
   | refine LeO.bind ?_ (fun _ => ?_)
  ·intro y0 y1 y2
   unfold wicketgateref25_Right.l0
   repeat' first
   | (with_reducible exact ih0 _ _ _)
   | (with_reducible exact ih1 _ _ _)
   | (with_reducible exact ih2 _ _ _ _ _ _ _ _ _ _ _ _ _ _ _ _)
   | (with_reducible exact ih3 _ _ _ _ _ _ _ _ _ _ _ _ _ _ _ _)
   | (with_reducible exact LeO.refl _)
   | (with_reducible exact LeO.none _)
   | (with_reducible refine LeO.ite ?_ ?_)
   | (with_reducible refine LeO.bind ?_ (fun _ => ?_))
   | exact ih0 _ _ _
   | exact ih1 _ _ _
   | exact ih2 _ _ _ _ _ _ _ _ _ _ _ _ _ _ _ _
   | exact ih3 _ _ _ _ _ _ _ _ _ _ _ _ _ _ _ _
   | exact LeO.none _
   | refine LeO.ite ?_ ?_
   | refine LeO.bind ?_ (fun _ => ?_)
  ·intro y0 y1 y2 y3 y4 y5 y6 y7 y8 y9 y10 y11 y12 y13 y14 y15
   unfold wicketgateref25_Right.j2
   repeat' first
   | (with_reducible exact ih0 _ _ _)
   | (with_reducible exact ih1 _ _ _)
   | (with_reducible exact ih2 _ _ _ _ _ _ _ _ _ _ _ _ _ _ _ _)
   | (with_reducible exact ih3 _ _ _ _ _ _ _ _ _ _ _ _ _ _ _ _)
   | (with_reducible exact LeO.refl _)
   | (with_reducible exact LeO.none _)
   | (with_reducible refine LeO.ite ?_ ?_)
   | (with_reducible refine LeO.bind ?_ (fun _ => ?_))
   | exact ih0 _ _ _
   | exact ih1 _ _ _
   | exact ih2 _ _ _ _ _ _ _ _ _ _ _ _ _ _ _ _
   | exact ih3 _ _ _ _ _ _ _ _ _ _ _ _ _ _ _ _
   | exact LeO.none _
   | refine LeO.ite ?_ ?_
   | refine LeO.bind ?_ (fun _ => ?_)
  ·intro y0 y1 y2 y3 y4 y5 y6 y7 y8 y9 y10 y11 y12 y13 y14 y15
   unfold wicketgateref25_Right.l1
   repeat' first
   | (with_reducible exact ih0 _ _ _)
   | (with_reducible exact ih1 _ _ _)
   | (with_reducible exact ih2 _ _ _ _ _ _ _ _ _ _ _ _ _ _ _ _)
   | (with_reducible exact ih3 _ _ _ _ _ _ _ _ _ _ _ _ _ _ _ _)
   | (with_reducible exact LeO.refl _)
   | (with_reducible exact LeO.none _)
   | (with_reducible refine LeO.ite ?_ ?_)
   | (with_reducible refine LeO.bind ?_ (fun _ => ?_))
   | exact ih0 _ _ _
   | exact ih1 _ _ _
   | exact ih2 _ _ _ _ _ _ _ _ _ _ _ _ _ _ _ _
   | exact ih3 _ _ _ _ _ _ _ _ _ _ _ _ _ _ _ _
   | exact LeO.none _
   | refine LeO.ite ?_ ?_
   | refine LeO.bind ?_ (fun _ => ?_)
theorem wicketgateref25_Right.mono : ∀ a0 a1 k, LeO (wicketgateref25_Right.f k a0 a1) (wicketgateref25_Right.f (k + 1) a0 a1) := by
 intro a0 a1 k
 obtain ⟨ih0, ih1, ih2, ih3⟩ := wicketgateref25_Right.mono_l k
 unfold wicketgateref25_Right.f
 repeat' first
   | (with_reducible exact ih0 _ _ _)
   | (with_reducible exact ih1 _ _ _)
   | (with_reducible exact ih2 _ _ _ _ _ _ _ _ _ _ _ _ _ _ _ _)
   | (with_reducible exact ih3 _ _ _ _ _ _ _ _ _ _ _ _ _ _ _ _)
   | (with_reducible exact LeO.refl _)
   | (with_reducible exact LeO.none _)
   | (with_reducible refine LeO.ite ?_ ?_)
   | (with_reducible refine LeO.bind ?_ (fun _ => ?_))
   | exact ih0 _ _ _
   | exact ih1 _ _ _
   | exact ih2 _ _ _ _ _ _ _ _ _ _ _ _ _ _ _ _
   | exact ih3 _ _ _ _ _ _ _ _ _ _ _ _ _ _ _ _
   | exact LeO.none _
   | refine LeO.ite ?_ ?_
   | refine LeO.bind ?_ (fun _ => ?_)
set_option maxHeartbeats 8000000 in
set_option maxRecDepth 100000 in
theorem wicketgateref25_Right.calls (k : Nat) (a0_0 : Int) (A0_1 : Option Addr) (c0_1 : Nat) (l0_1 : List (S36)) (r : Bool) (w : World) (hr0_1 : Kd.C k36 w A0_1 l0_1.length l0_1) (hc0_1 : l0_1.length ≤ c0_1) (h : wicketgateref25_Right.f k a0_0 l0_1 = some r) :
  Calls Tryd.prog 23 #[.agg #[.int .u64 a0_0, .slice A0_1 l0_1.length c0_1]] w fun e w' => e = .returned (.bool r) ∧ Below w.heap.size w w' := by
 have hu25 := Tryd.underlying25
 have hu36 := Tryd.underlying36
 have HR0_1 := Aside0.mk hr0_1
 have HC0_1 := Aside0.mk hc0_1
 clear hr0_1 hc0_1
 have HB := Aside0.mk (Below.refl w.heap.size w)
 have H : (if a0_0 < 1 then (wicketgateref25_Right.j0 k true a0_0 l0_1) else (if a0_0 > 4611686018427387904 then (wicketgateref25_Right.j0 k true a0_0 l0_1) else (wicketgateref25_Right.j0 k (decide ((l0_1.length : Int) > 8)) a0_0 l0_1))) = some r := h
 clear h
 have HC2 := Aside0.mk H
 clear H
 go_enter Tryd.func23, Tryd.ntmps23
 go_upto_region 1 with (first | ((with_reducible refine gate_dst (N := 1) rfl ?_); (try (refine gate_guard (by rfl) ?_; dsimp only)); refine box_event ?hg (N := 1) ?hd (cs := #[.int .u64 a0_0, .slice A0_1 l0_1.length c0_1]) (t := 25) ?hr ?_; (case hd => rfl); (case hg => rfl); (case hr => first | (go_simp; done) | (go_simp; rfl)); intro gb145 hg w3 hbox hb; have n0_ := Aside0.mk (below_step (by repeat (first | (with_reducible first | exact HB.out | apply below_alloc | apply pw_below_drewN | apply below_drew1) | exact HB.out)) hb); have n1_ := Aside0.mk (hbox); have n2_ := Aside0.mk ((by rw [hg]; exact (below_size (by repeat (first | (with_reducible first | exact HB.out | apply below_alloc | apply pw_below_drewN | apply below_drew1) | exact HB.out))) : w.heap.size ≤ gb145)); have n3_ := Aside0.mk ((by rw [hg]; exact (below_size (by repeat (first | (with_reducible first | exact HB.out | apply below_alloc | apply pw_below_drewN | apply below_drew1) | exact HB.out))) : w.heap.size ≤ gb145)); clear HB; have HB := n0_; have BK145 := n1_; have GW145 := n2_; have GE145 := n3_; clear n0_ n1_ n2_ n3_; clear hb hbox hg))
 repeat (go_quiet (first | ((with_reducible refine gate_dst (N := 1) rfl ?_); (try (refine gate_guard (by rfl) ?_; dsimp only)); refine box_event ?hg (N := 1) ?hd (cs := #[.int .u64 a0_0, .slice A0_1 l0_1.length c0_1]) (t := 25) ?hr ?_; (case hd => rfl); (case hg => rfl); (case hr => first | (go_simp; done) | (go_simp; rfl)); intro gb145 hg w3 hbox hb; have n0_ := Aside0.mk (below_step (by repeat (first | (with_reducible first | exact HB.out | apply below_alloc | apply pw_below_drewN | apply below_drew1) | exact HB.out)) hb); have n1_ := Aside0.mk (hbox); have n2_ := Aside0.mk ((by rw [hg]; exact (below_size (by repeat (first | (with_reducible first | exact HB.out | apply below_alloc | apply pw_below_drewN | apply below_drew1) | exact HB.out))) : w.heap.size ≤ gb145)); have n3_ := Aside0.mk ((by rw [hg]; exact (below_size (by repeat (first | (with_reducible first | exact HB.out | apply below_alloc | apply pw_below_drewN | apply below_drew1) | exact HB.out))) : w.heap.size ≤ gb145)); clear HB; have HB := n0_; have BK145 := n1_; have GW145 := n2_; have GE145 := n3_; clear n0_ n1_ n2_ n3_; clear hb hbox hg)); go_upto_region 1 with (first | ((with_reducible refine gate_dst (N := 1) rfl ?_); (try (refine gate_guard (by rfl) ?_; dsimp only)); refine box_event ?hg (N := 1) ?hd (cs := #[.int .u64 a0_0, .slice A0_1 l0_1.length c0_1]) (t := 25) ?hr ?_; (case hd => rfl); (case hg => rfl); (case hr => first | (go_simp; done) | (go_simp; rfl)); intro gb145 hg w3 hbox hb; have n0_ := Aside0.mk (below_step (by repeat (first | (with_reducible first | exact HB.out | apply below_alloc | apply pw_below_drewN | apply below_drew1) | exact HB.out)) hb); have n1_ := Aside0.mk (hbox); have n2_ := Aside0.mk ((by rw [hg]; exact (below_size (by repeat (first | (with_reducible first | exact HB.out | apply below_alloc | apply pw_below_drewN | apply below_drew1) | exact HB.out))) : w.heap.size ≤ gb145)); have n3_ := Aside0.mk ((by rw [hg]; exact (below_size (by repeat (first | (with_reducible first | exact HB.out | apply below_alloc | apply pw_below_drewN | apply below_drew1) | exact HB.out))) : w.heap.size ≤ gb145)); clear HB; have HB := n0_; have BK145 := n1_; have GW145 := n2_; have GE145 := n3_; clear n0_ n1_ n2_ n3_; clear hb hbox hg)))
 (try simp only [Act.put, List.setIfInBounds_toArray, List.set_cons_zero, List.set_cons_succ])
 go_cut [19] (fun v19 wc => ∃ (kq : Nat) (x19_1 : Bool), v19 = .bool x19_1 ∧ Aside0 (wicketgateref25_Right.j0 kq x19_1 a0_0 l0_1 = some r) ∧ Aside0 (kq ≤ k) ∧ Aside0 (wc.heap[gb145]? = some (.cells #[.int .u64 a0_0, (.slice A0_1 l0_1.length c0_1)] 25 (0, 0))) ∧ Aside0 (Below w.heap.size w wc))
 case first =>
  have H := HC2.out
  clear HC2
  by_cases c4 : a0_0 < 1
  ·rw [if_pos c4] at H
   have c4b0 : decide (a0_0 < 1) = true := decide_eq_true c4
   clear c4
   (first | rw [c4b0] | (simp only [i64_w, i32_w]; rw [c4b0]) | skip)
   have H' := Aside0.mk H
   clear H
   have hcz5_0 : w3.cell? ⟨gb145, 0, none⟩ = some (.int .u64 a0_0) := (blk_cell BK145.out 0).trans rfl
   have hcz5_1 : w3.cell? ⟨gb145, 1, none⟩ = some (.slice A0_1 l0_1.length c0_1) := (blk_cell BK145.out 1).trans rfl
   have hfz5_0 := blk_frozen BK145.out 0
   have hfz5_1 := blk_frozen BK145.out 1
   go_wp2
   repeat (go_quiet (fail); try go_wp2)
   go_meet
   case rel => exact ⟨_, (true), (by first | rfl | (simp; done) | (simp [*]; done)), H', ⟨by first | omega | exact Nat.le_refl _⟩, ⟨by (with_reducible repeat (first | refine blk_drewN ?_ _ | refine blk_drew ?_ | refine blk_alloc ?_ _)); exact BK145.out⟩, ⟨by repeat (first | (with_reducible first | exact HB.out | apply below_alloc | apply pw_below_drewN | apply below_drew1 | refine below_set ?_ GE145.out) | exact HB.out)⟩⟩
  ·rw [if_neg c4] at H
   have c4b0 : decide (a0_0 < 1) = false := decide_eq_false c4
   clear c4
   (first | rw [c4b0] | (simp only [i64_w, i32_w]; rw [c4b0]) | skip)
   by_cases c6 : a0_0 > 4611686018427387904
   ·rw [if_pos c6] at H
    have c6b0 : decide (4611686018427387904 < a0_0) = true := decide_eq_true c6
    clear c6
    have H' := Aside0.mk H
    clear H
    have hcz7_0 : w3.cell? ⟨gb145, 0, none⟩ = some (.int .u64 a0_0) := (blk_cell BK145.out 0).trans rfl
    have hcz7_1 : w3.cell? ⟨gb145, 1, none⟩ = some (.slice A0_1 l0_1.length c0_1) := (blk_cell BK145.out 1).trans rfl
    have hfz7_0 := blk_frozen BK145.out 0
    have hfz7_1 := blk_frozen BK145.out 1
    go_wp2
    repeat (go_quiet (fail); try go_wp2)
    go_meet
    case rel => exact ⟨_, (true), (by first | rfl | (simp; done) | (simp [*]; done)), H', ⟨by first | omega | exact Nat.le_refl _⟩, ⟨by (with_reducible repeat (first | refine blk_drewN ?_ _ | refine blk_drew ?_ | refine blk_alloc ?_ _)); exact BK145.out⟩, ⟨by repeat (first | (with_reducible first | exact HB.out | apply below_alloc | apply pw_below_drewN | apply below_drew1 | refine below_set ?_ GE145.out) | exact HB.out)⟩⟩
   ·rw [if_neg c6] at H
    have c6b0 : decide (4611686018427387904 < a0_0) = false := decide_eq_false c6
    clear c6
    have H' := Aside0.mk H
    clear H
    have hcz8_0 : w3.cell? ⟨gb145, 0, none⟩ = some (.int .u64 a0_0) := (blk_cell BK145.out 0).trans rfl
    have hcz8_1 : w3.cell? ⟨gb145, 1, none⟩ = some (.slice A0_1 l0_1.length c0_1) := (blk_cell BK145.out 1).trans rfl
    have hfz8_0 := blk_frozen BK145.out 0
    have hfz8_1 := blk_frozen BK145.out 1
    go_wp2
    repeat (go_quiet (fail); try go_wp2)
    go_meet
    case rel => exact ⟨_, (decide ((l0_1.length : Int) > 8)), (by first | rfl | (simp; done) | (simp [*]; done)), H', ⟨by first | omega | exact Nat.le_refl _⟩, ⟨by (with_reducible repeat (first | refine blk_drewN ?_ _ | refine blk_drew ?_ | refine blk_alloc ?_ _)); exact BK145.out⟩, ⟨by repeat (first | (with_reducible first | exact HB.out | apply below_alloc | apply pw_below_drewN | apply below_drew1 | refine below_set ?_ GE145.out) | exact HB.out)⟩⟩
 case rest =>
  clear HC2
  try clear c2
  try clear p2
  try clear c4
  try clear c4b0
  try clear c6
  try clear c6b0
  try clear hcz5_0
  try clear hcz5_1
  try clear hcz7_0
  try clear hcz7_1
  try clear hcz8_0
  try clear hcz8_1
  try clear hfz5_0
  try clear hfz5_1
  try clear hfz7_0
  try clear hfz7_1
  try clear hfz8_0
  try clear hfz8_1
  obtain ⟨kq, x19_1, rfl, HA, HJ1, BK145, HB⟩ := hcut
  cases kq with
  | zero => exact absurd HA.out (by simp [wicketgateref25_Right.j0])
  | succ kj1 =>
   have H := HA.out
   clear HA
   simp only [wicketgateref25_Right.j0] at H
   by_cases c9 : x19_1 = true
   ·subst c9
    have H1 : (some false) = some r := by rw [if_pos rfl] at H; exact H
    clear H
    have H := H1
    clear H1
    obtain rfl := Option.some.inj H
    go_wp2
    repeat (go_quiet (fail); try go_wp2)
    go_ret
    exact ⟨by first | rfl | (simp [errW_none, errW_some] <;> rfl) | (simp [*, errW_none, errW_some] <;> rfl), by repeat (first | (with_reducible first | exact HB.out | apply below_alloc | apply pw_below_drewN | apply below_drew1 | refine below_set ?_ GE145.out) | exact HB.out)⟩
   ·replace c9 := Bool.eq_false_iff.mpr c9
    subst c9
    have H1 : (wicketgateref25_Right.l0 kj1 0 a0_0 l0_1) = some r := by rw [if_neg (show ¬ (false = true) by decide)] at H; exact H
    clear H
    have H := H1
    clear H1
    have H' := Aside0.mk H
    clear H
    go_wp2
    repeat (go_quiet (fail); try go_wp2)
    go_loopg [3] kj1 (fun kq v3 w' => ∃ (x3_2 : Int), v3 = .int .i64 x3_2 ∧ Aside0 (wicketgateref25_Right.l0 kq x3_2 a0_0 l0_1 = some r) ∧ Aside0 (kq ≤ kj1) ∧ Aside0 (w'.heap[gb145]? = some (.cells #[.int .u64 a0_0, (.slice A0_1 l0_1.length c0_1)] 25 (0, 0))) ∧ Aside0 (Below w.heap.size w w'))
    case atStart => exact ⟨(0), (by first | rfl | (simp; done) | (simp [*]; done)), H', ⟨Nat.le_refl _⟩, ⟨by (with_reducible repeat (first | refine blk_drewN ?_ _ | refine blk_drew ?_ | refine blk_alloc ?_ _)); exact BK145.out⟩, ⟨by repeat (first | (with_reducible first | exact HB.out | apply below_alloc | apply pw_below_drewN | apply below_drew1 | refine below_set ?_ GE145.out) | exact HB.out)⟩⟩
    case round =>
     clear H'
     try clear c2
     try clear p2
     try clear c4
     try clear c4b0
     try clear c6
     try clear c6b0
     try clear c9
     try clear hcz5_0
     try clear hcz5_1
     try clear hcz7_0
     try clear hcz7_1
     try clear hcz8_0
     try clear hcz8_1
     try clear hfz5_0
     try clear hfz5_1
     try clear hfz7_0
     try clear hfz7_1
     try clear hfz8_0
     try clear hfz8_1
     try clear p2
     obtain ⟨x3_2, rfl, HA, HK2, BK145, HB⟩ := hrel
     cases gk with
     | zero => exact absurd HA.out (by simp [wicketgateref25_Right.l0])
     | succ k2 =>
      have H := HA.out
      clear HA
      simp only [wicketgateref25_Right.l0] at H
      by_cases c10 : x3_2 < (l0_1.length : Int)
      ·rw [if_pos c10] at H
       have c10b0 : decide (x3_2 < (l0_1.length : Int)) = true := decide_eq_true c10
       clear c10
       by_cases c11 : 0 ≤ x3_2
       ·rw [if_pos c11] at H
        have c11b0 : decide (0 ≤ x3_2) = true := decide_eq_true c11
        clear c11
        have HC12 := Aside0.mk H
        clear H
        have hcz13_0 : wr.cell? ⟨gb145, 0, none⟩ = some (.int .u64 a0_0) := (blk_cell BK145.out 0).trans rfl
        have hcz13_1 : wr.cell? ⟨gb145, 1, none⟩ = some (.slice A0_1 l0_1.length c0_1) := (blk_cell BK145.out 1).trans rfl
        have hfz13_0 := blk_frozen BK145.out 0
        have hfz13_1 := blk_frozen BK145.out 1
        have p146 : 0 ≤ (x3_2 : Int) := of_decide_eq_true (by first | (with_reducible assumption) | assumption)
        have q146 : x3_2 < (l0_1.length : Int) := of_decide_eq_true (by first | (with_reducible assumption) | assumption)
        obtain ⟨ad146, e146, hx146_0, hx146_1, hx146_2, hx146_3, hx146_4, hx146_5, hx146_6, hx146_7, hx146_8, hx146_9, hx146_10, hx146_11⟩ := at_T36 HR0_1.out x3_2 p146 q146
        cases e146
        replace hx146_0 := (HB.out.cell (World.block_lt_of_cell? w _ hx146_0)).trans hx146_0
        replace hx146_1 := (HB.out.cell (World.block_lt_of_cell? w _ hx146_1)).trans hx146_1
        replace hx146_2 := (HB.out.cell (World.block_lt_of_cell? w _ hx146_2)).trans hx146_2
        replace hx146_3 := (HB.out.cell (World.block_lt_of_cell? w _ hx146_3)).trans hx146_3
        replace hx146_4 := (HB.out.cell (World.block_lt_of_cell? w _ hx146_4)).trans hx146_4
        replace hx146_5 := (HB.out.cell (World.block_lt_of_cell? w _ hx146_5)).trans hx146_5
        replace hx146_6 := (HB.out.cell (World.block_lt_of_cell? w _ hx146_6)).trans hx146_6
        replace hx146_7 := (HB.out.cell (World.block_lt_of_cell? w _ hx146_7)).trans hx146_7
        replace hx146_8 := (HB.out.cell (World.block_lt_of_cell? w _ hx146_8)).trans hx146_8
        replace hx146_9 := (HB.out.cell (World.block_lt_of_cell? w _ hx146_9)).trans hx146_9
        replace hx146_10 := (HB.out.cell (World.block_lt_of_cell? w _ hx146_10)).trans hx146_10
        replace hx146_11 := (HB.out.cell (World.block_lt_of_cell? w _ hx146_11)).trans hx146_11
        replace p146 := eq_true p146
        replace q146 := eq_true q146
        go_upto_region 7 with (first | ((with_reducible refine gate_dst (N := 4) rfl ?_); (try (refine gate_guard (by rfl) ?_; dsimp only)); refine box_event ?hg (N := 4) ?hd (cs := #[.int .u64 0, .int .i64 0, .int .u32 0, .int .u32 0, .int .u64 0, .int .u64 0, .int .u64 0, .int .u64 0, .int .u64 0, .int .u64 0, .int .u64 0, .bool false]) (t := 36) ?hr ?_; (case hd => rfl); (case hg => rfl); (case hr => first | (go_simp; done) | (go_simp; rfl)); intro gb147 hg w14 hbox hb; have n0_ := Aside0.mk (blk_below (g := gb145) (o := .cells #[.int .u64 a0_0, .slice (some ad146) l0_1.length c0_1] 25 (0, 0)) (by (with_reducible repeat (first | refine blk_drewN ?_ _ | refine blk_drew ?_ | refine blk_alloc ?_ _)); exact BK145.out) hb); have n1_ := Aside0.mk (below_step (by repeat (first | (with_reducible first | exact HB.out | apply below_alloc | apply pw_below_drewN | apply below_drew1 | refine below_set ?_ GE145.out) | exact HB.out)) hb); have n2_ := Aside0.mk (hbox); have n3_ := Aside0.mk ((by rw [hg]; exact (below_size (by repeat (first | (with_reducible first | exact HB.out | apply below_alloc | apply pw_below_drewN | apply below_drew1 | refine below_set ?_ GE145.out) | exact HB.out))) : w.heap.size ≤ gb147)); have n4_ := Aside0.mk ((by rw [hg]; exact (below_size (by repeat (first | (with_reducible first | exact HB.out | apply below_alloc | apply pw_below_drewN | apply below_drew1 | refine below_set ?_ GE145.out) | exact HB.out))) : w.heap.size ≤ gb147)); have n5_ := Aside0.mk ((by rw [hg]; exact Nat.ne_of_lt (blk_lt (g := gb145) (o := .cells #[.int .u64 a0_0, .slice (some ad146) l0_1.length c0_1] 25 (0, 0)) (by (with_reducible repeat (first | refine blk_drewN ?_ _ | refine blk_drew ?_ | refine blk_alloc ?_ _)); exact BK145.out)) : gb145 ≠ gb147)); have n6_ := Aside0.mk ((by rw [hg]; exact Nat.ne_of_gt (blk_lt (g := gb145) (o := .cells #[.int .u64 a0_0, .slice (some ad146) l0_1.length c0_1] 25 (0, 0)) (by (with_reducible repeat (first | refine blk_drewN ?_ _ | refine blk_drew ?_ | refine blk_alloc ?_ _)); exact BK145.out)) : gb147 ≠ gb145)); clear BK145; clear HB; have BK145 := n0_; have HB := n1_; have BK147 := n2_; have GW147 := n3_; have GE147 := n4_; have NB145_147 := n5_; have NB147_145 := n6_; clear n0_ n1_ n2_ n3_ n4_ n5_ n6_; clear hb hbox hg; have hnb15 := NB147_145.out; have hnc15 := NB145_147.out; have hcz16_0 : w14.cell? ⟨gb147, 0, none⟩ = some (.int .u64 0) := (blk_cell BK147.out 0).trans rfl; have hcz16_1 : w14.cell? ⟨gb147, 1, none⟩ = some (.int .i64 0) := (blk_cell BK147.out 1).trans rfl; have hcz16_2 : w14.cell? ⟨gb147, 2, none⟩ = some (.int .u32 0) := (blk_cell BK147.out 2).trans rfl; have hcz16_3 : w14.cell? ⟨gb147, 3, none⟩ = some (.int .u32 0) := (blk_cell BK147.out 3).trans rfl; have hcz16_4 : w14.cell? ⟨gb147, 4, none⟩ = some (.int .u64 0) := (blk_cell BK147.out 4).trans rfl; have hcz16_5 : w14.cell? ⟨gb147, 5, none⟩ = some (.int .u64 0) := (blk_cell BK147.out 5).trans rfl; have hcz16_6 : w14.cell? ⟨gb147, 6, none⟩ = some (.int .u64 0) := (blk_cell BK147.out 6).trans rfl; have hcz16_7 : w14.cell? ⟨gb147, 7, none⟩ = some (.int .u64 0) := (blk_cell BK147.out 7).trans rfl; have hcz16_8 : w14.cell? ⟨gb147, 8, none⟩ = some (.int .u64 0) := (blk_cell BK147.out 8).trans rfl; have hcz16_9 : w14.cell? ⟨gb147, 9, none⟩ = some (.int .u64 0) := (blk_cell BK147.out 9).trans rfl; have hcz16_10 : w14.cell? ⟨gb147, 10, none⟩ = some (.int .u64 0) := (blk_cell BK147.out 10).trans rfl; have hcz16_11 : w14.cell? ⟨gb147, 11, none⟩ = some (.bool false) := (blk_cell BK147.out 11).trans rfl; have hfz16_0 := blk_frozen BK147.out 0; have hfz16_1 := blk_frozen BK147.out 1; have hfz16_2 := blk_frozen BK147.out 2; have hfz16_3 := blk_frozen BK147.out 3; have hfz16_4 := blk_frozen BK147.out 4; have hfz16_5 := blk_frozen BK147.out 5; have hfz16_6 := blk_frozen BK147.out 6; have hfz16_7 := blk_frozen BK147.out 7; have hfz16_8 := blk_frozen BK147.out 8; have hfz16_9 := blk_frozen BK147.out 9; have hfz16_10 := blk_frozen BK147.out 10; have hfz16_11 := blk_frozen BK147.out 11))
        repeat (go_quiet (first | ((with_reducible refine gate_dst (N := 4) rfl ?_); (try (refine gate_guard (by rfl) ?_; dsimp only)); refine box_event ?hg (N := 4) ?hd (cs := #[.int .u64 0, .int .i64 0, .int .u32 0, .int .u32 0, .int .u64 0, .int .u64 0, .int .u64 0, .int .u64 0, .int .u64 0, .int .u64 0, .int .u64 0, .bool false]) (t := 36) ?hr ?_; (case hd => rfl); (case hg => rfl); (case hr => first | (go_simp; done) | (go_simp; rfl)); intro gb147 hg w14 hbox hb; have n0_ := Aside0.mk (blk_below (g := gb145) (o := .cells #[.int .u64 a0_0, .slice (some ad146) l0_1.length c0_1] 25 (0, 0)) (by (with_reducible repeat (first | refine blk_drewN ?_ _ | refine blk_drew ?_ | refine blk_alloc ?_ _)); exact BK145.out) hb); have n1_ := Aside0.mk (below_step (by repeat (first | (with_reducible first | exact HB.out | apply below_alloc | apply pw_below_drewN | apply below_drew1 | refine below_set ?_ GE145.out) | exact HB.out)) hb); have n2_ := Aside0.mk (hbox); have n3_ := Aside0.mk ((by rw [hg]; exact (below_size (by repeat (first | (with_reducible first | exact HB.out | apply below_alloc | apply pw_below_drewN | apply below_drew1 | refine below_set ?_ GE145.out) | exact HB.out))) : w.heap.size ≤ gb147)); have n4_ := Aside0.mk ((by rw [hg]; exact (below_size (by repeat (first | (with_reducible first | exact HB.out | apply below_alloc | apply pw_below_drewN | apply below_drew1 | refine below_set ?_ GE145.out) | exact HB.out))) : w.heap.size ≤ gb147)); have n5_ := Aside0.mk ((by rw [hg]; exact Nat.ne_of_lt (blk_lt (g := gb145) (o := .cells #[.int .u64 a0_0, .slice (some ad146) l0_1.length c0_1] 25 (0, 0)) (by (with_reducible repeat (first | refine blk_drewN ?_ _ | refine blk_drew ?_ | refine blk_alloc ?_ _)); exact BK145.out)) : gb145 ≠ gb147)); have n6_ := Aside0.mk ((by rw [hg]; exact Nat.ne_of_gt (blk_lt (g := gb145) (o := .cells #[.int .u64 a0_0, .slice (some ad146) l0_1.length c0_1] 25 (0, 0)) (by (with_reducible repeat (first | refine blk_drewN ?_ _ | refine blk_drew ?_ | refine blk_alloc ?_ _)); exact BK145.out)) : gb147 ≠ gb145)); clear BK145; clear HB; have BK145 := n0_; have HB := n1_; have BK147 := n2_; have GW147 := n3_; have GE147 := n4_; have NB145_147 := n5_; have NB147_145 := n6_; clear n0_ n1_ n2_ n3_ n4_ n5_ n6_; clear hb hbox hg; have hnb15 := NB147_145.out; have hnc15 := NB145_147.out; have hcz16_0 : w14.cell? ⟨gb147, 0, none⟩ = some (.int .u64 0) := (blk_cell BK147.out 0).trans rfl; have hcz16_1 : w14.cell? ⟨gb147, 1, none⟩ = some (.int .i64 0) := (blk_cell BK147.out 1).trans rfl; have hcz16_2 : w14.cell? ⟨gb147, 2, none⟩ = some (.int .u32 0) := (blk_cell BK147.out 2).trans rfl; have hcz16_3 : w14.cell? ⟨gb147, 3, none⟩ = some (.int .u32 0) := (blk_cell BK147.out 3).trans rfl; have hcz16_4 : w14.cell? ⟨gb147, 4, none⟩ = some (.int .u64 0) := (blk_cell BK147.out 4).trans rfl; have hcz16_5 : w14.cell? ⟨gb147, 5, none⟩ = some (.int .u64 0) := (blk_cell BK147.out 5).trans rfl; have hcz16_6 : w14.cell? ⟨gb147, 6, none⟩ = some (.int .u64 0) := (blk_cell BK147.out 6).trans rfl; have hcz16_7 : w14.cell? ⟨gb147, 7, none⟩ = some (.int .u64 0) := (blk_cell BK147.out 7).trans rfl; have hcz16_8 : w14.cell? ⟨gb147, 8, none⟩ = some (.int .u64 0) := (blk_cell BK147.out 8).trans rfl; have hcz16_9 : w14.cell? ⟨gb147, 9, none⟩ = some (.int .u64 0) := (blk_cell BK147.out 9).trans rfl; have hcz16_10 : w14.cell? ⟨gb147, 10, none⟩ = some (.int .u64 0) := (blk_cell BK147.out 10).trans rfl; have hcz16_11 : w14.cell? ⟨gb147, 11, none⟩ = some (.bool false) := (blk_cell BK147.out 11).trans rfl; have hfz16_0 := blk_frozen BK147.out 0; have hfz16_1 := blk_frozen BK147.out 1; have hfz16_2 := blk_frozen BK147.out 2; have hfz16_3 := blk_frozen BK147.out 3; have hfz16_4 := blk_frozen BK147.out 4; have hfz16_5 := blk_frozen BK147.out 5; have hfz16_6 := blk_frozen BK147.out 6; have hfz16_7 := blk_frozen BK147.out 7; have hfz16_8 := blk_frozen BK147.out 8; have hfz16_9 := blk_frozen BK147.out 9; have hfz16_10 := blk_frozen BK147.out 10; have hfz16_11 := blk_frozen BK147.out 11)); go_upto_region 7 with (first | ((with_reducible refine gate_dst (N := 4) rfl ?_); (try (refine gate_guard (by rfl) ?_; dsimp only)); refine box_event ?hg (N := 4) ?hd (cs := #[.int .u64 0, .int .i64 0, .int .u32 0, .int .u32 0, .int .u64 0, .int .u64 0, .int .u64 0, .int .u64 0, .int .u64 0, .int .u64 0, .int .u64 0, .bool false]) (t := 36) ?hr ?_; (case hd => rfl); (case hg => rfl); (case hr => first | (go_simp; done) | (go_simp; rfl)); intro gb147 hg w14 hbox hb; have n0_ := Aside0.mk (blk_below (g := gb145) (o := .cells #[.int .u64 a0_0, .slice (some ad146) l0_1.length c0_1] 25 (0, 0)) (by (with_reducible repeat (first | refine blk_drewN ?_ _ | refine blk_drew ?_ | refine blk_alloc ?_ _)); exact BK145.out) hb); have n1_ := Aside0.mk (below_step (by repeat (first | (with_reducible first | exact HB.out | apply below_alloc | apply pw_below_drewN | apply below_drew1 | refine below_set ?_ GE145.out) | exact HB.out)) hb); have n2_ := Aside0.mk (hbox); have n3_ := Aside0.mk ((by rw [hg]; exact (below_size (by repeat (first | (with_reducible first | exact HB.out | apply below_alloc | apply pw_below_drewN | apply below_drew1 | refine below_set ?_ GE145.out) | exact HB.out))) : w.heap.size ≤ gb147)); have n4_ := Aside0.mk ((by rw [hg]; exact (below_size (by repeat (first | (with_reducible first | exact HB.out | apply below_alloc | apply pw_below_drewN | apply below_drew1 | refine below_set ?_ GE145.out) | exact HB.out))) : w.heap.size ≤ gb147)); have n5_ := Aside0.mk ((by rw [hg]; exact Nat.ne_of_lt (blk_lt (g := gb145) (o := .cells #[.int .u64 a0_0, .slice (some ad146) l0_1.length c0_1] 25 (0, 0)) (by (with_reducible repeat (first | refine blk_drewN ?_ _ | refine blk_drew ?_ | refine blk_alloc ?_ _)); exact BK145.out)) : gb145 ≠ gb147)); have n6_ := Aside0.mk ((by rw [hg]; exact Nat.ne_of_gt (blk_lt (g := gb145) (o := .cells #[.int .u64 a0_0, .slice (some ad146) l0_1.length c0_1] 25 (0, 0)) (by (with_reducible repeat (first | refine blk_drewN ?_ _ | refine blk_drew ?_ | refine blk_alloc ?_ _)); exact BK145.out)) : gb147 ≠ gb145)); clear BK145; clear HB; have BK145 := n0_; have HB := n1_; have BK147 := n2_; have GW147 := n3_; have GE147 := n4_; have NB145_147 := n5_; have NB147_145 := n6_; clear n0_ n1_ n2_ n3_ n4_ n5_ n6_; clear hb hbox hg; have hnb15 := NB147_145.out; have hnc15 := NB145_147.out; have hcz16_0 : w14.cell? ⟨gb147, 0, none⟩ = some (.int .u64 0) := (blk_cell BK147.out 0).trans rfl; have hcz16_1 : w14.cell? ⟨gb147, 1, none⟩ = some (.int .i64 0) := (blk_cell BK147.out 1).trans rfl; have hcz16_2 : w14.cell? ⟨gb147, 2, none⟩ = some (.int .u32 0) := (blk_cell BK147.out 2).trans rfl; have hcz16_3 : w14.cell? ⟨gb147, 3, none⟩ = some (.int .u32 0) := (blk_cell BK147.out 3).trans rfl; have hcz16_4 : w14.cell? ⟨gb147, 4, none⟩ = some (.int .u64 0) := (blk_cell BK147.out 4).trans rfl; have hcz16_5 : w14.cell? ⟨gb147, 5, none⟩ = some (.int .u64 0) := (blk_cell BK147.out 5).trans rfl; have hcz16_6 : w14.cell? ⟨gb147, 6, none⟩ = some (.int .u64 0) := (blk_cell BK147.out 6).trans rfl; have hcz16_7 : w14.cell? ⟨gb147, 7, none⟩ = some (.int .u64 0) := (blk_cell BK147.out 7).trans rfl; have hcz16_8 : w14.cell? ⟨gb147, 8, none⟩ = some (.int .u64 0) := (blk_cell BK147.out 8).trans rfl; have hcz16_9 : w14.cell? ⟨gb147, 9, none⟩ = some (.int .u64 0) := (blk_cell BK147.out 9).trans rfl; have hcz16_10 : w14.cell? ⟨gb147, 10, none⟩ = some (.int .u64 0) := (blk_cell BK147.out 10).trans rfl; have hcz16_11 : w14.cell? ⟨gb147, 11, none⟩ = some (.bool false) := (blk_cell BK147.out 11).trans rfl; have hfz16_0 := blk_frozen BK147.out 0; have hfz16_1 := blk_frozen BK147.out 1; have hfz16_2 := blk_frozen BK147.out 2; have hfz16_3 := blk_frozen BK147.out 3; have hfz16_4 := blk_frozen BK147.out 4; have hfz16_5 := blk_frozen BK147.out 5; have hfz16_6 := blk_frozen BK147.out 6; have hfz16_7 := blk_frozen BK147.out 7; have hfz16_8 := blk_frozen BK147.out 8; have hfz16_9 := blk_frozen BK147.out 9; have hfz16_10 := blk_frozen BK147.out 10; have hfz16_11 := blk_frozen BK147.out 11)))
        (try simp only [Act.put, List.setIfInBounds_toArray, List.set_cons_zero, List.set_cons_succ])
        go_cut [51] (fun v51 wc => ∃ (kq : Nat) (x51_11 : Bool), v51 = .bool x51_11 ∧ Aside0 (wicketgateref25_Right.j2 kq x3_2 x51_11 a0_0 l0_1 ((rd_T36 l0_1 x3_2).f0) ((rd_T36 l0_1 x3_2).f1) ((rd_T36 l0_1 x3_2).f2.f0) ((rd_T36 l0_1 x3_2).f2.f1) ((rd_T36 l0_1 x3_2).f2.f2) ((rd_T36 l0_1 x3_2).f2.f3.f0) ((rd_T36 l0_1 x3_2).f2.f3.f1) ((rd_T36 l0_1 x3_2).f2.f3.f2) ((rd_T36 l0_1 x3_2).f2.f3.f3) ((rd_T36 l0_1 x3_2).f2.f3.f4) ((rd_T36 l0_1 x3_2).f2.f3.f5) ((rd_T36 l0_1 x3_2).f3) = some r) ∧ Aside0 (kq ≤ k2) ∧ Aside0 (wc.heap[gb145]? = some (.cells #[.int .u64 a0_0, (.slice (some ad146) l0_1.length c0_1)] 25 (0, 0))) ∧ Aside0 (wc.heap[gb147]? = some (.cells #[.int .u64 ((rd_T36 l0_1 x3_2).f0), .int .i64 ((rd_T36 l0_1 x3_2).f1), .int .u32 ((rd_T36 l0_1 x3_2).f2.f0), .int .u32 ((rd_T36 l0_1 x3_2).f2.f1), .int .u64 ((rd_T36 l0_1 x3_2).f2.f2), .int .u64 ((rd_T36 l0_1 x3_2).f2.f3.f0), .int .u64 ((rd_T36 l0_1 x3_2).f2.f3.f1), .int .u64 ((rd_T36 l0_1 x3_2).f2.f3.f2), .int .u64 ((rd_T36 l0_1 x3_2).f2.f3.f3), .int .u64 ((rd_T36 l0_1 x3_2).f2.f3.f4), .int .u64 ((rd_T36 l0_1 x3_2).f2.f3.f5), .bool ((rd_T36 l0_1 x3_2).f3)] 36 (0, 0))) ∧ Aside0 (Below w.heap.size w wc))
        case first =>
         have H := HC12.out
         clear HC12
         by_cases c17 : ((rd_T36 l0_1 x3_2).f0) < 1
         ·rw [if_pos c17] at H
          have c17b0 : decide (((rd_T36 l0_1 x3_2).f0) < 1) = true := decide_eq_true c17
          clear c17
          (first | rw [c17b0] | (simp only [i64_w, i32_w]; rw [c17b0]) | skip)
          have H' := Aside0.mk H
          clear H
          have hnb18 := NB147_145.out
          have hnc18 := NB145_147.out
          have hcz19_0 : w14.cell? ⟨gb147, 0, none⟩ = some (.int .u64 0) := (blk_cell BK147.out 0).trans rfl
          have hcz19_1 : w14.cell? ⟨gb147, 1, none⟩ = some (.int .i64 0) := (blk_cell BK147.out 1).trans rfl
          have hcz19_2 : w14.cell? ⟨gb147, 2, none⟩ = some (.int .u32 0) := (blk_cell BK147.out 2).trans rfl
          have hcz19_3 : w14.cell? ⟨gb147, 3, none⟩ = some (.int .u32 0) := (blk_cell BK147.out 3).trans rfl
          have hcz19_4 : w14.cell? ⟨gb147, 4, none⟩ = some (.int .u64 0) := (blk_cell BK147.out 4).trans rfl
          have hcz19_5 : w14.cell? ⟨gb147, 5, none⟩ = some (.int .u64 0) := (blk_cell BK147.out 5).trans rfl
          have hcz19_6 : w14.cell? ⟨gb147, 6, none⟩ = some (.int .u64 0) := (blk_cell BK147.out 6).trans rfl
          have hcz19_7 : w14.cell? ⟨gb147, 7, none⟩ = some (.int .u64 0) := (blk_cell BK147.out 7).trans rfl
          have hcz19_8 : w14.cell? ⟨gb147, 8, none⟩ = some (.int .u64 0) := (blk_cell BK147.out 8).trans rfl
          have hcz19_9 : w14.cell? ⟨gb147, 9, none⟩ = some (.int .u64 0) := (blk_cell BK147.out 9).trans rfl
          have hcz19_10 : w14.cell? ⟨gb147, 10, none⟩ = some (.int .u64 0) := (blk_cell BK147.out 10).trans rfl
          have hcz19_11 : w14.cell? ⟨gb147, 11, none⟩ = some (.bool false) := (blk_cell BK147.out 11).trans rfl
          have hfz19_0 := blk_frozen BK147.out 0
          have hfz19_1 := blk_frozen BK147.out 1
          have hfz19_2 := blk_frozen BK147.out 2
          have hfz19_3 := blk_frozen BK147.out 3
          have hfz19_4 := blk_frozen BK147.out 4
          have hfz19_5 := blk_frozen BK147.out 5
          have hfz19_6 := blk_frozen BK147.out 6
          have hfz19_7 := blk_frozen BK147.out 7
          have hfz19_8 := blk_frozen BK147.out 8
          have hfz19_9 := blk_frozen BK147.out 9
          have hfz19_10 := blk_frozen BK147.out 10
          have hfz19_11 := blk_frozen BK147.out 11
          go_wp2
          repeat (go_quiet (fail); try go_wp2)
          go_meet
          case rel => exact ⟨_, (true), (by first | rfl | (simp; done) | (simp [*]; done)), H', ⟨by have := HJ1.out; have := HK2.out; first | omega | exact Nat.le_refl _⟩, ⟨by (with_reducible repeat (first | refine blk_drewN ?_ _ | refine blk_drew ?_ | refine blk_alloc ?_ _)); refine blk_far ?_ NB145_147.out _; (with_reducible repeat (first | refine blk_drewN ?_ _ | refine blk_drew ?_ | refine blk_alloc ?_ _)); refine blk_far ?_ NB145_147.out _; (with_reducible repeat (first | refine blk_drewN ?_ _ | refine blk_drew ?_ | refine blk_alloc ?_ _)); refine blk_far ?_ NB145_147.out _; (with_reducible repeat (first | refine blk_drewN ?_ _ | refine blk_drew ?_ | refine blk_alloc ?_ _)); refine blk_far ?_ NB145_147.out _; (with_reducible repeat (first | refine blk_drewN ?_ _ | refine blk_drew ?_ | refine blk_alloc ?_ _)); refine blk_far ?_ NB145_147.out _; (with_reducible repeat (first | refine blk_drewN ?_ _ | refine blk_drew ?_ | refine blk_alloc ?_ _)); refine blk_far ?_ NB145_147.out _; (with_reducible repeat (first | refine blk_drewN ?_ _ | refine blk_drew ?_ | refine blk_alloc ?_ _)); refine blk_far ?_ NB145_147.out _; (with_reducible repeat (first | refine blk_drewN ?_ _ | refine blk_drew ?_ | refine blk_alloc ?_ _)); refine blk_far ?_ NB145_147.out _; (with_reducible repeat (first | refine blk_drewN ?_ _ | refine blk_drew ?_ | refine blk_alloc ?_ _)); refine blk_far ?_ NB145_147.out _; (with_reducible repeat (first | refine blk_drewN ?_ _ | refine blk_drew ?_ | refine blk_alloc ?_ _)); refine blk_far ?_ NB145_147.out _; (with_reducible repeat (first | refine blk_drewN ?_ _ | refine blk_drew ?_ | refine blk_alloc ?_ _)); refine blk_far ?_ NB145_147.out _; (with_reducible repeat (first | refine blk_drewN ?_ _ | refine blk_drew ?_ | refine blk_alloc ?_ _)); refine blk_far ?_ NB145_147.out _; (with_reducible repeat (first | refine blk_drewN ?_ _ | refine blk_drew ?_ | refine blk_alloc ?_ _)); exact BK145.out⟩, ⟨by (with_reducible repeat (first | refine blk_drewN ?_ _ | refine blk_drew ?_ | refine blk_alloc ?_ _)); refine blk_put (cs := #[.int .u64 ((rd_T36 l0_1 x3_2).f0), .int .i64 ((rd_T36 l0_1 x3_2).f1), .int .u32 ((rd_T36 l0_1 x3_2).f2.f0), .int .u32 ((rd_T36 l0_1 x3_2).f2.f1), .int .u64 ((rd_T36 l0_1 x3_2).f2.f2), .int .u64 ((rd_T36 l0_1 x3_2).f2.f3.f0), .int .u64 ((rd_T36 l0_1 x3_2).f2.f3.f1), .int .u64 ((rd_T36 l0_1 x3_2).f2.f3.f2), .int .u64 ((rd_T36 l0_1 x3_2).f2.f3.f3), .int .u64 ((rd_T36 l0_1 x3_2).f2.f3.f4), .int .u64 ((rd_T36 l0_1 x3_2).f2.f3.f5), .bool false]) ?_ 11 _ rfl; (with_reducible repeat (first | refine blk_drewN ?_ _ | refine blk_drew ?_ | refine blk_alloc ?_ _)); refine blk_put (cs := #[.int .u64 ((rd_T36 l0_1 x3_2).f0), .int .i64 ((rd_T36 l0_1 x3_2).f1), .int .u32 ((rd_T36 l0_1 x3_2).f2.f0), .int .u32 ((rd_T36 l0_1 x3_2).f2.f1), .int .u64 ((rd_T36 l0_1 x3_2).f2.f2), .int .u64 ((rd_T36 l0_1 x3_2).f2.f3.f0), .int .u64 ((rd_T36 l0_1 x3_2).f2.f3.f1), .int .u64 ((rd_T36 l0_1 x3_2).f2.f3.f2), .int .u64 ((rd_T36 l0_1 x3_2).f2.f3.f3), .int .u64 ((rd_T36 l0_1 x3_2).f2.f3.f4), .int .u64 0, .bool false]) ?_ 10 _ rfl; (with_reducible repeat (first | refine blk_drewN ?_ _ | refine blk_drew ?_ | refine blk_alloc ?_ _)); refine blk_put (cs := #[.int .u64 ((rd_T36 l0_1 x3_2).f0), .int .i64 ((rd_T36 l0_1 x3_2).f1), .int .u32 ((rd_T36 l0_1 x3_2).f2.f0), .int .u32 ((rd_T36 l0_1 x3_2).f2.f1), .int .u64 ((rd_T36 l0_1 x3_2).f2.f2), .int .u64 ((rd_T36 l0_1 x3_2).f2.f3.f0), .int .u64 ((rd_T36 l0_1 x3_2).f2.f3.f1), .int .u64 ((rd_T36 l0_1 x3_2).f2.f3.f2), .int .u64 ((rd_T36 l0_1 x3_2).f2.f3.f3), .int .u64 0, .int .u64 0, .bool false]) ?_ 9 _ rfl; (with_reducible repeat (first | refine blk_drewN ?_ _ | refine blk_drew ?_ | refine blk_alloc ?_ _)); refine blk_put (cs := #[.int .u64 ((rd_T36 l0_1 x3_2).f0), .int .i64 ((rd_T36 l0_1 x3_2).f1), .int .u32 ((rd_T36 l0_1 x3_2).f2.f0), .int .u32 ((rd_T36 l0_1 x3_2).f2.f1), .int .u64 ((rd_T36 l0_1 x3_2).f2.f2), .int .u64 ((rd_T36 l0_1 x3_2).f2.f3.f0), .int .u64 ((rd_T36 l0_1 x3_2).f2.f3.f1), .int .u64 ((rd_T36 l0_1 x3_2).f2.f3.f2), .int .u64 0, .int .u64 0, .int .u64 0, .bool false]) ?_ 8 _ rfl; (with_reducible repeat (first | refine blk_drewN ?_ _ | refine blk_drew ?_ | refine blk_alloc ?_ _)); refine blk_put (cs := #[.int .u64 ((rd_T36 l0_1 x3_2).f0), .int .i64 ((rd_T36 l0_1 x3_2).f1), .int .u32 ((rd_T36 l0_1 x3_2).f2.f0), .int .u32 ((rd_T36 l0_1 x3_2).f2.f1), .int .u64 ((rd_T36 l0_1 x3_2).f2.f2), .int .u64 ((rd_T36 l0_1 x3_2).f2.f3.f0), .int .u64 ((rd_T36 l0_1 x3_2).f2.f3.f1), .int .u64 0, .int .u64 0, .int .u64 0, .int .u64 0, .bool false]) ?_ 7 _ rfl; (with_reducible repeat (first | refine blk_drewN ?_ _ | refine blk_drew ?_ | refine blk_alloc ?_ _)); refine blk_put (cs := #[.int .u64 ((rd_T36 l0_1 x3_2).f0), .int .i64 ((rd_T36 l0_1 x3_2).f1), .int .u32 ((rd_T36 l0_1 x3_2).f2.f0), .int .u32 ((rd_T36 l0_1 x3_2).f2.f1), .int .u64 ((rd_T36 l0_1 x3_2).f2.f2), .int .u64 ((rd_T36 l0_1 x3_2).f2.f3.f0), .int .u64 0, .int .u64 0, .int .u64 0, .int .u64 0, .int .u64 0, .bool false]) ?_ 6 _ rfl; (with_reducible repeat (first | refine blk_drewN ?_ _ | refine blk_drew ?_ | refine blk_alloc ?_ _)); refine blk_put (cs := #[.int .u64 ((rd_T36 l0_1 x3_2).f0), .int .i64 ((rd_T36 l0_1 x3_2).f1), .int .u32 ((rd_T36 l0_1 x3_2).f2.f0), .int .u32 ((rd_T36 l0_1 x3_2).f2.f1), .int .u64 ((rd_T36 l0_1 x3_2).f2.f2), .int .u64 0, .int .u64 0, .int .u64 0, .int .u64 0, .int .u64 0, .int .u64 0, .bool false]) ?_ 5 _ rfl; (with_reducible repeat (first | refine blk_drewN ?_ _ | refine blk_drew ?_ | refine blk_alloc ?_ _)); refine blk_put (cs := #[.int .u64 ((rd_T36 l0_1 x3_2).f0), .int .i64 ((rd_T36 l0_1 x3_2).f1), .int .u32 ((rd_T36 l0_1 x3_2).f2.f0), .int .u32 ((rd_T36 l0_1 x3_2).f2.f1), .int .u64 0, .int .u64 0, .int .u64 0, .int .u64 0, .int .u64 0, .int .u64 0, .int .u64 0, .bool false]) ?_ 4 _ rfl; (with_reducible repeat (first | refine blk_drewN ?_ _ | refine blk_drew ?_ | refine blk_alloc ?_ _)); refine blk_put (cs := #[.int .u64 ((rd_T36 l0_1 x3_2).f0), .int .i64 ((rd_T36 l0_1 x3_2).f1), .int .u32 ((rd_T36 l0_1 x3_2).f2.f0), .int .u32 0, .int .u64 0, .int .u64 0, .int .u64 0, .int .u64 0, .int .u64 0, .int .u64 0, .int .u64 0, .bool false]) ?_ 3 _ rfl; (with_reducible repeat (first | refine blk_drewN ?_ _ | refine blk_drew ?_ | refine blk_alloc ?_ _)); refine blk_put (cs := #[.int .u64 ((rd_T36 l0_1 x3_2).f0), .int .i64 ((rd_T36 l0_1 x3_2).f1), .int .u32 0, .int .u32 0, .int .u64 0, .int .u64 0, .int .u64 0, .int .u64 0, .int .u64 0, .int .u64 0, .int .u64 0, .bool false]) ?_ 2 _ rfl; (with_reducible repeat (first | refine blk_drewN ?_ _ | refine blk_drew ?_ | refine blk_alloc ?_ _)); refine blk_put (cs := #[.int .u64 ((rd_T36 l0_1 x3_2).f0), .int .i64 0, .int .u32 0, .int .u32 0, .int .u64 0, .int .u64 0, .int .u64 0, .int .u64 0, .int .u64 0, .int .u64 0, .int .u64 0, .bool false]) ?_ 1 _ rfl; (with_reducible repeat (first | refine blk_drewN ?_ _ | refine blk_drew ?_ | refine blk_alloc ?_ _)); refine blk_put (cs := #[.int .u64 0, .int .i64 0, .int .u32 0, .int .u32 0, .int .u64 0, .int .u64 0, .int .u64 0, .int .u64 0, .int .u64 0, .int .u64 0, .int .u64 0, .bool false]) ?_ 0 _ rfl; (with_reducible repeat (first | refine blk_drewN ?_ _ | refine blk_drew ?_ | refine blk_alloc ?_ _)); exact BK147.out⟩, ⟨by repeat (first | (with_reducible first | exact HB.out | apply below_alloc | apply pw_below_drewN | apply below_drew1 | refine below_set ?_ GE145.out | refine below_set ?_ GE147.out) | exact HB.out)⟩⟩
         ·rw [if_neg c17] at H
          have c17b0 : decide (((rd_T36 l0_1 x3_2).f0) < 1) = false := decide_eq_false c17
          clear c17
          (first | rw [c17b0] | (simp only [i64_w, i32_w]; rw [c17b0]) | skip)
          by_cases c20 : ((rd_T36 l0_1 x3_2).f0) ≥ a0_0
          ·rw [if_pos c20] at H
           have c20b0 : decide (a0_0 ≤ ((rd_T36 l0_1 x3_2).f0)) = true := decide_eq_true c20
           clear c20
           have H' := Aside0.mk H
           clear H
           have hnb21 := NB147_145.out
           have hnc21 := NB145_147.out
           have hcz22_0 : w14.cell? ⟨gb147, 0, none⟩ = some (.int .u64 0) := (blk_cell BK147.out 0).trans rfl
           have hcz22_1 : w14.cell? ⟨gb147, 1, none⟩ = some (.int .i64 0) := (blk_cell BK147.out 1).trans rfl
           have hcz22_2 : w14.cell? ⟨gb147, 2, none⟩ = some (.int .u32 0) := (blk_cell BK147.out 2).trans rfl
           have hcz22_3 : w14.cell? ⟨gb147, 3, none⟩ = some (.int .u32 0) := (blk_cell BK147.out 3).trans rfl
           have hcz22_4 : w14.cell? ⟨gb147, 4, none⟩ = some (.int .u64 0) := (blk_cell BK147.out 4).trans rfl
           have hcz22_5 : w14.cell? ⟨gb147, 5, none⟩ = some (.int .u64 0) := (blk_cell BK147.out 5).trans rfl
           have hcz22_6 : w14.cell? ⟨gb147, 6, none⟩ = some (.int .u64 0) := (blk_cell BK147.out 6).trans rfl
           have hcz22_7 : w14.cell? ⟨gb147, 7, none⟩ = some (.int .u64 0) := (blk_cell BK147.out 7).trans rfl
           have hcz22_8 : w14.cell? ⟨gb147, 8, none⟩ = some (.int .u64 0) := (blk_cell BK147.out 8).trans rfl
           have hcz22_9 : w14.cell? ⟨gb147, 9, none⟩ = some (.int .u64 0) := (blk_cell BK147.out 9).trans rfl
           have hcz22_10 : w14.cell? ⟨gb147, 10, none⟩ = some (.int .u64 0) := (blk_cell BK147.out 10).trans rfl
           have hcz22_11 : w14.cell? ⟨gb147, 11, none⟩ = some (.bool false) := (blk_cell BK147.out 11).trans rfl
           have hfz22_0 := blk_frozen BK147.out 0
           have hfz22_1 := blk_frozen BK147.out 1
           have hfz22_2 := blk_frozen BK147.out 2
           have hfz22_3 := blk_frozen BK147.out 3
           have hfz22_4 := blk_frozen BK147.out 4
           have hfz22_5 := blk_frozen BK147.out 5
           have hfz22_6 := blk_frozen BK147.out 6
           have hfz22_7 := blk_frozen BK147.out 7
           have hfz22_8 := blk_frozen BK147.out 8
           have hfz22_9 := blk_frozen BK147.out 9
           have hfz22_10 := blk_frozen BK147.out 10
           have hfz22_11 := blk_frozen BK147.out 11
           have hcz23_0 : w14.cell? ⟨gb145, 0, none⟩ = some (.int .u64 a0_0) := (blk_cell BK145.out 0).trans rfl
           have hcz23_1 : w14.cell? ⟨gb145, 1, none⟩ = some (.slice (some ad146) l0_1.length c0_1) := (blk_cell BK145.out 1).trans rfl
           have hfz23_0 := blk_frozen BK145.out 0
           have hfz23_1 := blk_frozen BK145.out 1
           go_wp2
           repeat (go_quiet (fail); try go_wp2)
           go_meet
           case rel => exact ⟨_, (true), (by first | rfl | (simp; done) | (simp [*]; done)), H', ⟨by have := HJ1.out; have := HK2.out; first | omega | exact Nat.le_refl _⟩, ⟨by (with_reducible repeat (first | refine blk_drewN ?_ _ | refine blk_drew ?_ | refine blk_alloc ?_ _)); refine blk_far ?_ NB145_147.out _; (with_reducible repeat (first | refine blk_drewN ?_ _ | refine blk_drew ?_ | refine blk_alloc ?_ _)); refine blk_far ?_ NB145_147.out _; (with_reducible repeat (first | refine blk_drewN ?_ _ | refine blk_drew ?_ | refine blk_alloc ?_ _)); refine blk_far ?_ NB145_147.out _; (with_reducible repeat (first | refine blk_drewN ?_ _ | refine blk_drew ?_ | refine blk_alloc ?_ _)); refine blk_far ?_ NB145_147.out _; (with_reducible repeat (first | refine blk_drewN ?_ _ | refine blk_drew ?_ | refine blk_alloc ?_ _)); refine blk_far ?_ NB145_147.out _; (with_reducible repeat (first | refine blk_drewN ?_ _ | refine blk_drew ?_ | refine blk_alloc ?_ _)); refine blk_far ?_ NB145_147.out _; (with_reducible repeat (first | refine blk_drewN ?_ _ | refine blk_drew ?_ | refine blk_alloc ?_ _)); refine blk_far ?_ NB145_147.out _; (with_reducible repeat (first | refine blk_drewN ?_ _ | refine blk_drew ?_ | refine blk_alloc ?_ _)); refine blk_far ?_ NB145_147.out _; (with_reducible repeat (first | refine blk_drewN ?_ _ | refine blk_drew ?_ | refine blk_alloc ?_ _)); refine blk_far ?_ NB145_147.out _; (with_reducible repeat (first | refine blk_drewN ?_ _ | refine blk_drew ?_ | refine blk_alloc ?_ _)); refine blk_far ?_ NB145_147.out _; (with_reducible repeat (first | refine blk_drewN ?_ _ | refine blk_drew ?_ | refine blk_alloc ?_ _)); refine blk_far ?_ NB145_147.out _; (with_reducible repeat (first | refine blk_drewN ?_ _ | refine blk_drew ?_ | refine blk_alloc ?_ _)); refine blk_far ?_ NB145_147.out _; (with_reducible repeat (first | refine blk_drewN ?_ _ | refine blk_drew ?_ | refine blk_alloc ?_ _)); exact BK145.out⟩, ⟨by (with_reducible repeat (first | refine blk_drewN ?_ _ | refine blk_drew ?_ | refine blk_alloc ?_ _)); refine blk_put (cs := #[.int .u64 ((rd_T36 l0_1 x3_2).f0), .int .i64 ((rd_T36 l0_1 x3_2).f1), .int .u32 ((rd_T36 l0_1 x3_2).f2.f0), .int .u32 ((rd_T36 l0_1 x3_2).f2.f1), .int .u64 ((rd_T36 l0_1 x3_2).f2.f2), .int .u64 ((rd_T36 l0_1 x3_2).f2.f3.f0), .int .u64 ((rd_T36 l0_1 x3_2).f2.f3.f1), .int .u64 ((rd_T36 l0_1 x3_2).f2.f3.f2), .int .u64 ((rd_T36 l0_1 x3_2).f2.f3.f3), .int .u64 ((rd_T36 l0_1 x3_2).f2.f3.f4), .int .u64 ((rd_T36 l0_1 x3_2).f2.f3.f5), .bool false]) ?_ 11 _ rfl; (with_reducible repeat (first | refine blk_drewN ?_ _ | refine blk_drew ?_ | refine blk_alloc ?_ _)); refine blk_put (cs := #[.int .u64 ((rd_T36 l0_1 x3_2).f0), .int .i64 ((rd_T36 l0_1 x3_2).f1), .int .u32 ((rd_T36 l0_1 x3_2).f2.f0), .int .u32 ((rd_T36 l0_1 x3_2).f2.f1), .int .u64 ((rd_T36 l0_1 x3_2).f2.f2), .int .u64 ((rd_T36 l0_1 x3_2).f2.f3.f0), .int .u64 ((rd_T36 l0_1 x3_2).f2.f3.f1), .int .u64 ((rd_T36 l0_1 x3_2).f2.f3.f2), .int .u64 ((rd_T36 l0_1 x3_2).f2.f3.f3), .int .u64 ((rd_T36 l0_1 x3_2).f2.f3.f4), .int .u64 0, .bool false]) ?_ 10 _ rfl; (with_reducible repeat (first | refine blk_drewN ?_ _ | refine blk_drew ?_ | refine blk_alloc ?_ _)); refine blk_put (cs := #[.int .u64 ((rd_T36 l0_1 x3_2).f0), .int .i64 ((rd_T36 l0_1 x3_2).f1), .int .u32 ((rd_T36 l0_1 x3_2).f2.f0), .int .u32 ((rd_T36 l0_1 x3_2).f2.f1), .int .u64 ((rd_T36 l0_1 x3_2).f2.f2), .int .u64 ((rd_T36 l0_1 x3_2).f2.f3.f0), .int .u64 ((rd_T36 l0_1 x3_2).f2.f3.f1), .int .u64 ((rd_T36 l0_1 x3_2).f2.f3.f2), .int .u64 ((rd_T36 l0_1 x3_2).f2.f3.f3), .int .u64 0, .int .u64 0, .bool false]) ?_ 9 _ rfl; (with_reducible repeat (first | refine blk_drewN ?_ _ | refine blk_drew ?_ | refine blk_alloc ?_ _)); refine blk_put (cs := #[.int .u64 ((rd_T36 l0_1 x3_2).f0), .int .i64 ((rd_T36 l0_1 x3_2).f1), .int .u32 ((rd_T36 l0_1 x3_2).f2.f0), .int .u32 ((rd_T36 l0_1 x3_2).f2.f1), .int .u64 ((rd_T36 l0_1 x3_2).f2.f2), .int .u64 ((rd_T36 l0_1 x3_2).f2.f3.f0), .int .u64 ((rd_T36 l0_1 x3_2).f2.f3.f1), .int .u64 ((rd_T36 l0_1 x3_2).f2.f3.f2), .int .u64 0, .int .u64 0, .int .u64 0, .bool false]) ?_ 8 _ rfl; (with_reducible repeat (first | refine blk_drewN ?_ _ | refine blk_drew ?_ | refine blk_alloc ?_ _)); refine blk_put (cs := #[.int .u64 ((rd_T36 l0_1 x3_2).f0), .int .i64 ((rd_T36 l0_1 x3_2).f1), .int .u32 ((rd_T36 l0_1 x3_2).f2.f0), .int .u32 ((rd_T36 l0_1 x3_2).f2.f1), .int .u64 ((rd_T36 l0_1 x3_2).f2.f2), .int .u64 ((rd_T36 l0_1 x3_2).f2.f3.f0), .int .u64 ((rd_T36 l0_1 x3_2).f2.f3.f1), .int .u64 0, .int .u64 0, .int .u64 0, .int .u64 0, .bool false]) ?_ 7 _ rfl; (with_reducible repeat (first | refine blk_drewN ?_ _ | refine blk_drew ?_ | refine blk_alloc ?_ _)); refine blk_put (cs := #[.int .u64 ((rd_T36 l0_1 x3_2).f0), .int .i64 ((rd_T36 l0_1 x3_2).f1), .int .u32 ((rd_T36 l0_1 x3_2).f2.f0), .int .u32 ((rd_T36 l0_1 x3_2).f2.f1), .int .u64 ((rd_T36 l0_1 x3_2).f2.f2), .int .u64 ((rd_T36 l0_1 x3_2).f2.f3.f0), .int .u64 0, .int .u64 0, .int .u64 0, .int .u64 0, .int .u64 0, .bool false]) ?_ 6 _ rfl; (with_reducible repeat (first | refine blk_drewN ?_ _ | refine blk_drew ?_ | refine blk_alloc ?_ _)); refine blk_put (cs := #[.int .u64 ((rd_T36 l0_1 x3_2).f0), .int .i64 ((rd_T36 l0_1 x3_2).f1), .int .u32 ((rd_T36 l0_1 x3_2).f2.f0), .int .u32 ((rd_T36 l0_1 x3_2).f2.f1), .int .u64 ((rd_T36 l0_1 x3_2).f2.f2), .int .u64 0, .int .u64 0, .int .u64 0, .int .u64 0, .int .u64 0, .int .u64 0, .bool false]) ?_ 5 _ rfl; (with_reducible repeat (first | refine blk_drewN ?_ _ | refine blk_drew ?_ | refine blk_alloc ?_ _)); refine blk_put (cs := #[.int .u64 ((rd_T36 l0_1 x3_2).f0), .int .i64 ((rd_T36 l0_1 x3_2).f1), .int .u32 ((rd_T36 l0_1 x3_2).f2.f0), .int .u32 ((rd_T36 l0_1 x3_2).f2.f1), .int .u64 0, .int .u64 0, .int .u64 0, .int .u64 0, .int .u64 0, .int .u64 0, .int .u64 0, .bool false]) ?_ 4 _ rfl; (with_reducible repeat (first | refine blk_drewN ?_ _ | refine blk_drew ?_ | refine blk_alloc ?_ _)); refine blk_put (cs := #[.int .u64 ((rd_T36 l0_1 x3_2).f0), .int .i64 ((rd_T36 l0_1 x3_2).f1), .int .u32 ((rd_T36 l0_1 x3_2).f2.f0), .int .u32 0, .int .u64 0, .int .u64 0, .int .u64 0, .int .u64 0, .int .u64 0, .int .u64 0, .int .u64 0, .bool false]) ?_ 3 _ rfl; (with_reducible repeat (first | refine blk_drewN ?_ _ | refine blk_drew ?_ | refine blk_alloc ?_ _)); refine blk_put (cs := #[.int .u64 ((rd_T36 l0_1 x3_2).f0), .int .i64 ((rd_T36 l0_1 x3_2).f1), .int .u32 0, .int .u32 0, .int .u64 0, .int .u64 0, .int .u64 0, .int .u64 0, .int .u64 0, .int .u64 0, .int .u64 0, .bool false]) ?_ 2 _ rfl; (with_reducible repeat (first | refine blk_drewN ?_ _ | refine blk_drew ?_ | refine blk_alloc ?_ _)); refine blk_put (cs := #[.int .u64 ((rd_T36 l0_1 x3_2).f0), .int .i64 0, .int .u32 0, .int .u32 0, .int .u64 0, .int .u64 0, .int .u64 0, .int .u64 0, .int .u64 0, .int .u64 0, .int .u64 0, .bool false]) ?_ 1 _ rfl; (with_reducible repeat (first | refine blk_drewN ?_ _ | refine blk_drew ?_ | refine blk_alloc ?_ _)); refine blk_put (cs := #[.int .u64 0, .int .i64 0, .int .u32 0, .int .u32 0, .int .u64 0, .int .u64 0, .int .u64 0, .int .u64 0, .int .u64 0, .int .u64 0, .int .u64 0, .bool false]) ?_ 0 _ rfl; (with_reducible repeat (first | refine blk_drewN ?_ _ | refine blk_drew ?_ | refine blk_alloc ?_ _)); exact BK147.out⟩, ⟨by repeat (first | (with_reducible first | exact HB.out | apply below_alloc | apply pw_below_drewN | apply below_drew1 | refine below_set ?_ GE145.out | refine below_set ?_ GE147.out) | exact HB.out)⟩⟩
          ·rw [if_neg c20] at H
           have c20b0 : decide (a0_0 ≤ ((rd_T36 l0_1 x3_2).f0)) = false := decide_eq_false c20
           clear c20
           by_cases c24 : ((rd_T36 l0_1 x3_2).f1) < 1
           ·rw [if_pos c24] at H
            have c24b0 : decide (((rd_T36 l0_1 x3_2).f1) < 1) = true := decide_eq_true c24
            clear c24
            have H' := Aside0.mk H
            clear H
            have hnb25 := NB147_145.out
            have hnc25 := NB145_147.out
            have hcz26_0 : w14.cell? ⟨gb147, 0, none⟩ = some (.int .u64 0) := (blk_cell BK147.out 0).trans rfl
            have hcz26_1 : w14.cell? ⟨gb147, 1, none⟩ = some (.int .i64 0) := (blk_cell BK147.out 1).trans rfl
            have hcz26_2 : w14.cell? ⟨gb147, 2, none⟩ = some (.int .u32 0) := (blk_cell BK147.out 2).trans rfl
            have hcz26_3 : w14.cell? ⟨gb147, 3, none⟩ = some (.int .u32 0) := (blk_cell BK147.out 3).trans rfl
            have hcz26_4 : w14.cell? ⟨gb147, 4, none⟩ = some (.int .u64 0) := (blk_cell BK147.out 4).trans rfl
            have hcz26_5 : w14.cell? ⟨gb147, 5, none⟩ = some (.int .u64 0) := (blk_cell BK147.out 5).trans rfl
            have hcz26_6 : w14.cell? ⟨gb147, 6, none⟩ = some (.int .u64 0) := (blk_cell BK147.out 6).trans rfl
            have hcz26_7 : w14.cell? ⟨gb147, 7, none⟩ = some (.int .u64 0) := (blk_cell BK147.out 7).trans rfl
            have hcz26_8 : w14.cell? ⟨gb147, 8, none⟩ = some (.int .u64 0) := (blk_cell BK147.out 8).trans rfl
            have hcz26_9 : w14.cell? ⟨gb147, 9, none⟩ = some (.int .u64 0) := (blk_cell BK147.out 9).trans rfl
            have hcz26_10 : w14.cell? ⟨gb147, 10, none⟩ = some (.int .u64 0) := (blk_cell BK147.out 10).trans rfl
            have hcz26_11 : w14.cell? ⟨gb147, 11, none⟩ = some (.bool false) := (blk_cell BK147.out 11).trans rfl
            have hfz26_0 := blk_frozen BK147.out 0
            have hfz26_1 := blk_frozen BK147.out 1
            have hfz26_2 := blk_frozen BK147.out 2
            have hfz26_3 := blk_frozen BK147.out 3
            have hfz26_4 := blk_frozen BK147.out 4
            have hfz26_5 := blk_frozen BK147.out 5
            have hfz26_6 := blk_frozen BK147.out 6
            have hfz26_7 := blk_frozen BK147.out 7
            have hfz26_8 := blk_frozen BK147.out 8
            have hfz26_9 := blk_frozen BK147.out 9
            have hfz26_10 := blk_frozen BK147.out 10
            have hfz26_11 := blk_frozen BK147.out 11
            have hcz27_0 : w14.cell? ⟨gb145, 0, none⟩ = some (.int .u64 a0_0) := (blk_cell BK145.out 0).trans rfl
            have hcz27_1 : w14.cell? ⟨gb145, 1, none⟩ = some (.slice (some ad146) l0_1.length c0_1) := (blk_cell BK145.out 1).trans rfl
            have hfz27_0 := blk_frozen BK145.out 0
            have hfz27_1 := blk_frozen BK145.out 1
            go_wp2
            repeat (go_quiet (fail); try go_wp2)
            go_meet
            case rel => exact ⟨_, (true), (by first | rfl | (simp; done) | (simp [*]; done)), H', ⟨by have := HJ1.out; have := HK2.out; first | omega | exact Nat.le_refl _⟩, ⟨by (with_reducible repeat (first | refine blk_drewN ?_ _ | refine blk_drew ?_ | refine blk_alloc ?_ _)); refine blk_far ?_ NB145_147.out _; (with_reducible repeat (first | refine blk_drewN ?_ _ | refine blk_drew ?_ | refine blk_alloc ?_ _)); refine blk_far ?_ NB145_147.out _; (with_reducible repeat (first | refine blk_drewN ?_ _ | refine blk_drew ?_ | refine blk_alloc ?_ _)); refine blk_far ?_ NB145_147.out _; (with_reducible repeat (first | refine blk_drewN ?_ _ | refine blk_drew ?_ | refine blk_alloc ?_ _)); refine blk_far ?_ NB145_147.out _; (with_reducible repeat (first | refine blk_drewN ?_ _ | refine blk_drew ?_ | refine blk_alloc ?_ _)); refine blk_far ?_ NB145_147.out _; (with_reducible repeat (first | refine blk_drewN ?_ _ | refine blk_drew ?_ | refine blk_alloc ?_ _)); refine blk_far ?_ NB145_147.out _; (with_reducible repeat (first | refine blk_drewN ?_ _ | refine blk_drew ?_ | refine blk_alloc ?_ _)); refine blk_far ?_ NB145_147.out _; (with_reducible repeat (first | refine blk_drewN ?_ _ | refine blk_drew ?_ | refine blk_alloc ?_ _)); refine blk_far ?_ NB145_147.out _; (with_reducible repeat (first | refine blk_drewN ?_ _ | refine blk_drew ?_ | refine blk_alloc ?_ _)); refine blk_far ?_ NB145_147.out _; (with_reducible repeat (first | refine blk_drewN ?_ _ | refine blk_drew ?_ | refine blk_alloc ?_ _)); refine blk_far ?_ NB145_147.out _; (with_reducible repeat (first | refine blk_drewN ?_ _ | refine blk_drew ?_ | refine blk_alloc ?_ _)); refine blk_far ?_ NB145_147.out _; (with_reducible repeat (first | refine blk_drewN ?_ _ | refine blk_drew ?_ | refine blk_alloc ?_ _)); refine blk_far ?_ NB145_147.out _; (with_reducible repeat (first | refine blk_drewN ?_ _ | refine blk_drew ?_ | refine blk_alloc ?_ _)); exact BK145.out⟩, ⟨by (with_reducible repeat (first | refine blk_drewN ?_ _ | refine blk_drew ?_ | refine blk_alloc ?_ _)); refine blk_put (cs := #[.int .u64 ((rd_T36 l0_1 x3_2).f0), .int .i64 ((rd_T36 l0_1 x3_2).f1), .int .u32 ((rd_T36 l0_1 x3_2).f2.f0), .int .u32 ((rd_T36 l0_1 x3_2).f2.f1), .int .u64 ((rd_T36 l0_1 x3_2).f2.f2), .int .u64 ((rd_T36 l0_1 x3_2).f2.f3.f0), .int .u64 ((rd_T36 l0_1 x3_2).f2.f3.f1), .int .u64 ((rd_T36 l0_1 x3_2).f2.f3.f2), .int .u64 ((rd_T36 l0_1 x3_2).f2.f3.f3), .int .u64 ((rd_T36 l0_1 x3_2).f2.f3.f4), .int .u64 ((rd_T36 l0_1 x3_2).f2.f3.f5), .bool false]) ?_ 11 _ rfl; (with_reducible repeat (first | refine blk_drewN ?_ _ | refine blk_drew ?_ | refine blk_alloc ?_ _)); refine blk_put (cs := #[.int .u64 ((rd_T36 l0_1 x3_2).f0), .int .i64 ((rd_T36 l0_1 x3_2).f1), .int .u32 ((rd_T36 l0_1 x3_2).f2.f0), .int .u32 ((rd_T36 l0_1 x3_2).f2.f1), .int .u64 ((rd_T36 l0_1 x3_2).f2.f2), .int .u64 ((rd_T36 l0_1 x3_2).f2.f3.f0), .int .u64 ((rd_T36 l0_1 x3_2).f2.f3.f1), .int .u64 ((rd_T36 l0_1 x3_2).f2.f3.f2), .int .u64 ((rd_T36 l0_1 x3_2).f2.f3.f3), .int .u64 ((rd_T36 l0_1 x3_2).f2.f3.f4), .int .u64 0, .bool false]) ?_ 10 _ rfl; (with_reducible repeat (first | refine blk_drewN ?_ _ | refine blk_drew ?_ | refine blk_alloc ?_ _)); refine blk_put (cs := #[.int .u64 ((rd_T36 l0_1 x3_2).f0), .int .i64 ((rd_T36 l0_1 x3_2).f1), .int .u32 ((rd_T36 l0_1 x3_2).f2.f0), .int .u32 ((rd_T36 l0_1 x3_2).f2.f1), .int .u64 ((rd_T36 l0_1 x3_2).f2.f2), .int .u64 ((rd_T36 l0_1 x3_2).f2.f3.f0), .int .u64 ((rd_T36 l0_1 x3_2).f2.f3.f1), .int .u64 ((rd_T36 l0_1 x3_2).f2.f3.f2), .int .u64 ((rd_T36 l0_1 x3_2).f2.f3.f3), .int .u64 0, .int .u64 0, .bool false]) ?_ 9 _ rfl; (with_reducible repeat (first | refine blk_drewN ?_ _ | refine blk_drew ?_ | refine blk_alloc ?_ _)); refine blk_put (cs := #[.int .u64 ((rd_T36 l0_1 x3_2).f0), .int .i64 ((rd_T36 l0_1 x3_2).f1), .int .u32 ((rd_T36 l0_1 x3_2).f2.f0), .int .u32 ((rd_T36 l0_1 x3_2).f2.f1), .int .u64 ((rd_T36 l0_1 x3_2).f2.f2), .int .u64 ((rd_T36 l0_1 x3_2).f2.f3.f0), .int .u64 ((rd_T36 l0_1 x3_2).f2.f3.f1), .int .u64 ((rd_T36 l0_1 x3_2).f2.f3.f2), .int .u64 0, .int .u64 0, .int .u64 0, .bool false]) ?_ 8 _ rfl; (with_reducible repeat (first | refine blk_drewN ?_ _ | refine blk_drew ?_ | refine blk_alloc ?_ _)); refine blk_put (cs := #[.int .u64 ((rd_T36 l0_1 x3_2).f0), .int .i64 ((rd_T36 l0_1 x3_2).f1), .int .u32 ((rd_T36 l0_1 x3_2).f2.f0), .int .u32 ((rd_T36 l0_1 x3_2).f2.f1), .int .u64 ((rd_T36 l0_1 x3_2).f2.f2), .int .u64 ((rd_T36 l0_1 x3_2).f2.f3.f0), .int .u64 ((rd_T36 l0_1 x3_2).f2.f3.f1), .int .u64 0, .int .u64 0, .int .u64 0, .int .u64 0, .bool false]) ?_ 7 _ rfl; (with_reducible repeat (first | refine blk_drewN ?_ _ | refine blk_drew ?_ | refine blk_alloc ?_ _)); refine blk_put (cs := #[.int .u64 ((rd_T36 l0_1 x3_2).f0), .int .i64 ((rd_T36 l0_1 x3_2).f1), .int .u32 ((rd_T36 l0_1 x3_2).f2.f0), .int .u32 ((rd_T36 l0_1 x3_2).f2.f1), .int .u64 ((rd_T36 l0_1 x3_2).f2.f2), .int .u64 ((rd_T36 l0_1 x3_2).f2.f3.f0), .int .u64 0, .int .u64 0, .int .u64 0, .int .u64 0, .int .u64 0, .bool false]) ?_ 6 _ rfl; (with_reducible repeat (first | refine blk_drewN ?_ _ | refine blk_drew ?_ | refine blk_alloc ?_ _)); refine blk_put (cs := #[.int .u64 ((rd_T36 l0_1 x3_2).f0), .int .i64 ((rd_T36 l0_1 x3_2).f1), .int .u32 ((rd_T36 l0_1 x3_2).f2.f0), .int .u32 ((rd_T36 l0_1 x3_2).f2.f1), .int .u64 ((rd_T36 l0_1 x3_2).f2.f2), .int .u64 0, .int .u64 0, .int .u64 0, .int .u64 0, .int .u64 0, .int .u64 0, .bool false]) ?_ 5 _ rfl; (with_reducible repeat (first | refine blk_drewN ?_ _ | refine blk_drew ?_ | refine blk_alloc ?_ _)); refine blk_put (cs := #[.int .u64 ((rd_T36 l0_1 x3_2).f0), .int .i64 ((rd_T36 l0_1 x3_2).f1), .int .u32 ((rd_T36 l0_1 x3_2).f2.f0), .int .u32 ((rd_T36 l0_1 x3_2).f2.f1), .int .u64 0, .int .u64 0, .int .u64 0, .int .u64 0, .int .u64 0, .int .u64 0, .int .u64 0, .bool false]) ?_ 4 _ rfl; (with_reducible repeat (first | refine blk_drewN ?_ _ | refine blk_drew ?_ | refine blk_alloc ?_ _)); refine blk_put (cs := #[.int .u64 ((rd_T36 l0_1 x3_2).f0), .int .i64 ((rd_T36 l0_1 x3_2).f1), .int .u32 ((rd_T36 l0_1 x3_2).f2.f0), .int .u32 0, .int .u64 0, .int .u64 0, .int .u64 0, .int .u64 0, .int .u64 0, .int .u64 0, .int .u64 0, .bool false]) ?_ 3 _ rfl; (with_reducible repeat (first | refine blk_drewN ?_ _ | refine blk_drew ?_ | refine blk_alloc ?_ _)); refine blk_put (cs := #[.int .u64 ((rd_T36 l0_1 x3_2).f0), .int .i64 ((rd_T36 l0_1 x3_2).f1), .int .u32 0, .int .u32 0, .int .u64 0, .int .u64 0, .int .u64 0, .int .u64 0, .int .u64 0, .int .u64 0, .int .u64 0, .bool false]) ?_ 2 _ rfl; (with_reducible repeat (first | refine blk_drewN ?_ _ | refine blk_drew ?_ | refine blk_alloc ?_ _)); refine blk_put (cs := #[.int .u64 ((rd_T36 l0_1 x3_2).f0), .int .i64 0, .int .u32 0, .int .u32 0, .int .u64 0, .int .u64 0, .int .u64 0, .int .u64 0, .int .u64 0, .int .u64 0, .int .u64 0, .bool false]) ?_ 1 _ rfl; (with_reducible repeat (first | refine blk_drewN ?_ _ | refine blk_drew ?_ | refine blk_alloc ?_ _)); refine blk_put (cs := #[.int .u64 0, .int .i64 0, .int .u32 0, .int .u32 0, .int .u64 0, .int .u64 0, .int .u64 0, .int .u64 0, .int .u64 0, .int .u64 0, .int .u64 0, .bool false]) ?_ 0 _ rfl; (with_reducible repeat (first | refine blk_drewN ?_ _ | refine blk_drew ?_ | refine blk_alloc ?_ _)); exact BK147.out⟩, ⟨by repeat (first | (with_reducible first | exact HB.out | apply below_alloc | apply pw_below_drewN | apply below_drew1 | refine below_set ?_ GE145.out | refine below_set ?_ GE147.out) | exact HB.out)⟩⟩
           ·rw [if_neg c24] at H
            have c24b0 : decide (((rd_T36 l0_1 x3_2).f1) < 1) = false := decide_eq_false c24
            clear c24
            have H' := Aside0.mk H
            clear H
            have hnb28 := NB147_145.out
            have hnc28 := NB145_147.out
            have hcz29_0 : w14.cell? ⟨gb147, 0, none⟩ = some (.int .u64 0) := (blk_cell BK147.out 0).trans rfl
            have hcz29_1 : w14.cell? ⟨gb147, 1, none⟩ = some (.int .i64 0) := (blk_cell BK147.out 1).trans rfl
            have hcz29_2 : w14.cell? ⟨gb147, 2, none⟩ = some (.int .u32 0) := (blk_cell BK147.out 2).trans rfl
            have hcz29_3 : w14.cell? ⟨gb147, 3, none⟩ = some (.int .u32 0) := (blk_cell BK147.out 3).trans rfl
            have hcz29_4 : w14.cell? ⟨gb147, 4, none⟩ = some (.int .u64 0) := (blk_cell BK147.out 4).trans rfl
            have hcz29_5 : w14.cell? ⟨gb147, 5, none⟩ = some (.int .u64 0) := (blk_cell BK147.out 5).trans rfl
            have hcz29_6 : w14.cell? ⟨gb147, 6, none⟩ = some (.int .u64 0) := (blk_cell BK147.out 6).trans rfl
            have hcz29_7 : w14.cell? ⟨gb147, 7, none⟩ = some (.int .u64 0) := (blk_cell BK147.out 7).trans rfl
            have hcz29_8 : w14.cell? ⟨gb147, 8, none⟩ = some (.int .u64 0) := (blk_cell BK147.out 8).trans rfl
            have hcz29_9 : w14.cell? ⟨gb147, 9, none⟩ = some (.int .u64 0) := (blk_cell BK147.out 9).trans rfl
            have hcz29_10 : w14.cell? ⟨gb147, 10, none⟩ = some (.int .u64 0) := (blk_cell BK147.out 10).trans rfl
            have hcz29_11 : w14.cell? ⟨gb147, 11, none⟩ = some (.bool false) := (blk_cell BK147.out 11).trans rfl
            have hfz29_0 := blk_frozen BK147.out 0
            have hfz29_1 := blk_frozen BK147.out 1
            have hfz29_2 := blk_frozen BK147.out 2
            have hfz29_3 := blk_frozen BK147.out 3
            have hfz29_4 := blk_frozen BK147.out 4
            have hfz29_5 := blk_frozen BK147.out 5
            have hfz29_6 := blk_frozen BK147.out 6
            have hfz29_7 := blk_frozen BK147.out 7
            have hfz29_8 := blk_frozen BK147.out 8
            have hfz29_9 := blk_frozen BK147.out 9
            have hfz29_10 := blk_frozen BK147.out 10
            have hfz29_11 := blk_frozen BK147.out 11
            have hcz30_0 : w14.cell? ⟨gb145, 0, none⟩ = some (.int .u64 a0_0) := (blk_cell BK145.out 0).trans rfl
            have hcz30_1 : w14.cell? ⟨gb145, 1, none⟩ = some (.slice (some ad146) l0_1.length c0_1) := (blk_cell BK145.out 1).trans rfl
            have hfz30_0 := blk_frozen BK145.out 0
            have hfz30_1 := blk_frozen BK145.out 1
            go_wp2
            repeat (go_quiet (fail); try go_wp2)
            go_meet
            case rel => exact ⟨_, (decide (((rd_T36 l0_1 x3_2).f1) > 20)), (by first | rfl | (simp; done) | (simp [*]; done)), H', ⟨by have := HJ1.out; have := HK2.out; first | omega | exact Nat.le_refl _⟩, ⟨by (with_reducible repeat (first | refine blk_drewN ?_ _ | refine blk_drew ?_ | refine blk_alloc ?_ _)); refine blk_far ?_ NB145_147.out _; (with_reducible repeat (first | refine blk_drewN ?_ _ | refine blk_drew ?_ | refine blk_alloc ?_ _)); refine blk_far ?_ NB145_147.out _; (with_reducible repeat (first | refine blk_drewN ?_ _ | refine blk_drew ?_ | refine blk_alloc ?_ _)); refine blk_far ?_ NB145_147.out _; (with_reducible repeat (first | refine blk_drewN ?_ _ | refine blk_drew ?_ | refine blk_alloc ?_ _)); refine blk_far ?_ NB145_147.out _; (with_reducible repeat (first | refine blk_drewN ?_ _ | refine blk_drew ?_ | refine blk_alloc ?_ _)); refine blk_far ?_ NB145_147.out _; (with_reducible repeat (first | refine blk_drewN ?_ _ | refine blk_drew ?_ | refine blk_alloc ?_ _)); refine blk_far ?_ NB145_147.out _; (with_reducible repeat (first | refine blk_drewN ?_ _ | refine blk_drew ?_ | refine blk_alloc ?_ _)); refine blk_far ?_ NB145_147.out _; (with_reducible repeat (first | refine blk_drewN ?_ _ | refine blk_drew ?_ | refine blk_alloc ?_ _)); refine blk_far ?_ NB145_147.out _; (with_reducible repeat (first | refine blk_drewN ?_ _ | refine blk_drew ?_ | refine blk_alloc ?_ _)); refine blk_far ?_ NB145_147.out _; (with_reducible repeat (first | refine blk_drewN ?_ _ | refine blk_drew ?_ | refine blk_alloc ?_ _)); refine blk_far ?_ NB145_147.out _; (with_reducible repeat (first | refine blk_drewN ?_ _ | refine blk_drew ?_ | refine blk_alloc ?_ _)); refine blk_far ?_ NB145_147.out _; (with_reducible repeat (first | refine blk_drewN ?_ _ | refine blk_drew ?_ | refine blk_alloc ?_ _)); refine blk_far ?_ NB145_147.out _; (with_reducible repeat (first | refine blk_drewN ?_ _ | refine blk_drew ?_ | refine blk_alloc ?_ _)); exact BK145.out⟩, ⟨by (with_reducible repeat (first | refine blk_drewN ?_ _ | refine blk_drew ?_ | refine blk_alloc ?_ _)); refine blk_put (cs := #[.int .u64 ((rd_T36 l0_1 x3_2).f0), .int .i64 ((rd_T36 l0_1 x3_2).f1), .int .u32 ((rd_T36 l0_1 x3_2).f2.f0), .int .u32 ((rd_T36 l0_1 x3_2).f2.f1), .int .u64 ((rd_T36 l0_1 x3_2).f2.f2), .int .u64 ((rd_T36 l0_1 x3_2).f2.f3.f0), .int .u64 ((rd_T36 l0_1 x3_2).f2.f3.f1), .int .u64 ((rd_T36 l0_1 x3_2).f2.f3.f2), .int .u64 ((rd_T36 l0_1 x3_2).f2.f3.f3), .int .u64 ((rd_T36 l0_1 x3_2).f2.f3.f4), .int .u64 ((rd_T36 l0_1 x3_2).f2.f3.f5), .bool false]) ?_ 11 _ rfl; (with_reducible repeat (first | refine blk_drewN ?_ _ | refine blk_drew ?_ | refine blk_alloc ?_ _)); refine blk_put (cs := #[.int .u64 ((rd_T36 l0_1 x3_2).f0), .int .i64 ((rd_T36 l0_1 x3_2).f1), .int .u32 ((rd_T36 l0_1 x3_2).f2.f0), .int .u32 ((rd_T36 l0_1 x3_2).f2.f1), .int .u64 ((rd_T36 l0_1 x3_2).f2.f2), .int .u64 ((rd_T36 l0_1 x3_2).f2.f3.f0), .int .u64 ((rd_T36 l0_1 x3_2).f2.f3.f1), .int .u64 ((rd_T36 l0_1 x3_2).f2.f3.f2), .int .u64 ((rd_T36 l0_1 x3_2).f2.f3.f3), .int .u64 ((rd_T36 l0_1 x3_2).f2.f3.f4), .int .u64 0, .bool false]) ?_ 10 _ rfl; (with_reducible repeat (first | refine blk_drewN ?_ _ | refine blk_drew ?_ | refine blk_alloc ?_ _)); refine blk_put (cs := #[.int .u64 ((rd_T36 l0_1 x3_2).f0), .int .i64 ((rd_T36 l0_1 x3_2).f1), .int .u32 ((rd_T36 l0_1 x3_2).f2.f0), .int .u32 ((rd_T36 l0_1 x3_2).f2.f1), .int .u64 ((rd_T36 l0_1 x3_2).f2.f2), .int .u64 ((rd_T36 l0_1 x3_2).f2.f3.f0), .int .u64 ((rd_T36 l0_1 x3_2).f2.f3.f1), .int .u64 ((rd_T36 l0_1 x3_2).f2.f3.f2), .int .u64 ((rd_T36 l0_1 x3_2).f2.f3.f3), .int .u64 0, .int .u64 0, .bool false]) ?_ 9 _ rfl; (with_reducible repeat (first | refine blk_drewN ?_ _ | refine blk_drew ?_ | refine blk_alloc ?_ _)); refine blk_put (cs := #[.int .u64 ((rd_T36 l0_1 x3_2).f0), .int .i64 ((rd_T36 l0_1 x3_2).f1), .int .u32 ((rd_T36 l0_1 x3_2).f2.f0), .int .u32 ((rd_T36 l0_1 x3_2).f2.f1), .int .u64 ((rd_T36 l0_1 x3_2).f2.f2), .int .u64 ((rd_T36 l0_1 x3_2).f2.f3.f0), .int .u64 ((rd_T36 l0_1 x3_2).f2.f3.f1), .int .u64 ((rd_T36 l0_1 x3_2).f2.f3.f2), .int .u64 0, .int .u64 0, .int .u64 0, .bool false]) ?_ 8 _ rfl; (with_reducible repeat (first | refine blk_drewN ?_ _ | refine blk_drew ?_ | refine blk_alloc ?_ _)); refine blk_put (cs := #[.int .u64 ((rd_T36 l0_1 x3_2).f0), .int .i64 ((rd_T36 l0_1 x3_2).f1), .int .u32 ((rd_T36 l0_1 x3_2).f2.f0), .int .u32 ((rd_T36 l0_1 x3_2).f2.f1), .int .u64 ((rd_T36 l0_1 x3_2).f2.f2), .int .u64 ((rd_T36 l0_1 x3_2).f2.f3.f0), .int .u64 ((rd_T36 l0_1 x3_2).f2.f3.f1), .int .u64 0, .int .u64 0, .int .u64 0, .int .u64 0, .bool false]) ?_ 7 _ rfl; (with_reducible repeat (first | refine blk_drewN ?_ _ | refine blk_drew ?_ | refine blk_alloc ?_ _)); refine blk_put (cs := #[.int .u64 ((rd_T36 l0_1 x3_2).f0), .int .i64 ((rd_T36 l0_1 x3_2).f1), .int .u32 ((rd_T36 l0_1 x3_2).f2.f0), .int .u32 ((rd_T36 l0_1 x3_2).f2.f1), .int .u64 ((rd_T36 l0_1 x3_2).f2.f2), .int .u64 ((rd_T36 l0_1 x3_2).f2.f3.f0), .int .u64 0, .int .u64 0, .int .u64 0, .int .u64 0, .int .u64 0, .bool false]) ?_ 6 _ rfl; (with_reducible repeat (first | refine blk_drewN ?_ _ | refine blk_drew ?_ | refine blk_alloc ?_ _)); refine blk_put (cs := #[.int .u64 ((rd_T36 l0_1 x3_2).f0), .int .i64 ((rd_T36 l0_1 x3_2).f1), .int .u32 ((rd_T36 l0_1 x3_2).f2.f0), .int .u32 ((rd_T36 l0_1 x3_2).f2.f1), .int .u64 ((rd_T36 l0_1 x3_2).f2.f2), .int .u64 0, .int .u64 0, .int .u64 0, .int .u64 0, .int .u64 0, .int .u64 0, .bool false]) ?_ 5 _ rfl; (with_reducible repeat (first | refine blk_drewN ?_ _ | refine blk_drew ?_ | refine blk_alloc ?_ _)); refine blk_put (cs := #[.int .u64 ((rd_T36 l0_1 x3_2).f0), .int .i64 ((rd_T36 l0_1 x3_2).f1), .int .u32 ((rd_T36 l0_1 x3_2).f2.f0), .int .u32 ((rd_T36 l0_1 x3_2).f2.f1), .int .u64 0, .int .u64 0, .int .u64 0, .int .u64 0, .int .u64 0, .int .u64 0, .int .u64 0, .bool false]) ?_ 4 _ rfl; (with_reducible repeat (first | refine blk_drewN ?_ _ | refine blk_drew ?_ | refine blk_alloc ?_ _)); refine blk_put (cs := #[.int .u64 ((rd_T36 l0_1 x3_2).f0), .int .i64 ((rd_T36 l0_1 x3_2).f1), .int .u32 ((rd_T36 l0_1 x3_2).f2.f0), .int .u32 0, .int .u64 0, .int .u64 0, .int .u64 0, .int .u64 0, .int .u64 0, .int .u64 0, .int .u64 0, .bool false]) ?_ 3 _ rfl; (with_reducible repeat (first | refine blk_drewN ?_ _ | refine blk_drew ?_ | refine blk_alloc ?_ _)); refine blk_put (cs := #[.int .u64 ((rd_T36 l0_1 x3_2).f0), .int .i64 ((rd_T36 l0_1 x3_2).f1), .int .u32 0, .int .u32 0, .int .u64 0, .int .u64 0, .int .u64 0, .int .u64 0, .int .u64 0, .int .u64 0, .int .u64 0, .bool false]) ?_ 2 _ rfl; (with_reducible repeat (first | refine blk_drewN ?_ _ | refine blk_drew ?_ | refine blk_alloc ?_ _)); refine blk_put (cs := #[.int .u64 ((rd_T36 l0_1 x3_2).f0), .int .i64 0, .int .u32 0, .int .u32 0, .int .u64 0, .int .u64 0, .int .u64 0, .int .u64 0, .int .u64 0, .int .u64 0, .int .u64 0, .bool false]) ?_ 1 _ rfl; (with_reducible repeat (first | refine blk_drewN ?_ _ | refine blk_drew ?_ | refine blk_alloc ?_ _)); refine blk_put (cs := #[.int .u64 0, .int .i64 0, .int .u32 0, .int .u32 0, .int .u64 0, .int .u64 0, .int .u64 0, .int .u64 0, .int .u64 0, .int .u64 0, .int .u64 0, .bool false]) ?_ 0 _ rfl; (with_reducible repeat (first | refine blk_drewN ?_ _ | refine blk_drew ?_ | refine blk_alloc ?_ _)); exact BK147.out⟩, ⟨by repeat (first | (with_reducible first | exact HB.out | apply below_alloc | apply pw_below_drewN | apply below_drew1 | refine below_set ?_ GE145.out | refine below_set ?_ GE147.out) | exact HB.out)⟩⟩
        case rest =>
         clear HC12
         try clear c1
         try clear p1
         try clear q1
         try clear hx1
         try clear c2
         try clear p2
         try clear c4
         try clear c4b0
         try clear c6
         try clear c6b0
         try clear c9
         try clear c10
         try clear c10b0
         try clear c11
         try clear c11b0
         try clear p14
         try clear q14
         try clear hx14
         try clear c15
         try clear c17
         try clear c17b0
         try clear c18
         try clear c20
         try clear c20b0
         try clear c21
         try clear c23
         try clear c24
         try clear c24b0
         try clear c25
         try clear c28
         try clear hcz13_0
         try clear hcz13_1
         try clear hcz16_0
         try clear hcz16_1
         try clear hcz16_10
         try clear hcz16_11
         try clear hcz16_2
         try clear hcz16_3
         try clear hcz16_4
         try clear hcz16_5
         try clear hcz16_6
         try clear hcz16_7
         try clear hcz16_8
         try clear hcz16_9
         try clear hcz19_0
         try clear hcz19_1
         try clear hcz19_10
         try clear hcz19_11
         try clear hcz19_2
         try clear hcz19_3
         try clear hcz19_4
         try clear hcz19_5
         try clear hcz19_6
         try clear hcz19_7
         try clear hcz19_8
         try clear hcz19_9
         try clear hcz22_0
         try clear hcz22_1
         try clear hcz22_10
         try clear hcz22_11
         try clear hcz22_2
         try clear hcz22_3
         try clear hcz22_4
         try clear hcz22_5
         try clear hcz22_6
         try clear hcz22_7
         try clear hcz22_8
         try clear hcz22_9
         try clear hcz23_0
         try clear hcz23_1
         try clear hcz26_0
         try clear hcz26_1
         try clear hcz26_10
         try clear hcz26_11
         try clear hcz26_2
         try clear hcz26_3
         try clear hcz26_4
         try clear hcz26_5
         try clear hcz26_6
         try clear hcz26_7
         try clear hcz26_8
         try clear hcz26_9
         try clear hcz27_0
         try clear hcz27_1
         try clear hcz29_0
         try clear hcz29_1
         try clear hcz29_10
         try clear hcz29_11
         try clear hcz29_2
         try clear hcz29_3
         try clear hcz29_4
         try clear hcz29_5
         try clear hcz29_6
         try clear hcz29_7
         try clear hcz29_8
         try clear hcz29_9
         try clear hcz30_0
         try clear hcz30_1
         try clear hcz5_0
         try clear hcz5_1
         try clear hcz7_0
         try clear hcz7_1
         try clear hcz8_0
         try clear hcz8_1
         try clear hfz13_0
         try clear hfz13_1
         try clear hfz16_0
         try clear hfz16_1
         try clear hfz16_10
         try clear hfz16_11
         try clear hfz16_2
         try clear hfz16_3
         try clear hfz16_4
         try clear hfz16_5
         try clear hfz16_6
         try clear hfz16_7
         try clear hfz16_8
         try clear hfz16_9
         try clear hfz19_0
         try clear hfz19_1
         try clear hfz19_10
         try clear hfz19_11
         try clear hfz19_2
         try clear hfz19_3
         try clear hfz19_4
         try clear hfz19_5
         try clear hfz19_6
         try clear hfz19_7
         try clear hfz19_8
         try clear hfz19_9
         try clear hfz22_0
         try clear hfz22_1
         try clear hfz22_10
         try clear hfz22_11
         try clear hfz22_2
         try clear hfz22_3
         try clear hfz22_4
         try clear hfz22_5
         try clear hfz22_6
         try clear hfz22_7
         try clear hfz22_8
         try clear hfz22_9
         try clear hfz23_0
         try clear hfz23_1
         try clear hfz26_0
         try clear hfz26_1
         try clear hfz26_10
         try clear hfz26_11
         try clear hfz26_2
         try clear hfz26_3
         try clear hfz26_4
         try clear hfz26_5
         try clear hfz26_6
         try clear hfz26_7
         try clear hfz26_8
         try clear hfz26_9
         try clear hfz27_0
         try clear hfz27_1
         try clear hfz29_0
         try clear hfz29_1
         try clear hfz29_10
         try clear hfz29_11
         try clear hfz29_2
         try clear hfz29_3
         try clear hfz29_4
         try clear hfz29_5
         try clear hfz29_6
         try clear hfz29_7
         try clear hfz29_8
         try clear hfz29_9
         try clear hfz30_0
         try clear hfz30_1
         try clear hfz5_0
         try clear hfz5_1
         try clear hfz7_0
         try clear hfz7_1
         try clear hfz8_0
         try clear hfz8_1
         try clear hx146_0
         try clear hx146_1
         try clear hx146_10
         try clear hx146_11
         try clear hx146_2
         try clear hx146_3
         try clear hx146_4
         try clear hx146_5
         try clear hx146_6
         try clear hx146_7
         try clear hx146_8
         try clear hx146_9
         try clear p146
         try clear p2
         try clear q146
         obtain ⟨kq, x51_11, rfl, HA, HJ11, BK145, BK147, HB⟩ := hcut
         cases kq with
         | zero => exact absurd HA.out (by simp [wicketgateref25_Right.j2])
         | succ kj11 =>
          have H := HA.out
          clear HA
          simp only [wicketgateref25_Right.j2] at H
          by_cases c31 : x51_11 = true
          ·subst c31
           have H1 : (some false) = some r := by rw [if_pos rfl] at H; exact H
           clear H
           have H := H1
           clear H1
           obtain rfl := Option.some.inj H
           go_wp2
           repeat (go_quiet (fail); try go_wp2)
           go_ret
           exact ⟨by first | rfl | (simp [errW_none, errW_some] <;> rfl) | (simp [*, errW_none, errW_some] <;> rfl), by repeat (first | (with_reducible first | exact HB.out | apply below_alloc | apply pw_below_drewN | apply below_drew1 | refine below_set ?_ GE145.out | refine below_set ?_ GE147.out) | exact HB.out)⟩
          ·replace c31 := Bool.eq_false_iff.mpr c31
           subst c31
           have H1 : (wicketgateref25_Right.l1 kj11 x3_2 0 a0_0 l0_1 ((rd_T36 l0_1 x3_2).f0) ((rd_T36 l0_1 x3_2).f1) ((rd_T36 l0_1 x3_2).f2.f0) ((rd_T36 l0_1 x3_2).f2.f1) ((rd_T36 l0_1 x3_2).f2.f2) ((rd_T36 l0_1 x3_2).f2.f3.f0) ((rd_T36 l0_1 x3_2).f2.f3.f1) ((rd_T36 l0_1 x3_2).f2.f3.f2) ((rd_T36 l0_1 x3_2).f2.f3.f3) ((rd_T36 l0_1 x3_2).f2.f3.f4) ((rd_T36 l0_1 x3_2).f2.f3.f5) ((rd_T36 l0_1 x3_2).f3)) = some r := by rw [if_neg (show ¬ (false = true) by decide)] at H; exact H
           clear H
           have H := H1
           clear H1
           have H' := Aside0.mk H
           clear H
           go_wp2
           repeat (go_quiet (fail); try go_wp2)
           go_loopg [5] kj11 (fun kq v5 w' => ∃ (x5_4 : Int), v5 = .int .i64 x5_4 ∧ Aside0 (wicketgateref25_Right.l1 kq x3_2 x5_4 a0_0 l0_1 ((rd_T36 l0_1 x3_2).f0) ((rd_T36 l0_1 x3_2).f1) ((rd_T36 l0_1 x3_2).f2.f0) ((rd_T36 l0_1 x3_2).f2.f1) ((rd_T36 l0_1 x3_2).f2.f2) ((rd_T36 l0_1 x3_2).f2.f3.f0) ((rd_T36 l0_1 x3_2).f2.f3.f1) ((rd_T36 l0_1 x3_2).f2.f3.f2) ((rd_T36 l0_1 x3_2).f2.f3.f3) ((rd_T36 l0_1 x3_2).f2.f3.f4) ((rd_T36 l0_1 x3_2).f2.f3.f5) ((rd_T36 l0_1 x3_2).f3) = some r) ∧ Aside0 (kq ≤ kj11) ∧ Aside0 (w'.heap[gb145]? = some (.cells #[.int .u64 a0_0, (.slice (some ad146) l0_1.length c0_1)] 25 (0, 0))) ∧ Aside0 (w'.heap[gb147]? = some (.cells #[.int .u64 ((rd_T36 l0_1 x3_2).f0), .int .i64 ((rd_T36 l0_1 x3_2).f1), .int .u32 ((rd_T36 l0_1 x3_2).f2.f0), .int .u32 ((rd_T36 l0_1 x3_2).f2.f1), .int .u64 ((rd_T36 l0_1 x3_2).f2.f2), .int .u64 ((rd_T36 l0_1 x3_2).f2.f3.f0), .int .u64 ((rd_T36 l0_1 x3_2).f2.f3.f1), .int .u64 ((rd_T36 l0_1 x3_2).f2.f3.f2), .int .u64 ((rd_T36 l0_1 x3_2).f2.f3.f3), .int .u64 ((rd_T36 l0_1 x3_2).f2.f3.f4), .int .u64 ((rd_T36 l0_1 x3_2).f2.f3.f5), .bool ((rd_T36 l0_1 x3_2).f3)] 36 (0, 0))) ∧ Aside0 (Below w.heap.size w w'))
           case atStart => exact ⟨(0), (by first | rfl | (simp; done) | (simp [*]; done)), H', ⟨Nat.le_refl _⟩, ⟨by (with_reducible repeat (first | refine blk_drewN ?_ _ | refine blk_drew ?_ | refine blk_alloc ?_ _)); exact BK145.out⟩, ⟨by (with_reducible repeat (first | refine blk_drewN ?_ _ | refine blk_drew ?_ | refine blk_alloc ?_ _)); exact BK147.out⟩, ⟨by repeat (first | (with_reducible first | exact HB.out | apply below_alloc | apply pw_below_drewN | apply below_drew1 | refine below_set ?_ GE145.out | refine below_set ?_ GE147.out) | exact HB.out)⟩⟩
           case round =>
            clear H'
            try clear c1
            try clear p1
            try clear q1
            try clear hx1
            try clear c2
            try clear p2
            try clear c3
            try clear c4
            try clear c4b0
            try clear c6
            try clear c6b0
            try clear c9
            try clear c10
            try clear c10b0
            try clear c11
            try clear c11b0
            try clear p14
            try clear q14
            try clear hx14
            try clear c15
            try clear c17
            try clear c17b0
            try clear c18
            try clear c20
            try clear c20b0
            try clear c21
            try clear c23
            try clear c24
            try clear c24b0
            try clear c25
            try clear c28
            try clear c31
            try clear hcz13_0
            try clear hcz13_1
            try clear hcz16_0
            try clear hcz16_1
            try clear hcz16_10
            try clear hcz16_11
            try clear hcz16_2
            try clear hcz16_3
            try clear hcz16_4
            try clear hcz16_5
            try clear hcz16_6
            try clear hcz16_7
            try clear hcz16_8
            try clear hcz16_9
            try clear hcz19_0
            try clear hcz19_1
            try clear hcz19_10
            try clear hcz19_11
            try clear hcz19_2
            try clear hcz19_3
            try clear hcz19_4
            try clear hcz19_5
            try clear hcz19_6
            try clear hcz19_7
            try clear hcz19_8
            try clear hcz19_9
            try clear hcz22_0
            try clear hcz22_1
            try clear hcz22_10
            try clear hcz22_11
            try clear hcz22_2
            try clear hcz22_3
            try clear hcz22_4
            try clear hcz22_5
            try clear hcz22_6
            try clear hcz22_7
            try clear hcz22_8
            try clear hcz22_9
            try clear hcz23_0
            try clear hcz23_1
            try clear hcz26_0
            try clear hcz26_1
            try clear hcz26_10
            try clear hcz26_11
            try clear hcz26_2
            try clear hcz26_3
            try clear hcz26_4
            try clear hcz26_5
            try clear hcz26_6
            try clear hcz26_7
            try clear hcz26_8
            try clear hcz26_9
            try clear hcz27_0
            try clear hcz27_1
            try clear hcz29_0
            try clear hcz29_1
            try clear hcz29_10
            try clear hcz29_11
            try clear hcz29_2
            try clear hcz29_3
            try clear hcz29_4
            try clear hcz29_5
            try clear hcz29_6
            try clear hcz29_7
            try clear hcz29_8
            try clear hcz29_9
            try clear hcz30_0
            try clear hcz30_1
            try clear hcz5_0
            try clear hcz5_1
            try clear hcz7_0
            try clear hcz7_1
            try clear hcz8_0
            try clear hcz8_1
            try clear hfz13_0
            try clear hfz13_1
            try clear hfz16_0
            try clear hfz16_1
            try clear hfz16_10
            try clear hfz16_11
            try clear hfz16_2
            try clear hfz16_3
            try clear hfz16_4
            try clear hfz16_5
            try clear hfz16_6
            try clear hfz16_7
            try clear hfz16_8
            try clear hfz16_9
            try clear hfz19_0
            try clear hfz19_1
            try clear hfz19_10
            try clear hfz19_11
            try clear hfz19_2
            try clear hfz19_3
            try clear hfz19_4
            try clear hfz19_5
            try clear hfz19_6
            try clear hfz19_7
            try clear hfz19_8
            try clear hfz19_9
            try clear hfz22_0
            try clear hfz22_1
            try clear hfz22_10
            try clear hfz22_11
            try clear hfz22_2
            try clear hfz22_3
            try clear hfz22_4
            try clear hfz22_5
            try clear hfz22_6
            try clear hfz22_7
            try clear hfz22_8
            try clear hfz22_9
            try clear hfz23_0
            try clear hfz23_1
            try clear hfz26_0
            try clear hfz26_1
            try clear hfz26_10
            try clear hfz26_11
            try clear hfz26_2
            try clear hfz26_3
            try clear hfz26_4
            try clear hfz26_5
            try clear hfz26_6
            try clear hfz26_7
            try clear hfz26_8
            try clear hfz26_9
            try clear hfz27_0
            try clear hfz27_1
            try clear hfz29_0
            try clear hfz29_1
            try clear hfz29_10
            try clear hfz29_11
            try clear hfz29_2
            try clear hfz29_3
            try clear hfz29_4
            try clear hfz29_5
            try clear hfz29_6
            try clear hfz29_7
            try clear hfz29_8
            try clear hfz29_9
            try clear hfz30_0
            try clear hfz30_1
            try clear hfz5_0
            try clear hfz5_1
            try clear hfz7_0
            try clear hfz7_1
            try clear hfz8_0
            try clear hfz8_1
            try clear hx146_0
            try clear hx146_1
            try clear hx146_10
            try clear hx146_11
            try clear hx146_2
            try clear hx146_3
            try clear hx146_4
            try clear hx146_5
            try clear hx146_6
            try clear hx146_7
            try clear hx146_8
            try clear hx146_9
            try clear p1
            try clear p14
            try clear p146
            try clear p2
            try clear q1
            try clear q14
            try clear q146
            obtain ⟨x5_4, rfl, HA, HK4, BK145, BK147, HB⟩ := hrel
            cases gk with
            | zero => exact absurd HA.out (by simp [wicketgateref25_Right.l1])
            | succ k4 =>
             have H := HA.out
             clear HA
             simp only [wicketgateref25_Right.l1] at H
             by_cases c32 : x5_4 < x3_2
             ·rw [if_pos c32] at H
              have c32b0 : decide (x5_4 < x3_2) = true := decide_eq_true c32
              clear c32
              by_cases c33 : 0 ≤ x5_4
              ·rw [if_pos c33] at H
               have c33b0 : decide (0 ≤ x5_4) = true := decide_eq_true c33
               clear c33
               by_cases c34 : x5_4 < (l0_1.length : Int)
               ·rw [if_pos c34] at H
                have c34b0 : decide (x5_4 < (l0_1.length : Int)) = true := decide_eq_true c34
                clear c34
                by_cases c35 : ((rd_T36 l0_1 x5_4).f0) ≥ ((rd_T36 l0_1 x3_2).f0)
                ·rw [if_pos c35] at H
                 have c35b0 : decide (((rd_T36 l0_1 x3_2).f0) ≤ ((rd_T36 l0_1 x5_4).f0)) = true := decide_eq_true c35
                 clear c35
                 obtain rfl := Option.some.inj H
                 have hnb36 := NB145_147.out
                 have hnc36 := NB147_145.out
                 have hcz37_0 : wr.cell? ⟨gb145, 0, none⟩ = some (.int .u64 a0_0) := (blk_cell BK145.out 0).trans rfl
                 have hcz37_1 : wr.cell? ⟨gb145, 1, none⟩ = some (.slice (some ad146) l0_1.length c0_1) := (blk_cell BK145.out 1).trans rfl
                 have hfz37_0 := blk_frozen BK145.out 0
                 have hfz37_1 := blk_frozen BK145.out 1
                 have p148 : 0 ≤ (x5_4 : Int) := of_decide_eq_true (by first | (with_reducible assumption) | assumption)
                 have q148 : x5_4 < (l0_1.length : Int) := of_decide_eq_true (by first | (with_reducible assumption) | assumption)
                 obtain ⟨ad148, e148, hx148_0, hx148_1, hx148_2, hx148_3, hx148_4, hx148_5, hx148_6, hx148_7, hx148_8, hx148_9, hx148_10, hx148_11⟩ := at_T36 HR0_1.out x5_4 p148 q148
                 obtain rfl : ad146 = ad148 := (by injection e148)
                 replace hx148_0 := (HB.out.cell (World.block_lt_of_cell? w _ hx148_0)).trans hx148_0
                 replace hx148_1 := (HB.out.cell (World.block_lt_of_cell? w _ hx148_1)).trans hx148_1
                 replace hx148_2 := (HB.out.cell (World.block_lt_of_cell? w _ hx148_2)).trans hx148_2
                 replace hx148_3 := (HB.out.cell (World.block_lt_of_cell? w _ hx148_3)).trans hx148_3
                 replace hx148_4 := (HB.out.cell (World.block_lt_of_cell? w _ hx148_4)).trans hx148_4
                 replace hx148_5 := (HB.out.cell (World.block_lt_of_cell? w _ hx148_5)).trans hx148_5
                 replace hx148_6 := (HB.out.cell (World.block_lt_of_cell? w _ hx148_6)).trans hx148_6
                 replace hx148_7 := (HB.out.cell (World.block_lt_of_cell? w _ hx148_7)).trans hx148_7
                 replace hx148_8 := (HB.out.cell (World.block_lt_of_cell? w _ hx148_8)).trans hx148_8
                 replace hx148_9 := (HB.out.cell (World.block_lt_of_cell? w _ hx148_9)).trans hx148_9
                 replace hx148_10 := (HB.out.cell (World.block_lt_of_cell? w _ hx148_10)).trans hx148_10
                 replace hx148_11 := (HB.out.cell (World.block_lt_of_cell? w _ hx148_11)).trans hx148_11
                 replace p148 := eq_true p148
                 replace q148 := eq_true q148
                 have hcz38_0 : wr.cell? ⟨gb147, 0, none⟩ = some (.int .u64 ((rd_T36 l0_1 x3_2).f0)) := (blk_cell BK147.out 0).trans rfl
                 have hcz38_1 : wr.cell? ⟨gb147, 1, none⟩ = some (.int .i64 ((rd_T36 l0_1 x3_2).f1)) := (blk_cell BK147.out 1).trans rfl
                 have hcz38_2 : wr.cell? ⟨gb147, 2, none⟩ = some (.int .u32 ((rd_T36 l0_1 x3_2).f2.f0)) := (blk_cell BK147.out 2).trans rfl
                 have hcz38_3 : wr.cell? ⟨gb147, 3, none⟩ = some (.int .u32 ((rd_T36 l0_1 x3_2).f2.f1)) := (blk_cell BK147.out 3).trans rfl
                 have hcz38_4 : wr.cell? ⟨gb147, 4, none⟩ = some (.int .u64 ((rd_T36 l0_1 x3_2).f2.f2)) := (blk_cell BK147.out 4).trans rfl
                 have hcz38_5 : wr.cell? ⟨gb147, 5, none⟩ = some (.int .u64 ((rd_T36 l0_1 x3_2).f2.f3.f0)) := (blk_cell BK147.out 5).trans rfl
                 have hcz38_6 : wr.cell? ⟨gb147, 6, none⟩ = some (.int .u64 ((rd_T36 l0_1 x3_2).f2.f3.f1)) := (blk_cell BK147.out 6).trans rfl
                 have hcz38_7 : wr.cell? ⟨gb147, 7, none⟩ = some (.int .u64 ((rd_T36 l0_1 x3_2).f2.f3.f2)) := (blk_cell BK147.out 7).trans rfl
                 have hcz38_8 : wr.cell? ⟨gb147, 8, none⟩ = some (.int .u64 ((rd_T36 l0_1 x3_2).f2.f3.f3)) := (blk_cell BK147.out 8).trans rfl
                 have hcz38_9 : wr.cell? ⟨gb147, 9, none⟩ = some (.int .u64 ((rd_T36 l0_1 x3_2).f2.f3.f4)) := (blk_cell BK147.out 9).trans rfl
                 have hcz38_10 : wr.cell? ⟨gb147, 10, none⟩ = some (.int .u64 ((rd_T36 l0_1 x3_2).f2.f3.f5)) := (blk_cell BK147.out 10).trans rfl
                 have hcz38_11 : wr.cell? ⟨gb147, 11, none⟩ = some (.bool ((rd_T36 l0_1 x3_2).f3)) := (blk_cell BK147.out 11).trans rfl
                 have hfz38_0 := blk_frozen BK147.out 0
                 have hfz38_1 := blk_frozen BK147.out 1
                 have hfz38_2 := blk_frozen BK147.out 2
                 have hfz38_3 := blk_frozen BK147.out 3
                 have hfz38_4 := blk_frozen BK147.out 4
                 have hfz38_5 := blk_frozen BK147.out 5
                 have hfz38_6 := blk_frozen BK147.out 6
                 have hfz38_7 := blk_frozen BK147.out 7
                 have hfz38_8 := blk_frozen BK147.out 8
                 have hfz38_9 := blk_frozen BK147.out 9
                 have hfz38_10 := blk_frozen BK147.out 10
                 have hfz38_11 := blk_frozen BK147.out 11
                 go_wp2
                 repeat (go_quiet (fail); try go_wp2)
                 go_ret
                 exact ⟨by first | rfl | (simp [errW_none, errW_some] <;> rfl) | (simp [*, errW_none, errW_some] <;> rfl), by repeat (first | (with_reducible first | exact HB.out | apply below_alloc | apply pw_below_drewN | apply below_drew1 | refine below_set ?_ GE145.out | refine below_set ?_ GE147.out) | exact HB.out)⟩
                ·rw [if_neg c35] at H
                 have c35b0 : decide (((rd_T36 l0_1 x3_2).f0) ≤ ((rd_T36 l0_1 x5_4).f0)) = false := decide_eq_false c35
                 clear c35
                 by_cases c39 : ((rd_T36 l0_1 x5_4).f1) = ((rd_T36 l0_1 x3_2).f1)
                 ·rw [if_pos c39] at H
                  have c39b0 : (((rd_T36 l0_1 x5_4).f1) == ((rd_T36 l0_1 x3_2).f1)) = true := beq_iff_eq.mpr c39
                  have c39b1 : (((rd_T36 l0_1 x5_4).f1) != ((rd_T36 l0_1 x3_2).f1)) = false := bne_eq_false_iff_eq.mpr c39
                  clear c39
                  obtain rfl := Option.some.inj H
                  have hnb40 := NB145_147.out
                  have hnc40 := NB147_145.out
                  have hcz41_0 : wr.cell? ⟨gb145, 0, none⟩ = some (.int .u64 a0_0) := (blk_cell BK145.out 0).trans rfl
                  have hcz41_1 : wr.cell? ⟨gb145, 1, none⟩ = some (.slice (some ad146) l0_1.length c0_1) := (blk_cell BK145.out 1).trans rfl
                  have hfz41_0 := blk_frozen BK145.out 0
                  have hfz41_1 := blk_frozen BK145.out 1
                  have p148 : 0 ≤ (x5_4 : Int) := of_decide_eq_true (by first | (with_reducible assumption) | assumption)
                  have q148 : x5_4 < (l0_1.length : Int) := of_decide_eq_true (by first | (with_reducible assumption) | assumption)
                  obtain ⟨ad148, e148, hx148_0, hx148_1, hx148_2, hx148_3, hx148_4, hx148_5, hx148_6, hx148_7, hx148_8, hx148_9, hx148_10, hx148_11⟩ := at_T36 HR0_1.out x5_4 p148 q148
                  obtain rfl : ad146 = ad148 := (by injection e148)
                  replace hx148_0 := (HB.out.cell (World.block_lt_of_cell? w _ hx148_0)).trans hx148_0
                  replace hx148_1 := (HB.out.cell (World.block_lt_of_cell? w _ hx148_1)).trans hx148_1
                  replace hx148_2 := (HB.out.cell (World.block_lt_of_cell? w _ hx148_2)).trans hx148_2
                  replace hx148_3 := (HB.out.cell (World.block_lt_of_cell? w _ hx148_3)).trans hx148_3
                  replace hx148_4 := (HB.out.cell (World.block_lt_of_cell? w _ hx148_4)).trans hx148_4
                  replace hx148_5 := (HB.out.cell (World.block_lt_of_cell? w _ hx148_5)).trans hx148_5
                  replace hx148_6 := (HB.out.cell (World.block_lt_of_cell? w _ hx148_6)).trans hx148_6
                  replace hx148_7 := (HB.out.cell (World.block_lt_of_cell? w _ hx148_7)).trans hx148_7
                  replace hx148_8 := (HB.out.cell (World.block_lt_of_cell? w _ hx148_8)).trans hx148_8
                  replace hx148_9 := (HB.out.cell (World.block_lt_of_cell? w _ hx148_9)).trans hx148_9
                  replace hx148_10 := (HB.out.cell (World.block_lt_of_cell? w _ hx148_10)).trans hx148_10
                  replace hx148_11 := (HB.out.cell (World.block_lt_of_cell? w _ hx148_11)).trans hx148_11
                  replace p148 := eq_true p148
                  replace q148 := eq_true q148
                  have hcz42_0 : wr.cell? ⟨gb147, 0, none⟩ = some (.int .u64 ((rd_T36 l0_1 x3_2).f0)) := (blk_cell BK147.out 0).trans rfl
                  have hcz42_1 : wr.cell? ⟨gb147, 1, none⟩ = some (.int .i64 ((rd_T36 l0_1 x3_2).f1)) := (blk_cell BK147.out 1).trans rfl
                  have hcz42_2 : wr.cell? ⟨gb147, 2, none⟩ = some (.int .u32 ((rd_T36 l0_1 x3_2).f2.f0)) := (blk_cell BK147.out 2).trans rfl
                  have hcz42_3 : wr.cell? ⟨gb147, 3, none⟩ = some (.int .u32 ((rd_T36 l0_1 x3_2).f2.f1)) := (blk_cell BK147.out 3).trans rfl
                  have hcz42_4 : wr.cell? ⟨gb147, 4, none⟩ = some (.int .u64 ((rd_T36 l0_1 x3_2).f2.f2)) := (blk_cell BK147.out 4).trans rfl
                  have hcz42_5 : wr.cell? ⟨gb147, 5, none⟩ = some (.int .u64 ((rd_T36 l0_1 x3_2).f2.f3.f0)) := (blk_cell BK147.out 5).trans rfl
                  have hcz42_6 : wr.cell? ⟨gb147, 6, none⟩ = some (.int .u64 ((rd_T36 l0_1 x3_2).f2.f3.f1)) := (blk_cell BK147.out 6).trans rfl
                  have hcz42_7 : wr.cell? ⟨gb147, 7, none⟩ = some (.int .u64 ((rd_T36 l0_1 x3_2).f2.f3.f2)) := (blk_cell BK147.out 7).trans rfl
                  have hcz42_8 : wr.cell? ⟨gb147, 8, none⟩ = some (.int .u64 ((rd_T36 l0_1 x3_2).f2.f3.f3)) := (blk_cell BK147.out 8).trans rfl
                  have hcz42_9 : wr.cell? ⟨gb147, 9, none⟩ = some (.int .u64 ((rd_T36 l0_1 x3_2).f2.f3.f4)) := (blk_cell BK147.out 9).trans rfl
                  have hcz42_10 : wr.cell? ⟨gb147, 10, none⟩ = some (.int .u64 ((rd_T36 l0_1 x3_2).f2.f3.f5)) := (blk_cell BK147.out 10).trans rfl
                  have hcz42_11 : wr.cell? ⟨gb147, 11, none⟩ = some (.bool ((rd_T36 l0_1 x3_2).f3)) := (blk_cell BK147.out 11).trans rfl
                  have hfz42_0 := blk_frozen BK147.out 0
                  have hfz42_1 := blk_frozen BK147.out 1
                  have hfz42_2 := blk_frozen BK147.out 2
                  have hfz42_3 := blk_frozen BK147.out 3
                  have hfz42_4 := blk_frozen BK147.out 4
                  have hfz42_5 := blk_frozen BK147.out 5
                  have hfz42_6 := blk_frozen BK147.out 6
                  have hfz42_7 := blk_frozen BK147.out 7
                  have hfz42_8 := blk_frozen BK147.out 8
                  have hfz42_9 := blk_frozen BK147.out 9
                  have hfz42_10 := blk_frozen BK147.out 10
                  have hfz42_11 := blk_frozen BK147.out 11
                  have p149 : 0 ≤ (x5_4 : Int) := of_decide_eq_true (by first | (with_reducible assumption) | assumption)
                  have q149 : x5_4 < (l0_1.length : Int) := of_decide_eq_true (by first | (with_reducible assumption) | assumption)
                  obtain ⟨ad149, e149, hx149_0, hx149_1, hx149_2, hx149_3, hx149_4, hx149_5, hx149_6, hx149_7, hx149_8, hx149_9, hx149_10, hx149_11⟩ := at_T36 HR0_1.out x5_4 p149 q149
                  obtain rfl : ad146 = ad149 := (by injection e149)
                  replace hx149_0 := (HB.out.cell (World.block_lt_of_cell? w _ hx149_0)).trans hx149_0
                  replace hx149_1 := (HB.out.cell (World.block_lt_of_cell? w _ hx149_1)).trans hx149_1
                  replace hx149_2 := (HB.out.cell (World.block_lt_of_cell? w _ hx149_2)).trans hx149_2
                  replace hx149_3 := (HB.out.cell (World.block_lt_of_cell? w _ hx149_3)).trans hx149_3
                  replace hx149_4 := (HB.out.cell (World.block_lt_of_cell? w _ hx149_4)).trans hx149_4
                  replace hx149_5 := (HB.out.cell (World.block_lt_of_cell? w _ hx149_5)).trans hx149_5
                  replace hx149_6 := (HB.out.cell (World.block_lt_of_cell? w _ hx149_6)).trans hx149_6
                  replace hx149_7 := (HB.out.cell (World.block_lt_of_cell? w _ hx149_7)).trans hx149_7
                  replace hx149_8 := (HB.out.cell (World.block_lt_of_cell? w _ hx149_8)).trans hx149_8
                  replace hx149_9 := (HB.out.cell (World.block_lt_of_cell? w _ hx149_9)).trans hx149_9
                  replace hx149_10 := (HB.out.cell (World.block_lt_of_cell? w _ hx149_10)).trans hx149_10
                  replace hx149_11 := (HB.out.cell (World.block_lt_of_cell? w _ hx149_11)).trans hx149_11
                  replace p149 := eq_true p149
                  replace q149 := eq_true q149
                  go_wp2
                  repeat (go_quiet (fail); try go_wp2)
                  go_ret
                  exact ⟨by first | rfl | (simp [errW_none, errW_some] <;> rfl) | (simp [*, errW_none, errW_some] <;> rfl), by repeat (first | (with_reducible first | exact HB.out | apply below_alloc | apply pw_below_drewN | apply below_drew1 | refine below_set ?_ GE145.out | refine below_set ?_ GE147.out) | exact HB.out)⟩
                 ·rw [if_neg c39] at H
                  have c39b0 : (((rd_T36 l0_1 x5_4).f1) == ((rd_T36 l0_1 x3_2).f1)) = false := beq_eq_false_iff_ne.mpr c39
                  have c39b1 : (((rd_T36 l0_1 x5_4).f1) != ((rd_T36 l0_1 x3_2).f1)) = true := bne_iff_ne.mpr c39
                  have H' := Aside0.mk H
                  clear H
                  have hnb43 := NB145_147.out
                  have hnc43 := NB147_145.out
                  have hcz44_0 : wr.cell? ⟨gb145, 0, none⟩ = some (.int .u64 a0_0) := (blk_cell BK145.out 0).trans rfl
                  have hcz44_1 : wr.cell? ⟨gb145, 1, none⟩ = some (.slice (some ad146) l0_1.length c0_1) := (blk_cell BK145.out 1).trans rfl
                  have hfz44_0 := blk_frozen BK145.out 0
                  have hfz44_1 := blk_frozen BK145.out 1
                  have p148 : 0 ≤ (x5_4 : Int) := of_decide_eq_true (by first | (with_reducible assumption) | assumption)
                  have q148 : x5_4 < (l0_1.length : Int) := of_decide_eq_true (by first | (with_reducible assumption) | assumption)
                  obtain ⟨ad148, e148, hx148_0, hx148_1, hx148_2, hx148_3, hx148_4, hx148_5, hx148_6, hx148_7, hx148_8, hx148_9, hx148_10, hx148_11⟩ := at_T36 HR0_1.out x5_4 p148 q148
                  obtain rfl : ad146 = ad148 := (by injection e148)
                  replace hx148_0 := (HB.out.cell (World.block_lt_of_cell? w _ hx148_0)).trans hx148_0
                  replace hx148_1 := (HB.out.cell (World.block_lt_of_cell? w _ hx148_1)).trans hx148_1
                  replace hx148_2 := (HB.out.cell (World.block_lt_of_cell? w _ hx148_2)).trans hx148_2
                  replace hx148_3 := (HB.out.cell (World.block_lt_of_cell? w _ hx148_3)).trans hx148_3
                  replace hx148_4 := (HB.out.cell (World.block_lt_of_cell? w _ hx148_4)).trans hx148_4
                  replace hx148_5 := (HB.out.cell (World.block_lt_of_cell? w _ hx148_5)).trans hx148_5
                  replace hx148_6 := (HB.out.cell (World.block_lt_of_cell? w _ hx148_6)).trans hx148_6
                  replace hx148_7 := (HB.out.cell (World.block_lt_of_cell? w _ hx148_7)).trans hx148_7
                  replace hx148_8 := (HB.out.cell (World.block_lt_of_cell? w _ hx148_8)).trans hx148_8
                  replace hx148_9 := (HB.out.cell (World.block_lt_of_cell? w _ hx148_9)).trans hx148_9
                  replace hx148_10 := (HB.out.cell (World.block_lt_of_cell? w _ hx148_10)).trans hx148_10
                  replace hx148_11 := (HB.out.cell (World.block_lt_of_cell? w _ hx148_11)).trans hx148_11
                  replace p148 := eq_true p148
                  replace q148 := eq_true q148
                  have hcz45_0 : wr.cell? ⟨gb147, 0, none⟩ = some (.int .u64 ((rd_T36 l0_1 x3_2).f0)) := (blk_cell BK147.out 0).trans rfl
                  have hcz45_1 : wr.cell? ⟨gb147, 1, none⟩ = some (.int .i64 ((rd_T36 l0_1 x3_2).f1)) := (blk_cell BK147.out 1).trans rfl
                  have hcz45_2 : wr.cell? ⟨gb147, 2, none⟩ = some (.int .u32 ((rd_T36 l0_1 x3_2).f2.f0)) := (blk_cell BK147.out 2).trans rfl
                  have hcz45_3 : wr.cell? ⟨gb147, 3, none⟩ = some (.int .u32 ((rd_T36 l0_1 x3_2).f2.f1)) := (blk_cell BK147.out 3).trans rfl
                  have hcz45_4 : wr.cell? ⟨gb147, 4, none⟩ = some (.int .u64 ((rd_T36 l0_1 x3_2).f2.f2)) := (blk_cell BK147.out 4).trans rfl
                  have hcz45_5 : wr.cell? ⟨gb147, 5, none⟩ = some (.int .u64 ((rd_T36 l0_1 x3_2).f2.f3.f0)) := (blk_cell BK147.out 5).trans rfl
                  have hcz45_6 : wr.cell? ⟨gb147, 6, none⟩ = some (.int .u64 ((rd_T36 l0_1 x3_2).f2.f3.f1)) := (blk_cell BK147.out 6).trans rfl
                  have hcz45_7 : wr.cell? ⟨gb147, 7, none⟩ = some (.int .u64 ((rd_T36 l0_1 x3_2).f2.f3.f2)) := (blk_cell BK147.out 7).trans rfl
                  have hcz45_8 : wr.cell? ⟨gb147, 8, none⟩ = some (.int .u64 ((rd_T36 l0_1 x3_2).f2.f3.f3)) := (blk_cell BK147.out 8).trans rfl
                  have hcz45_9 : wr.cell? ⟨gb147, 9, none⟩ = some (.int .u64 ((rd_T36 l0_1 x3_2).f2.f3.f4)) := (blk_cell BK147.out 9).trans rfl
                  have hcz45_10 : wr.cell? ⟨gb147, 10, none⟩ = some (.int .u64 ((rd_T36 l0_1 x3_2).f2.f3.f5)) := (blk_cell BK147.out 10).trans rfl
                  have hcz45_11 : wr.cell? ⟨gb147, 11, none⟩ = some (.bool ((rd_T36 l0_1 x3_2).f3)) := (blk_cell BK147.out 11).trans rfl
                  have hfz45_0 := blk_frozen BK147.out 0
                  have hfz45_1 := blk_frozen BK147.out 1
                  have hfz45_2 := blk_frozen BK147.out 2
                  have hfz45_3 := blk_frozen BK147.out 3
                  have hfz45_4 := blk_frozen BK147.out 4
                  have hfz45_5 := blk_frozen BK147.out 5
                  have hfz45_6 := blk_frozen BK147.out 6
                  have hfz45_7 := blk_frozen BK147.out 7
                  have hfz45_8 := blk_frozen BK147.out 8
                  have hfz45_9 := blk_frozen BK147.out 9
                  have hfz45_10 := blk_frozen BK147.out 10
                  have hfz45_11 := blk_frozen BK147.out 11
                  have p149 : 0 ≤ (x5_4 : Int) := of_decide_eq_true (by first | (with_reducible assumption) | assumption)
                  have q149 : x5_4 < (l0_1.length : Int) := of_decide_eq_true (by first | (with_reducible assumption) | assumption)
                  obtain ⟨ad149, e149, hx149_0, hx149_1, hx149_2, hx149_3, hx149_4, hx149_5, hx149_6, hx149_7, hx149_8, hx149_9, hx149_10, hx149_11⟩ := at_T36 HR0_1.out x5_4 p149 q149
                  obtain rfl : ad146 = ad149 := (by injection e149)
                  replace hx149_0 := (HB.out.cell (World.block_lt_of_cell? w _ hx149_0)).trans hx149_0
                  replace hx149_1 := (HB.out.cell (World.block_lt_of_cell? w _ hx149_1)).trans hx149_1
                  replace hx149_2 := (HB.out.cell (World.block_lt_of_cell? w _ hx149_2)).trans hx149_2
                  replace hx149_3 := (HB.out.cell (World.block_lt_of_cell? w _ hx149_3)).trans hx149_3
                  replace hx149_4 := (HB.out.cell (World.block_lt_of_cell? w _ hx149_4)).trans hx149_4
                  replace hx149_5 := (HB.out.cell (World.block_lt_of_cell? w _ hx149_5)).trans hx149_5
                  replace hx149_6 := (HB.out.cell (World.block_lt_of_cell? w _ hx149_6)).trans hx149_6
                  replace hx149_7 := (HB.out.cell (World.block_lt_of_cell? w _ hx149_7)).trans hx149_7
                  replace hx149_8 := (HB.out.cell (World.block_lt_of_cell? w _ hx149_8)).trans hx149_8
                  replace hx149_9 := (HB.out.cell (World.block_lt_of_cell? w _ hx149_9)).trans hx149_9
                  replace hx149_10 := (HB.out.cell (World.block_lt_of_cell? w _ hx149_10)).trans hx149_10
                  replace hx149_11 := (HB.out.cell (World.block_lt_of_cell? w _ hx149_11)).trans hx149_11
                  replace p149 := eq_true p149
                  replace q149 := eq_true q149
                  go_wp2
                  repeat (go_quiet (fail); try go_wp2)
                  go_roundg k4
                  case measure => have := HJ1.out; have := HK2.out; have := HJ11.out; have := HK4.out; omega
                  case rel => exact ⟨(wrap64 (x5_4 + 1)), (by first | rfl | (simp; done) | (simp [*]; done)), H', ⟨by have := HJ1.out; have := HK2.out; have := HJ11.out; have := HK4.out; omega⟩, ⟨by (with_reducible repeat (first | refine blk_drewN ?_ _ | refine blk_drew ?_ | refine blk_alloc ?_ _)); exact BK145.out⟩, ⟨by (with_reducible repeat (first | refine blk_drewN ?_ _ | refine blk_drew ?_ | refine blk_alloc ?_ _)); exact BK147.out⟩, ⟨by repeat (first | (with_reducible first | exact HB.out | apply below_alloc | apply pw_below_drewN | apply below_drew1 | refine below_set ?_ GE145.out | refine below_set ?_ GE147.out) | exact HB.out)⟩⟩
               ·rw [if_neg c34] at H
                exact absurd H (by simp)
              ·rw [if_neg c33] at H
               exact absurd H (by simp)
             ·rw [if_neg c32] at H
              have c32b0 : decide (x5_4 < x3_2) = false := decide_eq_false c32
              clear c32
              have H' := Aside0.mk H
              clear H
              go_wp2
              repeat (go_quiet (fail); try go_wp2)
              go_roundg k4
              case measure => have := HJ1.out; have := HK2.out; have := HJ11.out; have := HK4.out; omega
              case rel => exact ⟨(wrap64 (x3_2 + 1)), (by first | rfl | (simp; done) | (simp [*]; done)), H', ⟨by have := HJ1.out; have := HK2.out; have := HJ11.out; have := HK4.out; omega⟩, ⟨by (with_reducible repeat (first | refine blk_drewN ?_ _ | refine blk_drew ?_ | refine blk_alloc ?_ _)); exact BK145.out⟩, ⟨by repeat (first | (with_reducible first | exact HB.out | apply below_alloc | apply pw_below_drewN | apply below_drew1 | refine below_set ?_ GE145.out | refine below_set ?_ GE147.out) | exact HB.out)⟩⟩
       ·rw [if_neg c11] at H
        exact absurd H (by simp)
      ·rw [if_neg c10] at H
       have c10b0 : decide (x3_2 < (l0_1.length : Int)) = false := decide_eq_false c10
       clear c10
       obtain rfl := Option.some.inj H
       have hcz46_0 : wr.cell? ⟨gb145, 0, none⟩ = some (.int .u64 a0_0) := (blk_cell BK145.out 0).trans rfl
       have hcz46_1 : wr.cell? ⟨gb145, 1, none⟩ = some (.slice A0_1 l0_1.length c0_1) := (blk_cell BK145.out 1).trans rfl
       have hfz46_0 := blk_frozen BK145.out 0
       have hfz46_1 := blk_frozen BK145.out 1
       go_wp2
       repeat (go_quiet (fail); try go_wp2)
       go_ret
       exact ⟨by first | rfl | (simp [errW_none, errW_some] <;> rfl) | (simp [*, errW_none, errW_some] <;> rfl), by repeat (first | (with_reducible first | exact HB.out | apply below_alloc | apply pw_below_drewN | apply below_drew1 | refine below_set ?_ GE145.out) | exact HB.out)⟩

end Go.Proofs.YtcbiehinhmkjmaaDoor.PB
