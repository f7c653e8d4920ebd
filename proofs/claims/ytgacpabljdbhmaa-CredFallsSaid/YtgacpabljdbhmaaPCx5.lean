-- printed by wip/tools/xprint.py (a program of this repo's over the kit's print)
import Derived.Test.YtgacpabljdbhmaaPCx0
import Derived.Test.YtgacpabljdbhmaaPCx2
namespace Go.Proofs.Ytgacpabljdbhmaa.PC
open Go.RowKit Go.Proofs.YtgacpabljdbhmaaW.PrintWords Go.Proofs.YtgacpabljdbhmaaW.PrintLast Go.Proofs.YtgacpabljdbhmaaW.PrintMore
attribute [local go_sem] max2_int min2_int max_two min_two max_three min_three max_four min_four   -- for this text's walks alone
set_option linter.unusedVariables false
set_option linter.unusedSimpArgs false

/-! ### wicketgateref11_Below: function 22 -/
mutual
def wicketgateref11_Below.j0 : Nat → Bool → Int → Bool → Bool → Int → Int → Bool → Bool → Int → Option (Bool)
  | 0, _, _, _, _, _, _, _, _, _ => none
  | k + 1, x12, x246000, x246001, x246002, x246003, x247000, x247001, x247002, x247003 => if x12 = true then (some false) else (if x247002 = true then (wicketgateref11_Below.j1 k (!x246002) x246000 x246001 x246002 x246003 x247000 x247001 x247002 x247003) else (wicketgateref11_Below.j1 k false x246000 x246001 x246002 x246003 x247000 x247001 x247002 x247003))
def wicketgateref11_Below.j1 : Nat → Bool → Int → Bool → Bool → Int → Int → Bool → Bool → Int → Option (Bool)
  | 0, _, _, _, _, _, _, _, _, _ => none
  | k + 1, x19, x246000, x246001, x246002, x246003, x247000, x247001, x247002, x247003 => if x19 = true then (some false) else (if x247003 > 0 then (wicketgateref11_Below.j2 k (x246003 != x247003) x246000 x246001 x246002 x246003 x247000 x247001 x247002 x247003) else (wicketgateref11_Below.j2 k false x246000 x246001 x246002 x246003 x247000 x247001 x247002 x247003))
def wicketgateref11_Below.j2 : Nat → Bool → Int → Bool → Bool → Int → Int → Bool → Bool → Int → Option (Bool)
  | 0, _, _, _, _, _, _, _, _, _ => none
  | k + 1, x29, x246000, x246001, x246002, x246003, x247000, x247001, x247002, x247003 => if x29 = true then (some false) else (if x247002 = true then (if x246000 = x247000 then (if x246001 = true then (some (!(!x247001))) else (some (!false))) else (if x247001 = true then (if x246001 = true then (some (!(!x247001))) else (some (!false))) else (some false))) else (some (!false)))
end
def wicketgateref11_Below.f (k : Nat) (a0_0 : Int) (a0_1 : Bool) (a0_2 : Bool) (a0_3 : Int) (a1_0 : Int) (a1_1 : Bool) (a1_2 : Bool) (a1_3 : Int) : Option (Bool) := (wicketgateref11_Right.f a0_0 a0_1 a0_2 a0_3).bind fun t247 => (if t247 = true then ((wicketgateref11_Right.f a1_0 a1_1 a1_2 a1_3).bind fun t248 => (wicketgateref11_Below.j0 k (!t248) a0_0 a0_1 a0_2 a0_3 a1_0 a1_1 a1_2 a1_3)) else (wicketgateref11_Below.j0 k true a0_0 a0_1 a0_2 a0_3 a1_0 a1_1 a1_2 a1_3))
theorem wicketgateref11_Below.mono_l : ∀ k, (∀ y0 y1 y2 y3 y4 y5 y6 y7 y8, LeO (wicketgateref11_Below.j0 k y0 y1 y2 y3 y4 y5 y6 y7 y8) (wicketgateref11_Below.j0 (k + 1) y0 y1 y2 y3 y4 y5 y6 y7 y8)) ∧ (∀ y0 y1 y2 y3 y4 y5 y6 y7 y8, LeO (wicketgateref11_Below.j1 k y0 y1 y2 y3 y4 y5 y6 y7 y8) (wicketgateref11_Below.j1 (k + 1) y0 y1 y2 y3 y4 y5 y6 y7 y8)) ∧ (∀ y0 y1 y2 y3 y4 y5 y6 y7 y8, LeO (wicketgateref11_Below.j2 k y0 y1 y2 y3 y4 y5 y6 y7 y8) (wicketgateref11_Below.j2 (k + 1) y0 y1 y2 y3 y4 y5 y6 y7 y8))
  | 0 => ⟨fun _ _ _ _ _ _ _ _ _ r h => by simp [wicketgateref11_Below.j0] at h, fun _ _ _ _ _ _ _ _ _ r h => by simp [wicketgateref11_Below.j1] at h, fun _ _ _ _ _ _ _ _ _ r h => by simp [wicketgateref11_Below.j2] at h⟩
  | k + 1 => by
    obtain ⟨ih0, ih1, ih2⟩ := wicketgateref11_Below.mono_l k
    refine ⟨?_, ?_, ?_⟩
    · intro y0 y1 y2 y3 y4 y5 y6 y7 y8
      unfold wicketgateref11_Below.j0
      repeat' first
      | (with_reducible exact ih0 _ _ _ _ _ _ _ _ _)
      | (with_reducible exact ih1 _ _ _ _ _ _ _ _ _)
      | (with_reducible exact ih2 _ _ _ _ _ _ _ _ _)
      | (with_reducible exact LeO.refl _)
      | (with_reducible exact LeO.none _)
      | (with_reducible refine LeO.ite ?_ ?_)
      | (with_reducible refine LeO.bind ?_ (fun _ => ?_))
      | exact ih0 _ _ _ _ _ _ _ _ _
      | exact ih1 _ _ _ _ _ _ _ _ _
      | exact ih2 _ _ _ _ _ _ _ _ _
      | exact LeO.none _
      | refine LeO.ite ?_ ?_
      | refine LeO.bind ?_ (fun _ => ?_)
    · intro y0 y1 y2 y3 y4 y5 y6 y7 y8
      unfold wicketgateref11_Below.j1
      repeat' first
      | (with_reducible exact ih0 _ _ _ _ _ _ _ _ _)
      | (with_reducible exact ih1 _ _ _ _ _ _ _ _ _)
      | (with_reducible exact ih2 _ _ _ _ _ _ _ _ _)
      | (with_reducible exact LeO.refl _)
      | (with_reducible exact LeO.none _)
      | (with_reducible refine LeO.ite ?_ ?_)
      | (with_reducible refine LeO.bind ?_ (fun _ => ?_))
      | exact ih0 _ _ _ _ _ _ _ _ _
      | exact ih1 _ _ _ _ _ _ _ _ _
      | exact ih2 _ _ _ _ _ _ _ _ _
      | exact LeO.none _
      | refine LeO.ite ?_ ?_
      | refine LeO.bind ?_ (fun _ => ?_)
    · intro y0 y1 y2 y3 y4 y5 y6 y7 y8
      unfold wicketgateref11_Below.j2
      repeat' first
      | (with_reducible exact ih0 _ _ _ _ _ _ _ _ _)
      | (with_reducible exact ih1 _ _ _ _ _ _ _ _ _)
      | (with_reducible exact ih2 _ _ _ _ _ _ _ _ _)
      | (with_reducible exact LeO.refl _)
      | (with_reducible exact LeO.none _)
      | (with_reducible refine LeO.ite ?_ ?_)
      | (with_reducible refine LeO.bind ?_ (fun _ => ?_))
      | exact ih0 _ _ _ _ _ _ _ _ _
      | exact ih1 _ _ _ _ _ _ _ _ _
      | exact ih2 _ _ _ _ _ _ _ _ _
      | exact LeO.none _
      | refine LeO.ite ?_ ?_
      | refine LeO.bind ?_ (fun _ => ?_)
theorem wicketgateref11_Below.mono : ∀ a0 a1 a2 a3 a4 a5 a6 a7 k, LeO (wicketgateref11_Below.f k a0 a1 a2 a3 a4 a5 a6 a7) (wicketgateref11_Below.f (k + 1) a0 a1 a2 a3 a4 a5 a6 a7) := by
  intro a0 a1 a2 a3 a4 a5 a6 a7 k
  obtain ⟨ih0, ih1, ih2⟩ := wicketgateref11_Below.mono_l k
  unfold wicketgateref11_Below.f
  repeat' first
      | (with_reducible exact ih0 _ _ _ _ _ _ _ _ _)
      | (with_reducible exact ih1 _ _ _ _ _ _ _ _ _)
      | (with_reducible exact ih2 _ _ _ _ _ _ _ _ _)
      | (with_reducible exact LeO.refl _)
      | (with_reducible exact LeO.none _)
      | (with_reducible refine LeO.ite ?_ ?_)
      | (with_reducible refine LeO.bind ?_ (fun _ => ?_))
      | exact ih0 _ _ _ _ _ _ _ _ _
      | exact ih1 _ _ _ _ _ _ _ _ _
      | exact ih2 _ _ _ _ _ _ _ _ _
      | exact LeO.none _
      | refine LeO.ite ?_ ?_
      | refine LeO.bind ?_ (fun _ => ?_)
set_option maxHeartbeats 8000000 in
set_option maxRecDepth 100000 in
theorem wicketgateref11_Below.calls (k : Nat) (a0_0 : Int) (a0_1 : Bool) (a0_2 : Bool) (a0_3 : Int) (a1_0 : Int) (a1_1 : Bool) (a1_2 : Bool) (a1_3 : Int) (r : Bool) (w : World) (h : wicketgateref11_Below.f k a0_0 a0_1 a0_2 a0_3 a1_0 a1_1 a1_2 a1_3 = some r) :
    Calls Try.prog 22 #[.agg #[.int .i64 a0_0, .bool a0_1, .bool a0_2, .int .i64 a0_3], .agg #[.int .i64 a1_0, .bool a1_1, .bool a1_2, .int .i64 a1_3]] w fun e w' => e = .returned (.bool r) ∧ Below w.heap.size w w' := by
  have hu23 := Try.underlying23
  have HB := Aside0.mk (Below.refl w.heap.size w)
  have H : ((wicketgateref11_Right.f a0_0 a0_1 a0_2 a0_3).bind fun t247 => (if t247 = true then ((wicketgateref11_Right.f a1_0 a1_1 a1_2 a1_3).bind fun t248 => (wicketgateref11_Below.j0 k (!t248) a0_0 a0_1 a0_2 a0_3 a1_0 a1_1 a1_2 a1_3)) else (wicketgateref11_Below.j0 k true a0_0 a0_1 a0_2 a0_3 a1_0 a1_1 a1_2 a1_3))) = some r := h
  clear h
  have HC3 := Aside0.mk H
  clear H
  go_enter Try.func22, Try.ntmps22
  go_upto_region 1 with (first | ((with_reducible refine gate_dst (N := 2) rfl ?_); refine box_event ?hg (N := 2) ?hd (cs := #[.int .i64 a0_0, .bool a0_1, .bool a0_2, .int .i64 a0_3]) (t := 23) ?hr ?_; (case hd => rfl); (case hg => rfl); (case hr => first | (go_simp; done) | (go_simp; rfl)); intro gb245 hg w4 hbox hb; have n0_ := Aside0.mk (below_step (by repeat (first | (with_reducible first | exact HB.out | apply below_alloc | apply pw_below_drewN | apply below_drew1) | exact HB.out)) hb); have n1_ := Aside0.mk (hbox); have n2_ := Aside0.mk ((by rw [hg]; exact (below_size (by repeat (first | (with_reducible first | exact HB.out | apply below_alloc | apply pw_below_drewN | apply below_drew1) | exact HB.out))) : w.heap.size ≤ gb245)); have n3_ := Aside0.mk ((by rw [hg]; exact (below_size (by repeat (first | (with_reducible first | exact HB.out | apply below_alloc | apply pw_below_drewN | apply below_drew1) | exact HB.out))) : w.heap.size ≤ gb245)); clear HB; have HB := n0_; have BK245 := n1_; have GW245 := n2_; have GE245 := n3_; clear n0_ n1_ n2_ n3_; clear hb hbox hg) | ((with_reducible refine gate_dst (N := 3) rfl ?_); refine box_event ?hg (N := 3) ?hd (cs := #[.int .i64 a1_0, .bool a1_1, .bool a1_2, .int .i64 a1_3]) (t := 23) ?hr ?_; (case hd => rfl); (case hg => rfl); (case hr => first | (go_simp; done) | (go_simp; rfl)); intro gb246 hg w5 hbox hb; have n0_ := Aside0.mk (blk_below (g := gb245) (o := .cells #[.int .i64 a0_0, .bool a0_1, .bool a0_2, .int .i64 a0_3] 23 (0, 0)) (by (with_reducible repeat (first | refine blk_drewN ?_ _ | refine blk_drew ?_ | refine blk_alloc ?_ _)); exact BK245.out) hb); have n1_ := Aside0.mk (below_step (by repeat (first | (with_reducible first | exact HB.out | apply below_alloc | apply pw_below_drewN | apply below_drew1 | refine below_set ?_ GE245.out) | exact HB.out)) hb); have n2_ := Aside0.mk (hbox); have n3_ := Aside0.mk ((by rw [hg]; exact (below_size (by repeat (first | (with_reducible first | exact HB.out | apply below_alloc | apply pw_below_drewN | apply below_drew1 | refine below_set ?_ GE245.out) | exact HB.out))) : w.heap.size ≤ gb246)); have n4_ := Aside0.mk ((by rw [hg]; exact (below_size (by repeat (first | (with_reducible first | exact HB.out | apply below_alloc | apply pw_below_drewN | apply below_drew1 | refine below_set ?_ GE245.out) | exact HB.out))) : w.heap.size ≤ gb246)); have n5_ := Aside0.mk ((by rw [hg]; exact Nat.ne_of_lt (blk_lt (g := gb245) (o := .cells #[.int .i64 a0_0, .bool a0_1, .bool a0_2, .int .i64 a0_3] 23 (0, 0)) (by (with_reducible repeat (first | refine blk_drewN ?_ _ | refine blk_drew ?_ | refine blk_alloc ?_ _)); exact BK245.out)) : gb245 ≠ gb246)); have n6_ := Aside0.mk ((by rw [hg]; exact Nat.ne_of_gt (blk_lt (g := gb245) (o := .cells #[.int .i64 a0_0, .bool a0_1, .bool a0_2, .int .i64 a0_3] 23 (0, 0)) (by (with_reducible repeat (first | refine blk_drewN ?_ _ | refine blk_drew ?_ | refine blk_alloc ?_ _)); exact BK245.out)) : gb246 ≠ gb245)); clear BK245; clear HB; have BK245 := n0_; have HB := n1_; have BK246 := n2_; have GW246 := n3_; have GE246 := n4_; have NB245_246 := n5_; have NB246_245 := n6_; clear n0_ n1_ n2_ n3_ n4_ n5_ n6_; clear hb hbox hg))
  (try simp only [Act.put, List.setIfInBounds_toArray, List.set_cons_zero, List.set_cons_succ])
  go_cut [12] (fun v12 wc => ∃ (kq : Nat) (x12_2 : Bool), v12 = .bool x12_2 ∧ Aside0 (wicketgateref11_Below.j0 kq x12_2 a0_0 a0_1 a0_2 a0_3 a1_0 a1_1 a1_2 a1_3 = some r) ∧ Aside0 (kq ≤ k) ∧ Aside0 (wc.heap[gb245]? = some (.cells #[.int .i64 a0_0, .bool a0_1, .bool a0_2, .int .i64 a0_3] 23 (0, 0))) ∧ Aside0 (wc.heap[gb246]? = some (.cells #[.int .i64 a1_0, .bool a1_1, .bool a1_2, .int .i64 a1_3] 23 (0, 0))) ∧ Aside0 (Below w.heap.size w wc))
  case first =>
    have H := HC3.out
    clear HC3
    replace H := Option.bind_eq_some_iff.mp H
    obtain ⟨t247, A60, H⟩ := H
    replace H : (if t247 = true then ((wicketgateref11_Right.f a1_0 a1_1 a1_2 a1_3).bind fun t248 => (wicketgateref11_Below.j0 k (!t248) a0_0 a0_1 a0_2 a0_3 a1_0 a1_1 a1_2 a1_3)) else (wicketgateref11_Below.j0 k true a0_0 a0_1 a0_2 a0_3 a1_0 a1_1 a1_2 a1_3)) = some r := H
    have A6 := Aside0.mk A60
    clear A60
    by_cases c7 : t247 = true
    · subst c7
      have H1 : ((wicketgateref11_Right.f a1_0 a1_1 a1_2 a1_3).bind fun t248 => (wicketgateref11_Below.j0 k (!t248) a0_0 a0_1 a0_2 a0_3 a1_0 a1_1 a1_2 a1_3)) = some r := by rw [if_pos rfl] at H; exact H
      clear H
      have H := H1
      clear H1
      replace H := Option.bind_eq_some_iff.mp H
      obtain ⟨t248, A80, H⟩ := H
      replace H : (wicketgateref11_Below.j0 k (!t248) a0_0 a0_1 a0_2 a0_3 a1_0 a1_1 a1_2 a1_3) = some r := H
      have A8 := Aside0.mk A80
      clear A80
      have H' := Aside0.mk H
      clear H
      have hnb9 := NB245_246.out
      have hnc9 := NB246_245.out
      have hcz10_0 : w5.cell? ⟨gb245, 0, none⟩ = some (.int .i64 a0_0) := (blk_cell BK245.out 0).trans rfl
      have hcz10_1 : w5.cell? ⟨gb245, 1, none⟩ = some (.bool a0_1) := (blk_cell BK245.out 1).trans rfl
      have hcz10_2 : w5.cell? ⟨gb245, 2, none⟩ = some (.bool a0_2) := (blk_cell BK245.out 2).trans rfl
      have hcz10_3 : w5.cell? ⟨gb245, 3, none⟩ = some (.int .i64 a0_3) := (blk_cell BK245.out 3).trans rfl
      have hfz10_0 := blk_frozen BK245.out 0
      have hfz10_1 := blk_frozen BK245.out 1
      have hfz10_2 := blk_frozen BK245.out 2
      have hfz10_3 := blk_frozen BK245.out 3
      go_wp2_with (first | ((with_reducible refine gate_callee (f := 20) rfl ?_); refine goesL_ (some 6) rfl rfl Try.func20 (by kernel_rfl) rfl #[.agg #[.int .i64 a0_0, .bool a0_1, .bool a0_2, .int .i64 a0_3]] rfl (by (try simp only [List.map_toArray, List.map_cons, List.map_nil]); first | done | rfl | (simp only [List.length_drop, List.length_take]; rfl)) ?_; (with_reducible refine (wicketgateref11_Right.calls a0_0 a0_1 a0_2 a0_3 true _ A6.out).mono ?_); rintro e w11 ⟨rfl, hb⟩; refine ⟨_, rfl, ?_⟩; have n0_ := Aside0.mk (blk_below (g := gb245) (o := .cells #[.int .i64 a0_0, .bool a0_1, .bool a0_2, .int .i64 a0_3] 23 (0, 0)) (by (with_reducible repeat (first | refine blk_drewN ?_ _ | refine blk_drew ?_ | refine blk_alloc ?_ _)); exact BK245.out) hb); have n1_ := Aside0.mk (blk_below (g := gb246) (o := .cells #[.int .i64 a1_0, .bool a1_1, .bool a1_2, .int .i64 a1_3] 23 (0, 0)) (by (with_reducible repeat (first | refine blk_drewN ?_ _ | refine blk_drew ?_ | refine blk_alloc ?_ _)); exact BK246.out) hb); have n2_ := Aside0.mk (below_step (by repeat (first | (with_reducible first | exact HB.out | apply below_alloc | apply pw_below_drewN | apply below_drew1 | refine below_set ?_ GE245.out | refine below_set ?_ GE246.out) | exact HB.out)) hb); clear BK245; clear BK246; clear HB; have BK245 := n0_; have BK246 := n1_; have HB := n2_; clear n0_ n1_ n2_; (try clear hb); (try clear hb2); (try clear hk); (try clear hi); have hcz12_0 : w11.cell? ⟨gb246, 0, none⟩ = some (.int .i64 a1_0) := (blk_cell BK246.out 0).trans rfl; have hcz12_1 : w11.cell? ⟨gb246, 1, none⟩ = some (.bool a1_1) := (blk_cell BK246.out 1).trans rfl; have hcz12_2 : w11.cell? ⟨gb246, 2, none⟩ = some (.bool a1_2) := (blk_cell BK246.out 2).trans rfl; have hcz12_3 : w11.cell? ⟨gb246, 3, none⟩ = some (.int .i64 a1_3) := (blk_cell BK246.out 3).trans rfl; have hfz12_0 := blk_frozen BK246.out 0; have hfz12_1 := blk_frozen BK246.out 1; have hfz12_2 := blk_frozen BK246.out 2; have hfz12_3 := blk_frozen BK246.out 3) | (go_at_call 20; (with_reducible refine (wicketgateref11_Right.calls a1_0 a1_1 a1_2 a1_3 t248 _ A8.out).mono ?_); rintro e w13 ⟨rfl, hb⟩; have n0_ := Aside0.mk (blk_below (g := gb245) (o := .cells #[.int .i64 a0_0, .bool a0_1, .bool a0_2, .int .i64 a0_3] 23 (0, 0)) (by (with_reducible repeat (first | refine blk_drewN ?_ _ | refine blk_drew ?_ | refine blk_alloc ?_ _)); exact BK245.out) hb); have n1_ := Aside0.mk (blk_below (g := gb246) (o := .cells #[.int .i64 a1_0, .bool a1_1, .bool a1_2, .int .i64 a1_3] 23 (0, 0)) (by (with_reducible repeat (first | refine blk_drewN ?_ _ | refine blk_drew ?_ | refine blk_alloc ?_ _)); exact BK246.out) hb); have n2_ := Aside0.mk (below_step (by repeat (first | (with_reducible first | exact HB.out | apply below_alloc | apply pw_below_drewN | apply below_drew1 | refine below_set ?_ GE245.out | refine below_set ?_ GE246.out) | exact HB.out)) hb); clear BK245; clear BK246; clear HB; have BK245 := n0_; have BK246 := n1_; have HB := n2_; clear n0_ n1_ n2_; (try clear hb); (try clear hb2); (try clear hk); (try clear hi)))
      go_meet
      case rel => exact ⟨_, (!t248), (by first | rfl | (simp; done) | (simp [*]; done)), H', ⟨by first | omega | exact Nat.le_refl _⟩, ⟨by (with_reducible repeat (first | refine blk_drewN ?_ _ | refine blk_drew ?_ | refine blk_alloc ?_ _)); exact BK245.out⟩, ⟨by (with_reducible repeat (first | refine blk_drewN ?_ _ | refine blk_drew ?_ | refine blk_alloc ?_ _)); exact BK246.out⟩, ⟨by repeat (first | (with_reducible first | exact HB.out | apply below_alloc | apply pw_below_drewN | apply below_drew1 | refine below_set ?_ GE245.out | refine below_set ?_ GE246.out) | exact HB.out)⟩⟩
    · replace c7 := Bool.eq_false_iff.mpr c7
      subst c7
      have H1 : (wicketgateref11_Below.j0 k true a0_0 a0_1 a0_2 a0_3 a1_0 a1_1 a1_2 a1_3) = some r := by rw [if_neg (show ¬ (false = true) by decide)] at H; exact H
      clear H
      have H := H1
      clear H1
      have H' := Aside0.mk H
      clear H
      have hnb14 := NB245_246.out
      have hnc14 := NB246_245.out
      have hcz15_0 : w5.cell? ⟨gb245, 0, none⟩ = some (.int .i64 a0_0) := (blk_cell BK245.out 0).trans rfl
      have hcz15_1 : w5.cell? ⟨gb245, 1, none⟩ = some (.bool a0_1) := (blk_cell BK245.out 1).trans rfl
      have hcz15_2 : w5.cell? ⟨gb245, 2, none⟩ = some (.bool a0_2) := (blk_cell BK245.out 2).trans rfl
      have hcz15_3 : w5.cell? ⟨gb245, 3, none⟩ = some (.int .i64 a0_3) := (blk_cell BK245.out 3).trans rfl
      have hfz15_0 := blk_frozen BK245.out 0
      have hfz15_1 := blk_frozen BK245.out 1
      have hfz15_2 := blk_frozen BK245.out 2
      have hfz15_3 := blk_frozen BK245.out 3
      go_wp2_with (first | ((with_reducible refine gate_callee (f := 20) rfl ?_); refine goesL_ (some 6) rfl rfl Try.func20 (by kernel_rfl) rfl #[.agg #[.int .i64 a0_0, .bool a0_1, .bool a0_2, .int .i64 a0_3]] rfl (by (try simp only [List.map_toArray, List.map_cons, List.map_nil]); first | done | rfl | (simp only [List.length_drop, List.length_take]; rfl)) ?_; (with_reducible refine (wicketgateref11_Right.calls a0_0 a0_1 a0_2 a0_3 false _ A6.out).mono ?_); rintro e w16 ⟨rfl, hb⟩; refine ⟨_, rfl, ?_⟩; have n0_ := Aside0.mk (blk_below (g := gb245) (o := .cells #[.int .i64 a0_0, .bool a0_1, .bool a0_2, .int .i64 a0_3] 23 (0, 0)) (by (with_reducible repeat (first | refine blk_drewN ?_ _ | refine blk_drew ?_ | refine blk_alloc ?_ _)); exact BK245.out) hb); have n1_ := Aside0.mk (blk_below (g := gb246) (o := .cells #[.int .i64 a1_0, .bool a1_1, .bool a1_2, .int .i64 a1_3] 23 (0, 0)) (by (with_reducible repeat (first | refine blk_drewN ?_ _ | refine blk_drew ?_ | refine blk_alloc ?_ _)); exact BK246.out) hb); have n2_ := Aside0.mk (below_step (by repeat (first | (with_reducible first | exact HB.out | apply below_alloc | apply pw_below_drewN | apply below_drew1 | refine below_set ?_ GE245.out | refine below_set ?_ GE246.out) | exact HB.out)) hb); clear BK245; clear BK246; clear HB; have BK245 := n0_; have BK246 := n1_; have HB := n2_; clear n0_ n1_ n2_; (try clear hb); (try clear hb2); (try clear hk); (try clear hi)))
      go_meet
      case rel => exact ⟨_, (true), (by first | rfl | (simp; done) | (simp [*]; done)), H', ⟨by first | omega | exact Nat.le_refl _⟩, ⟨by (with_reducible repeat (first | refine blk_drewN ?_ _ | refine blk_drew ?_ | refine blk_alloc ?_ _)); exact BK245.out⟩, ⟨by (with_reducible repeat (first | refine blk_drewN ?_ _ | refine blk_drew ?_ | refine blk_alloc ?_ _)); exact BK246.out⟩, ⟨by repeat (first | (with_reducible first | exact HB.out | apply below_alloc | apply pw_below_drewN | apply below_drew1 | refine below_set ?_ GE245.out | refine below_set ?_ GE246.out) | exact HB.out)⟩⟩
  case rest =>
    clear HC3
    try clear c1
    try clear c2
    try clear p2
    try clear c7
    try clear c9
    try clear c14
    try clear hcz10_0
    try clear hcz10_1
    try clear hcz10_2
    try clear hcz10_3
    try clear hcz12_0
    try clear hcz12_1
    try clear hcz12_2
    try clear hcz12_3
    try clear hcz15_0
    try clear hcz15_1
    try clear hcz15_2
    try clear hcz15_3
    try clear hfz10_0
    try clear hfz10_1
    try clear hfz10_2
    try clear hfz10_3
    try clear hfz12_0
    try clear hfz12_1
    try clear hfz12_2
    try clear hfz12_3
    try clear hfz15_0
    try clear hfz15_1
    try clear hfz15_2
    try clear hfz15_3
    obtain ⟨kq, x12_2, rfl, HA, HJ2, BK245, BK246, HB⟩ := hcut
    cases kq with
    | zero => exact absurd HA.out (by simp [wicketgateref11_Below.j0])
    | succ kj2 =>
      have H := HA.out
      clear HA
      simp only [wicketgateref11_Below.j0] at H
      by_cases c17 : x12_2 = true
      · subst c17
        have H1 : (some false) = some r := by rw [if_pos rfl] at H; exact H
        clear H
        have H := H1
        clear H1
        obtain rfl := Option.some.inj H
        go_wp2
        go_ret
        exact ⟨by first | rfl | (simp [errW_none, errW_some] <;> rfl) | (simp [*, errW_none, errW_some] <;> rfl), by repeat (first | (with_reducible first | exact HB.out | apply below_alloc | apply pw_below_drewN | apply below_drew1 | refine below_set ?_ GE245.out | refine below_set ?_ GE246.out) | exact HB.out)⟩
      · replace c17 := Bool.eq_false_iff.mpr c17
        subst c17
        have H1 : (if a1_2 = true then (wicketgateref11_Below.j1 kj2 (!a0_2) a0_0 a0_1 a0_2 a0_3 a1_0 a1_1 a1_2 a1_3) else (wicketgateref11_Below.j1 kj2 false a0_0 a0_1 a0_2 a0_3 a1_0 a1_1 a1_2 a1_3)) = some r := by rw [if_neg (show ¬ (false = true) by decide)] at H; exact H
        clear H
        have H := H1
        clear H1
        have HC18 := Aside0.mk H
        clear H
        go_upto_region 3 with (fail)
        go_cut [19] (fun v19 wc => ∃ (kq : Nat) (x19_17 : Bool), v19 = .bool x19_17 ∧ Aside0 (wicketgateref11_Below.j1 kq x19_17 a0_0 a0_1 a0_2 a0_3 a1_0 a1_1 a1_2 a1_3 = some r) ∧ Aside0 (kq ≤ kj2) ∧ Aside0 (wc.heap[gb245]? = some (.cells #[.int .i64 a0_0, .bool a0_1, .bool a0_2, .int .i64 a0_3] 23 (0, 0))) ∧ Aside0 (wc.heap[gb246]? = some (.cells #[.int .i64 a1_0, .bool a1_1, .bool a1_2, .int .i64 a1_3] 23 (0, 0))) ∧ Aside0 (Below w.heap.size w wc))
        case first =>
          have H := HC18.out
          clear HC18
          by_cases c19 : a1_2 = true
          · subst c19
            have H1 : (wicketgateref11_Below.j1 kj2 (!a0_2) a0_0 a0_1 a0_2 a0_3 a1_0 a1_1 true a1_3) = some r := by rw [if_pos rfl] at H; exact H
            clear H
            have H := H1
            clear H1
            have H' := Aside0.mk H
            clear H
            have hnb20 := NB246_245.out
            have hnc20 := NB245_246.out
            have hcz21_0 : wc.cell? ⟨gb246, 0, none⟩ = some (.int .i64 a1_0) := (blk_cell BK246.out 0).trans rfl
            have hcz21_1 : wc.cell? ⟨gb246, 1, none⟩ = some (.bool a1_1) := (blk_cell BK246.out 1).trans rfl
            have hcz21_2 : wc.cell? ⟨gb246, 2, none⟩ = some (.bool true) := (blk_cell BK246.out 2).trans rfl
            have hcz21_3 : wc.cell? ⟨gb246, 3, none⟩ = some (.int .i64 a1_3) := (blk_cell BK246.out 3).trans rfl
            have hfz21_0 := blk_frozen BK246.out 0
            have hfz21_1 := blk_frozen BK246.out 1
            have hfz21_2 := blk_frozen BK246.out 2
            have hfz21_3 := blk_frozen BK246.out 3
            have hcz22_0 : wc.cell? ⟨gb245, 0, none⟩ = some (.int .i64 a0_0) := (blk_cell BK245.out 0).trans rfl
            have hcz22_1 : wc.cell? ⟨gb245, 1, none⟩ = some (.bool a0_1) := (blk_cell BK245.out 1).trans rfl
            have hcz22_2 : wc.cell? ⟨gb245, 2, none⟩ = some (.bool a0_2) := (blk_cell BK245.out 2).trans rfl
            have hcz22_3 : wc.cell? ⟨gb245, 3, none⟩ = some (.int .i64 a0_3) := (blk_cell BK245.out 3).trans rfl
            have hfz22_0 := blk_frozen BK245.out 0
            have hfz22_1 := blk_frozen BK245.out 1
            have hfz22_2 := blk_frozen BK245.out 2
            have hfz22_3 := blk_frozen BK245.out 3
            go_wp2
            go_meet
            case rel => exact ⟨_, (!a0_2), (by first | rfl | (simp; done) | (simp [*]; done)), H', ⟨by have := HJ2.out; first | omega | exact Nat.le_refl _⟩, ⟨by (with_reducible repeat (first | refine blk_drewN ?_ _ | refine blk_drew ?_ | refine blk_alloc ?_ _)); exact BK245.out⟩, ⟨by (with_reducible repeat (first | refine blk_drewN ?_ _ | refine blk_drew ?_ | refine blk_alloc ?_ _)); exact BK246.out⟩, ⟨by repeat (first | (with_reducible first | exact HB.out | apply below_alloc | apply pw_below_drewN | apply below_drew1 | refine below_set ?_ GE245.out | refine below_set ?_ GE246.out) | exact HB.out)⟩⟩
          · replace c19 := Bool.eq_false_iff.mpr c19
            subst c19
            have H1 : (wicketgateref11_Below.j1 kj2 false a0_0 a0_1 a0_2 a0_3 a1_0 a1_1 false a1_3) = some r := by rw [if_neg (show ¬ (false = true) by decide)] at H; exact H
            clear H
            have H := H1
            clear H1
            have H' := Aside0.mk H
            clear H
            have hnb23 := NB246_245.out
            have hnc23 := NB245_246.out
            have hcz24_0 : wc.cell? ⟨gb246, 0, none⟩ = some (.int .i64 a1_0) := (blk_cell BK246.out 0).trans rfl
            have hcz24_1 : wc.cell? ⟨gb246, 1, none⟩ = some (.bool a1_1) := (blk_cell BK246.out 1).trans rfl
            have hcz24_2 : wc.cell? ⟨gb246, 2, none⟩ = some (.bool false) := (blk_cell BK246.out 2).trans rfl
            have hcz24_3 : wc.cell? ⟨gb246, 3, none⟩ = some (.int .i64 a1_3) := (blk_cell BK246.out 3).trans rfl
            have hfz24_0 := blk_frozen BK246.out 0
            have hfz24_1 := blk_frozen BK246.out 1
            have hfz24_2 := blk_frozen BK246.out 2
            have hfz24_3 := blk_frozen BK246.out 3
            go_wp2
            go_meet
            case rel => exact ⟨_, (false), (by first | rfl | (simp; done) | (simp [*]; done)), H', ⟨by have := HJ2.out; first | omega | exact Nat.le_refl _⟩, ⟨by (with_reducible repeat (first | refine blk_drewN ?_ _ | refine blk_drew ?_ | refine blk_alloc ?_ _)); exact BK245.out⟩, ⟨by (with_reducible repeat (first | refine blk_drewN ?_ _ | refine blk_drew ?_ | refine blk_alloc ?_ _)); exact BK246.out⟩, ⟨by repeat (first | (with_reducible first | exact HB.out | apply below_alloc | apply pw_below_drewN | apply below_drew1 | refine below_set ?_ GE245.out | refine below_set ?_ GE246.out) | exact HB.out)⟩⟩
        case rest =>
          clear HC18
          try clear c1
          try clear c2
          try clear p2
          try clear c7
          try clear c9
          try clear c14
          try clear c17
          try clear c19
          try clear c20
          try clear c22
          try clear c23
          try clear hcz10_0
          try clear hcz10_1
          try clear hcz10_2
          try clear hcz10_3
          try clear hcz12_0
          try clear hcz12_1
          try clear hcz12_2
          try clear hcz12_3
          try clear hcz15_0
          try clear hcz15_1
          try clear hcz15_2
          try clear hcz15_3
          try clear hcz21_0
          try clear hcz21_1
          try clear hcz21_2
          try clear hcz21_3
          try clear hcz22_0
          try clear hcz22_1
          try clear hcz22_2
          try clear hcz22_3
          try clear hcz24_0
          try clear hcz24_1
          try clear hcz24_2
          try clear hcz24_3
          try clear hfz10_0
          try clear hfz10_1
          try clear hfz10_2
          try clear hfz10_3
          try clear hfz12_0
          try clear hfz12_1
          try clear hfz12_2
          try clear hfz12_3
          try clear hfz15_0
          try clear hfz15_1
          try clear hfz15_2
          try clear hfz15_3
          try clear hfz21_0
          try clear hfz21_1
          try clear hfz21_2
          try clear hfz21_3
          try clear hfz22_0
          try clear hfz22_1
          try clear hfz22_2
          try clear hfz22_3
          try clear hfz24_0
          try clear hfz24_1
          try clear hfz24_2
          try clear hfz24_3
          try clear p2
          obtain ⟨kq, x19_17, rfl, HA, HJ17, BK245, BK246, HB⟩ := hcut
          cases kq with
          | zero => exact absurd HA.out (by simp [wicketgateref11_Below.j1])
          | succ kj17 =>
            have H := HA.out
            clear HA
            simp only [wicketgateref11_Below.j1] at H
            by_cases c25 : x19_17 = true
            · subst c25
              have H1 : (some false) = some r := by rw [if_pos rfl] at H; exact H
              clear H
              have H := H1
              clear H1
              obtain rfl := Option.some.inj H
              go_wp2
              go_ret
              exact ⟨by first | rfl | (simp [errW_none, errW_some] <;> rfl) | (simp [*, errW_none, errW_some] <;> rfl), by repeat (first | (with_reducible first | exact HB.out | apply below_alloc | apply pw_below_drewN | apply below_drew1 | refine below_set ?_ GE245.out | refine below_set ?_ GE246.out) | exact HB.out)⟩
            · replace c25 := Bool.eq_false_iff.mpr c25
              subst c25
              have H1 : (if a1_3 > 0 then (wicketgateref11_Below.j2 kj17 (a0_3 != a1_3) a0_0 a0_1 a0_2 a0_3 a1_0 a1_1 a1_2 a1_3) else (wicketgateref11_Below.j2 kj17 false a0_0 a0_1 a0_2 a0_3 a1_0 a1_1 a1_2 a1_3)) = some r := by rw [if_neg (show ¬ (false = true) by decide)] at H; exact H
              clear H
              have H := H1
              clear H1
              have HC26 := Aside0.mk H
              clear H
              go_upto_region 5 with (fail)
              go_cut [29] (fun v29 wc => ∃ (kq : Nat) (x29_25 : Bool), v29 = .bool x29_25 ∧ Aside0 (wicketgateref11_Below.j2 kq x29_25 a0_0 a0_1 a0_2 a0_3 a1_0 a1_1 a1_2 a1_3 = some r) ∧ Aside0 (kq ≤ kj17) ∧ Aside0 (wc.heap[gb245]? = some (.cells #[.int .i64 a0_0, .bool a0_1, .bool a0_2, .int .i64 a0_3] 23 (0, 0))) ∧ Aside0 (wc.heap[gb246]? = some (.cells #[.int .i64 a1_0, .bool a1_1, .bool a1_2, .int .i64 a1_3] 23 (0, 0))) ∧ Aside0 (Below w.heap.size w wc))
              case first =>
                have H := HC26.out
                clear HC26
                by_cases c27 : a1_3 > 0
                · rw [if_pos c27] at H
                  have c27b0 : decide (0 < a1_3) = true := decide_eq_true c27
                  clear c27
                  (first | rw [c27b0] | (simp only [i64_w, i32_w]; rw [c27b0]) | skip)
                  have H' := Aside0.mk H
                  clear H
                  have hnb28 := NB246_245.out
                  have hnc28 := NB245_246.out
                  have hcz29_0 : wc.cell? ⟨gb246, 0, none⟩ = some (.int .i64 a1_0) := (blk_cell BK246.out 0).trans rfl
                  have hcz29_1 : wc.cell? ⟨gb246, 1, none⟩ = some (.bool a1_1) := (blk_cell BK246.out 1).trans rfl
                  have hcz29_2 : wc.cell? ⟨gb246, 2, none⟩ = some (.bool a1_2) := (blk_cell BK246.out 2).trans rfl
                  have hcz29_3 : wc.cell? ⟨gb246, 3, none⟩ = some (.int .i64 a1_3) := (blk_cell BK246.out 3).trans rfl
                  have hfz29_0 := blk_frozen BK246.out 0
                  have hfz29_1 := blk_frozen BK246.out 1
                  have hfz29_2 := blk_frozen BK246.out 2
                  have hfz29_3 := blk_frozen BK246.out 3
                  have hcz30_0 : wc.cell? ⟨gb245, 0, none⟩ = some (.int .i64 a0_0) := (blk_cell BK245.out 0).trans rfl
                  have hcz30_1 : wc.cell? ⟨gb245, 1, none⟩ = some (.bool a0_1) := (blk_cell BK245.out 1).trans rfl
                  have hcz30_2 : wc.cell? ⟨gb245, 2, none⟩ = some (.bool a0_2) := (blk_cell BK245.out 2).trans rfl
                  have hcz30_3 : wc.cell? ⟨gb245, 3, none⟩ = some (.int .i64 a0_3) := (blk_cell BK245.out 3).trans rfl
                  have hfz30_0 := blk_frozen BK245.out 0
                  have hfz30_1 := blk_frozen BK245.out 1
                  have hfz30_2 := blk_frozen BK245.out 2
                  have hfz30_3 := blk_frozen BK245.out 3
                  go_wp2
                  go_meet
                  case rel => exact ⟨_, ((a0_3 != a1_3)), (by first | rfl | (simp; done) | (simp [*]; done)), H', ⟨by have := HJ2.out; have := HJ17.out; first | omega | exact Nat.le_refl _⟩, ⟨by (with_reducible repeat (first | refine blk_drewN ?_ _ | refine blk_drew ?_ | refine blk_alloc ?_ _)); exact BK245.out⟩, ⟨by (with_reducible repeat (first | refine blk_drewN ?_ _ | refine blk_drew ?_ | refine blk_alloc ?_ _)); exact BK246.out⟩, ⟨by repeat (first | (with_reducible first | exact HB.out | apply below_alloc | apply pw_below_drewN | apply below_drew1 | refine below_set ?_ GE245.out | refine below_set ?_ GE246.out) | exact HB.out)⟩⟩
                · rw [if_neg c27] at H
                  have c27b0 : decide (0 < a1_3) = false := decide_eq_false c27
                  clear c27
                  (first | rw [c27b0] | (simp only [i64_w, i32_w]; rw [c27b0]) | skip)
                  have H' := Aside0.mk H
                  clear H
                  have hnb31 := NB246_245.out
                  have hnc31 := NB245_246.out
                  have hcz32_0 : wc.cell? ⟨gb246, 0, none⟩ = some (.int .i64 a1_0) := (blk_cell BK246.out 0).trans rfl
                  have hcz32_1 : wc.cell? ⟨gb246, 1, none⟩ = some (.bool a1_1) := (blk_cell BK246.out 1).trans rfl
                  have hcz32_2 : wc.cell? ⟨gb246, 2, none⟩ = some (.bool a1_2) := (blk_cell BK246.out 2).trans rfl
                  have hcz32_3 : wc.cell? ⟨gb246, 3, none⟩ = some (.int .i64 a1_3) := (blk_cell BK246.out 3).trans rfl
                  have hfz32_0 := blk_frozen BK246.out 0
                  have hfz32_1 := blk_frozen BK246.out 1
                  have hfz32_2 := blk_frozen BK246.out 2
                  have hfz32_3 := blk_frozen BK246.out 3
                  go_wp2
                  go_meet
                  case rel => exact ⟨_, (false), (by first | rfl | (simp; done) | (simp [*]; done)), H', ⟨by have := HJ2.out; have := HJ17.out; first | omega | exact Nat.le_refl _⟩, ⟨by (with_reducible repeat (first | refine blk_drewN ?_ _ | refine blk_drew ?_ | refine blk_alloc ?_ _)); exact BK245.out⟩, ⟨by (with_reducible repeat (first | refine blk_drewN ?_ _ | refine blk_drew ?_ | refine blk_alloc ?_ _)); exact BK246.out⟩, ⟨by repeat (first | (with_reducible first | exact HB.out | apply below_alloc | apply pw_below_drewN | apply below_drew1 | refine below_set ?_ GE245.out | refine below_set ?_ GE246.out) | exact HB.out)⟩⟩
              case rest =>
                clear HC26
                try clear c1
                try clear c2
                try clear p2
                try clear c3
                try clear c7
                try clear c9
                try clear c14
                try clear c17
                try clear c19
                try clear c20
                try clear c22
                try clear c23
                try clear c25
                try clear c27
                try clear c27b0
                try clear c28
                try clear c31
                try clear hcz10_0
                try clear hcz10_1
                try clear hcz10_2
                try clear hcz10_3
                try clear hcz12_0
                try clear hcz12_1
                try clear hcz12_2
                try clear hcz12_3
                try clear hcz15_0
                try clear hcz15_1
                try clear hcz15_2
                try clear hcz15_3
                try clear hcz21_0
                try clear hcz21_1
                try clear hcz21_2
                try clear hcz21_3
                try clear hcz22_0
                try clear hcz22_1
                try clear hcz22_2
                try clear hcz22_3
                try clear hcz24_0
                try clear hcz24_1
                try clear hcz24_2
                try clear hcz24_3
                try clear hcz29_0
                try clear hcz29_1
                try clear hcz29_2
                try clear hcz29_3
                try clear hcz30_0
                try clear hcz30_1
                try clear hcz30_2
                try clear hcz30_3
                try clear hcz32_0
                try clear hcz32_1
                try clear hcz32_2
                try clear hcz32_3
                try clear hfz10_0
                try clear hfz10_1
                try clear hfz10_2
                try clear hfz10_3
                try clear hfz12_0
                try clear hfz12_1
                try clear hfz12_2
                try clear hfz12_3
                try clear hfz15_0
                try clear hfz15_1
                try clear hfz15_2
                try clear hfz15_3
                try clear hfz21_0
                try clear hfz21_1
                try clear hfz21_2
                try clear hfz21_3
                try clear hfz22_0
                try clear hfz22_1
                try clear hfz22_2
                try clear hfz22_3
                try clear hfz24_0
                try clear hfz24_1
                try clear hfz24_2
                try clear hfz24_3
                try clear hfz29_0
                try clear hfz29_1
                try clear hfz29_2
                try clear hfz29_3
                try clear hfz30_0
                try clear hfz30_1
                try clear hfz30_2
                try clear hfz30_3
                try clear hfz32_0
                try clear hfz32_1
                try clear hfz32_2
                try clear hfz32_3
                try clear p2
                obtain ⟨kq, x29_25, rfl, HA, HJ25, BK245, BK246, HB⟩ := hcut
                cases kq with
                | zero => exact absurd HA.out (by simp [wicketgateref11_Below.j2])
                | succ kj25 =>
                  have H := HA.out
                  clear HA
                  simp only [wicketgateref11_Below.j2] at H
                  by_cases c33 : x29_25 = true
                  · subst c33
                    have H1 : (some false) = some r := by rw [if_pos rfl] at H; exact H
                    clear H
                    have H := H1
                    clear H1
                    obtain rfl := Option.some.inj H
                    go_wp2
                    go_ret
                    exact ⟨by first | rfl | (simp [errW_none, errW_some] <;> rfl) | (simp [*, errW_none, errW_some] <;> rfl), by repeat (first | (with_reducible first | exact HB.out | apply below_alloc | apply pw_below_drewN | apply below_drew1 | refine below_set ?_ GE245.out | refine below_set ?_ GE246.out) | exact HB.out)⟩
                  · replace c33 := Bool.eq_false_iff.mpr c33
                    subst c33
                    have H1 : (if a1_2 = true then (if a0_0 = a1_0 then (if a0_1 = true then (some (!(!a1_1))) else (some (!false))) else (if a1_1 = true then (if a0_1 = true then (some (!(!a1_1))) else (some (!false))) else (some false))) else (some (!false))) = some r := by rw [if_neg (show ¬ (false = true) by decide)] at H; exact H
                    clear H
                    have H := H1
                    clear H1
                    by_cases c34 : a1_2 = true
                    · subst c34
                      have H1 : (if a0_0 = a1_0 then (if a0_1 = true then (some (!(!a1_1))) else (some (!false))) else (if a1_1 = true then (if a0_1 = true then (some (!(!a1_1))) else (some (!false))) else (some false))) = some r := by rw [if_pos rfl] at H; exact H
                      clear H
                      have H := H1
                      clear H1
                      by_cases c35 : a0_0 = a1_0
                      · rw [if_pos c35] at H
                        have c35b0 : (a0_0 == a1_0) = true := beq_iff_eq.mpr c35
                        have c35b1 : (a0_0 != a1_0) = false := bne_eq_false_iff_eq.mpr c35
                        clear c35
                        by_cases c36 : a0_1 = true
                        · subst c36
                          have H1 : (some (!(!a1_1))) = some r := by rw [if_pos rfl] at H; exact H
                          clear H
                          have H := H1
                          clear H1
                          obtain rfl := Option.some.inj H
                          have hnb37 := NB246_245.out
                          have hnc37 := NB245_246.out
                          have hcz38_0 : wc.cell? ⟨gb246, 0, none⟩ = some (.int .i64 a1_0) := (blk_cell BK246.out 0).trans rfl
                          have hcz38_1 : wc.cell? ⟨gb246, 1, none⟩ = some (.bool a1_1) := (blk_cell BK246.out 1).trans rfl
                          have hcz38_2 : wc.cell? ⟨gb246, 2, none⟩ = some (.bool true) := (blk_cell BK246.out 2).trans rfl
                          have hcz38_3 : wc.cell? ⟨gb246, 3, none⟩ = some (.int .i64 a1_3) := (blk_cell BK246.out 3).trans rfl
                          have hfz38_0 := blk_frozen BK246.out 0
                          have hfz38_1 := blk_frozen BK246.out 1
                          have hfz38_2 := blk_frozen BK246.out 2
                          have hfz38_3 := blk_frozen BK246.out 3
                          have hcz39_0 : wc.cell? ⟨gb245, 0, none⟩ = some (.int .i64 a0_0) := (blk_cell BK245.out 0).trans rfl
                          have hcz39_1 : wc.cell? ⟨gb245, 1, none⟩ = some (.bool true) := (blk_cell BK245.out 1).trans rfl
                          have hcz39_2 : wc.cell? ⟨gb245, 2, none⟩ = some (.bool a0_2) := (blk_cell BK245.out 2).trans rfl
                          have hcz39_3 : wc.cell? ⟨gb245, 3, none⟩ = some (.int .i64 a0_3) := (blk_cell BK245.out 3).trans rfl
                          have hfz39_0 := blk_frozen BK245.out 0
                          have hfz39_1 := blk_frozen BK245.out 1
                          have hfz39_2 := blk_frozen BK245.out 2
                          have hfz39_3 := blk_frozen BK245.out 3
                          go_wp2
                          go_ret
                          exact ⟨by first | rfl | (simp [errW_none, errW_some] <;> rfl) | (simp [*, errW_none, errW_some] <;> rfl), by repeat (first | (with_reducible first | exact HB.out | apply below_alloc | apply pw_below_drewN | apply below_drew1 | refine below_set ?_ GE245.out | refine below_set ?_ GE246.out) | exact HB.out)⟩
                        · replace c36 := Bool.eq_false_iff.mpr c36
                          subst c36
                          have H1 : (some (!false)) = some r := by rw [if_neg (show ¬ (false = true) by decide)] at H; exact H
                          clear H
                          have H := H1
                          clear H1
                          obtain rfl := Option.some.inj H
                          have hnb40 := NB246_245.out
                          have hnc40 := NB245_246.out
                          have hcz41_0 : wc.cell? ⟨gb246, 0, none⟩ = some (.int .i64 a1_0) := (blk_cell BK246.out 0).trans rfl
                          have hcz41_1 : wc.cell? ⟨gb246, 1, none⟩ = some (.bool a1_1) := (blk_cell BK246.out 1).trans rfl
                          have hcz41_2 : wc.cell? ⟨gb246, 2, none⟩ = some (.bool true) := (blk_cell BK246.out 2).trans rfl
                          have hcz41_3 : wc.cell? ⟨gb246, 3, none⟩ = some (.int .i64 a1_3) := (blk_cell BK246.out 3).trans rfl
                          have hfz41_0 := blk_frozen BK246.out 0
                          have hfz41_1 := blk_frozen BK246.out 1
                          have hfz41_2 := blk_frozen BK246.out 2
                          have hfz41_3 := blk_frozen BK246.out 3
                          have hcz42_0 : wc.cell? ⟨gb245, 0, none⟩ = some (.int .i64 a0_0) := (blk_cell BK245.out 0).trans rfl
                          have hcz42_1 : wc.cell? ⟨gb245, 1, none⟩ = some (.bool false) := (blk_cell BK245.out 1).trans rfl
                          have hcz42_2 : wc.cell? ⟨gb245, 2, none⟩ = some (.bool a0_2) := (blk_cell BK245.out 2).trans rfl
                          have hcz42_3 : wc.cell? ⟨gb245, 3, none⟩ = some (.int .i64 a0_3) := (blk_cell BK245.out 3).trans rfl
                          have hfz42_0 := blk_frozen BK245.out 0
                          have hfz42_1 := blk_frozen BK245.out 1
                          have hfz42_2 := blk_frozen BK245.out 2
                          have hfz42_3 := blk_frozen BK245.out 3
                          go_wp2
                          go_ret
                          exact ⟨by first | rfl | (simp [errW_none, errW_some] <;> rfl) | (simp [*, errW_none, errW_some] <;> rfl), by repeat (first | (with_reducible first | exact HB.out | apply below_alloc | apply pw_below_drewN | apply below_drew1 | refine below_set ?_ GE245.out | refine below_set ?_ GE246.out) | exact HB.out)⟩
                      · rw [if_neg c35] at H
                        have c35b0 : (a0_0 == a1_0) = false := beq_eq_false_iff_ne.mpr c35
                        have c35b1 : (a0_0 != a1_0) = true := bne_iff_ne.mpr c35
                        by_cases c43 : a1_1 = true
                        · subst c43
                          have H1 : (if a0_1 = true then (some (!(!true))) else (some (!false))) = some r := by rw [if_pos rfl] at H; exact H
                          clear H
                          have H := H1
                          clear H1
                          by_cases c44 : a0_1 = true
                          · subst c44
                            have H1 : (some (!(!true))) = some r := by rw [if_pos rfl] at H; exact H
                            clear H
                            have H := H1
                            clear H1
                            obtain rfl := Option.some.inj H
                            have hnb45 := NB246_245.out
                            have hnc45 := NB245_246.out
                            have hcz46_0 : wc.cell? ⟨gb246, 0, none⟩ = some (.int .i64 a1_0) := (blk_cell BK246.out 0).trans rfl
                            have hcz46_1 : wc.cell? ⟨gb246, 1, none⟩ = some (.bool true) := (blk_cell BK246.out 1).trans rfl
                            have hcz46_2 : wc.cell? ⟨gb246, 2, none⟩ = some (.bool true) := (blk_cell BK246.out 2).trans rfl
                            have hcz46_3 : wc.cell? ⟨gb246, 3, none⟩ = some (.int .i64 a1_3) := (blk_cell BK246.out 3).trans rfl
                            have hfz46_0 := blk_frozen BK246.out 0
                            have hfz46_1 := blk_frozen BK246.out 1
                            have hfz46_2 := blk_frozen BK246.out 2
                            have hfz46_3 := blk_frozen BK246.out 3
                            have hcz47_0 : wc.cell? ⟨gb245, 0, none⟩ = some (.int .i64 a0_0) := (blk_cell BK245.out 0).trans rfl
                            have hcz47_1 : wc.cell? ⟨gb245, 1, none⟩ = some (.bool true) := (blk_cell BK245.out 1).trans rfl
                            have hcz47_2 : wc.cell? ⟨gb245, 2, none⟩ = some (.bool a0_2) := (blk_cell BK245.out 2).trans rfl
                            have hcz47_3 : wc.cell? ⟨gb245, 3, none⟩ = some (.int .i64 a0_3) := (blk_cell BK245.out 3).trans rfl
                            have hfz47_0 := blk_frozen BK245.out 0
                            have hfz47_1 := blk_frozen BK245.out 1
                            have hfz47_2 := blk_frozen BK245.out 2
                            have hfz47_3 := blk_frozen BK245.out 3
                            go_wp2
                            go_ret
                            exact ⟨by first | rfl | (simp [errW_none, errW_some] <;> rfl) | (simp [*, errW_none, errW_some] <;> rfl), by repeat (first | (with_reducible first | exact HB.out | apply below_alloc | apply pw_below_drewN | apply below_drew1 | refine below_set ?_ GE245.out | refine below_set ?_ GE246.out) | exact HB.out)⟩
                          · replace c44 := Bool.eq_false_iff.mpr c44
                            subst c44
                            have H1 : (some (!false)) = some r := by rw [if_neg (show ¬ (false = true) by decide)] at H; exact H
                            clear H
                            have H := H1
                            clear H1
                            obtain rfl := Option.some.inj H
                            have hnb48 := NB246_245.out
                            have hnc48 := NB245_246.out
                            have hcz49_0 : wc.cell? ⟨gb246, 0, none⟩ = some (.int .i64 a1_0) := (blk_cell BK246.out 0).trans rfl
                            have hcz49_1 : wc.cell? ⟨gb246, 1, none⟩ = some (.bool true) := (blk_cell BK246.out 1).trans rfl
                            have hcz49_2 : wc.cell? ⟨gb246, 2, none⟩ = some (.bool true) := (blk_cell BK246.out 2).trans rfl
                            have hcz49_3 : wc.cell? ⟨gb246, 3, none⟩ = some (.int .i64 a1_3) := (blk_cell BK246.out 3).trans rfl
                            have hfz49_0 := blk_frozen BK246.out 0
                            have hfz49_1 := blk_frozen BK246.out 1
                            have hfz49_2 := blk_frozen BK246.out 2
                            have hfz49_3 := blk_frozen BK246.out 3
                            have hcz50_0 : wc.cell? ⟨gb245, 0, none⟩ = some (.int .i64 a0_0) := (blk_cell BK245.out 0).trans rfl
                            have hcz50_1 : wc.cell? ⟨gb245, 1, none⟩ = some (.bool false) := (blk_cell BK245.out 1).trans rfl
                            have hcz50_2 : wc.cell? ⟨gb245, 2, none⟩ = some (.bool a0_2) := (blk_cell BK245.out 2).trans rfl
                            have hcz50_3 : wc.cell? ⟨gb245, 3, none⟩ = some (.int .i64 a0_3) := (blk_cell BK245.out 3).trans rfl
                            have hfz50_0 := blk_frozen BK245.out 0
                            have hfz50_1 := blk_frozen BK245.out 1
                            have hfz50_2 := blk_frozen BK245.out 2
                            have hfz50_3 := blk_frozen BK245.out 3
                            go_wp2
                            go_ret
                            exact ⟨by first | rfl | (simp [errW_none, errW_some] <;> rfl) | (simp [*, errW_none, errW_some] <;> rfl), by repeat (first | (with_reducible first | exact HB.out | apply below_alloc | apply pw_below_drewN | apply below_drew1 | refine below_set ?_ GE245.out | refine below_set ?_ GE246.out) | exact HB.out)⟩
                        · replace c43 := Bool.eq_false_iff.mpr c43
                          subst c43
                          have H1 : (some false) = some r := by rw [if_neg (show ¬ (false = true) by decide)] at H; exact H
                          clear H
                          have H := H1
                          clear H1
                          obtain rfl := Option.some.inj H
                          have hnb51 := NB246_245.out
                          have hnc51 := NB245_246.out
                          have hcz52_0 : wc.cell? ⟨gb246, 0, none⟩ = some (.int .i64 a1_0) := (blk_cell BK246.out 0).trans rfl
                          have hcz52_1 : wc.cell? ⟨gb246, 1, none⟩ = some (.bool false) := (blk_cell BK246.out 1).trans rfl
                          have hcz52_2 : wc.cell? ⟨gb246, 2, none⟩ = some (.bool true) := (blk_cell BK246.out 2).trans rfl
                          have hcz52_3 : wc.cell? ⟨gb246, 3, none⟩ = some (.int .i64 a1_3) := (blk_cell BK246.out 3).trans rfl
                          have hfz52_0 := blk_frozen BK246.out 0
                          have hfz52_1 := blk_frozen BK246.out 1
                          have hfz52_2 := blk_frozen BK246.out 2
                          have hfz52_3 := blk_frozen BK246.out 3
                          have hcz53_0 : wc.cell? ⟨gb245, 0, none⟩ = some (.int .i64 a0_0) := (blk_cell BK245.out 0).trans rfl
                          have hcz53_1 : wc.cell? ⟨gb245, 1, none⟩ = some (.bool a0_1) := (blk_cell BK245.out 1).trans rfl
                          have hcz53_2 : wc.cell? ⟨gb245, 2, none⟩ = some (.bool a0_2) := (blk_cell BK245.out 2).trans rfl
                          have hcz53_3 : wc.cell? ⟨gb245, 3, none⟩ = some (.int .i64 a0_3) := (blk_cell BK245.out 3).trans rfl
                          have hfz53_0 := blk_frozen BK245.out 0
                          have hfz53_1 := blk_frozen BK245.out 1
                          have hfz53_2 := blk_frozen BK245.out 2
                          have hfz53_3 := blk_frozen BK245.out 3
                          go_wp2
                          go_ret
                          exact ⟨by first | rfl | (simp [errW_none, errW_some] <;> rfl) | (simp [*, errW_none, errW_some] <;> rfl), by repeat (first | (with_reducible first | exact HB.out | apply below_alloc | apply pw_below_drewN | apply below_drew1 | refine below_set ?_ GE245.out | refine below_set ?_ GE246.out) | exact HB.out)⟩
                    · replace c34 := Bool.eq_false_iff.mpr c34
                      subst c34
                      have H1 : (some (!false)) = some r := by rw [if_neg (show ¬ (false = true) by decide)] at H; exact H
                      clear H
                      have H := H1
                      clear H1
                      obtain rfl := Option.some.inj H
                      have hnb54 := NB246_245.out
                      have hnc54 := NB245_246.out
                      have hcz55_0 : wc.cell? ⟨gb246, 0, none⟩ = some (.int .i64 a1_0) := (blk_cell BK246.out 0).trans rfl
                      have hcz55_1 : wc.cell? ⟨gb246, 1, none⟩ = some (.bool a1_1) := (blk_cell BK246.out 1).trans rfl
                      have hcz55_2 : wc.cell? ⟨gb246, 2, none⟩ = some (.bool false) := (blk_cell BK246.out 2).trans rfl
                      have hcz55_3 : wc.cell? ⟨gb246, 3, none⟩ = some (.int .i64 a1_3) := (blk_cell BK246.out 3).trans rfl
                      have hfz55_0 := blk_frozen BK246.out 0
                      have hfz55_1 := blk_frozen BK246.out 1
                      have hfz55_2 := blk_frozen BK246.out 2
                      have hfz55_3 := blk_frozen BK246.out 3
                      go_wp2
                      go_ret
                      exact ⟨by first | rfl | (simp [errW_none, errW_some] <;> rfl) | (simp [*, errW_none, errW_some] <;> rfl), by repeat (first | (with_reducible first | exact HB.out | apply below_alloc | apply pw_below_drewN | apply below_drew1 | refine below_set ?_ GE245.out | refine below_set ?_ GE246.out) | exact HB.out)⟩

end Go.Proofs.Ytgacpabljdbhmaa.PC
