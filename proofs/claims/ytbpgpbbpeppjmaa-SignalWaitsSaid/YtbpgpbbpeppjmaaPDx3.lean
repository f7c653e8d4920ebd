-- printed by wip/tools/xprint.py (a program of this repo's over the kit's print)
import Derived.Test.YtbpgpbbpeppjmaaPDx0
import Derived.Test.YtbpgpbbpeppjmaaPDx1
namespace Go.Proofs.Ytbpgpbbpeppjmaa.PD
open Go.RowKit Go.Proofs.YtbpgpbbpeppjmaaW.PrintWords Go.Proofs.YtbpgpbbpeppjmaaW.PrintLast Go.Proofs.YtbpgpbbpeppjmaaW.PrintMore
attribute [local go_sem] max2_int min2_int max_two min_two max_three min_three max_four min_four   -- for this text's walks alone
set_option linter.unusedVariables false
set_option linter.unusedSimpArgs false

attribute [local go_sem high] eqA24
/-! ### signal_Check: function 8 -/
mutual
def signal_Check.j0 : Nat → Bool → Int → Bool → Bool → Bool → Int → Int → Int → Int → List Bool → Option (Int)
 | 0, _, _, _, _, _, _, _, _, _, _ => none
 | k + 1, x3, x102000, x102001, x102002, x102003, x102004, x102005, x102006, x102007, x102008 => if x3 = true then (if x102001 = true then (signal_Check.j1 k (x102000 == 2) x102000 x102001 x102002 x102003 x102004 x102005 x102006 x102007 x102008) else (signal_Check.j1 k true x102000 x102001 x102002 x102003 x102004 x102005 x102006 x102007 x102008)) else (signal_Check.j1 k false x102000 x102001 x102002 x102003 x102004 x102005 x102006 x102007 x102008)
def signal_Check.j1 : Nat → Bool → Int → Bool → Bool → Bool → Int → Int → Int → Int → List Bool → Option (Int)
 | 0, _, _, _, _, _, _, _, _, _, _ => none
 | k + 1, x3, x102000, x102001, x102002, x102003, x102004, x102005, x102006, x102007, x102008 => if x102003 = true then (if x3 = true then (if x102002 = true then (if x102000 = 1 then (some 360) else (some 0)) else (some 360)) else (some 360)) else (if x3 = true then (if ((x102004 == 0 && (x102005 == 0 && (x102006 == 0 && (x102007 == 0)))) = true) then (some 0) else (some 360)) else (some 360))
end
def signal_Check.f (k : Nat) (a0_0 : Int) (a0_1 : Bool) (a0_2 : Bool) (a0_3 : Bool) (a0_4 : Int) (a0_5 : Int) (a0_6 : Int) (a0_7 : Int) (l0_8 : List Bool) : Option (Int) := if a0_0 ≥ 0 then (if a0_0 ≤ 2 then (signal_Check.j0 k (decide ((l0_8.length : Int) ≤ 4)) a0_0 a0_1 a0_2 a0_3 a0_4 a0_5 a0_6 a0_7 l0_8) else (signal_Check.j0 k false a0_0 a0_1 a0_2 a0_3 a0_4 a0_5 a0_6 a0_7 l0_8)) else (signal_Check.j0 k false a0_0 a0_1 a0_2 a0_3 a0_4 a0_5 a0_6 a0_7 l0_8)
theorem signal_Check.mono_l : ∀ k, (∀ y0 y1 y2 y3 y4 y5 y6 y7 y8 y9, LeO (signal_Check.j0 k y0 y1 y2 y3 y4 y5 y6 y7 y8 y9) (signal_Check.j0 (k + 1) y0 y1 y2 y3 y4 y5 y6 y7 y8 y9)) ∧ (∀ y0 y1 y2 y3 y4 y5 y6 y7 y8 y9, LeO (signal_Check.j1 k y0 y1 y2 y3 y4 y5 y6 y7 y8 y9) (signal_Check.j1 (k + 1) y0 y1 y2 y3 y4 y5 y6 y7 y8 y9))
 | 0 => ⟨fun _ _ _ _ _ _ _ _ _ _ r h => by simp [signal_Check.j0] at h, fun _ _ _ _ _ _ _ _ _ _ r h => by simp [signal_Check.j1] at h⟩
 | k + 1 => by
  obtain ⟨ih0, ih1⟩ := signal_Check.mono_l k
  refine ⟨?_, ?_⟩
  ·intro y0 y1 y2 y3 y4 y5 y6 y7 y8 y9
   unfold signal_Check.j0
   repeat' first
   | (with_reducible exact ih0 _ _ _ _ _ _ _ _ _ _)
   | (with_reducible exact ih1 _ _ _ _ _ _ _ _ _ _)
   | (with_reducible exact LeO.refl _)
   | (with_reducible exact LeO.none _)
   | (with_reducible refine LeO.ite ?_ ?_)
   | (with_reducible refine LeO.bind ?_ (fun _ => ?_))
   | exact ih0 _ _ _ _ _ _ _ _ _ _
   | exact ih1 _ _ _ _ _ _ _ _ _ _
   | exact LeO.none _
   | refine LeO.ite ?_ ?_
   | refine LeO.bind ?_ (fun _ => ?_)
  ·intro y0 y1 y2 y3 y4 y5 y6 y7 y8 y9
   unfold signal_Check.j1
   repeat' first
   | (with_reducible exact ih0 _ _ _ _ _ _ _ _ _ _)
   | (with_reducible exact ih1 _ _ _ _ _ _ _ _ _ _)
   | (with_reducible exact LeO.refl _)
   | (with_reducible exact LeO.none _)
   | (with_reducible refine LeO.ite ?_ ?_)
   | (with_reducible refine LeO.bind ?_ (fun _ => ?_))
   | exact ih0 _ _ _ _ _ _ _ _ _ _
   | exact ih1 _ _ _ _ _ _ _ _ _ _
   | exact LeO.none _
   | refine LeO.ite ?_ ?_
   | refine LeO.bind ?_ (fun _ => ?_)
theorem signal_Check.mono : ∀ a0 a1 a2 a3 a4 a5 a6 a7 a8 k, LeO (signal_Check.f k a0 a1 a2 a3 a4 a5 a6 a7 a8) (signal_Check.f (k + 1) a0 a1 a2 a3 a4 a5 a6 a7 a8) := by
 intro a0 a1 a2 a3 a4 a5 a6 a7 a8 k
 obtain ⟨ih0, ih1⟩ := signal_Check.mono_l k
 unfold signal_Check.f
 repeat' first
   | (with_reducible exact ih0 _ _ _ _ _ _ _ _ _ _)
   | (with_reducible exact ih1 _ _ _ _ _ _ _ _ _ _)
   | (with_reducible exact LeO.refl _)
   | (with_reducible exact LeO.none _)
   | (with_reducible refine LeO.ite ?_ ?_)
   | (with_reducible refine LeO.bind ?_ (fun _ => ?_))
   | exact ih0 _ _ _ _ _ _ _ _ _ _
   | exact ih1 _ _ _ _ _ _ _ _ _ _
   | exact LeO.none _
   | refine LeO.ite ?_ ?_
   | refine LeO.bind ?_ (fun _ => ?_)
set_option maxHeartbeats 8000000 in
set_option maxRecDepth 100000 in
theorem signal_Check.calls (k : Nat) (a0_0 : Int) (a0_1 : Bool) (a0_2 : Bool) (a0_3 : Bool) (a0_4 : Int) (a0_5 : Int) (a0_6 : Int) (a0_7 : Int) (A0_8 : Option Addr) (c0_8 : Nat) (l0_8 : List Bool) (r : Int) (w : World) (hr0_8 : Kd.C Kd.bool w A0_8 l0_8.length l0_8) (hc0_8 : l0_8.length ≤ c0_8) (h : signal_Check.f k a0_0 a0_1 a0_2 a0_3 a0_4 a0_5 a0_6 a0_7 l0_8 = some r) :
  Calls Try.prog 8 #[.agg #[.int .i64 a0_0, .bool a0_1, .bool a0_2, .bool a0_3, .int .i64 a0_4, .int .i64 a0_5, .int .u32 a0_6, .int .u32 a0_7, .slice A0_8 l0_8.length c0_8]] w fun e w' => e = .returned (.int .i64 r) ∧ Below w.heap.size w w' := by
 have hu27 := Try.underlying27
 have hu24 := Try.underlying24
 have HR0_8 := Aside0.mk hr0_8
 have HC0_8 := Aside0.mk hc0_8
 clear hr0_8 hc0_8
 have HB := Aside0.mk (Below.refl w.heap.size w)
 have H : (if a0_0 ≥ 0 then (if a0_0 ≤ 2 then (signal_Check.j0 k (decide ((l0_8.length : Int) ≤ 4)) a0_0 a0_1 a0_2 a0_3 a0_4 a0_5 a0_6 a0_7 l0_8) else (signal_Check.j0 k false a0_0 a0_1 a0_2 a0_3 a0_4 a0_5 a0_6 a0_7 l0_8)) else (signal_Check.j0 k false a0_0 a0_1 a0_2 a0_3 a0_4 a0_5 a0_6 a0_7 l0_8)) = some r := h
 clear h
 have HC2 := Aside0.mk H
 clear H
 go_enter Try.func8, Try.ntmps8
 go_upto_region 1 with (first | ((with_reducible refine gate_dst (N := 1) rfl ?_); (try (refine gate_guard (by rfl) ?_; dsimp only)); refine box_event ?hg (N := 1) ?hd (cs := #[.int .i64 a0_0, .bool a0_1, .bool a0_2, .bool a0_3, .int .i64 a0_4, .int .i64 a0_5, .int .u32 a0_6, .int .u32 a0_7, .slice A0_8 l0_8.length c0_8]) (t := 27) ?hr ?_; (case hd => rfl); (case hg => rfl); (case hr => first | (go_simp; done) | (go_simp; rfl)); intro gb101 hg w3 hbox hb; have n0_ := Aside0.mk (below_step (by repeat (first | (with_reducible first | exact HB.out | apply below_alloc | apply pw_below_drewN | apply below_drew1) | exact HB.out)) hb); have n1_ := Aside0.mk (hbox); have n2_ := Aside0.mk ((by rw [hg]; exact (below_size (by repeat (first | (with_reducible first | exact HB.out | apply below_alloc | apply pw_below_drewN | apply below_drew1) | exact HB.out))) : w.heap.size ≤ gb101)); have n3_ := Aside0.mk ((by rw [hg]; exact (below_size (by repeat (first | (with_reducible first | exact HB.out | apply below_alloc | apply pw_below_drewN | apply below_drew1) | exact HB.out))) : w.heap.size ≤ gb101)); clear HB; have HB := n0_; have BK101 := n1_; have GW101 := n2_; have GE101 := n3_; clear n0_ n1_ n2_ n3_; clear hb hbox hg))
 (try simp only [Act.put, List.setIfInBounds_toArray, List.set_cons_zero, List.set_cons_succ])
 go_cut [3] (fun v3 wc => ∃ (kq : Nat) (x3_1 : Bool), v3 = .bool x3_1 ∧ Aside0 (signal_Check.j0 kq x3_1 a0_0 a0_1 a0_2 a0_3 a0_4 a0_5 a0_6 a0_7 l0_8 = some r) ∧ Aside0 (kq ≤ k) ∧ Aside0 (wc.heap[gb101]? = some (.cells #[.int .i64 a0_0, .bool a0_1, .bool a0_2, .bool a0_3, .int .i64 a0_4, .int .i64 a0_5, .int .u32 a0_6, .int .u32 a0_7, (.slice A0_8 l0_8.length c0_8)] 27 (0, 0))) ∧ Aside0 (Below w.heap.size w wc))
 case first =>
  have H := HC2.out
  clear HC2
  by_cases c4 : a0_0 ≥ 0
  ·rw [if_pos c4] at H
   have c4b0 : decide (0 ≤ a0_0) = true := decide_eq_true c4
   clear c4
   (first | rw [c4b0] | (simp only [i64_w, i32_w]; rw [c4b0]) | skip)
   by_cases c5 : a0_0 ≤ 2
   ·rw [if_pos c5] at H
    have c5b0 : decide (a0_0 ≤ 2) = true := decide_eq_true c5
    clear c5
    have H' := Aside0.mk H
    clear H
    have hcz6_0 : w3.cell? ⟨gb101, 0, none⟩ = some (.int .i64 a0_0) := (blk_cell BK101.out 0).trans rfl
    have hcz6_1 : w3.cell? ⟨gb101, 1, none⟩ = some (.bool a0_1) := (blk_cell BK101.out 1).trans rfl
    have hcz6_2 : w3.cell? ⟨gb101, 2, none⟩ = some (.bool a0_2) := (blk_cell BK101.out 2).trans rfl
    have hcz6_3 : w3.cell? ⟨gb101, 3, none⟩ = some (.bool a0_3) := (blk_cell BK101.out 3).trans rfl
    have hcz6_4 : w3.cell? ⟨gb101, 4, none⟩ = some (.int .i64 a0_4) := (blk_cell BK101.out 4).trans rfl
    have hcz6_5 : w3.cell? ⟨gb101, 5, none⟩ = some (.int .i64 a0_5) := (blk_cell BK101.out 5).trans rfl
    have hcz6_6 : w3.cell? ⟨gb101, 6, none⟩ = some (.int .u32 a0_6) := (blk_cell BK101.out 6).trans rfl
    have hcz6_7 : w3.cell? ⟨gb101, 7, none⟩ = some (.int .u32 a0_7) := (blk_cell BK101.out 7).trans rfl
    have hcz6_8 : w3.cell? ⟨gb101, 8, none⟩ = some (.slice A0_8 l0_8.length c0_8) := (blk_cell BK101.out 8).trans rfl
    have hfz6_0 := blk_frozen BK101.out 0
    have hfz6_1 := blk_frozen BK101.out 1
    have hfz6_2 := blk_frozen BK101.out 2
    have hfz6_3 := blk_frozen BK101.out 3
    have hfz6_4 := blk_frozen BK101.out 4
    have hfz6_5 := blk_frozen BK101.out 5
    have hfz6_6 := blk_frozen BK101.out 6
    have hfz6_7 := blk_frozen BK101.out 7
    have hfz6_8 := blk_frozen BK101.out 8
    go_wp2
    go_meet
    case rel => exact ⟨_, (decide ((l0_8.length : Int) ≤ 4)), (by first | rfl | (simp; done) | (simp [*]; done)), H', ⟨by first | omega | exact Nat.le_refl _⟩, ⟨by (with_reducible repeat (first | refine blk_drewN ?_ _ | refine blk_drew ?_ | refine blk_alloc ?_ _)); exact BK101.out⟩, ⟨by repeat (first | (with_reducible first | exact HB.out | apply below_alloc | apply pw_below_drewN | apply below_drew1 | refine below_set ?_ GE101.out) | exact HB.out)⟩⟩
   ·rw [if_neg c5] at H
    have c5b0 : decide (a0_0 ≤ 2) = false := decide_eq_false c5
    clear c5
    have H' := Aside0.mk H
    clear H
    have hcz7_0 : w3.cell? ⟨gb101, 0, none⟩ = some (.int .i64 a0_0) := (blk_cell BK101.out 0).trans rfl
    have hcz7_1 : w3.cell? ⟨gb101, 1, none⟩ = some (.bool a0_1) := (blk_cell BK101.out 1).trans rfl
    have hcz7_2 : w3.cell? ⟨gb101, 2, none⟩ = some (.bool a0_2) := (blk_cell BK101.out 2).trans rfl
    have hcz7_3 : w3.cell? ⟨gb101, 3, none⟩ = some (.bool a0_3) := (blk_cell BK101.out 3).trans rfl
    have hcz7_4 : w3.cell? ⟨gb101, 4, none⟩ = some (.int .i64 a0_4) := (blk_cell BK101.out 4).trans rfl
    have hcz7_5 : w3.cell? ⟨gb101, 5, none⟩ = some (.int .i64 a0_5) := (blk_cell BK101.out 5).trans rfl
    have hcz7_6 : w3.cell? ⟨gb101, 6, none⟩ = some (.int .u32 a0_6) := (blk_cell BK101.out 6).trans rfl
    have hcz7_7 : w3.cell? ⟨gb101, 7, none⟩ = some (.int .u32 a0_7) := (blk_cell BK101.out 7).trans rfl
    have hcz7_8 : w3.cell? ⟨gb101, 8, none⟩ = some (.slice A0_8 l0_8.length c0_8) := (blk_cell BK101.out 8).trans rfl
    have hfz7_0 := blk_frozen BK101.out 0
    have hfz7_1 := blk_frozen BK101.out 1
    have hfz7_2 := blk_frozen BK101.out 2
    have hfz7_3 := blk_frozen BK101.out 3
    have hfz7_4 := blk_frozen BK101.out 4
    have hfz7_5 := blk_frozen BK101.out 5
    have hfz7_6 := blk_frozen BK101.out 6
    have hfz7_7 := blk_frozen BK101.out 7
    have hfz7_8 := blk_frozen BK101.out 8
    go_wp2
    go_meet
    case rel => exact ⟨_, (false), (by first | rfl | (simp; done) | (simp [*]; done)), H', ⟨by first | omega | exact Nat.le_refl _⟩, ⟨by (with_reducible repeat (first | refine blk_drewN ?_ _ | refine blk_drew ?_ | refine blk_alloc ?_ _)); exact BK101.out⟩, ⟨by repeat (first | (with_reducible first | exact HB.out | apply below_alloc | apply pw_below_drewN | apply below_drew1 | refine below_set ?_ GE101.out) | exact HB.out)⟩⟩
  ·rw [if_neg c4] at H
   have c4b0 : decide (0 ≤ a0_0) = false := decide_eq_false c4
   clear c4
   (first | rw [c4b0] | (simp only [i64_w, i32_w]; rw [c4b0]) | skip)
   have H' := Aside0.mk H
   clear H
   have hcz8_0 : w3.cell? ⟨gb101, 0, none⟩ = some (.int .i64 a0_0) := (blk_cell BK101.out 0).trans rfl
   have hcz8_1 : w3.cell? ⟨gb101, 1, none⟩ = some (.bool a0_1) := (blk_cell BK101.out 1).trans rfl
   have hcz8_2 : w3.cell? ⟨gb101, 2, none⟩ = some (.bool a0_2) := (blk_cell BK101.out 2).trans rfl
   have hcz8_3 : w3.cell? ⟨gb101, 3, none⟩ = some (.bool a0_3) := (blk_cell BK101.out 3).trans rfl
   have hcz8_4 : w3.cell? ⟨gb101, 4, none⟩ = some (.int .i64 a0_4) := (blk_cell BK101.out 4).trans rfl
   have hcz8_5 : w3.cell? ⟨gb101, 5, none⟩ = some (.int .i64 a0_5) := (blk_cell BK101.out 5).trans rfl
   have hcz8_6 : w3.cell? ⟨gb101, 6, none⟩ = some (.int .u32 a0_6) := (blk_cell BK101.out 6).trans rfl
   have hcz8_7 : w3.cell? ⟨gb101, 7, none⟩ = some (.int .u32 a0_7) := (blk_cell BK101.out 7).trans rfl
   have hcz8_8 : w3.cell? ⟨gb101, 8, none⟩ = some (.slice A0_8 l0_8.length c0_8) := (blk_cell BK101.out 8).trans rfl
   have hfz8_0 := blk_frozen BK101.out 0
   have hfz8_1 := blk_frozen BK101.out 1
   have hfz8_2 := blk_frozen BK101.out 2
   have hfz8_3 := blk_frozen BK101.out 3
   have hfz8_4 := blk_frozen BK101.out 4
   have hfz8_5 := blk_frozen BK101.out 5
   have hfz8_6 := blk_frozen BK101.out 6
   have hfz8_7 := blk_frozen BK101.out 7
   have hfz8_8 := blk_frozen BK101.out 8
   go_wp2
   go_meet
   case rel => exact ⟨_, (false), (by first | rfl | (simp; done) | (simp [*]; done)), H', ⟨by first | omega | exact Nat.le_refl _⟩, ⟨by (with_reducible repeat (first | refine blk_drewN ?_ _ | refine blk_drew ?_ | refine blk_alloc ?_ _)); exact BK101.out⟩, ⟨by repeat (first | (with_reducible first | exact HB.out | apply below_alloc | apply pw_below_drewN | apply below_drew1 | refine below_set ?_ GE101.out) | exact HB.out)⟩⟩
 case rest =>
  clear HC2
  try clear p2
  try clear c4
  try clear c4b0
  try clear c5
  try clear c5b0
  try clear c8
  try clear hcz6_0
  try clear hcz6_1
  try clear hcz6_2
  try clear hcz6_3
  try clear hcz6_4
  try clear hcz6_5
  try clear hcz6_6
  try clear hcz6_7
  try clear hcz6_8
  try clear hcz7_0
  try clear hcz7_1
  try clear hcz7_2
  try clear hcz7_3
  try clear hcz7_4
  try clear hcz7_5
  try clear hcz7_6
  try clear hcz7_7
  try clear hcz7_8
  try clear hcz8_0
  try clear hcz8_1
  try clear hcz8_2
  try clear hcz8_3
  try clear hcz8_4
  try clear hcz8_5
  try clear hcz8_6
  try clear hcz8_7
  try clear hcz8_8
  try clear hfz6_0
  try clear hfz6_1
  try clear hfz6_2
  try clear hfz6_3
  try clear hfz6_4
  try clear hfz6_5
  try clear hfz6_6
  try clear hfz6_7
  try clear hfz6_8
  try clear hfz7_0
  try clear hfz7_1
  try clear hfz7_2
  try clear hfz7_3
  try clear hfz7_4
  try clear hfz7_5
  try clear hfz7_6
  try clear hfz7_7
  try clear hfz7_8
  try clear hfz8_0
  try clear hfz8_1
  try clear hfz8_2
  try clear hfz8_3
  try clear hfz8_4
  try clear hfz8_5
  try clear hfz8_6
  try clear hfz8_7
  try clear hfz8_8
  obtain ⟨kq, x3_1, rfl, HA, HJ1, BK101, HB⟩ := hcut
  cases kq with
  | zero => exact absurd HA.out (by simp [signal_Check.j0])
  | succ kj1 =>
   have H := HA.out
   clear HA
   simp only [signal_Check.j0] at H
   have HC9 := Aside0.mk H
   clear H
   go_upto_region 2 with (fail)
   go_cut [3] (fun v3 wc => ∃ (kq : Nat) (x3_8 : Bool), v3 = .bool x3_8 ∧ Aside0 (signal_Check.j1 kq x3_8 a0_0 a0_1 a0_2 a0_3 a0_4 a0_5 a0_6 a0_7 l0_8 = some r) ∧ Aside0 (kq ≤ kj1) ∧ Aside0 (wc.heap[gb101]? = some (.cells #[.int .i64 a0_0, .bool a0_1, .bool a0_2, .bool a0_3, .int .i64 a0_4, .int .i64 a0_5, .int .u32 a0_6, .int .u32 a0_7, (.slice A0_8 l0_8.length c0_8)] 27 (0, 0))) ∧ Aside0 (Below w.heap.size w wc))
   case first =>
    have H := HC9.out
    clear HC9
    by_cases c10 : x3_1 = true
    ·subst c10
     have H1 : (if a0_1 = true then (signal_Check.j1 kj1 (a0_0 == 2) a0_0 a0_1 a0_2 a0_3 a0_4 a0_5 a0_6 a0_7 l0_8) else (signal_Check.j1 kj1 true a0_0 a0_1 a0_2 a0_3 a0_4 a0_5 a0_6 a0_7 l0_8)) = some r := by rw [if_pos rfl] at H; exact H
     clear H
     have H := H1
     clear H1
     by_cases c11 : a0_1 = true
     ·subst c11
      have H1 : (signal_Check.j1 kj1 (a0_0 == 2) a0_0 true a0_2 a0_3 a0_4 a0_5 a0_6 a0_7 l0_8) = some r := by rw [if_pos rfl] at H; exact H
      clear H
      have H := H1
      clear H1
      have H' := Aside0.mk H
      clear H
      have hcz12_0 : wc.cell? ⟨gb101, 0, none⟩ = some (.int .i64 a0_0) := (blk_cell BK101.out 0).trans rfl
      have hcz12_1 : wc.cell? ⟨gb101, 1, none⟩ = some (.bool true) := (blk_cell BK101.out 1).trans rfl
      have hcz12_2 : wc.cell? ⟨gb101, 2, none⟩ = some (.bool a0_2) := (blk_cell BK101.out 2).trans rfl
      have hcz12_3 : wc.cell? ⟨gb101, 3, none⟩ = some (.bool a0_3) := (blk_cell BK101.out 3).trans rfl
      have hcz12_4 : wc.cell? ⟨gb101, 4, none⟩ = some (.int .i64 a0_4) := (blk_cell BK101.out 4).trans rfl
      have hcz12_5 : wc.cell? ⟨gb101, 5, none⟩ = some (.int .i64 a0_5) := (blk_cell BK101.out 5).trans rfl
      have hcz12_6 : wc.cell? ⟨gb101, 6, none⟩ = some (.int .u32 a0_6) := (blk_cell BK101.out 6).trans rfl
      have hcz12_7 : wc.cell? ⟨gb101, 7, none⟩ = some (.int .u32 a0_7) := (blk_cell BK101.out 7).trans rfl
      have hcz12_8 : wc.cell? ⟨gb101, 8, none⟩ = some (.slice A0_8 l0_8.length c0_8) := (blk_cell BK101.out 8).trans rfl
      have hfz12_0 := blk_frozen BK101.out 0
      have hfz12_1 := blk_frozen BK101.out 1
      have hfz12_2 := blk_frozen BK101.out 2
      have hfz12_3 := blk_frozen BK101.out 3
      have hfz12_4 := blk_frozen BK101.out 4
      have hfz12_5 := blk_frozen BK101.out 5
      have hfz12_6 := blk_frozen BK101.out 6
      have hfz12_7 := blk_frozen BK101.out 7
      have hfz12_8 := blk_frozen BK101.out 8
      go_wp2
      go_meet
      case rel => exact ⟨_, ((a0_0 == 2)), (by first | rfl | (simp; done) | (simp [*]; done)), H', ⟨by have := HJ1.out; first | omega | exact Nat.le_refl _⟩, ⟨by (with_reducible repeat (first | refine blk_drewN ?_ _ | refine blk_drew ?_ | refine blk_alloc ?_ _)); exact BK101.out⟩, ⟨by repeat (first | (with_reducible first | exact HB.out | apply below_alloc | apply pw_below_drewN | apply below_drew1 | refine below_set ?_ GE101.out) | exact HB.out)⟩⟩
     ·replace c11 := Bool.eq_false_iff.mpr c11
      subst c11
      have H1 : (signal_Check.j1 kj1 true a0_0 false a0_2 a0_3 a0_4 a0_5 a0_6 a0_7 l0_8) = some r := by rw [if_neg (show ¬ (false = true) by decide)] at H; exact H
      clear H
      have H := H1
      clear H1
      have H' := Aside0.mk H
      clear H
      have hcz13_0 : wc.cell? ⟨gb101, 0, none⟩ = some (.int .i64 a0_0) := (blk_cell BK101.out 0).trans rfl
      have hcz13_1 : wc.cell? ⟨gb101, 1, none⟩ = some (.bool false) := (blk_cell BK101.out 1).trans rfl
      have hcz13_2 : wc.cell? ⟨gb101, 2, none⟩ = some (.bool a0_2) := (blk_cell BK101.out 2).trans rfl
      have hcz13_3 : wc.cell? ⟨gb101, 3, none⟩ = some (.bool a0_3) := (blk_cell BK101.out 3).trans rfl
      have hcz13_4 : wc.cell? ⟨gb101, 4, none⟩ = some (.int .i64 a0_4) := (blk_cell BK101.out 4).trans rfl
      have hcz13_5 : wc.cell? ⟨gb101, 5, none⟩ = some (.int .i64 a0_5) := (blk_cell BK101.out 5).trans rfl
      have hcz13_6 : wc.cell? ⟨gb101, 6, none⟩ = some (.int .u32 a0_6) := (blk_cell BK101.out 6).trans rfl
      have hcz13_7 : wc.cell? ⟨gb101, 7, none⟩ = some (.int .u32 a0_7) := (blk_cell BK101.out 7).trans rfl
      have hcz13_8 : wc.cell? ⟨gb101, 8, none⟩ = some (.slice A0_8 l0_8.length c0_8) := (blk_cell BK101.out 8).trans rfl
      have hfz13_0 := blk_frozen BK101.out 0
      have hfz13_1 := blk_frozen BK101.out 1
      have hfz13_2 := blk_frozen BK101.out 2
      have hfz13_3 := blk_frozen BK101.out 3
      have hfz13_4 := blk_frozen BK101.out 4
      have hfz13_5 := blk_frozen BK101.out 5
      have hfz13_6 := blk_frozen BK101.out 6
      have hfz13_7 := blk_frozen BK101.out 7
      have hfz13_8 := blk_frozen BK101.out 8
      go_wp2
      go_meet
      case rel => exact ⟨_, (true), (by first | rfl | (simp; done) | (simp [*]; done)), H', ⟨by have := HJ1.out; first | omega | exact Nat.le_refl _⟩, ⟨by (with_reducible repeat (first | refine blk_drewN ?_ _ | refine blk_drew ?_ | refine blk_alloc ?_ _)); exact BK101.out⟩, ⟨by repeat (first | (with_reducible first | exact HB.out | apply below_alloc | apply pw_below_drewN | apply below_drew1 | refine below_set ?_ GE101.out) | exact HB.out)⟩⟩
    ·replace c10 := Bool.eq_false_iff.mpr c10
     subst c10
     have H1 : (signal_Check.j1 kj1 false a0_0 a0_1 a0_2 a0_3 a0_4 a0_5 a0_6 a0_7 l0_8) = some r := by rw [if_neg (show ¬ (false = true) by decide)] at H; exact H
     clear H
     have H := H1
     clear H1
     have H' := Aside0.mk H
     clear H
     go_wp2
     go_meet
     case rel => exact ⟨_, (false), (by first | rfl | (simp; done) | (simp [*]; done)), H', ⟨by have := HJ1.out; first | omega | exact Nat.le_refl _⟩, ⟨by (with_reducible repeat (first | refine blk_drewN ?_ _ | refine blk_drew ?_ | refine blk_alloc ?_ _)); exact BK101.out⟩, ⟨by repeat (first | (with_reducible first | exact HB.out | apply below_alloc | apply pw_below_drewN | apply below_drew1 | refine below_set ?_ GE101.out) | exact HB.out)⟩⟩
   case rest =>
    clear HC9
    try clear c1
    try clear p2
    try clear c4
    try clear c4b0
    try clear c5
    try clear c5b0
    try clear c8
    try clear c10
    try clear c11
    try clear hcz12_0
    try clear hcz12_1
    try clear hcz12_2
    try clear hcz12_3
    try clear hcz12_4
    try clear hcz12_5
    try clear hcz12_6
    try clear hcz12_7
    try clear hcz12_8
    try clear hcz13_0
    try clear hcz13_1
    try clear hcz13_2
    try clear hcz13_3
    try clear hcz13_4
    try clear hcz13_5
    try clear hcz13_6
    try clear hcz13_7
    try clear hcz13_8
    try clear hcz6_0
    try clear hcz6_1
    try clear hcz6_2
    try clear hcz6_3
    try clear hcz6_4
    try clear hcz6_5
    try clear hcz6_6
    try clear hcz6_7
    try clear hcz6_8
    try clear hcz7_0
    try clear hcz7_1
    try clear hcz7_2
    try clear hcz7_3
    try clear hcz7_4
    try clear hcz7_5
    try clear hcz7_6
    try clear hcz7_7
    try clear hcz7_8
    try clear hcz8_0
    try clear hcz8_1
    try clear hcz8_2
    try clear hcz8_3
    try clear hcz8_4
    try clear hcz8_5
    try clear hcz8_6
    try clear hcz8_7
    try clear hcz8_8
    try clear hfz12_0
    try clear hfz12_1
    try clear hfz12_2
    try clear hfz12_3
    try clear hfz12_4
    try clear hfz12_5
    try clear hfz12_6
    try clear hfz12_7
    try clear hfz12_8
    try clear hfz13_0
    try clear hfz13_1
    try clear hfz13_2
    try clear hfz13_3
    try clear hfz13_4
    try clear hfz13_5
    try clear hfz13_6
    try clear hfz13_7
    try clear hfz13_8
    try clear hfz6_0
    try clear hfz6_1
    try clear hfz6_2
    try clear hfz6_3
    try clear hfz6_4
    try clear hfz6_5
    try clear hfz6_6
    try clear hfz6_7
    try clear hfz6_8
    try clear hfz7_0
    try clear hfz7_1
    try clear hfz7_2
    try clear hfz7_3
    try clear hfz7_4
    try clear hfz7_5
    try clear hfz7_6
    try clear hfz7_7
    try clear hfz7_8
    try clear hfz8_0
    try clear hfz8_1
    try clear hfz8_2
    try clear hfz8_3
    try clear hfz8_4
    try clear hfz8_5
    try clear hfz8_6
    try clear hfz8_7
    try clear hfz8_8
    try clear p2
    obtain ⟨kq, x3_8, rfl, HA, HJ8, BK101, HB⟩ := hcut
    cases kq with
    | zero => exact absurd HA.out (by simp [signal_Check.j1])
    | succ kj8 =>
     have H := HA.out
     clear HA
     simp only [signal_Check.j1] at H
     by_cases c14 : a0_3 = true
     ·subst c14
      have H1 : (if x3_8 = true then (if a0_2 = true then (if a0_0 = 1 then (some 360) else (some 0)) else (some 360)) else (some 360)) = some r := by rw [if_pos rfl] at H; exact H
      clear H
      have H := H1
      clear H1
      by_cases c15 : x3_8 = true
      ·subst c15
       have H1 : (if a0_2 = true then (if a0_0 = 1 then (some 360) else (some 0)) else (some 360)) = some r := by rw [if_pos rfl] at H; exact H
       clear H
       have H := H1
       clear H1
       by_cases c16 : a0_2 = true
       ·subst c16
        have H1 : (if a0_0 = 1 then (some 360) else (some 0)) = some r := by rw [if_pos rfl] at H; exact H
        clear H
        have H := H1
        clear H1
        by_cases c17 : a0_0 = 1
        ·rw [if_pos c17] at H
         have c17b0 : (a0_0 == 1) = true := beq_iff_eq.mpr c17
         have c17b1 : (a0_0 != 1) = false := bne_eq_false_iff_eq.mpr c17
         clear c17
         obtain rfl := Option.some.inj H
         have hcz18_0 : wc.cell? ⟨gb101, 0, none⟩ = some (.int .i64 a0_0) := (blk_cell BK101.out 0).trans rfl
         have hcz18_1 : wc.cell? ⟨gb101, 1, none⟩ = some (.bool a0_1) := (blk_cell BK101.out 1).trans rfl
         have hcz18_2 : wc.cell? ⟨gb101, 2, none⟩ = some (.bool true) := (blk_cell BK101.out 2).trans rfl
         have hcz18_3 : wc.cell? ⟨gb101, 3, none⟩ = some (.bool true) := (blk_cell BK101.out 3).trans rfl
         have hcz18_4 : wc.cell? ⟨gb101, 4, none⟩ = some (.int .i64 a0_4) := (blk_cell BK101.out 4).trans rfl
         have hcz18_5 : wc.cell? ⟨gb101, 5, none⟩ = some (.int .i64 a0_5) := (blk_cell BK101.out 5).trans rfl
         have hcz18_6 : wc.cell? ⟨gb101, 6, none⟩ = some (.int .u32 a0_6) := (blk_cell BK101.out 6).trans rfl
         have hcz18_7 : wc.cell? ⟨gb101, 7, none⟩ = some (.int .u32 a0_7) := (blk_cell BK101.out 7).trans rfl
         have hcz18_8 : wc.cell? ⟨gb101, 8, none⟩ = some (.slice A0_8 l0_8.length c0_8) := (blk_cell BK101.out 8).trans rfl
         have hfz18_0 := blk_frozen BK101.out 0
         have hfz18_1 := blk_frozen BK101.out 1
         have hfz18_2 := blk_frozen BK101.out 2
         have hfz18_3 := blk_frozen BK101.out 3
         have hfz18_4 := blk_frozen BK101.out 4
         have hfz18_5 := blk_frozen BK101.out 5
         have hfz18_6 := blk_frozen BK101.out 6
         have hfz18_7 := blk_frozen BK101.out 7
         have hfz18_8 := blk_frozen BK101.out 8
         go_wp2
         go_ret
         exact ⟨by first | rfl | (simp [errW_none, errW_some] <;> rfl) | (simp [*, errW_none, errW_some] <;> rfl), by repeat (first | (with_reducible first | exact HB.out | apply below_alloc | apply pw_below_drewN | apply below_drew1 | refine below_set ?_ GE101.out) | exact HB.out)⟩
        ·rw [if_neg c17] at H
         have c17b0 : (a0_0 == 1) = false := beq_eq_false_iff_ne.mpr c17
         have c17b1 : (a0_0 != 1) = true := bne_iff_ne.mpr c17
         obtain rfl := Option.some.inj H
         have hcz19_0 : wc.cell? ⟨gb101, 0, none⟩ = some (.int .i64 a0_0) := (blk_cell BK101.out 0).trans rfl
         have hcz19_1 : wc.cell? ⟨gb101, 1, none⟩ = some (.bool a0_1) := (blk_cell BK101.out 1).trans rfl
         have hcz19_2 : wc.cell? ⟨gb101, 2, none⟩ = some (.bool true) := (blk_cell BK101.out 2).trans rfl
         have hcz19_3 : wc.cell? ⟨gb101, 3, none⟩ = some (.bool true) := (blk_cell BK101.out 3).trans rfl
         have hcz19_4 : wc.cell? ⟨gb101, 4, none⟩ = some (.int .i64 a0_4) := (blk_cell BK101.out 4).trans rfl
         have hcz19_5 : wc.cell? ⟨gb101, 5, none⟩ = some (.int .i64 a0_5) := (blk_cell BK101.out 5).trans rfl
         have hcz19_6 : wc.cell? ⟨gb101, 6, none⟩ = some (.int .u32 a0_6) := (blk_cell BK101.out 6).trans rfl
         have hcz19_7 : wc.cell? ⟨gb101, 7, none⟩ = some (.int .u32 a0_7) := (blk_cell BK101.out 7).trans rfl
         have hcz19_8 : wc.cell? ⟨gb101, 8, none⟩ = some (.slice A0_8 l0_8.length c0_8) := (blk_cell BK101.out 8).trans rfl
         have hfz19_0 := blk_frozen BK101.out 0
         have hfz19_1 := blk_frozen BK101.out 1
         have hfz19_2 := blk_frozen BK101.out 2
         have hfz19_3 := blk_frozen BK101.out 3
         have hfz19_4 := blk_frozen BK101.out 4
         have hfz19_5 := blk_frozen BK101.out 5
         have hfz19_6 := blk_frozen BK101.out 6
         have hfz19_7 := blk_frozen BK101.out 7
         have hfz19_8 := blk_frozen BK101.out 8
         go_wp2
         go_ret
         exact ⟨by first | rfl | (simp [errW_none, errW_some] <;> rfl) | (simp [*, errW_none, errW_some] <;> rfl), by repeat (first | (with_reducible first | exact HB.out | apply below_alloc | apply pw_below_drewN | apply below_drew1 | refine below_set ?_ GE101.out) | exact HB.out)⟩
       ·replace c16 := Bool.eq_false_iff.mpr c16
        subst c16
        have H1 : (some 360) = some r := by rw [if_neg (show ¬ (false = true) by decide)] at H; exact H
        clear H
        have H := H1
        clear H1
        obtain rfl := Option.some.inj H
        have hcz20_0 : wc.cell? ⟨gb101, 0, none⟩ = some (.int .i64 a0_0) := (blk_cell BK101.out 0).trans rfl
        have hcz20_1 : wc.cell? ⟨gb101, 1, none⟩ = some (.bool a0_1) := (blk_cell BK101.out 1).trans rfl
        have hcz20_2 : wc.cell? ⟨gb101, 2, none⟩ = some (.bool false) := (blk_cell BK101.out 2).trans rfl
        have hcz20_3 : wc.cell? ⟨gb101, 3, none⟩ = some (.bool true) := (blk_cell BK101.out 3).trans rfl
        have hcz20_4 : wc.cell? ⟨gb101, 4, none⟩ = some (.int .i64 a0_4) := (blk_cell BK101.out 4).trans rfl
        have hcz20_5 : wc.cell? ⟨gb101, 5, none⟩ = some (.int .i64 a0_5) := (blk_cell BK101.out 5).trans rfl
        have hcz20_6 : wc.cell? ⟨gb101, 6, none⟩ = some (.int .u32 a0_6) := (blk_cell BK101.out 6).trans rfl
        have hcz20_7 : wc.cell? ⟨gb101, 7, none⟩ = some (.int .u32 a0_7) := (blk_cell BK101.out 7).trans rfl
        have hcz20_8 : wc.cell? ⟨gb101, 8, none⟩ = some (.slice A0_8 l0_8.length c0_8) := (blk_cell BK101.out 8).trans rfl
        have hfz20_0 := blk_frozen BK101.out 0
        have hfz20_1 := blk_frozen BK101.out 1
        have hfz20_2 := blk_frozen BK101.out 2
        have hfz20_3 := blk_frozen BK101.out 3
        have hfz20_4 := blk_frozen BK101.out 4
        have hfz20_5 := blk_frozen BK101.out 5
        have hfz20_6 := blk_frozen BK101.out 6
        have hfz20_7 := blk_frozen BK101.out 7
        have hfz20_8 := blk_frozen BK101.out 8
        go_wp2
        go_ret
        exact ⟨by first | rfl | (simp [errW_none, errW_some] <;> rfl) | (simp [*, errW_none, errW_some] <;> rfl), by repeat (first | (with_reducible first | exact HB.out | apply below_alloc | apply pw_below_drewN | apply below_drew1 | refine below_set ?_ GE101.out) | exact HB.out)⟩
      ·replace c15 := Bool.eq_false_iff.mpr c15
       subst c15
       have H1 : (some 360) = some r := by rw [if_neg (show ¬ (false = true) by decide)] at H; exact H
       clear H
       have H := H1
       clear H1
       obtain rfl := Option.some.inj H
       have hcz21_0 : wc.cell? ⟨gb101, 0, none⟩ = some (.int .i64 a0_0) := (blk_cell BK101.out 0).trans rfl
       have hcz21_1 : wc.cell? ⟨gb101, 1, none⟩ = some (.bool a0_1) := (blk_cell BK101.out 1).trans rfl
       have hcz21_2 : wc.cell? ⟨gb101, 2, none⟩ = some (.bool a0_2) := (blk_cell BK101.out 2).trans rfl
       have hcz21_3 : wc.cell? ⟨gb101, 3, none⟩ = some (.bool true) := (blk_cell BK101.out 3).trans rfl
       have hcz21_4 : wc.cell? ⟨gb101, 4, none⟩ = some (.int .i64 a0_4) := (blk_cell BK101.out 4).trans rfl
       have hcz21_5 : wc.cell? ⟨gb101, 5, none⟩ = some (.int .i64 a0_5) := (blk_cell BK101.out 5).trans rfl
       have hcz21_6 : wc.cell? ⟨gb101, 6, none⟩ = some (.int .u32 a0_6) := (blk_cell BK101.out 6).trans rfl
       have hcz21_7 : wc.cell? ⟨gb101, 7, none⟩ = some (.int .u32 a0_7) := (blk_cell BK101.out 7).trans rfl
       have hcz21_8 : wc.cell? ⟨gb101, 8, none⟩ = some (.slice A0_8 l0_8.length c0_8) := (blk_cell BK101.out 8).trans rfl
       have hfz21_0 := blk_frozen BK101.out 0
       have hfz21_1 := blk_frozen BK101.out 1
       have hfz21_2 := blk_frozen BK101.out 2
       have hfz21_3 := blk_frozen BK101.out 3
       have hfz21_4 := blk_frozen BK101.out 4
       have hfz21_5 := blk_frozen BK101.out 5
       have hfz21_6 := blk_frozen BK101.out 6
       have hfz21_7 := blk_frozen BK101.out 7
       have hfz21_8 := blk_frozen BK101.out 8
       go_wp2
       go_ret
       exact ⟨by first | rfl | (simp [errW_none, errW_some] <;> rfl) | (simp [*, errW_none, errW_some] <;> rfl), by repeat (first | (with_reducible first | exact HB.out | apply below_alloc | apply pw_below_drewN | apply below_drew1 | refine below_set ?_ GE101.out) | exact HB.out)⟩
     ·replace c14 := Bool.eq_false_iff.mpr c14
      subst c14
      have H1 : (if x3_8 = true then (if ((a0_4 == 0 && (a0_5 == 0 && (a0_6 == 0 && (a0_7 == 0)))) = true) then (some 0) else (some 360)) else (some 360)) = some r := by rw [if_neg (show ¬ (false = true) by decide)] at H; exact H
      clear H
      have H := H1
      clear H1
      by_cases c22 : x3_8 = true
      ·subst c22
       have H1 : (if ((a0_4 == 0 && (a0_5 == 0 && (a0_6 == 0 && (a0_7 == 0)))) = true) then (some 0) else (some 360)) = some r := by rw [if_pos rfl] at H; exact H
       clear H
       have H := H1
       clear H1
       by_cases c23 : ((a0_4 == 0 && (a0_5 == 0 && (a0_6 == 0 && (a0_7 == 0)))) = true)
       ·rw [if_pos c23] at H
        have c23b0 : (a0_4 == 0 && (a0_5 == 0 && (a0_6 == 0 && (a0_7 == 0)))) = true := c23
        (try (have c23b1 : decide (a0_4 = 0 && (a0_5 == 0 && (a0_6 == 0 && (a0_7 == 0)))) = true := by simpa using c23))
        (try (have c23b2 : (a0_4 == 0 && (a0_5 == 0 && (a0_6 == 0 && (a0_7 == 0)))) = true := by simpa using c23))
        clear c23
        obtain rfl := Option.some.inj H
        have hcz24_0 : wc.cell? ⟨gb101, 0, none⟩ = some (.int .i64 a0_0) := (blk_cell BK101.out 0).trans rfl
        have hcz24_1 : wc.cell? ⟨gb101, 1, none⟩ = some (.bool a0_1) := (blk_cell BK101.out 1).trans rfl
        have hcz24_2 : wc.cell? ⟨gb101, 2, none⟩ = some (.bool a0_2) := (blk_cell BK101.out 2).trans rfl
        have hcz24_3 : wc.cell? ⟨gb101, 3, none⟩ = some (.bool false) := (blk_cell BK101.out 3).trans rfl
        have hcz24_4 : wc.cell? ⟨gb101, 4, none⟩ = some (.int .i64 a0_4) := (blk_cell BK101.out 4).trans rfl
        have hcz24_5 : wc.cell? ⟨gb101, 5, none⟩ = some (.int .i64 a0_5) := (blk_cell BK101.out 5).trans rfl
        have hcz24_6 : wc.cell? ⟨gb101, 6, none⟩ = some (.int .u32 a0_6) := (blk_cell BK101.out 6).trans rfl
        have hcz24_7 : wc.cell? ⟨gb101, 7, none⟩ = some (.int .u32 a0_7) := (blk_cell BK101.out 7).trans rfl
        have hcz24_8 : wc.cell? ⟨gb101, 8, none⟩ = some (.slice A0_8 l0_8.length c0_8) := (blk_cell BK101.out 8).trans rfl
        have hfz24_0 := blk_frozen BK101.out 0
        have hfz24_1 := blk_frozen BK101.out 1
        have hfz24_2 := blk_frozen BK101.out 2
        have hfz24_3 := blk_frozen BK101.out 3
        have hfz24_4 := blk_frozen BK101.out 4
        have hfz24_5 := blk_frozen BK101.out 5
        have hfz24_6 := blk_frozen BK101.out 6
        have hfz24_7 := blk_frozen BK101.out 7
        have hfz24_8 := blk_frozen BK101.out 8
        go_wp2
        go_ret
        exact ⟨by first | rfl | (simp [errW_none, errW_some] <;> rfl) | (simp [*, errW_none, errW_some] <;> rfl), by repeat (first | (with_reducible first | exact HB.out | apply below_alloc | apply pw_below_drewN | apply below_drew1 | refine below_set ?_ GE101.out) | exact HB.out)⟩
       ·rw [if_neg c23] at H
        have c23b0 : (a0_4 == 0 && (a0_5 == 0 && (a0_6 == 0 && (a0_7 == 0)))) = false := by simpa using c23
        (try (have c23b1 : decide (a0_4 = 0 && (a0_5 == 0 && (a0_6 == 0 && (a0_7 == 0)))) = false := by simpa using c23))
        (try (have c23b2 : (a0_4 == 0 && (a0_5 == 0 && (a0_6 == 0 && (a0_7 == 0)))) = false := by simpa using c23))
        (try (have c23b3 : ¬ (a0_4 = 0 && (a0_5 == 0 && (a0_6 == 0 && (a0_7 == 0)))) := by simpa using c23))
        clear c23
        obtain rfl := Option.some.inj H
        have hcz25_0 : wc.cell? ⟨gb101, 0, none⟩ = some (.int .i64 a0_0) := (blk_cell BK101.out 0).trans rfl
        have hcz25_1 : wc.cell? ⟨gb101, 1, none⟩ = some (.bool a0_1) := (blk_cell BK101.out 1).trans rfl
        have hcz25_2 : wc.cell? ⟨gb101, 2, none⟩ = some (.bool a0_2) := (blk_cell BK101.out 2).trans rfl
        have hcz25_3 : wc.cell? ⟨gb101, 3, none⟩ = some (.bool false) := (blk_cell BK101.out 3).trans rfl
        have hcz25_4 : wc.cell? ⟨gb101, 4, none⟩ = some (.int .i64 a0_4) := (blk_cell BK101.out 4).trans rfl
        have hcz25_5 : wc.cell? ⟨gb101, 5, none⟩ = some (.int .i64 a0_5) := (blk_cell BK101.out 5).trans rfl
        have hcz25_6 : wc.cell? ⟨gb101, 6, none⟩ = some (.int .u32 a0_6) := (blk_cell BK101.out 6).trans rfl
        have hcz25_7 : wc.cell? ⟨gb101, 7, none⟩ = some (.int .u32 a0_7) := (blk_cell BK101.out 7).trans rfl
        have hcz25_8 : wc.cell? ⟨gb101, 8, none⟩ = some (.slice A0_8 l0_8.length c0_8) := (blk_cell BK101.out 8).trans rfl
        have hfz25_0 := blk_frozen BK101.out 0
        have hfz25_1 := blk_frozen BK101.out 1
        have hfz25_2 := blk_frozen BK101.out 2
        have hfz25_3 := blk_frozen BK101.out 3
        have hfz25_4 := blk_frozen BK101.out 4
        have hfz25_5 := blk_frozen BK101.out 5
        have hfz25_6 := blk_frozen BK101.out 6
        have hfz25_7 := blk_frozen BK101.out 7
        have hfz25_8 := blk_frozen BK101.out 8
        go_wp2
        go_ret
        exact ⟨by first | rfl | (simp [errW_none, errW_some] <;> rfl) | (simp [*, errW_none, errW_some] <;> rfl), by repeat (first | (with_reducible first | exact HB.out | apply below_alloc | apply pw_below_drewN | apply below_drew1 | refine below_set ?_ GE101.out) | exact HB.out)⟩
      ·replace c22 := Bool.eq_false_iff.mpr c22
       subst c22
       have H1 : (some 360) = some r := by rw [if_neg (show ¬ (false = true) by decide)] at H; exact H
       clear H
       have H := H1
       clear H1
       obtain rfl := Option.some.inj H
       have hcz26_0 : wc.cell? ⟨gb101, 0, none⟩ = some (.int .i64 a0_0) := (blk_cell BK101.out 0).trans rfl
       have hcz26_1 : wc.cell? ⟨gb101, 1, none⟩ = some (.bool a0_1) := (blk_cell BK101.out 1).trans rfl
       have hcz26_2 : wc.cell? ⟨gb101, 2, none⟩ = some (.bool a0_2) := (blk_cell BK101.out 2).trans rfl
       have hcz26_3 : wc.cell? ⟨gb101, 3, none⟩ = some (.bool false) := (blk_cell BK101.out 3).trans rfl
       have hcz26_4 : wc.cell? ⟨gb101, 4, none⟩ = some (.int .i64 a0_4) := (blk_cell BK101.out 4).trans rfl
       have hcz26_5 : wc.cell? ⟨gb101, 5, none⟩ = some (.int .i64 a0_5) := (blk_cell BK101.out 5).trans rfl
       have hcz26_6 : wc.cell? ⟨gb101, 6, none⟩ = some (.int .u32 a0_6) := (blk_cell BK101.out 6).trans rfl
       have hcz26_7 : wc.cell? ⟨gb101, 7, none⟩ = some (.int .u32 a0_7) := (blk_cell BK101.out 7).trans rfl
       have hcz26_8 : wc.cell? ⟨gb101, 8, none⟩ = some (.slice A0_8 l0_8.length c0_8) := (blk_cell BK101.out 8).trans rfl
       have hfz26_0 := blk_frozen BK101.out 0
       have hfz26_1 := blk_frozen BK101.out 1
       have hfz26_2 := blk_frozen BK101.out 2
       have hfz26_3 := blk_frozen BK101.out 3
       have hfz26_4 := blk_frozen BK101.out 4
       have hfz26_5 := blk_frozen BK101.out 5
       have hfz26_6 := blk_frozen BK101.out 6
       have hfz26_7 := blk_frozen BK101.out 7
       have hfz26_8 := blk_frozen BK101.out 8
       go_wp2
       go_ret
       exact ⟨by first | rfl | (simp [errW_none, errW_some] <;> rfl) | (simp [*, errW_none, errW_some] <;> rfl), by repeat (first | (with_reducible first | exact HB.out | apply below_alloc | apply pw_below_drewN | apply below_drew1 | refine below_set ?_ GE101.out) | exact HB.out)⟩

/-! ### slices_Clone_bool_bool: function 28 -/
def slices_Clone_bool_bool.f (l0 : List Bool) : Option (List Bool) := (some (([] : List Bool) : List Bool)).bind fun y102 => (if y102.length + l0.length < 140737488355328 then (some (y102 ++ l0)) else (none))
set_option maxHeartbeats 8000000 in
set_option maxRecDepth 100000 in
theorem slices_Clone_bool_bool.calls_some (a0_ : Addr) (c0 : Nat) (l0 : List Bool) (r : List Bool) (w : World) (hr0 : Kd.C Kd.bool w (some a0_) l0.length l0) (hc0 : l0.length ≤ c0) (h : slices_Clone_bool_bool.f l0 = some r) :
  Calls Try.prog 28 #[.slice (some a0_) l0.length c0] w fun e w' => ∃ v0_ : Value, e = .returned (v0_) ∧ Kd.R Kd.bool 4 w' w.heap.size (fun _ => True) v0_ r ∧ Below w.heap.size w w' := by
 have HR0 := Aside0.mk hr0
 have HC0 := Aside0.mk hc0
 clear hr0 hc0
 have HB := Aside0.mk (Below.refl w.heap.size w)
 have H : ((some (([] : List Bool) : List Bool)).bind fun y102 => (if y102.length + l0.length < 140737488355328 then (some (y102 ++ l0)) else (none))) = some r := h
 clear h
 obtain ⟨y102, hy102⟩ : ∃ y_ : List Bool, y_ = (([] : List Bool)) := ⟨_, rfl⟩
 replace H : (if y102.length + l0.length < 140737488355328 then (some (y102 ++ l0)) else (none)) = some r := by first | (rw [hy102]; with_reducible exact H) | (have H2_ := (Option.bind_some _ _).symm.trans H; rw [hy102]; with_reducible exact H2_) | (have H2_ := (Option.bind_some _ _).symm.trans H; with_reducible exact H2_) | with_reducible exact H | (rw [hy102]; exact H) | exact H
 have Ny102 := Aside0.mk hy102
 clear hy102
 by_cases c2 : y102.length + l0.length < 140737488355328
 ·rw [if_pos c2] at H
  have LMc2 := Aside0.mk c2
  clear c2
  obtain ⟨y105, hy105⟩ : ∃ y_ : List Bool, y_ = (y102 ++ l0) := ⟨_, rfl⟩
  replace H : (some y105) = some r := by first | (rw [hy105]; with_reducible exact H) | (have H2_ := (Option.bind_some _ _).symm.trans H; rw [hy105]; with_reducible exact H2_) | (have H2_ := (Option.bind_some _ _).symm.trans H; with_reducible exact H2_) | with_reducible exact H | (rw [hy105]; exact H) | exact H
  have Ny105 := Aside0.mk hy105
  clear hy105
  obtain rfl := Option.some.inj H
  have hnil_ := fun (w_ : World) => Lib.run_eql_slice_nil (P := Try.prog) w_ 25 4 (some a0_) l0.length c0 0 0 Try.underlying25
  go_enter Try.func28, Try.ntmps28
  go_wp2_with (first | ((with_reducible refine gate_dst (N := 5) rfl ?_); refine Kd.R_lit Kd.bool _ 4 ?hg (N := 5) ?hd (xs := ([] : List Bool)) (inner := []) (ok := fun _ => True) (okp := fun _ => True) ?hr ?hp (fun _ hk => hk) trivial (Below.refl _ _) (Nat.le_refl _) (by simp) ?_; (case hd => rfl); (case hg => rfl); (case hr => first | (go_simp; done) | (go_simp; rfl)); (case hp => exact (Reps.none _ _)); intro v103 w3 ho4 hb hg_ hnew_; clear hg_ hnew_; (first | rw [← Ny102.out] at ho4 | (simp only [Int.reduceToNat] at ho4; rw [← Ny102.out] at ho4)); have n0_ := Aside0.mk (Kd.R_lower ho4 (below_size (by repeat (first | (with_reducible first | exact HB.out | apply below_alloc | apply pw_below_drewN | apply below_drew1) | exact HB.out)))); have n1_ := Aside0.mk (below_step (by repeat (first | (with_reducible first | exact HB.out | apply below_alloc | apply pw_below_drewN | apply below_drew1) | exact HB.out)) hb); clear HB; have HO104 := n0_; have HB := n1_; clear n0_ n1_; clear hb ho4) | ((with_reducible refine gate_builtin (b := .append) (xs := #[.tmp 5, .tmp 6]) rfl ?_); at_builtin; refine Kd.R_append_rows Kd.bool (w0 := w) w.heap.size rfl (.tmp 5) (.tmp 6) 25 4 (.bool false) 1 rfl Try.underlying25 info4 rfl (by decide) (by omega) v103 y102 l0 _ _ _ (fun _ => True) (fun _ => False) rfl rfl ?aO ?aR (fun _ _ h => h) (fun _ h => h.elim) ?aF ?aB ?aS ?aL ?_; (case aR => repeat (first | exact (Kd.C_below HR0.out HB.out) | (with_reducible refine Kd.C_alloc ?_ _) | (with_reducible refine Kd.C_drewN ?_ _) | (with_reducible refine Kd.C_drew ?_))); (case aB => exact (by repeat (first | (with_reducible first | exact HB.out | apply below_alloc | apply pw_below_drewN | apply below_drew1) | exact HB.out))); (case aF => exact (fun _ _ => trivial)); (case aO => exact (by (with_reducible repeat (first | apply Kd.R_alloc | apply Kd.R_drewN | apply Kd.R_drew)); exact HO104.out)); (case aS => exact (below_size (by repeat (first | (with_reducible first | exact HB.out | apply below_alloc | apply pw_below_drewN | apply below_drew1) | exact HB.out)))); (case aL => have := LMc2.out; omega); intro v106 w5 ho hb hg hat; rw [← Ny105.out] at ho; have n0_ := Aside0.mk (hb); have n1_ := Aside0.mk (ho); clear HB; clear HO104; have HB := n0_; have HO107 := n1_; clear n0_ n1_; clear ho hb hg hat))
  go_ret
  exact ⟨_, by first | rfl | (simp [errW_none, errW_some] <;> rfl) | (simp [*, errW_none, errW_some] <;> rfl), by (with_reducible repeat (first | apply Kd.R_alloc | apply Kd.R_drewN | apply Kd.R_drew)); exact HO107.out, by repeat (first | (with_reducible first | exact HB.out | apply below_alloc | apply pw_below_drewN | apply below_drew1) | exact HB.out)⟩
 ·rw [if_neg c2] at H
  exact absurd H (by simp)

-- NOT PRINTED: function 16 (signal_with)


theorem slices_Clone_bool_bool.calls (A0 : Option Addr) (c0 : Nat) (l0 : List Bool) (r : List Bool) (w : World) (hr0 : Kd.C Kd.bool w A0 l0.length l0) (hc0 : l0.length ≤ c0) (h : slices_Clone_bool_bool.f l0 = some r) :
  Calls Try.prog 28 #[.slice A0 l0.length c0] w fun e w' => ∃ v0_ : Value, e = .returned (v0_) ∧ Kd.R Kd.bool 4 w' w.heap.size (fun _ => True) v0_ r ∧ Below w.heap.size w w' := by
 cases A0 with
 | some a0_ => exact slices_Clone_bool_bool.calls_some a0_ c0 l0 r w hr0 hc0 h
 | none =>
  have hz : l0 = [] := by
   cases l0 with
   | nil => rfl
   | cons x xs => obtain ⟨_, h1, _⟩ := hr0.2.2 (by simp); cases h1
  subst hz
  have hr : r = [] := by
   unfold slices_Clone_bool_bool.f at h
   simp at h
   exact h
  subst hr
  have hnil_ := fun (w_ : World) => Lib.run_eql_slice_nil (P := Try.prog) w_ 25 4 none 0 c0 0 0 Try.underlying25
  go_enter Try.func28, Try.ntmps28
  go_wp2
  go_ret
  exact ⟨_, rfl, Kd.R_nil _ _ _ _ _, Below.refl _ _⟩
/-! ### signal_Send: function 10 -/
def signal_Send.f (a0_0 : Int) (a0_1 : Bool) (a0_2 : Bool) (a0_3 : Bool) (a0_4 : Int) (a0_5 : Int) (a0_6 : Int) (a0_7 : Int) (l0_8 : List Bool) (a1_0 : Int) (a1_1 : Int) (a1_2 : Int) (a1_3 : Int) : Option (Int × Bool × Bool × Bool × Int × Int × Int × Int × List Bool × Bool × Bool × Int × Int × Int × Int × Int) := (fun x : Go.Proofs.Ytbpgpbbpeppjmaa.SG.Sg × Go.Proofs.Ytbpgpbbpeppjmaa.SG.Ht × Int => some (x.1.ac, x.1.op, x.1.bl, x.1.pe, x.1.co, x.1.er, x.1.nr, x.1.ar, x.1.l, x.2.1.di, x.2.1.ru, x.2.1.co, x.2.1.er, x.2.1.nr, x.2.1.ar, x.2.2)) (Go.Proofs.Ytbpgpbbpeppjmaa.SG.Sg.withV (⟨a0_0, a0_1, a0_2, a0_3, a0_4, a0_5, a0_6, a0_7, l0_8⟩ : Go.Proofs.Ytbpgpbbpeppjmaa.SG.Sg) (Go.Proofs.Ytbpgpbbpeppjmaa.SG.Sg.sendD (⟨a0_0, a0_1, a0_2, a0_3, a0_4, a0_5, a0_6, a0_7, l0_8⟩ : Go.Proofs.Ytbpgpbbpeppjmaa.SG.Sg) a1_0 a1_1 a1_2 a1_3))
theorem signal_Send.calls (a0_0 : Int) (a0_1 : Bool) (a0_2 : Bool) (a0_3 : Bool) (a0_4 : Int) (a0_5 : Int) (a0_6 : Int) (a0_7 : Int) (A0_8 : Option Addr) (c0_8 : Nat) (l0_8 : List Bool) (a1_0 : Int) (a1_1 : Int) (a1_2 : Int) (a1_3 : Int) (r1 : Int) (r2 : Bool) (r3 : Bool) (r4 : Bool) (r5 : Int) (r6 : Int) (r7 : Int) (r8 : Int) (r9 : List Bool) (r10 : Bool) (r11 : Bool) (r12 : Int) (r13 : Int) (r14 : Int) (r15 : Int) (r16 : Int) (w : World) (hr0_8 : Kd.C Kd.bool w A0_8 l0_8.length l0_8) (hc0_8 : l0_8.length ≤ c0_8) (h : signal_Send.f a0_0 a0_1 a0_2 a0_3 a0_4 a0_5 a0_6 a0_7 l0_8 a1_0 a1_1 a1_2 a1_3 = some (r1, r2, r3, r4, r5, r6, r7, r8, r9, r10, r11, r12, r13, r14, r15, r16)) :
  Calls Try.prog 10 #[.agg #[.int .i64 a0_0, .bool a0_1, .bool a0_2, .bool a0_3, .int .i64 a0_4, .int .i64 a0_5, .int .u32 a0_6, .int .u32 a0_7, .slice A0_8 l0_8.length c0_8], .agg #[.int .i64 a1_0, .int .i64 a1_1, .int .u32 a1_2, .int .u32 a1_3]] w fun e w' => ∃ v8_ : Value, e = .returned (.tuple #[.agg #[.int .i64 r1, .bool r2, .bool r3, .bool r4, .int .i64 r5, .int .i64 r6, .int .u32 r7, .int .u32 r8, v8_], .agg #[.bool r10, .bool r11, .int .i64 r12, .int .i64 r13, .int .u32 r14, .int .u32 r15], .int .i64 r16]) ∧ Kd.R Kd.bool 4 w' w.heap.size (fun _ => True) v8_ r9 ∧ Below w.heap.size w w' := by
 simp only [signal_Send.f, Option.some.injEq, Prod.mk.injEq] at h
 obtain ⟨rfl, rfl, rfl, rfl, rfl, rfl, rfl, rfl, rfl, rfl, rfl, rfl, rfl, rfl, rfl, rfl⟩ := h
 exact Go.Proofs.Ytbpgpbbpeppjmaa.SG.send_c a1_0 a1_1 a1_2 a1_3 (⟨a0_0, a0_1, a0_2, a0_3, a0_4, a0_5, a0_6, a0_7, l0_8⟩ : Go.Proofs.Ytbpgpbbpeppjmaa.SG.Sg) A0_8 c0_8 w hr0_8 hc0_8

/-! ### signal_Force: function 13 -/
def signal_Force.f (a0_0 : Int) (a0_1 : Bool) (a0_2 : Bool) (a0_3 : Bool) (a0_4 : Int) (a0_5 : Int) (a0_6 : Int) (a0_7 : Int) (l0_8 : List Bool) (a1_0 : Int) (a1_1 : Int) (a1_2 : Int) (a1_3 : Int) : Option (Int × Bool × Bool × Bool × Int × Int × Int × Int × List Bool × Bool × Bool × Int × Int × Int × Int × Int) := (fun x : Go.Proofs.Ytbpgpbbpeppjmaa.SG.Sg × Go.Proofs.Ytbpgpbbpeppjmaa.SG.Ht × Int => some (x.1.ac, x.1.op, x.1.bl, x.1.pe, x.1.co, x.1.er, x.1.nr, x.1.ar, x.1.l, x.2.1.di, x.2.1.ru, x.2.1.co, x.2.1.er, x.2.1.nr, x.2.1.ar, x.2.2)) (Go.Proofs.Ytbpgpbbpeppjmaa.SG.Sg.withV (⟨a0_0, a0_1, a0_2, a0_3, a0_4, a0_5, a0_6, a0_7, l0_8⟩ : Go.Proofs.Ytbpgpbbpeppjmaa.SG.Sg) (Go.Proofs.Ytbpgpbbpeppjmaa.SG.Sg.forceD (⟨a0_0, a0_1, a0_2, a0_3, a0_4, a0_5, a0_6, a0_7, l0_8⟩ : Go.Proofs.Ytbpgpbbpeppjmaa.SG.Sg) a1_0 a1_1 a1_2 a1_3))
theorem signal_Force.calls (a0_0 : Int) (a0_1 : Bool) (a0_2 : Bool) (a0_3 : Bool) (a0_4 : Int) (a0_5 : Int) (a0_6 : Int) (a0_7 : Int) (A0_8 : Option Addr) (c0_8 : Nat) (l0_8 : List Bool) (a1_0 : Int) (a1_1 : Int) (a1_2 : Int) (a1_3 : Int) (r1 : Int) (r2 : Bool) (r3 : Bool) (r4 : Bool) (r5 : Int) (r6 : Int) (r7 : Int) (r8 : Int) (r9 : List Bool) (r10 : Bool) (r11 : Bool) (r12 : Int) (r13 : Int) (r14 : Int) (r15 : Int) (r16 : Int) (w : World) (hr0_8 : Kd.C Kd.bool w A0_8 l0_8.length l0_8) (hc0_8 : l0_8.length ≤ c0_8) (h : signal_Force.f a0_0 a0_1 a0_2 a0_3 a0_4 a0_5 a0_6 a0_7 l0_8 a1_0 a1_1 a1_2 a1_3 = some (r1, r2, r3, r4, r5, r6, r7, r8, r9, r10, r11, r12, r13, r14, r15, r16)) :
  Calls Try.prog 13 #[.agg #[.int .i64 a0_0, .bool a0_1, .bool a0_2, .bool a0_3, .int .i64 a0_4, .int .i64 a0_5, .int .u32 a0_6, .int .u32 a0_7, .slice A0_8 l0_8.length c0_8], .agg #[.int .i64 a1_0, .int .i64 a1_1, .int .u32 a1_2, .int .u32 a1_3]] w fun e w' => ∃ v8_ : Value, e = .returned (.tuple #[.agg #[.int .i64 r1, .bool r2, .bool r3, .bool r4, .int .i64 r5, .int .i64 r6, .int .u32 r7, .int .u32 r8, v8_], .agg #[.bool r10, .bool r11, .int .i64 r12, .int .i64 r13, .int .u32 r14, .int .u32 r15], .int .i64 r16]) ∧ Kd.R Kd.bool 4 w' w.heap.size (fun _ => True) v8_ r9 ∧ Below w.heap.size w w' := by
 simp only [signal_Force.f, Option.some.injEq, Prod.mk.injEq] at h
 obtain ⟨rfl, rfl, rfl, rfl, rfl, rfl, rfl, rfl, rfl, rfl, rfl, rfl, rfl, rfl, rfl, rfl⟩ := h
 exact Go.Proofs.Ytbpgpbbpeppjmaa.SG.force_c a1_0 a1_1 a1_2 a1_3 (⟨a0_0, a0_1, a0_2, a0_3, a0_4, a0_5, a0_6, a0_7, l0_8⟩ : Go.Proofs.Ytbpgpbbpeppjmaa.SG.Sg) A0_8 c0_8 w hr0_8 hc0_8

/-! ### signal_Return: function 14 -/
def signal_Return.f (a0_0 : Int) (a0_1 : Bool) (a0_2 : Bool) (a0_3 : Bool) (a0_4 : Int) (a0_5 : Int) (a0_6 : Int) (a0_7 : Int) (l0_8 : List Bool)  : Option (Int × Bool × Bool × Bool × Int × Int × Int × Int × List Bool × Bool × Bool × Int × Int × Int × Int × Int) := (fun x : Go.Proofs.Ytbpgpbbpeppjmaa.SG.Sg × Go.Proofs.Ytbpgpbbpeppjmaa.SG.Ht × Int => some (x.1.ac, x.1.op, x.1.bl, x.1.pe, x.1.co, x.1.er, x.1.nr, x.1.ar, x.1.l, x.2.1.di, x.2.1.ru, x.2.1.co, x.2.1.er, x.2.1.nr, x.2.1.ar, x.2.2)) (Go.Proofs.Ytbpgpbbpeppjmaa.SG.Sg.withV (⟨a0_0, a0_1, a0_2, a0_3, a0_4, a0_5, a0_6, a0_7, l0_8⟩ : Go.Proofs.Ytbpgpbbpeppjmaa.SG.Sg) (Go.Proofs.Ytbpgpbbpeppjmaa.SG.Sg.retD (⟨a0_0, a0_1, a0_2, a0_3, a0_4, a0_5, a0_6, a0_7, l0_8⟩ : Go.Proofs.Ytbpgpbbpeppjmaa.SG.Sg) ))
theorem signal_Return.calls (a0_0 : Int) (a0_1 : Bool) (a0_2 : Bool) (a0_3 : Bool) (a0_4 : Int) (a0_5 : Int) (a0_6 : Int) (a0_7 : Int) (A0_8 : Option Addr) (c0_8 : Nat) (l0_8 : List Bool)  (r1 : Int) (r2 : Bool) (r3 : Bool) (r4 : Bool) (r5 : Int) (r6 : Int) (r7 : Int) (r8 : Int) (r9 : List Bool) (r10 : Bool) (r11 : Bool) (r12 : Int) (r13 : Int) (r14 : Int) (r15 : Int) (r16 : Int) (w : World) (hr0_8 : Kd.C Kd.bool w A0_8 l0_8.length l0_8) (hc0_8 : l0_8.length ≤ c0_8) (h : signal_Return.f a0_0 a0_1 a0_2 a0_3 a0_4 a0_5 a0_6 a0_7 l0_8  = some (r1, r2, r3, r4, r5, r6, r7, r8, r9, r10, r11, r12, r13, r14, r15, r16)) :
  Calls Try.prog 14 #[.agg #[.int .i64 a0_0, .bool a0_1, .bool a0_2, .bool a0_3, .int .i64 a0_4, .int .i64 a0_5, .int .u32 a0_6, .int .u32 a0_7, .slice A0_8 l0_8.length c0_8]] w fun e w' => ∃ v8_ : Value, e = .returned (.tuple #[.agg #[.int .i64 r1, .bool r2, .bool r3, .bool r4, .int .i64 r5, .int .i64 r6, .int .u32 r7, .int .u32 r8, v8_], .agg #[.bool r10, .bool r11, .int .i64 r12, .int .i64 r13, .int .u32 r14, .int .u32 r15], .int .i64 r16]) ∧ Kd.R Kd.bool 4 w' w.heap.size (fun _ => True) v8_ r9 ∧ Below w.heap.size w w' := by
 simp only [signal_Return.f, Option.some.injEq, Prod.mk.injEq] at h
 obtain ⟨rfl, rfl, rfl, rfl, rfl, rfl, rfl, rfl, rfl, rfl, rfl, rfl, rfl, rfl, rfl, rfl⟩ := h
 exact Go.Proofs.Ytbpgpbbpeppjmaa.SG.return_c  (⟨a0_0, a0_1, a0_2, a0_3, a0_4, a0_5, a0_6, a0_7, l0_8⟩ : Go.Proofs.Ytbpgpbbpeppjmaa.SG.Sg) A0_8 c0_8 w hr0_8 hc0_8

/-! ### wicketgatelaw26_wakes: function 6 -/
def wicketgatelaw26_wakes.f  : Option (Bool) := (signal_Force.f 2 false false false 0 0 0 0 ([] : List Bool) 1 0 7 0).bind fun bt109 => ((signal_Send.f bt109.1 bt109.2.1 bt109.2.2.1 bt109.2.2.2.1 bt109.2.2.2.2.1 bt109.2.2.2.2.2.1 bt109.2.2.2.2.2.2.1 bt109.2.2.2.2.2.2.2.1 bt109.2.2.2.2.2.2.2.2.1 1 0 7 0).bind fun bt129 => ((signal_Return.f bt129.1 bt129.2.1 bt129.2.2.1 bt129.2.2.2.1 bt129.2.2.2.2.1 bt129.2.2.2.2.2.1 bt129.2.2.2.2.2.2.1 bt129.2.2.2.2.2.2.2.1 bt129.2.2.2.2.2.2.2.2.1).bind fun bt149 => ((signal_Force.f bt109.1 bt109.2.1 bt109.2.2.1 bt109.2.2.2.1 bt109.2.2.2.2.1 bt109.2.2.2.2.2.1 bt109.2.2.2.2.2.2.1 bt109.2.2.2.2.2.2.2.1 bt109.2.2.2.2.2.2.2.2.1 1 0 7 0).bind fun bt169 => (if bt109.2.2.2.2.2.2.2.2.2.2.2.2.2.2.2 = 0 then (if bt129.2.2.2.2.2.2.2.2.2.2.2.2.2.2.2 = 0 then (if bt149.2.2.2.2.2.2.2.2.2.2.2.2.2.2.2 = 0 then (if bt169.2.2.2.2.2.2.2.2.2.2.2.2.2.2.2 = 0 then (if bt109.2.2.2.2.2.2.2.2.2.2.1 = true then (if bt129.2.2.2.2.2.2.2.2.2.2.1 = true then (some false) else (if bt129.2.2.2.1 = true then (if bt149.2.2.2.2.2.2.2.2.2.2.1 = true then (if (bt149.2.2.2.2.2.2.2.2.2.2.2.1 == 1 && (bt149.2.2.2.2.2.2.2.2.2.2.2.2.1 == 0 && (bt149.2.2.2.2.2.2.2.2.2.2.2.2.2.1 == 7 && (bt149.2.2.2.2.2.2.2.2.2.2.2.2.2.2.1 == 0)))) = true then (if bt169.2.2.2.2.2.2.2.2.2.1 = true then (some ((bt149.2.2.2.2.2.2.2.2.1.length : Int) == 1)) else (some false)) else (some false)) else (some false)) else (some false))) else (some false)) else (some false)) else (some false)) else (some false)) else (some false)))))
theorem wicketgatelaw26_wakes.tt : wicketgatelaw26_wakes.f = some true := by decide +kernel
theorem wicketgatelaw26_wakes.only (r : Bool) (h : wicketgatelaw26_wakes.f = some r) : r = true := Option.some.inj (h.symm.trans wicketgatelaw26_wakes.tt)
set_option maxHeartbeats 8000000 in
set_option maxRecDepth 100000 in
theorem wicketgatelaw26_wakes.calls  (r : Bool) (w : World) (h : wicketgatelaw26_wakes.f  = some r) :
  Calls Try.prog 6 #[] w fun e w' => e = .returned (.bool r) ∧ Below w.heap.size w w' := by
 have hr_ := wicketgatelaw26_wakes.only r h
 have HRr := Aside0.mk hr_
 clear hr_
 have hu24 := Try.underlying24
 have hu27 := Try.underlying27
 have hu33 := Try.underlying33
 have HB := Aside0.mk (Below.refl w.heap.size w)
 have H : ((signal_Force.f 2 false false false 0 0 0 0 ([] : List Bool) 1 0 7 0).bind fun bt109 => ((signal_Send.f bt109.1 bt109.2.1 bt109.2.2.1 bt109.2.2.2.1 bt109.2.2.2.2.1 bt109.2.2.2.2.2.1 bt109.2.2.2.2.2.2.1 bt109.2.2.2.2.2.2.2.1 bt109.2.2.2.2.2.2.2.2.1 1 0 7 0).bind fun bt129 => ((signal_Return.f bt129.1 bt129.2.1 bt129.2.2.1 bt129.2.2.2.1 bt129.2.2.2.2.1 bt129.2.2.2.2.2.1 bt129.2.2.2.2.2.2.1 bt129.2.2.2.2.2.2.2.1 bt129.2.2.2.2.2.2.2.2.1).bind fun bt149 => ((signal_Force.f bt109.1 bt109.2.1 bt109.2.2.1 bt109.2.2.2.1 bt109.2.2.2.2.1 bt109.2.2.2.2.2.1 bt109.2.2.2.2.2.2.1 bt109.2.2.2.2.2.2.2.1 bt109.2.2.2.2.2.2.2.2.1 1 0 7 0).bind fun bt169 => (if bt109.2.2.2.2.2.2.2.2.2.2.2.2.2.2.2 = 0 then (if bt129.2.2.2.2.2.2.2.2.2.2.2.2.2.2.2 = 0 then (if bt149.2.2.2.2.2.2.2.2.2.2.2.2.2.2.2 = 0 then (if bt169.2.2.2.2.2.2.2.2.2.2.2.2.2.2.2 = 0 then (if bt109.2.2.2.2.2.2.2.2.2.2.1 = true then (if bt129.2.2.2.2.2.2.2.2.2.2.1 = true then (some false) else (if bt129.2.2.2.1 = true then (if bt149.2.2.2.2.2.2.2.2.2.2.1 = true then (if (bt149.2.2.2.2.2.2.2.2.2.2.2.1 == 1 && (bt149.2.2.2.2.2.2.2.2.2.2.2.2.1 == 0 && (bt149.2.2.2.2.2.2.2.2.2.2.2.2.2.1 == 7 && (bt149.2.2.2.2.2.2.2.2.2.2.2.2.2.2.1 == 0)))) = true then (if bt169.2.2.2.2.2.2.2.2.2.1 = true then (some ((bt149.2.2.2.2.2.2.2.2.1.length : Int) == 1)) else (some false)) else (some false)) else (some false)) else (some false))) else (some false)) else (some false)) else (some false)) else (some false)) else (some false)))))) = some r := h
 clear h
 replace H := Option.bind_eq_some_iff.mp H
 obtain ⟨⟨t109, t110, t111, t112, t113, t114, t115, t116, t117, t120, t121, t122, t123, t124, t125, t126⟩, A10, H⟩ := H
 replace H : ((signal_Send.f t109 t110 t111 t112 t113 t114 t115 t116 t117 1 0 7 0).bind fun bt129 => ((signal_Return.f bt129.1 bt129.2.1 bt129.2.2.1 bt129.2.2.2.1 bt129.2.2.2.2.1 bt129.2.2.2.2.2.1 bt129.2.2.2.2.2.2.1 bt129.2.2.2.2.2.2.2.1 bt129.2.2.2.2.2.2.2.2.1).bind fun bt149 => ((signal_Force.f t109 t110 t111 t112 t113 t114 t115 t116 t117 1 0 7 0).bind fun bt169 => (if t126 = 0 then (if bt129.2.2.2.2.2.2.2.2.2.2.2.2.2.2.2 = 0 then (if bt149.2.2.2.2.2.2.2.2.2.2.2.2.2.2.2 = 0 then (if bt169.2.2.2.2.2.2.2.2.2.2.2.2.2.2.2 = 0 then (if t121 = true then (if bt129.2.2.2.2.2.2.2.2.2.2.1 = true then (some false) else (if bt129.2.2.2.1 = true then (if bt149.2.2.2.2.2.2.2.2.2.2.1 = true then (if (bt149.2.2.2.2.2.2.2.2.2.2.2.1 == 1 && (bt149.2.2.2.2.2.2.2.2.2.2.2.2.1 == 0 && (bt149.2.2.2.2.2.2.2.2.2.2.2.2.2.1 == 7 && (bt149.2.2.2.2.2.2.2.2.2.2.2.2.2.2.1 == 0)))) = true then (if bt169.2.2.2.2.2.2.2.2.2.1 = true then (some ((bt149.2.2.2.2.2.2.2.2.1.length : Int) == 1)) else (some false)) else (some false)) else (some false)) else (some false))) else (some false)) else (some false)) else (some false)) else (some false)) else (some false))))) = some r := H
 have A1 := Aside0.mk A10
 clear A10
 replace H := Option.bind_eq_some_iff.mp H
 obtain ⟨⟨t129, t130, t131, t132, t133, t134, t135, t136, t137, t140, t141, t142, t143, t144, t145, t146⟩, A20, H⟩ := H
 replace H : ((signal_Return.f t129 t130 t131 t132 t133 t134 t135 t136 t137).bind fun bt149 => ((signal_Force.f t109 t110 t111 t112 t113 t114 t115 t116 t117 1 0 7 0).bind fun bt169 => (if t126 = 0 then (if t146 = 0 then (if bt149.2.2.2.2.2.2.2.2.2.2.2.2.2.2.2 = 0 then (if bt169.2.2.2.2.2.2.2.2.2.2.2.2.2.2.2 = 0 then (if t121 = true then (if t141 = true then (some false) else (if t132 = true then (if bt149.2.2.2.2.2.2.2.2.2.2.1 = true then (if (bt149.2.2.2.2.2.2.2.2.2.2.2.1 == 1 && (bt149.2.2.2.2.2.2.2.2.2.2.2.2.1 == 0 && (bt149.2.2.2.2.2.2.2.2.2.2.2.2.2.1 == 7 && (bt149.2.2.2.2.2.2.2.2.2.2.2.2.2.2.1 == 0)))) = true then (if bt169.2.2.2.2.2.2.2.2.2.1 = true then (some ((bt149.2.2.2.2.2.2.2.2.1.length : Int) == 1)) else (some false)) else (some false)) else (some false)) else (some false))) else (some false)) else (some false)) else (some false)) else (some false)) else (some false)))) = some r := H
 have A2 := Aside0.mk A20
 clear A20
 replace H := Option.bind_eq_some_iff.mp H
 obtain ⟨⟨t149, t150, t151, t152, t153, t154, t155, t156, t157, t160, t161, t162, t163, t164, t165, t166⟩, A30, H⟩ := H
 replace H : ((signal_Force.f t109 t110 t111 t112 t113 t114 t115 t116 t117 1 0 7 0).bind fun bt169 => (if t126 = 0 then (if t146 = 0 then (if t166 = 0 then (if bt169.2.2.2.2.2.2.2.2.2.2.2.2.2.2.2 = 0 then (if t121 = true then (if t141 = true then (some false) else (if t132 = true then (if t161 = true then (if (t162 == 1 && (t163 == 0 && (t164 == 7 && (t165 == 0)))) = true then (if bt169.2.2.2.2.2.2.2.2.2.1 = true then (some ((t157.length : Int) == 1)) else (some false)) else (some false)) else (some false)) else (some false))) else (some false)) else (some false)) else (some false)) else (some false)) else (some false))) = some r := H
 have A3 := Aside0.mk A30
 clear A30
 replace H := Option.bind_eq_some_iff.mp H
 obtain ⟨⟨t169, t170, t171, t172, t173, t174, t175, t176, t177, t180, t181, t182, t183, t184, t185, t186⟩, A40, H⟩ := H
 replace H : (if t126 = 0 then (if t146 = 0 then (if t166 = 0 then (if t186 = 0 then (if t121 = true then (if t141 = true then (some false) else (if t132 = true then (if t161 = true then (if (t162 == 1 && (t163 == 0 && (t164 == 7 && (t165 == 0)))) = true then (if t180 = true then (some ((t157.length : Int) == 1)) else (some false)) else (some false)) else (some false)) else (some false))) else (some false)) else (some false)) else (some false)) else (some false)) else (some false)) = some r := H
 have A4 := Aside0.mk A40
 clear A40
 by_cases c5 : t126 = 0
 ·rw [if_pos c5] at H
  have c5b0 : (t126 == 0) = true := beq_iff_eq.mpr c5
  have c5b1 : (t126 != 0) = false := bne_eq_false_iff_eq.mpr c5
  clear c5
  by_cases c6 : t146 = 0
  ·rw [if_pos c6] at H
   have c6b0 : (t146 == 0) = true := beq_iff_eq.mpr c6
   have c6b1 : (t146 != 0) = false := bne_eq_false_iff_eq.mpr c6
   clear c6
   by_cases c7 : t166 = 0
   ·rw [if_pos c7] at H
    have c7b0 : (t166 == 0) = true := beq_iff_eq.mpr c7
    have c7b1 : (t166 != 0) = false := bne_eq_false_iff_eq.mpr c7
    clear c7
    by_cases c8 : t186 = 0
    ·rw [if_pos c8] at H
     have c8b0 : (t186 == 0) = true := beq_iff_eq.mpr c8
     have c8b1 : (t186 != 0) = false := bne_eq_false_iff_eq.mpr c8
     clear c8
     by_cases c9 : t121 = true
     ·subst c9
      have H1 : (if t141 = true then (some false) else (if t132 = true then (if t161 = true then (if (t162 == 1 && (t163 == 0 && (t164 == 7 && (t165 == 0)))) = true then (if t180 = true then (some ((t157.length : Int) == 1)) else (some false)) else (some false)) else (some false)) else (some false))) = some r := by rw [if_pos rfl] at H; exact H
      clear H
      have H := H1
      clear H1
      by_cases c10 : t141 = true
      ·subst c10
       have H1 : (some false) = some r := by rw [if_pos rfl] at H; exact H
       clear H
       have H := H1
       clear H1
       exact absurd ((Option.some.inj H).trans HRr.out) (by simp)
      ·replace c10 := Bool.eq_false_iff.mpr c10
       subst c10
       have H1 : (if t132 = true then (if t161 = true then (if (t162 == 1 && (t163 == 0 && (t164 == 7 && (t165 == 0)))) = true then (if t180 = true then (some ((t157.length : Int) == 1)) else (some false)) else (some false)) else (some false)) else (some false)) = some r := by rw [if_neg (show ¬ (false = true) by decide)] at H; exact H
       clear H
       have H := H1
       clear H1
       by_cases c11 : t132 = true
       ·subst c11
        have H1 : (if t161 = true then (if (t162 == 1 && (t163 == 0 && (t164 == 7 && (t165 == 0)))) = true then (if t180 = true then (some ((t157.length : Int) == 1)) else (some false)) else (some false)) else (some false)) = some r := by rw [if_pos rfl] at H; exact H
        clear H
        have H := H1
        clear H1
        by_cases c12 : t161 = true
        ·subst c12
         have H1 : (if (t162 == 1 && (t163 == 0 && (t164 == 7 && (t165 == 0)))) = true then (if t180 = true then (some ((t157.length : Int) == 1)) else (some false)) else (some false)) = some r := by rw [if_pos rfl] at H; exact H
         clear H
         have H := H1
         clear H1
         by_cases c13 : (t162 == 1 && (t163 == 0 && (t164 == 7 && (t165 == 0)))) = true
         ·rw [if_pos c13] at H
          have c13b0 : (t162 == 1 && (t163 == 0 && (t164 == 7 && (t165 == 0)))) = true := c13
          (try (have c13b1 : decide (t162 = 1 && (t163 == 0 && (t164 == 7 && (t165 == 0)))) = true := by simpa using c13))
          (try (have c13b2 : (t162 == 1 && (t163 == 0 && (t164 == 7 && (t165 == 0)))) = true := by simpa using c13))
          clear c13
          by_cases c14 : t180 = true
          ·subst c14
           have H1 : (some ((t157.length : Int) == 1)) = some r := by rw [if_pos rfl] at H; exact H
           clear H
           have H := H1
           clear H1
           obtain rfl := Option.some.inj H
           go_enter Try.func6, Try.ntmps6
           go_wp2_with (first | ((with_reducible refine gate_dst (N := 1) rfl ?_); (try (refine gate_guard (by rfl) ?_; dsimp only)); refine box_event ?hg (N := 1) ?hd (cs := #[.int .i64 0, .int .i64 0, .int .u32 0, .int .u32 0]) (t := 24) ?hr ?_; (case hd => rfl); (case hg => rfl); (case hr => first | (go_simp; done) | (go_simp; rfl)); intro gb108 hg w15 hbox hb; have n0_ := Aside0.mk (below_step (by repeat (first | (with_reducible first | exact HB.out | apply below_alloc | apply pw_below_drewN | apply below_drew1) | exact HB.out)) hb); have n1_ := Aside0.mk (hbox); have n2_ := Aside0.mk ((by rw [hg]; exact (below_size (by repeat (first | (with_reducible first | exact HB.out | apply below_alloc | apply pw_below_drewN | apply below_drew1) | exact HB.out))) : w.heap.size ≤ gb108)); have n3_ := Aside0.mk ((by rw [hg]; exact (below_size (by repeat (first | (with_reducible first | exact HB.out | apply below_alloc | apply pw_below_drewN | apply below_drew1) | exact HB.out))) : w.heap.size ≤ gb108)); clear HB; have HB := n0_; have BK108 := n1_; have GW108 := n2_; have GE108 := n3_; clear n0_ n1_ n2_ n3_; clear hb hbox hg; have hcz16_0 : w15.cell? ⟨gb108, 0, none⟩ = some (.int .i64 0) := (blk_cell BK108.out 0).trans rfl; have hcz16_1 : w15.cell? ⟨gb108, 1, none⟩ = some (.int .i64 0) := (blk_cell BK108.out 1).trans rfl; have hcz16_2 : w15.cell? ⟨gb108, 2, none⟩ = some (.int .u32 0) := (blk_cell BK108.out 2).trans rfl; have hcz16_3 : w15.cell? ⟨gb108, 3, none⟩ = some (.int .u32 0) := (blk_cell BK108.out 3).trans rfl; have hfz16_0 := blk_frozen BK108.out 0; have hfz16_1 := blk_frozen BK108.out 1; have hfz16_2 := blk_frozen BK108.out 2; have hfz16_3 := blk_frozen BK108.out 3) | ((with_reducible refine gate_callee (f := 13) rfl ?_); refine goesL_ (some 18) rfl rfl Try.func13 (by kernel_rfl) rfl #[.agg #[.int .i64 2, .bool false, .bool false, .bool false, .int .i64 0, .int .i64 0, .int .u32 0, .int .u32 0, .slice none 0 0], .agg #[.int .i64 1, .int .i64 0, .int .u32 7, .int .u32 0]] rfl (by (try simp only [List.map_toArray, List.map_cons, List.map_nil]); first | done | rfl | (simp only [List.length_drop, List.length_take]; rfl)) ?_; (refine (signal_Force.calls 2 false false false 0 0 0 0 _ _ ([] : List Bool) 1 0 7 0 t109 t110 t111 t112 t113 t114 t115 t116 t117 t120 true t122 t123 t124 t125 t126 _ ?side1 ?side2 A1.out).mono ?_); (case side1 => exact Kd.C_nil _ _); (case side2 => exact Nat.le_refl _); rintro e w17 ⟨v118, rfl, ho0, hb⟩; refine ⟨_, rfl, ?_⟩; have n0_ := Aside0.mk (Kd.R_lower ho0 (below_size (by repeat (first | (with_reducible first | exact HB.out | apply below_alloc | apply pw_below_drewN | apply below_drew1 | refine below_set ?_ GE108.out) | exact HB.out)))); have n1_ := Aside0.mk (blk_below (g := gb108) (o := .cells #[.int .i64 1, .int .i64 0, .int .u32 7, .int .u32 0] 24 (0, 0)) (by (with_reducible repeat (first | refine blk_drewN ?_ _ | refine blk_drew ?_ | refine blk_alloc ?_ _)); apply PT4_; (with_reducible repeat (first | refine blk_drewN ?_ _ | refine blk_drew ?_ | refine blk_alloc ?_ _)); exact BK108.out) hb); have n2_ := Aside0.mk (below_step (by repeat (first | (with_reducible first | exact HB.out | apply below_alloc | apply pw_below_drewN | apply below_drew1 | refine below_set ?_ GE108.out) | exact HB.out)) hb); clear BK108; clear HB; have HO119 := n0_; have BK108 := n1_; have HB := n2_; clear n0_ n1_ n2_; (try clear hb); (try clear hb2); (try clear hk); (try clear hi); (try clear ho0)) | ((with_reducible refine gate_dst (N := 2) rfl ?_); (try (refine gate_guard (by rfl) ?_; dsimp only)); refine box_event ?hg (N := 2) ?hd (cs := #[.int .i64 0, .bool false, .bool false, .bool false, .int .i64 0, .int .i64 0, .int .u32 0, .int .u32 0, .slice none 0 0]) (t := 27) ?hr ?_; (case hd => rfl); (case hg => rfl); (case hr => first | (go_simp; done) | (go_simp; rfl)); intro gb127 hg w18 hbox hb; have n0_ := Aside0.mk (Kd.R_below (by (with_reducible repeat (first | apply Kd.R_alloc | apply Kd.R_drewN | apply Kd.R_drew)); exact HO119.out) hb); have n1_ := Aside0.mk (blk_below (g := gb108) (o := .cells #[.int .i64 1, .int .i64 0, .int .u32 7, .int .u32 0] 24 (0, 0)) (by (with_reducible repeat (first | refine blk_drewN ?_ _ | refine blk_drew ?_ | refine blk_alloc ?_ _)); exact BK108.out) hb); have n2_ := Aside0.mk (below_step (by repeat (first | (with_reducible first | exact HB.out | apply below_alloc | apply pw_below_drewN | apply below_drew1 | refine below_set ?_ GE108.out) | exact HB.out)) hb); have n3_ := Aside0.mk (hbox); have n4_ := Aside0.mk ((by rw [hg]; exact (below_size (by repeat (first | (with_reducible first | exact HB.out | apply below_alloc | apply pw_below_drewN | apply below_drew1 | refine below_set ?_ GE108.out) | exact HB.out))) : w.heap.size ≤ gb127)); have n5_ := Aside0.mk ((by rw [hg]; exact (below_size (by repeat (first | (with_reducible first | exact HB.out | apply below_alloc | apply pw_below_drewN | apply below_drew1 | refine below_set ?_ GE108.out) | exact HB.out))) : w.heap.size ≤ gb127)); have n6_ := Aside0.mk ((by rw [hg]; exact Nat.ne_of_lt (blk_lt (g := gb108) (o := .cells #[.int .i64 1, .int .i64 0, .int .u32 7, .int .u32 0] 24 (0, 0)) (by (with_reducible repeat (first | refine blk_drewN ?_ _ | refine blk_drew ?_ | refine blk_alloc ?_ _)); exact BK108.out)) : gb108 ≠ gb127)); have n7_ := Aside0.mk ((by rw [hg]; exact Nat.ne_of_gt (blk_lt (g := gb108) (o := .cells #[.int .i64 1, .int .i64 0, .int .u32 7, .int .u32 0] 24 (0, 0)) (by (with_reducible repeat (first | refine blk_drewN ?_ _ | refine blk_drew ?_ | refine blk_alloc ?_ _)); exact BK108.out)) : gb127 ≠ gb108)); clear HO119; clear BK108; clear HB; have HO119 := n0_; have BK108 := n1_; have HB := n2_; have BK127 := n3_; have GW127 := n4_; have GE127 := n5_; have NB108_127 := n6_; have NB127_108 := n7_; clear n0_ n1_ n2_ n3_ n4_ n5_ n6_ n7_; clear hb hbox hg) | ((with_reducible refine gate_dst (N := 3) rfl ?_); (try (refine gate_guard (by rfl) ?_; dsimp only)); refine box_event ?hg (N := 3) ?hd (cs := #[.bool false, .bool false, .int .i64 0, .int .i64 0, .int .u32 0, .int .u32 0]) (t := 33) ?hr ?_; (case hd => rfl); (case hg => rfl); (case hr => first | (go_simp; done) | (go_simp; rfl)); intro gb128 hg w19 hbox hb; have n0_ := Aside0.mk (Kd.R_below (by (with_reducible repeat (first | apply Kd.R_alloc | apply Kd.R_drewN | apply Kd.R_drew)); exact HO119.out) hb); have n1_ := Aside0.mk (blk_below (g := gb108) (o := .cells #[.int .i64 1, .int .i64 0, .int .u32 7, .int .u32 0] 24 (0, 0)) (by (with_reducible repeat (first | refine blk_drewN ?_ _ | refine blk_drew ?_ | refine blk_alloc ?_ _)); exact BK108.out) hb); have n2_ := Aside0.mk (blk_below (g := gb127) (o := .cells #[.int .i64 0, .bool false, .bool false, .bool false, .int .i64 0, .int .i64 0, .int .u32 0, .int .u32 0, .slice none 0 0] 27 (0, 0)) (by (with_reducible repeat (first | refine blk_drewN ?_ _ | refine blk_drew ?_ | refine blk_alloc ?_ _)); exact BK127.out) hb); have n3_ := Aside0.mk (below_step (by repeat (first | (with_reducible first | exact HB.out | apply below_alloc | apply pw_below_drewN | apply below_drew1 | refine below_set ?_ GE108.out | refine below_set ?_ GE127.out) | exact HB.out)) hb); have n4_ := Aside0.mk (hbox); have n5_ := Aside0.mk ((by rw [hg]; exact (below_size (by repeat (first | (with_reducible first | exact HB.out | apply below_alloc | apply pw_below_drewN | apply below_drew1 | refine below_set ?_ GE108.out | refine below_set ?_ GE127.out) | exact HB.out))) : w.heap.size ≤ gb128)); have n6_ := Aside0.mk ((by rw [hg]; exact (below_size (by repeat (first | (with_reducible first | exact HB.out | apply below_alloc | apply pw_below_drewN | apply below_drew1 | refine below_set ?_ GE108.out | refine below_set ?_ GE127.out) | exact HB.out))) : w.heap.size ≤ gb128)); have n7_ := Aside0.mk ((by rw [hg]; exact Nat.ne_of_lt (blk_lt (g := gb108) (o := .cells #[.int .i64 1, .int .i64 0, .int .u32 7, .int .u32 0] 24 (0, 0)) (by (with_reducible repeat (first | refine blk_drewN ?_ _ | refine blk_drew ?_ | refine blk_alloc ?_ _)); exact BK108.out)) : gb108 ≠ gb128)); have n8_ := Aside0.mk ((by rw [hg]; exact Nat.ne_of_gt (blk_lt (g := gb108) (o := .cells #[.int .i64 1, .int .i64 0, .int .u32 7, .int .u32 0] 24 (0, 0)) (by (with_reducible repeat (first | refine blk_drewN ?_ _ | refine blk_drew ?_ | refine blk_alloc ?_ _)); exact BK108.out)) : gb128 ≠ gb108)); have n9_ := Aside0.mk ((by rw [hg]; exact Nat.ne_of_lt (blk_lt (g := gb127) (o := .cells #[.int .i64 0, .bool false, .bool false, .bool false, .int .i64 0, .int .i64 0, .int .u32 0, .int .u32 0, .slice none 0 0] 27 (0, 0)) (by (with_reducible repeat (first | refine blk_drewN ?_ _ | refine blk_drew ?_ | refine blk_alloc ?_ _)); exact BK127.out)) : gb127 ≠ gb128)); have n10_ := Aside0.mk ((by rw [hg]; exact Nat.ne_of_gt (blk_lt (g := gb127) (o := .cells #[.int .i64 0, .bool false, .bool false, .bool false, .int .i64 0, .int .i64 0, .int .u32 0, .int .u32 0, .slice none 0 0] 27 (0, 0)) (by (with_reducible repeat (first | refine blk_drewN ?_ _ | refine blk_drew ?_ | refine blk_alloc ?_ _)); exact BK127.out)) : gb128 ≠ gb127)); clear HO119; clear BK108; clear BK127; clear HB; have HO119 := n0_; have BK108 := n1_; have BK127 := n2_; have HB := n3_; have BK128 := n4_; have GW128 := n5_; have GE128 := n6_; have NB108_128 := n7_; have NB128_108 := n8_; have NB127_128 := n9_; have NB128_127 := n10_; clear n0_ n1_ n2_ n3_ n4_ n5_ n6_ n7_ n8_ n9_ n10_; clear hb hbox hg; have hnb20 := NB127_108.out; have hnc20 := NB108_127.out; have hnb21 := NB127_128.out; have hnc21 := NB128_127.out; have hcz22_0 : w19.cell? ⟨gb127, 0, none⟩ = some (.int .i64 0) := (blk_cell BK127.out 0).trans rfl; have hcz22_1 : w19.cell? ⟨gb127, 1, none⟩ = some (.bool false) := (blk_cell BK127.out 1).trans rfl; have hcz22_2 : w19.cell? ⟨gb127, 2, none⟩ = some (.bool false) := (blk_cell BK127.out 2).trans rfl; have hcz22_3 : w19.cell? ⟨gb127, 3, none⟩ = some (.bool false) := (blk_cell BK127.out 3).trans rfl; have hcz22_4 : w19.cell? ⟨gb127, 4, none⟩ = some (.int .i64 0) := (blk_cell BK127.out 4).trans rfl; have hcz22_5 : w19.cell? ⟨gb127, 5, none⟩ = some (.int .i64 0) := (blk_cell BK127.out 5).trans rfl; have hcz22_6 : w19.cell? ⟨gb127, 6, none⟩ = some (.int .u32 0) := (blk_cell BK127.out 6).trans rfl; have hcz22_7 : w19.cell? ⟨gb127, 7, none⟩ = some (.int .u32 0) := (blk_cell BK127.out 7).trans rfl; have hcz22_8 : w19.cell? ⟨gb127, 8, none⟩ = some (.slice none 0 0) := (blk_cell BK127.out 8).trans rfl; have hfz22_0 := blk_frozen BK127.out 0; have hfz22_1 := blk_frozen BK127.out 1; have hfz22_2 := blk_frozen BK127.out 2; have hfz22_3 := blk_frozen BK127.out 3; have hfz22_4 := blk_frozen BK127.out 4; have hfz22_5 := blk_frozen BK127.out 5; have hfz22_6 := blk_frozen BK127.out 6; have hfz22_7 := blk_frozen BK127.out 7; have hfz22_8 := blk_frozen BK127.out 8; obtain ⟨Ao23, co23, eo23⟩ := Kd.R_slice HO119.out; subst eo23; have hnb24 := NB128_108.out; have hnc24 := NB108_128.out; have hcz25_0 : w19.cell? ⟨gb128, 0, none⟩ = some (.bool false) := (blk_cell BK128.out 0).trans rfl; have hcz25_1 : w19.cell? ⟨gb128, 1, none⟩ = some (.bool false) := (blk_cell BK128.out 1).trans rfl; have hcz25_2 : w19.cell? ⟨gb128, 2, none⟩ = some (.int .i64 0) := (blk_cell BK128.out 2).trans rfl; have hcz25_3 : w19.cell? ⟨gb128, 3, none⟩ = some (.int .i64 0) := (blk_cell BK128.out 3).trans rfl; have hcz25_4 : w19.cell? ⟨gb128, 4, none⟩ = some (.int .u32 0) := (blk_cell BK128.out 4).trans rfl; have hcz25_5 : w19.cell? ⟨gb128, 5, none⟩ = some (.int .u32 0) := (blk_cell BK128.out 5).trans rfl; have hfz25_0 := blk_frozen BK128.out 0; have hfz25_1 := blk_frozen BK128.out 1; have hfz25_2 := blk_frozen BK128.out 2; have hfz25_3 := blk_frozen BK128.out 3; have hfz25_4 := blk_frozen BK128.out 4; have hfz25_5 := blk_frozen BK128.out 5; have hcz26_0 : w19.cell? ⟨gb108, 0, none⟩ = some (.int .i64 1) := (blk_cell BK108.out 0).trans rfl; have hcz26_1 : w19.cell? ⟨gb108, 1, none⟩ = some (.int .i64 0) := (blk_cell BK108.out 1).trans rfl; have hcz26_2 : w19.cell? ⟨gb108, 2, none⟩ = some (.int .u32 7) := (blk_cell BK108.out 2).trans rfl; have hcz26_3 : w19.cell? ⟨gb108, 3, none⟩ = some (.int .u32 0) := (blk_cell BK108.out 3).trans rfl; have hfz26_0 := blk_frozen BK108.out 0; have hfz26_1 := blk_frozen BK108.out 1; have hfz26_2 := blk_frozen BK108.out 2; have hfz26_3 := blk_frozen BK108.out 3) | ((with_reducible refine gate_callee (f := 10) rfl ?_); refine goesL_ (some 25) rfl rfl Try.func10 (by kernel_rfl) rfl #[.agg #[.int .i64 t109, .bool t110, .bool t111, .bool t112, .int .i64 t113, .int .i64 t114, .int .u32 t115, .int .u32 t116, .slice Ao23 t117.length co23], .agg #[.int .i64 1, .int .i64 0, .int .u32 7, .int .u32 0]] rfl (by (try simp only [List.map_toArray, List.map_cons, List.map_nil]); first | done | rfl | (simp only [List.length_drop, List.length_take]; rfl)) ?_; (with_reducible refine (signal_Send.calls t109 t110 t111 t112 t113 t114 t115 t116 _ _ t117 1 0 7 0 t129 t130 t131 true t133 t134 t135 t136 t137 t140 false t142 t143 t144 t145 t146 _ ?side1 ?side2 A2.out).mono ?_); (case side1 => refine (Kd.R_reads' (e := 4) (base := w.heap.size) (ok := fun k_ => True) (n := t117.length) (c := co23) ?_).2.2; exact (by (with_reducible repeat (first | apply Kd.R_alloc | apply Kd.R_drewN | apply Kd.R_drew)); exact (Kd.R_mono (Kd.R_mono (RF6_ (g := gb128) (RF9_ (g := gb127) (Kd.R_types (Kd.R_types HO119.out BK127.out (by decide)) BK128.out (by decide)) (fun _ hk => hk.1.2) _ _ _ _ _ _ _ _ _) (fun _ hk => hk.2) _ _ _ _ _ _) (fun _ h_ => h_.1)) (fun _ h_ => h_.1)))); (case side2 => exact (Kd.R_reads' HO119.out).2.1); rintro e w27 ⟨v138, rfl, ho0, hb⟩; refine ⟨_, rfl, ?_⟩; have n0_ := Aside0.mk (Kd.R_elder' (by (with_reducible repeat (first | apply Kd.R_alloc | apply Kd.R_drewN | apply Kd.R_drew)); exact (Kd.R_mono (Kd.R_mono (RF6_ (g := gb128) (RF9_ (g := gb127) (Kd.R_types (Kd.R_types HO119.out BK127.out (by decide)) BK128.out (by decide)) (fun _ hk => hk.1.2) _ _ _ _ _ _ _ _ _) (fun _ hk => hk.2) _ _ _ _ _ _) (fun _ h_ => h_.1)) (fun _ h_ => h_.1))) (Kd.R_base ho0) hb); have n1_ := Aside0.mk (Kd.R_lower (Kd.R_new' ho0 (Kd.R_lt (by (with_reducible repeat (first | apply Kd.R_alloc | apply Kd.R_drewN | apply Kd.R_drew)); exact (Kd.R_mono (Kd.R_mono (RF6_ (g := gb128) (RF9_ (g := gb127) (Kd.R_types (Kd.R_types HO119.out BK127.out (by decide)) BK128.out (by decide)) (fun _ hk => hk.1.2) _ _ _ _ _ _ _ _ _) (fun _ hk => hk.2) _ _ _ _ _ _) (fun _ h_ => h_.1)) (fun _ h_ => h_.1))))) (below_size (by repeat (first | (with_reducible first | exact HB.out | apply below_alloc | apply pw_below_drewN | apply below_drew1 | refine below_set ?_ GE108.out | refine below_set ?_ GE127.out | refine below_set ?_ GE128.out) | exact HB.out)))); have n2_ := Aside0.mk (blk_below (g := gb108) (o := .cells #[.int .i64 1, .int .i64 0, .int .u32 7, .int .u32 0] 24 (0, 0)) (by (with_reducible repeat (first | refine blk_drewN ?_ _ | refine blk_drew ?_ | refine blk_alloc ?_ _)); (iterate 6 (refine blk_far ?_ NB108_128.out _; (with_reducible repeat (first | refine blk_drewN ?_ _ | refine blk_drew ?_ | refine blk_alloc ?_ _)))); (iterate 9 (refine blk_far ?_ NB108_127.out _; (with_reducible repeat (first | refine blk_drewN ?_ _ | refine blk_drew ?_ | refine blk_alloc ?_ _)))); exact BK108.out) hb); have n3_ := Aside0.mk (blk_below (g := gb127) (o := .cells #[.int .i64 t109, .bool t110, .bool t111, .bool t112, .int .i64 t113, .int .i64 t114, .int .u32 t115, .int .u32 t116, .slice Ao23 t117.length co23] 27 (0, 0)) (by (with_reducible repeat (first | refine blk_drewN ?_ _ | refine blk_drew ?_ | refine blk_alloc ?_ _)); (iterate 6 (refine blk_far ?_ NB127_128.out _; (with_reducible repeat (first | refine blk_drewN ?_ _ | refine blk_drew ?_ | refine blk_alloc ?_ _)))); apply PT9_; (with_reducible repeat (first | refine blk_drewN ?_ _ | refine blk_drew ?_ | refine blk_alloc ?_ _)); exact BK127.out) hb); have n4_ := Aside0.mk (blk_below (g := gb128) (o := .cells #[.bool t120, .bool true, .int .i64 t122, .int .i64 t123, .int .u32 t124, .int .u32 t125] 33 (0, 0)) (by (with_reducible repeat (first | refine blk_drewN ?_ _ | refine blk_drew ?_ | refine blk_alloc ?_ _)); apply PT6_; (with_reducible repeat (first | refine blk_drewN ?_ _ | refine blk_drew ?_ | refine blk_alloc ?_ _)); (iterate 9 (refine blk_far ?_ NB128_127.out _; (with_reducible repeat (first | refine blk_drewN ?_ _ | refine blk_drew ?_ | refine blk_alloc ?_ _)))); exact BK128.out) hb); have n5_ := Aside0.mk (below_step (by repeat (first | (with_reducible first | exact HB.out | apply below_alloc | apply pw_below_drewN | apply below_drew1 | refine below_set ?_ GE108.out | refine below_set ?_ GE127.out | refine below_set ?_ GE128.out) | exact HB.out)) hb); clear HO119; clear BK108; clear BK127; clear BK128; clear HB; have HO119 := n0_; have HO139 := n1_; have BK108 := n2_; have BK127 := n3_; have BK128 := n4_; have HB := n5_; clear n0_ n1_ n2_ n3_ n4_ n5_; (try clear hb); (try clear hb2); (try clear hk); (try clear hi); (try clear ho0)) | ((with_reducible refine gate_dst (N := 5) rfl ?_); (try (refine gate_guard (by rfl) ?_; dsimp only)); refine box_event ?hg (N := 5) ?hd (cs := #[.int .i64 0, .bool false, .bool false, .bool false, .int .i64 0, .int .i64 0, .int .u32 0, .int .u32 0, .slice none 0 0]) (t := 27) ?hr ?_; (case hd => rfl); (case hg => rfl); (case hr => first | (go_simp; done) | (go_simp; rfl)); intro gb147 hg w28 hbox hb; have n0_ := Aside0.mk (Kd.R_below (by (with_reducible repeat (first | apply Kd.R_alloc | apply Kd.R_drewN | apply Kd.R_drew)); exact HO119.out) hb); have n1_ := Aside0.mk (Kd.R_below (by (with_reducible repeat (first | apply Kd.R_alloc | apply Kd.R_drewN | apply Kd.R_drew)); exact HO139.out) hb); have n2_ := Aside0.mk (blk_below (g := gb108) (o := .cells #[.int .i64 1, .int .i64 0, .int .u32 7, .int .u32 0] 24 (0, 0)) (by (with_reducible repeat (first | refine blk_drewN ?_ _ | refine blk_drew ?_ | refine blk_alloc ?_ _)); exact BK108.out) hb); have n3_ := Aside0.mk (blk_below (g := gb127) (o := .cells #[.int .i64 t109, .bool t110, .bool t111, .bool t112, .int .i64 t113, .int .i64 t114, .int .u32 t115, .int .u32 t116, .slice Ao23 t117.length co23] 27 (0, 0)) (by (with_reducible repeat (first | refine blk_drewN ?_ _ | refine blk_drew ?_ | refine blk_alloc ?_ _)); exact BK127.out) hb); have n4_ := Aside0.mk (blk_below (g := gb128) (o := .cells #[.bool t120, .bool true, .int .i64 t122, .int .i64 t123, .int .u32 t124, .int .u32 t125] 33 (0, 0)) (by (with_reducible repeat (first | refine blk_drewN ?_ _ | refine blk_drew ?_ | refine blk_alloc ?_ _)); exact BK128.out) hb); have n5_ := Aside0.mk (below_step (by repeat (first | (with_reducible first | exact HB.out | apply below_alloc | apply pw_below_drewN | apply below_drew1 | refine below_set ?_ GE108.out | refine below_set ?_ GE127.out | refine below_set ?_ GE128.out) | exact HB.out)) hb); have n6_ := Aside0.mk (hbox); have n7_ := Aside0.mk ((by rw [hg]; exact (below_size (by repeat (first | (with_reducible first | exact HB.out | apply below_alloc | apply pw_below_drewN | apply below_drew1 | refine below_set ?_ GE108.out | refine below_set ?_ GE127.out | refine below_set ?_ GE128.out) | exact HB.out))) : w.heap.size ≤ gb147)); have n8_ := Aside0.mk ((by rw [hg]; exact (below_size (by repeat (first | (with_reducible first | exact HB.out | apply below_alloc | apply pw_below_drewN | apply below_drew1 | refine below_set ?_ GE108.out | refine below_set ?_ GE127.out | refine below_set ?_ GE128.out) | exact HB.out))) : w.heap.size ≤ gb147)); have n9_ := Aside0.mk ((by rw [hg]; exact Nat.ne_of_lt (blk_lt (g := gb108) (o := .cells #[.int .i64 1, .int .i64 0, .int .u32 7, .int .u32 0] 24 (0, 0)) (by (with_reducible repeat (first | refine blk_drewN ?_ _ | refine blk_drew ?_ | refine blk_alloc ?_ _)); exact BK108.out)) : gb108 ≠ gb147)); have n10_ := Aside0.mk ((by rw [hg]; exact Nat.ne_of_gt (blk_lt (g := gb108) (o := .cells #[.int .i64 1, .int .i64 0, .int .u32 7, .int .u32 0] 24 (0, 0)) (by (with_reducible repeat (first | refine blk_drewN ?_ _ | refine blk_drew ?_ | refine blk_alloc ?_ _)); exact BK108.out)) : gb147 ≠ gb108)); have n11_ := Aside0.mk ((by rw [hg]; exact Nat.ne_of_lt (blk_lt (g := gb127) (o := .cells #[.int .i64 t109, .bool t110, .bool t111, .bool t112, .int .i64 t113, .int .i64 t114, .int .u32 t115, .int .u32 t116, .slice Ao23 t117.length co23] 27 (0, 0)) (by (with_reducible repeat (first | refine blk_drewN ?_ _ | refine blk_drew ?_ | refine blk_alloc ?_ _)); exact BK127.out)) : gb127 ≠ gb147)); have n12_ := Aside0.mk ((by rw [hg]; exact Nat.ne_of_gt (blk_lt (g := gb127) (o := .cells #[.int .i64 t109, .bool t110, .bool t111, .bool t112, .int .i64 t113, .int .i64 t114, .int .u32 t115, .int .u32 t116, .slice Ao23 t117.length co23] 27 (0, 0)) (by (with_reducible repeat (first | refine blk_drewN ?_ _ | refine blk_drew ?_ | refine blk_alloc ?_ _)); exact BK127.out)) : gb147 ≠ gb127)); have n13_ := Aside0.mk ((by rw [hg]; exact Nat.ne_of_lt (blk_lt (g := gb128) (o := .cells #[.bool t120, .bool true, .int .i64 t122, .int .i64 t123, .int .u32 t124, .int .u32 t125] 33 (0, 0)) (by (with_reducible repeat (first | refine blk_drewN ?_ _ | refine blk_drew ?_ | refine blk_alloc ?_ _)); exact BK128.out)) : gb128 ≠ gb147)); have n14_ := Aside0.mk ((by rw [hg]; exact Nat.ne_of_gt (blk_lt (g := gb128) (o := .cells #[.bool t120, .bool true, .int .i64 t122, .int .i64 t123, .int .u32 t124, .int .u32 t125] 33 (0, 0)) (by (with_reducible repeat (first | refine blk_drewN ?_ _ | refine blk_drew ?_ | refine blk_alloc ?_ _)); exact BK128.out)) : gb147 ≠ gb128)); clear HO119; clear HO139; clear BK108; clear BK127; clear BK128; clear HB; have HO119 := n0_; have HO139 := n1_; have BK108 := n2_; have BK127 := n3_; have BK128 := n4_; have HB := n5_; have BK147 := n6_; have GW147 := n7_; have GE147 := n8_; have NB108_147 := n9_; have NB147_108 := n10_; have NB127_147 := n11_; have NB147_127 := n12_; have NB128_147 := n13_; have NB147_128 := n14_; clear n0_ n1_ n2_ n3_ n4_ n5_ n6_ n7_ n8_ n9_ n10_ n11_ n12_ n13_ n14_; clear hb hbox hg) | ((with_reducible refine gate_dst (N := 6) rfl ?_); (try (refine gate_guard (by rfl) ?_; dsimp only)); refine box_event ?hg (N := 6) ?hd (cs := #[.bool false, .bool false, .int .i64 0, .int .i64 0, .int .u32 0, .int .u32 0]) (t := 33) ?hr ?_; (case hd => rfl); (case hg => rfl); (case hr => first | (go_simp; done) | (go_simp; rfl)); intro gb148 hg w29 hbox hb; have n0_ := Aside0.mk (Kd.R_below (by (with_reducible repeat (first | apply Kd.R_alloc | apply Kd.R_drewN | apply Kd.R_drew)); exact HO119.out) hb); have n1_ := Aside0.mk (Kd.R_below (by (with_reducible repeat (first | apply Kd.R_alloc | apply Kd.R_drewN | apply Kd.R_drew)); exact HO139.out) hb); have n2_ := Aside0.mk (blk_below (g := gb108) (o := .cells #[.int .i64 1, .int .i64 0, .int .u32 7, .int .u32 0] 24 (0, 0)) (by (with_reducible repeat (first | refine blk_drewN ?_ _ | refine blk_drew ?_ | refine blk_alloc ?_ _)); exact BK108.out) hb); have n3_ := Aside0.mk (blk_below (g := gb127) (o := .cells #[.int .i64 t109, .bool t110, .bool t111, .bool t112, .int .i64 t113, .int .i64 t114, .int .u32 t115, .int .u32 t116, .slice Ao23 t117.length co23] 27 (0, 0)) (by (with_reducible repeat (first | refine blk_drewN ?_ _ | refine blk_drew ?_ | refine blk_alloc ?_ _)); exact BK127.out) hb); have n4_ := Aside0.mk (blk_below (g := gb128) (o := .cells #[.bool t120, .bool true, .int .i64 t122, .int .i64 t123, .int .u32 t124, .int .u32 t125] 33 (0, 0)) (by (with_reducible repeat (first | refine blk_drewN ?_ _ | refine blk_drew ?_ | refine blk_alloc ?_ _)); exact BK128.out) hb); have n5_ := Aside0.mk (blk_below (g := gb147) (o := .cells #[.int .i64 0, .bool false, .bool false, .bool false, .int .i64 0, .int .i64 0, .int .u32 0, .int .u32 0, .slice none 0 0] 27 (0, 0)) (by (with_reducible repeat (first | refine blk_drewN ?_ _ | refine blk_drew ?_ | refine blk_alloc ?_ _)); exact BK147.out) hb); have n6_ := Aside0.mk (below_step (by repeat (first | (with_reducible first | exact HB.out | apply below_alloc | apply pw_below_drewN | apply below_drew1 | refine below_set ?_ GE108.out | refine below_set ?_ GE127.out | refine below_set ?_ GE128.out | refine below_set ?_ GE147.out) | exact HB.out)) hb); have n7_ := Aside0.mk (hbox); have n8_ := Aside0.mk ((by rw [hg]; exact (below_size (by repeat (first | (with_reducible first | exact HB.out | apply below_alloc | apply pw_below_drewN | apply below_drew1 | refine below_set ?_ GE108.out | refine below_set ?_ GE127.out | refine below_set ?_ GE128.out | refine below_set ?_ GE147.out) | exact HB.out))) : w.heap.size ≤ gb148)); have n9_ := Aside0.mk ((by rw [hg]; exact (below_size (by repeat (first | (with_reducible first | exact HB.out | apply below_alloc | apply pw_below_drewN | apply below_drew1 | refine below_set ?_ GE108.out | refine below_set ?_ GE127.out | refine below_set ?_ GE128.out | refine below_set ?_ GE147.out) | exact HB.out))) : w.heap.size ≤ gb148)); have n10_ := Aside0.mk ((by rw [hg]; exact Nat.ne_of_lt (blk_lt (g := gb108) (o := .cells #[.int .i64 1, .int .i64 0, .int .u32 7, .int .u32 0] 24 (0, 0)) (by (with_reducible repeat (first | refine blk_drewN ?_ _ | refine blk_drew ?_ | refine blk_alloc ?_ _)); exact BK108.out)) : gb108 ≠ gb148)); have n11_ := Aside0.mk ((by rw [hg]; exact Nat.ne_of_gt (blk_lt (g := gb108) (o := .cells #[.int .i64 1, .int .i64 0, .int .u32 7, .int .u32 0] 24 (0, 0)) (by (with_reducible repeat (first | refine blk_drewN ?_ _ | refine blk_drew ?_ | refine blk_alloc ?_ _)); exact BK108.out)) : gb148 ≠ gb108)); have n12_ := Aside0.mk ((by rw [hg]; exact Nat.ne_of_lt (blk_lt (g := gb127) (o := .cells #[.int .i64 t109, .bool t110, .bool t111, .bool t112, .int .i64 t113, .int .i64 t114, .int .u32 t115, .int .u32 t116, .slice Ao23 t117.length co23] 27 (0, 0)) (by (with_reducible repeat (first | refine blk_drewN ?_ _ | refine blk_drew ?_ | refine blk_alloc ?_ _)); exact BK127.out)) : gb127 ≠ gb148)); have n13_ := Aside0.mk ((by rw [hg]; exact Nat.ne_of_gt (blk_lt (g := gb127) (o := .cells #[.int .i64 t109, .bool t110, .bool t111, .bool t112, .int .i64 t113, .int .i64 t114, .int .u32 t115, .int .u32 t116, .slice Ao23 t117.length co23] 27 (0, 0)) (by (with_reducible repeat (first | refine blk_drewN ?_ _ | refine blk_drew ?_ | refine blk_alloc ?_ _)); exact BK127.out)) : gb148 ≠ gb127)); have n14_ := Aside0.mk ((by rw [hg]; exact Nat.ne_of_lt (blk_lt (g := gb128) (o := .cells #[.bool t120, .bool true, .int .i64 t122, .int .i64 t123, .int .u32 t124, .int .u32 t125] 33 (0, 0)) (by (with_reducible repeat (first | refine blk_drewN ?_ _ | refine blk_drew ?_ | refine blk_alloc ?_ _)); exact BK128.out)) : gb128 ≠ gb148)); have n15_ := Aside0.mk ((by rw [hg]; exact Nat.ne_of_gt (blk_lt (g := gb128) (o := .cells #[.bool t120, .bool true, .int .i64 t122, .int .i64 t123, .int .u32 t124, .int .u32 t125] 33 (0, 0)) (by (with_reducible repeat (first | refine blk_drewN ?_ _ | refine blk_drew ?_ | refine blk_alloc ?_ _)); exact BK128.out)) : gb148 ≠ gb128)); have n16_ := Aside0.mk ((by rw [hg]; exact Nat.ne_of_lt (blk_lt (g := gb147) (o := .cells #[.int .i64 0, .bool false, .bool false, .bool false, .int .i64 0, .int .i64 0, .int .u32 0, .int .u32 0, .slice none 0 0] 27 (0, 0)) (by (with_reducible repeat (first | refine blk_drewN ?_ _ | refine blk_drew ?_ | refine blk_alloc ?_ _)); exact BK147.out)) : gb147 ≠ gb148)); have n17_ := Aside0.mk ((by rw [hg]; exact Nat.ne_of_gt (blk_lt (g := gb147) (o := .cells #[.int .i64 0, .bool false, .bool false, .bool false, .int .i64 0, .int .i64 0, .int .u32 0, .int .u32 0, .slice none 0 0] 27 (0, 0)) (by (with_reducible repeat (first | refine blk_drewN ?_ _ | refine blk_drew ?_ | refine blk_alloc ?_ _)); exact BK147.out)) : gb148 ≠ gb147)); clear HO119; clear HO139; clear BK108; clear BK127; clear BK128; clear BK147; clear HB; have HO119 := n0_; have HO139 := n1_; have BK108 := n2_; have BK127 := n3_; have BK128 := n4_; have BK147 := n5_; have HB := n6_; have BK148 := n7_; have GW148 := n8_; have GE148 := n9_; have NB108_148 := n10_; have NB148_108 := n11_; have NB127_148 := n12_; have NB148_127 := n13_; have NB128_148 := n14_; have NB148_128 := n15_; have NB147_148 := n16_; have NB148_147 := n17_; clear n0_ n1_ n2_ n3_ n4_ n5_ n6_ n7_ n8_ n9_ n10_ n11_ n12_ n13_ n14_ n15_ n16_ n17_; clear hb hbox hg; have hnb30 := NB147_108.out; have hnc30 := NB108_147.out; have hnb31 := NB147_127.out; have hnc31 := NB127_147.out; have hnb32 := NB147_128.out; have hnc32 := NB128_147.out; have hnb33 := NB147_148.out; have hnc33 := NB148_147.out; have hcz34_0 : w29.cell? ⟨gb147, 0, none⟩ = some (.int .i64 0) := (blk_cell BK147.out 0).trans rfl; have hcz34_1 : w29.cell? ⟨gb147, 1, none⟩ = some (.bool false) := (blk_cell BK147.out 1).trans rfl; have hcz34_2 : w29.cell? ⟨gb147, 2, none⟩ = some (.bool false) := (blk_cell BK147.out 2).trans rfl; have hcz34_3 : w29.cell? ⟨gb147, 3, none⟩ = some (.bool false) := (blk_cell BK147.out 3).trans rfl; have hcz34_4 : w29.cell? ⟨gb147, 4, none⟩ = some (.int .i64 0) := (blk_cell BK147.out 4).trans rfl; have hcz34_5 : w29.cell? ⟨gb147, 5, none⟩ = some (.int .i64 0) := (blk_cell BK147.out 5).trans rfl; have hcz34_6 : w29.cell? ⟨gb147, 6, none⟩ = some (.int .u32 0) := (blk_cell BK147.out 6).trans rfl; have hcz34_7 : w29.cell? ⟨gb147, 7, none⟩ = some (.int .u32 0) := (blk_cell BK147.out 7).trans rfl; have hcz34_8 : w29.cell? ⟨gb147, 8, none⟩ = some (.slice none 0 0) := (blk_cell BK147.out 8).trans rfl; have hfz34_0 := blk_frozen BK147.out 0; have hfz34_1 := blk_frozen BK147.out 1; have hfz34_2 := blk_frozen BK147.out 2; have hfz34_3 := blk_frozen BK147.out 3; have hfz34_4 := blk_frozen BK147.out 4; have hfz34_5 := blk_frozen BK147.out 5; have hfz34_6 := blk_frozen BK147.out 6; have hfz34_7 := blk_frozen BK147.out 7; have hfz34_8 := blk_frozen BK147.out 8; obtain ⟨Ao35, co35, eo35⟩ := Kd.R_slice HO139.out; subst eo35; have hnb36 := NB148_108.out; have hnc36 := NB108_148.out; have hnb37 := NB148_127.out; have hnc37 := NB127_148.out; have hnb38 := NB148_128.out; have hnc38 := NB128_148.out; have hcz39_0 : w29.cell? ⟨gb148, 0, none⟩ = some (.bool false) := (blk_cell BK148.out 0).trans rfl; have hcz39_1 : w29.cell? ⟨gb148, 1, none⟩ = some (.bool false) := (blk_cell BK148.out 1).trans rfl; have hcz39_2 : w29.cell? ⟨gb148, 2, none⟩ = some (.int .i64 0) := (blk_cell BK148.out 2).trans rfl; have hcz39_3 : w29.cell? ⟨gb148, 3, none⟩ = some (.int .i64 0) := (blk_cell BK148.out 3).trans rfl; have hcz39_4 : w29.cell? ⟨gb148, 4, none⟩ = some (.int .u32 0) := (blk_cell BK148.out 4).trans rfl; have hcz39_5 : w29.cell? ⟨gb148, 5, none⟩ = some (.int .u32 0) := (blk_cell BK148.out 5).trans rfl; have hfz39_0 := blk_frozen BK148.out 0; have hfz39_1 := blk_frozen BK148.out 1; have hfz39_2 := blk_frozen BK148.out 2; have hfz39_3 := blk_frozen BK148.out 3; have hfz39_4 := blk_frozen BK148.out 4; have hfz39_5 := blk_frozen BK148.out 5) | ((with_reducible refine gate_callee (f := 14) rfl ?_); refine goesL_ (some 31) rfl rfl Try.func14 (by kernel_rfl) rfl #[.agg #[.int .i64 t129, .bool t130, .bool t131, .bool true, .int .i64 t133, .int .i64 t134, .int .u32 t135, .int .u32 t136, .slice Ao35 t137.length co35]] rfl (by (try simp only [List.map_toArray, List.map_cons, List.map_nil]); first | done | rfl | (simp only [List.length_drop, List.length_take]; rfl)) ?_; (with_reducible refine (signal_Return.calls t129 t130 t131 true t133 t134 t135 t136 _ _ t137 t149 t150 t151 t152 t153 t154 t155 t156 t157 t160 true t162 t163 t164 t165 t166 _ ?side1 ?side2 A3.out).mono ?_); (case side1 => refine (Kd.R_reads' (e := 4) (base := w.heap.size) (ok := fun k_ => (True ∧ some k_ ≠ (.slice Ao23 t117.length co23 : Value).ownBlock)) (n := t137.length) (c := co35) ?_).2.2; exact (by (with_reducible repeat (first | apply Kd.R_alloc | apply Kd.R_drewN | apply Kd.R_drew)); exact (Kd.R_mono (Kd.R_mono (RF6_ (g := gb148) (RF9_ (g := gb147) (Kd.R_types (Kd.R_types HO139.out BK147.out (by decide)) BK148.out (by decide)) (fun _ hk => hk.1.2) _ _ _ _ _ _ _ _ _) (fun _ hk => hk.2) _ _ _ _ _ _) (fun _ h_ => h_.1)) (fun _ h_ => h_.1)))); (case side2 => exact (Kd.R_reads' HO139.out).2.1); rintro e w40 ⟨v158, rfl, ho0, hb⟩; refine ⟨_, rfl, ?_⟩; have n0_ := Aside0.mk (Kd.R_elder' (by (with_reducible repeat (first | apply Kd.R_alloc | apply Kd.R_drewN | apply Kd.R_drew)); exact (Kd.R_mono (Kd.R_mono (RF6_ (g := gb148) (RF9_ (g := gb147) (Kd.R_types (Kd.R_types HO119.out BK147.out (by decide)) BK148.out (by decide)) (fun _ hk => hk.1.2) _ _ _ _ _ _ _ _ _) (fun _ hk => hk.2) _ _ _ _ _ _) (fun _ h_ => h_.1)) (fun _ h_ => h_.1))) (Kd.R_base ho0) hb); have n1_ := Aside0.mk (Kd.R_elder' (by (with_reducible repeat (first | apply Kd.R_alloc | apply Kd.R_drewN | apply Kd.R_drew)); exact (Kd.R_mono (Kd.R_mono (RF6_ (g := gb148) (RF9_ (g := gb147) (Kd.R_types (Kd.R_types HO139.out BK147.out (by decide)) BK148.out (by decide)) (fun _ hk => hk.1.2) _ _ _ _ _ _ _ _ _) (fun _ hk => hk.2) _ _ _ _ _ _) (fun _ h_ => h_.1)) (fun _ h_ => h_.1))) (Kd.R_base ho0) hb); have n2_ := Aside0.mk (Kd.R_lower (Kd.R_new' (Kd.R_new' ho0 (Kd.R_lt (by (with_reducible repeat (first | apply Kd.R_alloc | apply Kd.R_drewN | apply Kd.R_drew)); exact (Kd.R_mono (Kd.R_mono (RF6_ (g := gb148) (RF9_ (g := gb147) (Kd.R_types (Kd.R_types HO119.out BK147.out (by decide)) BK148.out (by decide)) (fun _ hk => hk.1.2) _ _ _ _ _ _ _ _ _) (fun _ hk => hk.2) _ _ _ _ _ _) (fun _ h_ => h_.1)) (fun _ h_ => h_.1))))) (Kd.R_lt (by (with_reducible repeat (first | apply Kd.R_alloc | apply Kd.R_drewN | apply Kd.R_drew)); exact (Kd.R_mono (Kd.R_mono (RF6_ (g := gb148) (RF9_ (g := gb147) (Kd.R_types (Kd.R_types HO139.out BK147.out (by decide)) BK148.out (by decide)) (fun _ hk => hk.1.2) _ _ _ _ _ _ _ _ _) (fun _ hk => hk.2) _ _ _ _ _ _) (fun _ h_ => h_.1)) (fun _ h_ => h_.1))))) (below_size (by repeat (first | (with_reducible first | exact HB.out | apply below_alloc | apply pw_below_drewN | apply below_drew1 | refine below_set ?_ GE108.out | refine below_set ?_ GE127.out | refine below_set ?_ GE128.out | refine below_set ?_ GE147.out | refine below_set ?_ GE148.out) | exact HB.out)))); have n3_ := Aside0.mk (blk_below (g := gb108) (o := .cells #[.int .i64 1, .int .i64 0, .int .u32 7, .int .u32 0] 24 (0, 0)) (by (with_reducible repeat (first | refine blk_drewN ?_ _ | refine blk_drew ?_ | refine blk_alloc ?_ _)); (iterate 6 (refine blk_far ?_ NB108_148.out _; (with_reducible repeat (first | refine blk_drewN ?_ _ | refine blk_drew ?_ | refine blk_alloc ?_ _)))); (iterate 9 (refine blk_far ?_ NB108_147.out _; (with_reducible repeat (first | refine blk_drewN ?_ _ | refine blk_drew ?_ | refine blk_alloc ?_ _)))); exact BK108.out) hb); have n4_ := Aside0.mk (blk_below (g := gb127) (o := .cells #[.int .i64 t109, .bool t110, .bool t111, .bool t112, .int .i64 t113, .int .i64 t114, .int .u32 t115, .int .u32 t116, .slice Ao23 t117.length co23] 27 (0, 0)) (by (with_reducible repeat (first | refine blk_drewN ?_ _ | refine blk_drew ?_ | refine blk_alloc ?_ _)); (iterate 6 (refine blk_far ?_ NB127_148.out _; (with_reducible repeat (first | refine blk_drewN ?_ _ | refine blk_drew ?_ | refine blk_alloc ?_ _)))); (iterate 9 (refine blk_far ?_ NB127_147.out _; (with_reducible repeat (first | refine blk_drewN ?_ _ | refine blk_drew ?_ | refine blk_alloc ?_ _)))); exact BK127.out) hb); have n5_ := Aside0.mk (blk_below (g := gb128) (o := .cells #[.bool t120, .bool true, .int .i64 t122, .int .i64 t123, .int .u32 t124, .int .u32 t125] 33 (0, 0)) (by (with_reducible repeat (first | refine blk_drewN ?_ _ | refine blk_drew ?_ | refine blk_alloc ?_ _)); (iterate 6 (refine blk_far ?_ NB128_148.out _; (with_reducible repeat (first | refine blk_drewN ?_ _ | refine blk_drew ?_ | refine blk_alloc ?_ _)))); (iterate 9 (refine blk_far ?_ NB128_147.out _; (with_reducible repeat (first | refine blk_drewN ?_ _ | refine blk_drew ?_ | refine blk_alloc ?_ _)))); exact BK128.out) hb); have n6_ := Aside0.mk (blk_below (g := gb147) (o := .cells #[.int .i64 t129, .bool t130, .bool t131, .bool true, .int .i64 t133, .int .i64 t134, .int .u32 t135, .int .u32 t136, .slice Ao35 t137.length co35] 27 (0, 0)) (by (with_reducible repeat (first | refine blk_drewN ?_ _ | refine blk_drew ?_ | refine blk_alloc ?_ _)); (iterate 6 (refine blk_far ?_ NB147_148.out _; (with_reducible repeat (first | refine blk_drewN ?_ _ | refine blk_drew ?_ | refine blk_alloc ?_ _)))); apply PT9_; (with_reducible repeat (first | refine blk_drewN ?_ _ | refine blk_drew ?_ | refine blk_alloc ?_ _)); exact BK147.out) hb); have n7_ := Aside0.mk (blk_below (g := gb148) (o := .cells #[.bool t140, .bool false, .int .i64 t142, .int .i64 t143, .int .u32 t144, .int .u32 t145] 33 (0, 0)) (by (with_reducible repeat (first | refine blk_drewN ?_ _ | refine blk_drew ?_ | refine blk_alloc ?_ _)); apply PT6_; (with_reducible repeat (first | refine blk_drewN ?_ _ | refine blk_drew ?_ | refine blk_alloc ?_ _)); (iterate 9 (refine blk_far ?_ NB148_147.out _; (with_reducible repeat (first | refine blk_drewN ?_ _ | refine blk_drew ?_ | refine blk_alloc ?_ _)))); exact BK148.out) hb); have n8_ := Aside0.mk (below_step (by repeat (first | (with_reducible first | exact HB.out | apply below_alloc | apply pw_below_drewN | apply below_drew1 | refine below_set ?_ GE108.out | refine below_set ?_ GE127.out | refine below_set ?_ GE128.out | refine below_set ?_ GE147.out | refine below_set ?_ GE148.out) | exact HB.out)) hb); clear HO119; clear HO139; clear BK108; clear BK127; clear BK128; clear BK147; clear BK148; clear HB; have HO119 := n0_; have HO139 := n1_; have HO159 := n2_; have BK108 := n3_; have BK127 := n4_; have BK128 := n5_; have BK147 := n6_; have BK148 := n7_; have HB := n8_; clear n0_ n1_ n2_ n3_ n4_ n5_ n6_ n7_ n8_; (try clear hb); (try clear hb2); (try clear hk); (try clear hi); (try clear ho0)) | ((with_reducible refine gate_dst (N := 8) rfl ?_); (try (refine gate_guard (by rfl) ?_; dsimp only)); refine box_event ?hg (N := 8) ?hd (cs := #[.int .i64 0, .bool false, .bool false, .bool false, .int .i64 0, .int .i64 0, .int .u32 0, .int .u32 0, .slice none 0 0]) (t := 27) ?hr ?_; (case hd => rfl); (case hg => rfl); (case hr => first | (go_simp; done) | (go_simp; rfl)); intro gb167 hg w41 hbox hb; have n0_ := Aside0.mk (Kd.R_below (by (with_reducible repeat (first | apply Kd.R_alloc | apply Kd.R_drewN | apply Kd.R_drew)); exact HO119.out) hb); have n1_ := Aside0.mk (Kd.R_below (by (with_reducible repeat (first | apply Kd.R_alloc | apply Kd.R_drewN | apply Kd.R_drew)); exact HO139.out) hb); have n2_ := Aside0.mk (Kd.R_below (by (with_reducible repeat (first | apply Kd.R_alloc | apply Kd.R_drewN | apply Kd.R_drew)); exact HO159.out) hb); have n3_ := Aside0.mk (blk_below (g := gb108) (o := .cells #[.int .i64 1, .int .i64 0, .int .u32 7, .int .u32 0] 24 (0, 0)) (by (with_reducible repeat (first | refine blk_drewN ?_ _ | refine blk_drew ?_ | refine blk_alloc ?_ _)); exact BK108.out) hb); have n4_ := Aside0.mk (blk_below (g := gb127) (o := .cells #[.int .i64 t109, .bool t110, .bool t111, .bool t112, .int .i64 t113, .int .i64 t114, .int .u32 t115, .int .u32 t116, .slice Ao23 t117.length co23] 27 (0, 0)) (by (with_reducible repeat (first | refine blk_drewN ?_ _ | refine blk_drew ?_ | refine blk_alloc ?_ _)); exact BK127.out) hb); have n5_ := Aside0.mk (blk_below (g := gb128) (o := .cells #[.bool t120, .bool true, .int .i64 t122, .int .i64 t123, .int .u32 t124, .int .u32 t125] 33 (0, 0)) (by (with_reducible repeat (first | refine blk_drewN ?_ _ | refine blk_drew ?_ | refine blk_alloc ?_ _)); exact BK128.out) hb); have n6_ := Aside0.mk (blk_below (g := gb147) (o := .cells #[.int .i64 t129, .bool t130, .bool t131, .bool true, .int .i64 t133, .int .i64 t134, .int .u32 t135, .int .u32 t136, .slice Ao35 t137.length co35] 27 (0, 0)) (by (with_reducible repeat (first | refine blk_drewN ?_ _ | refine blk_drew ?_ | refine blk_alloc ?_ _)); exact BK147.out) hb); have n7_ := Aside0.mk (blk_below (g := gb148) (o := .cells #[.bool t140, .bool false, .int .i64 t142, .int .i64 t143, .int .u32 t144, .int .u32 t145] 33 (0, 0)) (by (with_reducible repeat (first | refine blk_drewN ?_ _ | refine blk_drew ?_ | refine blk_alloc ?_ _)); exact BK148.out) hb); have n8_ := Aside0.mk (below_step (by repeat (first | (with_reducible first | exact HB.out | apply below_alloc | apply pw_below_drewN | apply below_drew1 | refine below_set ?_ GE108.out | refine below_set ?_ GE127.out | refine below_set ?_ GE128.out | refine below_set ?_ GE147.out | refine below_set ?_ GE148.out) | exact HB.out)) hb); have n9_ := Aside0.mk (hbox); have n10_ := Aside0.mk ((by rw [hg]; exact (below_size (by repeat (first | (with_reducible first | exact HB.out | apply below_alloc | apply pw_below_drewN | apply below_drew1 | refine below_set ?_ GE108.out | refine below_set ?_ GE127.out | refine below_set ?_ GE128.out | refine below_set ?_ GE147.out | refine below_set ?_ GE148.out) | exact HB.out))) : w.heap.size ≤ gb167)); have n11_ := Aside0.mk ((by rw [hg]; exact (below_size (by repeat (first | (with_reducible first | exact HB.out | apply below_alloc | apply pw_below_drewN | apply below_drew1 | refine below_set ?_ GE108.out | refine below_set ?_ GE127.out | refine below_set ?_ GE128.out | refine below_set ?_ GE147.out | refine below_set ?_ GE148.out) | exact HB.out))) : w.heap.size ≤ gb167)); have n12_ := Aside0.mk ((by rw [hg]; exact Nat.ne_of_lt (blk_lt (g := gb108) (o := .cells #[.int .i64 1, .int .i64 0, .int .u32 7, .int .u32 0] 24 (0, 0)) (by (with_reducible repeat (first | refine blk_drewN ?_ _ | refine blk_drew ?_ | refine blk_alloc ?_ _)); exact BK108.out)) : gb108 ≠ gb167)); have n13_ := Aside0.mk ((by rw [hg]; exact Nat.ne_of_gt (blk_lt (g := gb108) (o := .cells #[.int .i64 1, .int .i64 0, .int .u32 7, .int .u32 0] 24 (0, 0)) (by (with_reducible repeat (first | refine blk_drewN ?_ _ | refine blk_drew ?_ | refine blk_alloc ?_ _)); exact BK108.out)) : gb167 ≠ gb108)); have n14_ := Aside0.mk ((by rw [hg]; exact Nat.ne_of_lt (blk_lt (g := gb127) (o := .cells #[.int .i64 t109, .bool t110, .bool t111, .bool t112, .int .i64 t113, .int .i64 t114, .int .u32 t115, .int .u32 t116, .slice Ao23 t117.length co23] 27 (0, 0)) (by (with_reducible repeat (first | refine blk_drewN ?_ _ | refine blk_drew ?_ | refine blk_alloc ?_ _)); exact BK127.out)) : gb127 ≠ gb167)); have n15_ := Aside0.mk ((by rw [hg]; exact Nat.ne_of_gt (blk_lt (g := gb127) (o := .cells #[.int .i64 t109, .bool t110, .bool t111, .bool t112, .int .i64 t113, .int .i64 t114, .int .u32 t115, .int .u32 t116, .slice Ao23 t117.length co23] 27 (0, 0)) (by (with_reducible repeat (first | refine blk_drewN ?_ _ | refine blk_drew ?_ | refine blk_alloc ?_ _)); exact BK127.out)) : gb167 ≠ gb127)); have n16_ := Aside0.mk ((by rw [hg]; exact Nat.ne_of_lt (blk_lt (g := gb128) (o := .cells #[.bool t120, .bool true, .int .i64 t122, .int .i64 t123, .int .u32 t124, .int .u32 t125] 33 (0, 0)) (by (with_reducible repeat (first | refine blk_drewN ?_ _ | refine blk_drew ?_ | refine blk_alloc ?_ _)); exact BK128.out)) : gb128 ≠ gb167)); have n17_ := Aside0.mk ((by rw [hg]; exact Nat.ne_of_gt (blk_lt (g := gb128) (o := .cells #[.bool t120, .bool true, .int .i64 t122, .int .i64 t123, .int .u32 t124, .int .u32 t125] 33 (0, 0)) (by (with_reducible repeat (first | refine blk_drewN ?_ _ | refine blk_drew ?_ | refine blk_alloc ?_ _)); exact BK128.out)) : gb167 ≠ gb128)); have n18_ := Aside0.mk ((by rw [hg]; exact Nat.ne_of_lt (blk_lt (g := gb147) (o := .cells #[.int .i64 t129, .bool t130, .bool t131, .bool true, .int .i64 t133, .int .i64 t134, .int .u32 t135, .int .u32 t136, .slice Ao35 t137.length co35] 27 (0, 0)) (by (with_reducible repeat (first | refine blk_drewN ?_ _ | refine blk_drew ?_ | refine blk_alloc ?_ _)); exact BK147.out)) : gb147 ≠ gb167)); have n19_ := Aside0.mk ((by rw [hg]; exact Nat.ne_of_gt (blk_lt (g := gb147) (o := .cells #[.int .i64 t129, .bool t130, .bool t131, .bool true, .int .i64 t133, .int .i64 t134, .int .u32 t135, .int .u32 t136, .slice Ao35 t137.length co35] 27 (0, 0)) (by (with_reducible repeat (first | refine blk_drewN ?_ _ | refine blk_drew ?_ | refine blk_alloc ?_ _)); exact BK147.out)) : gb167 ≠ gb147)); have n20_ := Aside0.mk ((by rw [hg]; exact Nat.ne_of_lt (blk_lt (g := gb148) (o := .cells #[.bool t140, .bool false, .int .i64 t142, .int .i64 t143, .int .u32 t144, .int .u32 t145] 33 (0, 0)) (by (with_reducible repeat (first | refine blk_drewN ?_ _ | refine blk_drew ?_ | refine blk_alloc ?_ _)); exact BK148.out)) : gb148 ≠ gb167)); have n21_ := Aside0.mk ((by rw [hg]; exact Nat.ne_of_gt (blk_lt (g := gb148) (o := .cells #[.bool t140, .bool false, .int .i64 t142, .int .i64 t143, .int .u32 t144, .int .u32 t145] 33 (0, 0)) (by (with_reducible repeat (first | refine blk_drewN ?_ _ | refine blk_drew ?_ | refine blk_alloc ?_ _)); exact BK148.out)) : gb167 ≠ gb148)); clear HO119; clear HO139; clear HO159; clear BK108; clear BK127; clear BK128; clear BK147; clear BK148; clear HB; have HO119 := n0_; have HO139 := n1_; have HO159 := n2_; have BK108 := n3_; have BK127 := n4_; have BK128 := n5_; have BK147 := n6_; have BK148 := n7_; have HB := n8_; have BK167 := n9_; have GW167 := n10_; have GE167 := n11_; have NB108_167 := n12_; have NB167_108 := n13_; have NB127_167 := n14_; have NB167_127 := n15_; have NB128_167 := n16_; have NB167_128 := n17_; have NB147_167 := n18_; have NB167_147 := n19_; have NB148_167 := n20_; have NB167_148 := n21_; clear n0_ n1_ n2_ n3_ n4_ n5_ n6_ n7_ n8_ n9_ n10_ n11_ n12_ n13_ n14_ n15_ n16_ n17_ n18_ n19_ n20_ n21_; clear hb hbox hg) | ((with_reducible refine gate_dst (N := 9) rfl ?_); (try (refine gate_guard (by rfl) ?_; dsimp only)); refine box_event ?hg (N := 9) ?hd (cs := #[.bool false, .bool false, .int .i64 0, .int .i64 0, .int .u32 0, .int .u32 0]) (t := 33) ?hr ?_; (case hd => rfl); (case hg => rfl); (case hr => first | (go_simp; done) | (go_simp; rfl)); intro gb168 hg w42 hbox hb; have n0_ := Aside0.mk (Kd.R_below (by (with_reducible repeat (first | apply Kd.R_alloc | apply Kd.R_drewN | apply Kd.R_drew)); exact HO119.out) hb); have n1_ := Aside0.mk (Kd.R_below (by (with_reducible repeat (first | apply Kd.R_alloc | apply Kd.R_drewN | apply Kd.R_drew)); exact HO139.out) hb); have n2_ := Aside0.mk (Kd.R_below (by (with_reducible repeat (first | apply Kd.R_alloc | apply Kd.R_drewN | apply Kd.R_drew)); exact HO159.out) hb); have n3_ := Aside0.mk (blk_below (g := gb108) (o := .cells #[.int .i64 1, .int .i64 0, .int .u32 7, .int .u32 0] 24 (0, 0)) (by (with_reducible repeat (first | refine blk_drewN ?_ _ | refine blk_drew ?_ | refine blk_alloc ?_ _)); exact BK108.out) hb); have n4_ := Aside0.mk (blk_below (g := gb127) (o := .cells #[.int .i64 t109, .bool t110, .bool t111, .bool t112, .int .i64 t113, .int .i64 t114, .int .u32 t115, .int .u32 t116, .slice Ao23 t117.length co23] 27 (0, 0)) (by (with_reducible repeat (first | refine blk_drewN ?_ _ | refine blk_drew ?_ | refine blk_alloc ?_ _)); exact BK127.out) hb); have n5_ := Aside0.mk (blk_below (g := gb128) (o := .cells #[.bool t120, .bool true, .int .i64 t122, .int .i64 t123, .int .u32 t124, .int .u32 t125] 33 (0, 0)) (by (with_reducible repeat (first | refine blk_drewN ?_ _ | refine blk_drew ?_ | refine blk_alloc ?_ _)); exact BK128.out) hb); have n6_ := Aside0.mk (blk_below (g := gb147) (o := .cells #[.int .i64 t129, .bool t130, .bool t131, .bool true, .int .i64 t133, .int .i64 t134, .int .u32 t135, .int .u32 t136, .slice Ao35 t137.length co35] 27 (0, 0)) (by (with_reducible repeat (first | refine blk_drewN ?_ _ | refine blk_drew ?_ | refine blk_alloc ?_ _)); exact BK147.out) hb); have n7_ := Aside0.mk (blk_below (g := gb148) (o := .cells #[.bool t140, .bool false, .int .i64 t142, .int .i64 t143, .int .u32 t144, .int .u32 t145] 33 (0, 0)) (by (with_reducible repeat (first | refine blk_drewN ?_ _ | refine blk_drew ?_ | refine blk_alloc ?_ _)); exact BK148.out) hb); have n8_ := Aside0.mk (blk_below (g := gb167) (o := .cells #[.int .i64 0, .bool false, .bool false, .bool false, .int .i64 0, .int .i64 0, .int .u32 0, .int .u32 0, .slice none 0 0] 27 (0, 0)) (by (with_reducible repeat (first | refine blk_drewN ?_ _ | refine blk_drew ?_ | refine blk_alloc ?_ _)); exact BK167.out) hb); have n9_ := Aside0.mk (below_step (by repeat (first | (with_reducible first | exact HB.out | apply below_alloc | apply pw_below_drewN | apply below_drew1 | refine below_set ?_ GE108.out | refine below_set ?_ GE127.out | refine below_set ?_ GE128.out | refine below_set ?_ GE147.out | refine below_set ?_ GE148.out | refine below_set ?_ GE167.out) | exact HB.out)) hb); have n10_ := Aside0.mk (hbox); have n11_ := Aside0.mk ((by rw [hg]; exact (below_size (by repeat (first | (with_reducible first | exact HB.out | apply below_alloc | apply pw_below_drewN | apply below_drew1 | refine below_set ?_ GE108.out | refine below_set ?_ GE127.out | refine below_set ?_ GE128.out | refine below_set ?_ GE147.out | refine below_set ?_ GE148.out | refine below_set ?_ GE167.out) | exact HB.out))) : w.heap.size ≤ gb168)); have n12_ := Aside0.mk ((by rw [hg]; exact (below_size (by repeat (first | (with_reducible first | exact HB.out | apply below_alloc | apply pw_below_drewN | apply below_drew1 | refine below_set ?_ GE108.out | refine below_set ?_ GE127.out | refine below_set ?_ GE128.out | refine below_set ?_ GE147.out | refine below_set ?_ GE148.out | refine below_set ?_ GE167.out) | exact HB.out))) : w.heap.size ≤ gb168)); have n13_ := Aside0.mk ((by rw [hg]; exact Nat.ne_of_lt (blk_lt (g := gb108) (o := .cells #[.int .i64 1, .int .i64 0, .int .u32 7, .int .u32 0] 24 (0, 0)) (by (with_reducible repeat (first | refine blk_drewN ?_ _ | refine blk_drew ?_ | refine blk_alloc ?_ _)); exact BK108.out)) : gb108 ≠ gb168)); have n14_ := Aside0.mk ((by rw [hg]; exact Nat.ne_of_gt (blk_lt (g := gb108) (o := .cells #[.int .i64 1, .int .i64 0, .int .u32 7, .int .u32 0] 24 (0, 0)) (by (with_reducible repeat (first | refine blk_drewN ?_ _ | refine blk_drew ?_ | refine blk_alloc ?_ _)); exact BK108.out)) : gb168 ≠ gb108)); have n15_ := Aside0.mk ((by rw [hg]; exact Nat.ne_of_lt (blk_lt (g := gb127) (o := .cells #[.int .i64 t109, .bool t110, .bool t111, .bool t112, .int .i64 t113, .int .i64 t114, .int .u32 t115, .int .u32 t116, .slice Ao23 t117.length co23] 27 (0, 0)) (by (with_reducible repeat (first | refine blk_drewN ?_ _ | refine blk_drew ?_ | refine blk_alloc ?_ _)); exact BK127.out)) : gb127 ≠ gb168)); have n16_ := Aside0.mk ((by rw [hg]; exact Nat.ne_of_gt (blk_lt (g := gb127) (o := .cells #[.int .i64 t109, .bool t110, .bool t111, .bool t112, .int .i64 t113, .int .i64 t114, .int .u32 t115, .int .u32 t116, .slice Ao23 t117.length co23] 27 (0, 0)) (by (with_reducible repeat (first | refine blk_drewN ?_ _ | refine blk_drew ?_ | refine blk_alloc ?_ _)); exact BK127.out)) : gb168 ≠ gb127)); have n17_ := Aside0.mk ((by rw [hg]; exact Nat.ne_of_lt (blk_lt (g := gb128) (o := .cells #[.bool t120, .bool true, .int .i64 t122, .int .i64 t123, .int .u32 t124, .int .u32 t125] 33 (0, 0)) (by (with_reducible repeat (first | refine blk_drewN ?_ _ | refine blk_drew ?_ | refine blk_alloc ?_ _)); exact BK128.out)) : gb128 ≠ gb168)); have n18_ := Aside0.mk ((by rw [hg]; exact Nat.ne_of_gt (blk_lt (g := gb128) (o := .cells #[.bool t120, .bool true, .int .i64 t122, .int .i64 t123, .int .u32 t124, .int .u32 t125] 33 (0, 0)) (by (with_reducible repeat (first | refine blk_drewN ?_ _ | refine blk_drew ?_ | refine blk_alloc ?_ _)); exact BK128.out)) : gb168 ≠ gb128)); have n19_ := Aside0.mk ((by rw [hg]; exact Nat.ne_of_lt (blk_lt (g := gb147) (o := .cells #[.int .i64 t129, .bool t130, .bool t131, .bool true, .int .i64 t133, .int .i64 t134, .int .u32 t135, .int .u32 t136, .slice Ao35 t137.length co35] 27 (0, 0)) (by (with_reducible repeat (first | refine blk_drewN ?_ _ | refine blk_drew ?_ | refine blk_alloc ?_ _)); exact BK147.out)) : gb147 ≠ gb168)); have n20_ := Aside0.mk ((by rw [hg]; exact Nat.ne_of_gt (blk_lt (g := gb147) (o := .cells #[.int .i64 t129, .bool t130, .bool t131, .bool true, .int .i64 t133, .int .i64 t134, .int .u32 t135, .int .u32 t136, .slice Ao35 t137.length co35] 27 (0, 0)) (by (with_reducible repeat (first | refine blk_drewN ?_ _ | refine blk_drew ?_ | refine blk_alloc ?_ _)); exact BK147.out)) : gb168 ≠ gb147)); have n21_ := Aside0.mk ((by rw [hg]; exact Nat.ne_of_lt (blk_lt (g := gb148) (o := .cells #[.bool t140, .bool false, .int .i64 t142, .int .i64 t143, .int .u32 t144, .int .u32 t145] 33 (0, 0)) (by (with_reducible repeat (first | refine blk_drewN ?_ _ | refine blk_drew ?_ | refine blk_alloc ?_ _)); exact BK148.out)) : gb148 ≠ gb168)); have n22_ := Aside0.mk ((by rw [hg]; exact Nat.ne_of_gt (blk_lt (g := gb148) (o := .cells #[.bool t140, .bool false, .int .i64 t142, .int .i64 t143, .int .u32 t144, .int .u32 t145] 33 (0, 0)) (by (with_reducible repeat (first | refine blk_drewN ?_ _ | refine blk_drew ?_ | refine blk_alloc ?_ _)); exact BK148.out)) : gb168 ≠ gb148)); have n23_ := Aside0.mk ((by rw [hg]; exact Nat.ne_of_lt (blk_lt (g := gb167) (o := .cells #[.int .i64 0, .bool false, .bool false, .bool false, .int .i64 0, .int .i64 0, .int .u32 0, .int .u32 0, .slice none 0 0] 27 (0, 0)) (by (with_reducible repeat (first | refine blk_drewN ?_ _ | refine blk_drew ?_ | refine blk_alloc ?_ _)); exact BK167.out)) : gb167 ≠ gb168)); have n24_ := Aside0.mk ((by rw [hg]; exact Nat.ne_of_gt (blk_lt (g := gb167) (o := .cells #[.int .i64 0, .bool false, .bool false, .bool false, .int .i64 0, .int .i64 0, .int .u32 0, .int .u32 0, .slice none 0 0] 27 (0, 0)) (by (with_reducible repeat (first | refine blk_drewN ?_ _ | refine blk_drew ?_ | refine blk_alloc ?_ _)); exact BK167.out)) : gb168 ≠ gb167)); clear HO119; clear HO139; clear HO159; clear BK108; clear BK127; clear BK128; clear BK147; clear BK148; clear BK167; clear HB; have HO119 := n0_; have HO139 := n1_; have HO159 := n2_; have BK108 := n3_; have BK127 := n4_; have BK128 := n5_; have BK147 := n6_; have BK148 := n7_; have BK167 := n8_; have HB := n9_; have BK168 := n10_; have GW168 := n11_; have GE168 := n12_; have NB108_168 := n13_; have NB168_108 := n14_; have NB127_168 := n15_; have NB168_127 := n16_; have NB128_168 := n17_; have NB168_128 := n18_; have NB147_168 := n19_; have NB168_147 := n20_; have NB148_168 := n21_; have NB168_148 := n22_; have NB167_168 := n23_; have NB168_167 := n24_; clear n0_ n1_ n2_ n3_ n4_ n5_ n6_ n7_ n8_ n9_ n10_ n11_ n12_ n13_ n14_ n15_ n16_ n17_ n18_ n19_ n20_ n21_ n22_ n23_ n24_; clear hb hbox hg; have hnb43 := NB167_108.out; have hnc43 := NB108_167.out; have hnb44 := NB167_127.out; have hnc44 := NB127_167.out; have hnb45 := NB167_128.out; have hnc45 := NB128_167.out; have hnb46 := NB167_147.out; have hnc46 := NB147_167.out; have hnb47 := NB167_148.out; have hnc47 := NB148_167.out; have hnb48 := NB167_168.out; have hnc48 := NB168_167.out; have hcz49_0 : w42.cell? ⟨gb167, 0, none⟩ = some (.int .i64 0) := (blk_cell BK167.out 0).trans rfl; have hcz49_1 : w42.cell? ⟨gb167, 1, none⟩ = some (.bool false) := (blk_cell BK167.out 1).trans rfl; have hcz49_2 : w42.cell? ⟨gb167, 2, none⟩ = some (.bool false) := (blk_cell BK167.out 2).trans rfl; have hcz49_3 : w42.cell? ⟨gb167, 3, none⟩ = some (.bool false) := (blk_cell BK167.out 3).trans rfl; have hcz49_4 : w42.cell? ⟨gb167, 4, none⟩ = some (.int .i64 0) := (blk_cell BK167.out 4).trans rfl; have hcz49_5 : w42.cell? ⟨gb167, 5, none⟩ = some (.int .i64 0) := (blk_cell BK167.out 5).trans rfl; have hcz49_6 : w42.cell? ⟨gb167, 6, none⟩ = some (.int .u32 0) := (blk_cell BK167.out 6).trans rfl; have hcz49_7 : w42.cell? ⟨gb167, 7, none⟩ = some (.int .u32 0) := (blk_cell BK167.out 7).trans rfl; have hcz49_8 : w42.cell? ⟨gb167, 8, none⟩ = some (.slice none 0 0) := (blk_cell BK167.out 8).trans rfl; have hfz49_0 := blk_frozen BK167.out 0; have hfz49_1 := blk_frozen BK167.out 1; have hfz49_2 := blk_frozen BK167.out 2; have hfz49_3 := blk_frozen BK167.out 3; have hfz49_4 := blk_frozen BK167.out 4; have hfz49_5 := blk_frozen BK167.out 5; have hfz49_6 := blk_frozen BK167.out 6; have hfz49_7 := blk_frozen BK167.out 7; have hfz49_8 := blk_frozen BK167.out 8; obtain ⟨Ao50, co50, eo50⟩ := Kd.R_slice HO159.out; subst eo50; have hnb51 := NB168_108.out; have hnc51 := NB108_168.out; have hnb52 := NB168_127.out; have hnc52 := NB127_168.out; have hnb53 := NB168_128.out; have hnc53 := NB128_168.out; have hnb54 := NB168_147.out; have hnc54 := NB147_168.out; have hnb55 := NB168_148.out; have hnc55 := NB148_168.out; have hcz56_0 : w42.cell? ⟨gb168, 0, none⟩ = some (.bool false) := (blk_cell BK168.out 0).trans rfl; have hcz56_1 : w42.cell? ⟨gb168, 1, none⟩ = some (.bool false) := (blk_cell BK168.out 1).trans rfl; have hcz56_2 : w42.cell? ⟨gb168, 2, none⟩ = some (.int .i64 0) := (blk_cell BK168.out 2).trans rfl; have hcz56_3 : w42.cell? ⟨gb168, 3, none⟩ = some (.int .i64 0) := (blk_cell BK168.out 3).trans rfl; have hcz56_4 : w42.cell? ⟨gb168, 4, none⟩ = some (.int .u32 0) := (blk_cell BK168.out 4).trans rfl; have hcz56_5 : w42.cell? ⟨gb168, 5, none⟩ = some (.int .u32 0) := (blk_cell BK168.out 5).trans rfl; have hfz56_0 := blk_frozen BK168.out 0; have hfz56_1 := blk_frozen BK168.out 1; have hfz56_2 := blk_frozen BK168.out 2; have hfz56_3 := blk_frozen BK168.out 3; have hfz56_4 := blk_frozen BK168.out 4; have hfz56_5 := blk_frozen BK168.out 5; have hcz57_0 : w42.cell? ⟨gb127, 0, none⟩ = some (.int .i64 t109) := (blk_cell BK127.out 0).trans rfl; have hcz57_1 : w42.cell? ⟨gb127, 1, none⟩ = some (.bool t110) := (blk_cell BK127.out 1).trans rfl; have hcz57_2 : w42.cell? ⟨gb127, 2, none⟩ = some (.bool t111) := (blk_cell BK127.out 2).trans rfl; have hcz57_3 : w42.cell? ⟨gb127, 3, none⟩ = some (.bool t112) := (blk_cell BK127.out 3).trans rfl; have hcz57_4 : w42.cell? ⟨gb127, 4, none⟩ = some (.int .i64 t113) := (blk_cell BK127.out 4).trans rfl; have hcz57_5 : w42.cell? ⟨gb127, 5, none⟩ = some (.int .i64 t114) := (blk_cell BK127.out 5).trans rfl; have hcz57_6 : w42.cell? ⟨gb127, 6, none⟩ = some (.int .u32 t115) := (blk_cell BK127.out 6).trans rfl; have hcz57_7 : w42.cell? ⟨gb127, 7, none⟩ = some (.int .u32 t116) := (blk_cell BK127.out 7).trans rfl; have hcz57_8 : w42.cell? ⟨gb127, 8, none⟩ = some (.slice Ao23 t117.length co23) := (blk_cell BK127.out 8).trans rfl; have hfz57_0 := blk_frozen BK127.out 0; have hfz57_1 := blk_frozen BK127.out 1; have hfz57_2 := blk_frozen BK127.out 2; have hfz57_3 := blk_frozen BK127.out 3; have hfz57_4 := blk_frozen BK127.out 4; have hfz57_5 := blk_frozen BK127.out 5; have hfz57_6 := blk_frozen BK127.out 6; have hfz57_7 := blk_frozen BK127.out 7; have hfz57_8 := blk_frozen BK127.out 8; have hcz58_0 : w42.cell? ⟨gb108, 0, none⟩ = some (.int .i64 1) := (blk_cell BK108.out 0).trans rfl; have hcz58_1 : w42.cell? ⟨gb108, 1, none⟩ = some (.int .i64 0) := (blk_cell BK108.out 1).trans rfl; have hcz58_2 : w42.cell? ⟨gb108, 2, none⟩ = some (.int .u32 7) := (blk_cell BK108.out 2).trans rfl; have hcz58_3 : w42.cell? ⟨gb108, 3, none⟩ = some (.int .u32 0) := (blk_cell BK108.out 3).trans rfl; have hfz58_0 := blk_frozen BK108.out 0; have hfz58_1 := blk_frozen BK108.out 1; have hfz58_2 := blk_frozen BK108.out 2; have hfz58_3 := blk_frozen BK108.out 3) | ((with_reducible refine gate_callee (f := 13) rfl ?_); refine goesL_ (some 38) rfl rfl Try.func13 (by kernel_rfl) rfl #[.agg #[.int .i64 t109, .bool t110, .bool t111, .bool t112, .int .i64 t113, .int .i64 t114, .int .u32 t115, .int .u32 t116, .slice Ao23 t117.length co23], .agg #[.int .i64 1, .int .i64 0, .int .u32 7, .int .u32 0]] rfl (by (try simp only [List.map_toArray, List.map_cons, List.map_nil]); first | done | rfl | (simp only [List.length_drop, List.length_take]; rfl)) ?_; (with_reducible refine (signal_Force.calls t109 t110 t111 t112 t113 t114 t115 t116 _ _ t117 1 0 7 0 t169 t170 t171 t172 t173 t174 t175 t176 t177 true t181 t182 t183 t184 t185 t186 _ ?side1 ?side2 A4.out).mono ?_); (case side1 => refine (Kd.R_reads' (e := 4) (base := w.heap.size) (ok := fun k_ => ((True ∧ some k_ ≠ (.slice Ao35 t137.length co35 : Value).ownBlock) ∧ some k_ ≠ (.slice Ao50 t157.length co50 : Value).ownBlock)) (n := t117.length) (c := co23) ?_).2.2; exact (by (with_reducible repeat (first | apply Kd.R_alloc | apply Kd.R_drewN | apply Kd.R_drew)); exact (Kd.R_mono (Kd.R_mono (RF6_ (g := gb168) (RF9_ (g := gb167) (Kd.R_types (Kd.R_types HO119.out BK167.out (by decide)) BK168.out (by decide)) (fun _ hk => hk.1.2) _ _ _ _ _ _ _ _ _) (fun _ hk => hk.2) _ _ _ _ _ _) (fun _ h_ => h_.1)) (fun _ h_ => h_.1)))); (case side2 => exact (Kd.R_reads' HO119.out).2.1); rintro e w59 ⟨v178, rfl, ho0, hb⟩; refine ⟨_, rfl, ?_⟩; have n0_ := Aside0.mk (Kd.R_elder' (by (with_reducible repeat (first | apply Kd.R_alloc | apply Kd.R_drewN | apply Kd.R_drew)); exact (Kd.R_mono (Kd.R_mono (RF6_ (g := gb168) (RF9_ (g := gb167) (Kd.R_types (Kd.R_types HO119.out BK167.out (by decide)) BK168.out (by decide)) (fun _ hk => hk.1.2) _ _ _ _ _ _ _ _ _) (fun _ hk => hk.2) _ _ _ _ _ _) (fun _ h_ => h_.1)) (fun _ h_ => h_.1))) (Kd.R_base ho0) hb); have n1_ := Aside0.mk (Kd.R_elder' (by (with_reducible repeat (first | apply Kd.R_alloc | apply Kd.R_drewN | apply Kd.R_drew)); exact (Kd.R_mono (Kd.R_mono (RF6_ (g := gb168) (RF9_ (g := gb167) (Kd.R_types (Kd.R_types HO139.out BK167.out (by decide)) BK168.out (by decide)) (fun _ hk => hk.1.2) _ _ _ _ _ _ _ _ _) (fun _ hk => hk.2) _ _ _ _ _ _) (fun _ h_ => h_.1)) (fun _ h_ => h_.1))) (Kd.R_base ho0) hb); have n2_ := Aside0.mk (Kd.R_elder' (by (with_reducible repeat (first | apply Kd.R_alloc | apply Kd.R_drewN | apply Kd.R_drew)); exact (Kd.R_mono (Kd.R_mono (RF6_ (g := gb168) (RF9_ (g := gb167) (Kd.R_types (Kd.R_types HO159.out BK167.out (by decide)) BK168.out (by decide)) (fun _ hk => hk.1.2) _ _ _ _ _ _ _ _ _) (fun _ hk => hk.2) _ _ _ _ _ _) (fun _ h_ => h_.1)) (fun _ h_ => h_.1))) (Kd.R_base ho0) hb); have n3_ := Aside0.mk (Kd.R_lower (Kd.R_new' (Kd.R_new' (Kd.R_new' ho0 (Kd.R_lt (by (with_reducible repeat (first | apply Kd.R_alloc | apply Kd.R_drewN | apply Kd.R_drew)); exact (Kd.R_mono (Kd.R_mono (RF6_ (g := gb168) (RF9_ (g := gb167) (Kd.R_types (Kd.R_types HO119.out BK167.out (by decide)) BK168.out (by decide)) (fun _ hk => hk.1.2) _ _ _ _ _ _ _ _ _) (fun _ hk => hk.2) _ _ _ _ _ _) (fun _ h_ => h_.1)) (fun _ h_ => h_.1))))) (Kd.R_lt (by (with_reducible repeat (first | apply Kd.R_alloc | apply Kd.R_drewN | apply Kd.R_drew)); exact (Kd.R_mono (Kd.R_mono (RF6_ (g := gb168) (RF9_ (g := gb167) (Kd.R_types (Kd.R_types HO139.out BK167.out (by decide)) BK168.out (by decide)) (fun _ hk => hk.1.2) _ _ _ _ _ _ _ _ _) (fun _ hk => hk.2) _ _ _ _ _ _) (fun _ h_ => h_.1)) (fun _ h_ => h_.1))))) (Kd.R_lt (by (with_reducible repeat (first | apply Kd.R_alloc | apply Kd.R_drewN | apply Kd.R_drew)); exact (Kd.R_mono (Kd.R_mono (RF6_ (g := gb168) (RF9_ (g := gb167) (Kd.R_types (Kd.R_types HO159.out BK167.out (by decide)) BK168.out (by decide)) (fun _ hk => hk.1.2) _ _ _ _ _ _ _ _ _) (fun _ hk => hk.2) _ _ _ _ _ _) (fun _ h_ => h_.1)) (fun _ h_ => h_.1))))) (below_size (by repeat (first | (with_reducible first | exact HB.out | apply below_alloc | apply pw_below_drewN | apply below_drew1 | refine below_set ?_ GE108.out | refine below_set ?_ GE127.out | refine below_set ?_ GE128.out | refine below_set ?_ GE147.out | refine below_set ?_ GE148.out | refine below_set ?_ GE167.out | refine below_set ?_ GE168.out) | exact HB.out)))); have n4_ := Aside0.mk (blk_below (g := gb108) (o := .cells #[.int .i64 1, .int .i64 0, .int .u32 7, .int .u32 0] 24 (0, 0)) (by (with_reducible repeat (first | refine blk_drewN ?_ _ | refine blk_drew ?_ | refine blk_alloc ?_ _)); (iterate 6 (refine blk_far ?_ NB108_168.out _; (with_reducible repeat (first | refine blk_drewN ?_ _ | refine blk_drew ?_ | refine blk_alloc ?_ _)))); (iterate 9 (refine blk_far ?_ NB108_167.out _; (with_reducible repeat (first | refine blk_drewN ?_ _ | refine blk_drew ?_ | refine blk_alloc ?_ _)))); exact BK108.out) hb); have n5_ := Aside0.mk (blk_below (g := gb127) (o := .cells #[.int .i64 t109, .bool t110, .bool t111, .bool t112, .int .i64 t113, .int .i64 t114, .int .u32 t115, .int .u32 t116, .slice Ao23 t117.length co23] 27 (0, 0)) (by (with_reducible repeat (first | refine blk_drewN ?_ _ | refine blk_drew ?_ | refine blk_alloc ?_ _)); (iterate 6 (refine blk_far ?_ NB127_168.out _; (with_reducible repeat (first | refine blk_drewN ?_ _ | refine blk_drew ?_ | refine blk_alloc ?_ _)))); (iterate 9 (refine blk_far ?_ NB127_167.out _; (with_reducible repeat (first | refine blk_drewN ?_ _ | refine blk_drew ?_ | refine blk_alloc ?_ _)))); exact BK127.out) hb); have n6_ := Aside0.mk (blk_below (g := gb128) (o := .cells #[.bool t120, .bool true, .int .i64 t122, .int .i64 t123, .int .u32 t124, .int .u32 t125] 33 (0, 0)) (by (with_reducible repeat (first | refine blk_drewN ?_ _ | refine blk_drew ?_ | refine blk_alloc ?_ _)); (iterate 6 (refine blk_far ?_ NB128_168.out _; (with_reducible repeat (first | refine blk_drewN ?_ _ | refine blk_drew ?_ | refine blk_alloc ?_ _)))); (iterate 9 (refine blk_far ?_ NB128_167.out _; (with_reducible repeat (first | refine blk_drewN ?_ _ | refine blk_drew ?_ | refine blk_alloc ?_ _)))); exact BK128.out) hb); have n7_ := Aside0.mk (blk_below (g := gb147) (o := .cells #[.int .i64 t129, .bool t130, .bool t131, .bool true, .int .i64 t133, .int .i64 t134, .int .u32 t135, .int .u32 t136, .slice Ao35 t137.length co35] 27 (0, 0)) (by (with_reducible repeat (first | refine blk_drewN ?_ _ | refine blk_drew ?_ | refine blk_alloc ?_ _)); (iterate 6 (refine blk_far ?_ NB147_168.out _; (with_reducible repeat (first | refine blk_drewN ?_ _ | refine blk_drew ?_ | refine blk_alloc ?_ _)))); (iterate 9 (refine blk_far ?_ NB147_167.out _; (with_reducible repeat (first | refine blk_drewN ?_ _ | refine blk_drew ?_ | refine blk_alloc ?_ _)))); exact BK147.out) hb); have n8_ := Aside0.mk (blk_below (g := gb148) (o := .cells #[.bool t140, .bool false, .int .i64 t142, .int .i64 t143, .int .u32 t144, .int .u32 t145] 33 (0, 0)) (by (with_reducible repeat (first | refine blk_drewN ?_ _ | refine blk_drew ?_ | refine blk_alloc ?_ _)); (iterate 6 (refine blk_far ?_ NB148_168.out _; (with_reducible repeat (first | refine blk_drewN ?_ _ | refine blk_drew ?_ | refine blk_alloc ?_ _)))); (iterate 9 (refine blk_far ?_ NB148_167.out _; (with_reducible repeat (first | refine blk_drewN ?_ _ | refine blk_drew ?_ | refine blk_alloc ?_ _)))); exact BK148.out) hb); have n9_ := Aside0.mk (blk_below (g := gb167) (o := .cells #[.int .i64 t149, .bool t150, .bool t151, .bool t152, .int .i64 t153, .int .i64 t154, .int .u32 t155, .int .u32 t156, .slice Ao50 t157.length co50] 27 (0, 0)) (by (with_reducible repeat (first | refine blk_drewN ?_ _ | refine blk_drew ?_ | refine blk_alloc ?_ _)); (iterate 6 (refine blk_far ?_ NB167_168.out _; (with_reducible repeat (first | refine blk_drewN ?_ _ | refine blk_drew ?_ | refine blk_alloc ?_ _)))); apply PT9_; (with_reducible repeat (first | refine blk_drewN ?_ _ | refine blk_drew ?_ | refine blk_alloc ?_ _)); exact BK167.out) hb); have n10_ := Aside0.mk (blk_below (g := gb168) (o := .cells #[.bool t160, .bool true, .int .i64 t162, .int .i64 t163, .int .u32 t164, .int .u32 t165] 33 (0, 0)) (by (with_reducible repeat (first | refine blk_drewN ?_ _ | refine blk_drew ?_ | refine blk_alloc ?_ _)); apply PT6_; (with_reducible repeat (first | refine blk_drewN ?_ _ | refine blk_drew ?_ | refine blk_alloc ?_ _)); (iterate 9 (refine blk_far ?_ NB168_167.out _; (with_reducible repeat (first | refine blk_drewN ?_ _ | refine blk_drew ?_ | refine blk_alloc ?_ _)))); exact BK168.out) hb); have n11_ := Aside0.mk (below_step (by repeat (first | (with_reducible first | exact HB.out | apply below_alloc | apply pw_below_drewN | apply below_drew1 | refine below_set ?_ GE108.out | refine below_set ?_ GE127.out | refine below_set ?_ GE128.out | refine below_set ?_ GE147.out | refine below_set ?_ GE148.out | refine below_set ?_ GE167.out | refine below_set ?_ GE168.out) | exact HB.out)) hb); clear HO119; clear HO139; clear HO159; clear BK108; clear BK127; clear BK128; clear BK147; clear BK148; clear BK167; clear BK168; clear HB; have HO119 := n0_; have HO139 := n1_; have HO159 := n2_; have HO179 := n3_; have BK108 := n4_; have BK127 := n5_; have BK128 := n6_; have BK147 := n7_; have BK148 := n8_; have BK167 := n9_; have BK168 := n10_; have HB := n11_; clear n0_ n1_ n2_ n3_ n4_ n5_ n6_ n7_ n8_ n9_ n10_ n11_; (try clear hb); (try clear hb2); (try clear hk); (try clear hi); (try clear ho0)) | ((with_reducible refine gate_dst (N := 11) rfl ?_); (try (refine gate_guard (by rfl) ?_; dsimp only)); refine box_event ?hg (N := 11) ?hd (cs := #[.int .i64 0, .bool false, .bool false, .bool false, .int .i64 0, .int .i64 0, .int .u32 0, .int .u32 0, .slice none 0 0]) (t := 27) ?hr ?_; (case hd => rfl); (case hg => rfl); (case hr => first | (go_simp; done) | (go_simp; rfl)); intro gb187 hg w60 hbox hb; have n0_ := Aside0.mk (Kd.R_below (by (with_reducible repeat (first | apply Kd.R_alloc | apply Kd.R_drewN | apply Kd.R_drew)); exact HO119.out) hb); have n1_ := Aside0.mk (Kd.R_below (by (with_reducible repeat (first | apply Kd.R_alloc | apply Kd.R_drewN | apply Kd.R_drew)); exact HO139.out) hb); have n2_ := Aside0.mk (Kd.R_below (by (with_reducible repeat (first | apply Kd.R_alloc | apply Kd.R_drewN | apply Kd.R_drew)); exact HO159.out) hb); have n3_ := Aside0.mk (Kd.R_below (by (with_reducible repeat (first | apply Kd.R_alloc | apply Kd.R_drewN | apply Kd.R_drew)); exact HO179.out) hb); have n4_ := Aside0.mk (blk_below (g := gb108) (o := .cells #[.int .i64 1, .int .i64 0, .int .u32 7, .int .u32 0] 24 (0, 0)) (by (with_reducible repeat (first | refine blk_drewN ?_ _ | refine blk_drew ?_ | refine blk_alloc ?_ _)); exact BK108.out) hb); have n5_ := Aside0.mk (blk_below (g := gb127) (o := .cells #[.int .i64 t109, .bool t110, .bool t111, .bool t112, .int .i64 t113, .int .i64 t114, .int .u32 t115, .int .u32 t116, .slice Ao23 t117.length co23] 27 (0, 0)) (by (with_reducible repeat (first | refine blk_drewN ?_ _ | refine blk_drew ?_ | refine blk_alloc ?_ _)); exact BK127.out) hb); have n6_ := Aside0.mk (blk_below (g := gb128) (o := .cells #[.bool t120, .bool true, .int .i64 t122, .int .i64 t123, .int .u32 t124, .int .u32 t125] 33 (0, 0)) (by (with_reducible repeat (first | refine blk_drewN ?_ _ | refine blk_drew ?_ | refine blk_alloc ?_ _)); exact BK128.out) hb); have n7_ := Aside0.mk (blk_below (g := gb147) (o := .cells #[.int .i64 t129, .bool t130, .bool t131, .bool true, .int .i64 t133, .int .i64 t134, .int .u32 t135, .int .u32 t136, .slice Ao35 t137.length co35] 27 (0, 0)) (by (with_reducible repeat (first | refine blk_drewN ?_ _ | refine blk_drew ?_ | refine blk_alloc ?_ _)); exact BK147.out) hb); have n8_ := Aside0.mk (blk_below (g := gb148) (o := .cells #[.bool t140, .bool false, .int .i64 t142, .int .i64 t143, .int .u32 t144, .int .u32 t145] 33 (0, 0)) (by (with_reducible repeat (first | refine blk_drewN ?_ _ | refine blk_drew ?_ | refine blk_alloc ?_ _)); exact BK148.out) hb); have n9_ := Aside0.mk (blk_below (g := gb167) (o := .cells #[.int .i64 t149, .bool t150, .bool t151, .bool t152, .int .i64 t153, .int .i64 t154, .int .u32 t155, .int .u32 t156, .slice Ao50 t157.length co50] 27 (0, 0)) (by (with_reducible repeat (first | refine blk_drewN ?_ _ | refine blk_drew ?_ | refine blk_alloc ?_ _)); exact BK167.out) hb); have n10_ := Aside0.mk (blk_below (g := gb168) (o := .cells #[.bool t160, .bool true, .int .i64 t162, .int .i64 t163, .int .u32 t164, .int .u32 t165] 33 (0, 0)) (by (with_reducible repeat (first | refine blk_drewN ?_ _ | refine blk_drew ?_ | refine blk_alloc ?_ _)); exact BK168.out) hb); have n11_ := Aside0.mk (below_step (by repeat (first | (with_reducible first | exact HB.out | apply below_alloc | apply pw_below_drewN | apply below_drew1 | refine below_set ?_ GE108.out | refine below_set ?_ GE127.out | refine below_set ?_ GE128.out | refine below_set ?_ GE147.out | refine below_set ?_ GE148.out | refine below_set ?_ GE167.out | refine below_set ?_ GE168.out) | exact HB.out)) hb); have n12_ := Aside0.mk (hbox); have n13_ := Aside0.mk ((by rw [hg]; exact (below_size (by repeat (first | (with_reducible first | exact HB.out | apply below_alloc | apply pw_below_drewN | apply below_drew1 | refine below_set ?_ GE108.out | refine below_set ?_ GE127.out | refine below_set ?_ GE128.out | refine below_set ?_ GE147.out | refine below_set ?_ GE148.out | refine below_set ?_ GE167.out | refine below_set ?_ GE168.out) | exact HB.out))) : w.heap.size ≤ gb187)); have n14_ := Aside0.mk ((by rw [hg]; exact (below_size (by repeat (first | (with_reducible first | exact HB.out | apply below_alloc | apply pw_below_drewN | apply below_drew1 | refine below_set ?_ GE108.out | refine below_set ?_ GE127.out | refine below_set ?_ GE128.out | refine below_set ?_ GE147.out | refine below_set ?_ GE148.out | refine below_set ?_ GE167.out | refine below_set ?_ GE168.out) | exact HB.out))) : w.heap.size ≤ gb187)); have n15_ := Aside0.mk ((by rw [hg]; exact Nat.ne_of_lt (blk_lt (g := gb108) (o := .cells #[.int .i64 1, .int .i64 0, .int .u32 7, .int .u32 0] 24 (0, 0)) (by (with_reducible repeat (first | refine blk_drewN ?_ _ | refine blk_drew ?_ | refine blk_alloc ?_ _)); exact BK108.out)) : gb108 ≠ gb187)); have n16_ := Aside0.mk ((by rw [hg]; exact Nat.ne_of_gt (blk_lt (g := gb108) (o := .cells #[.int .i64 1, .int .i64 0, .int .u32 7, .int .u32 0] 24 (0, 0)) (by (with_reducible repeat (first | refine blk_drewN ?_ _ | refine blk_drew ?_ | refine blk_alloc ?_ _)); exact BK108.out)) : gb187 ≠ gb108)); have n17_ := Aside0.mk ((by rw [hg]; exact Nat.ne_of_lt (blk_lt (g := gb127) (o := .cells #[.int .i64 t109, .bool t110, .bool t111, .bool t112, .int .i64 t113, .int .i64 t114, .int .u32 t115, .int .u32 t116, .slice Ao23 t117.length co23] 27 (0, 0)) (by (with_reducible repeat (first | refine blk_drewN ?_ _ | refine blk_drew ?_ | refine blk_alloc ?_ _)); exact BK127.out)) : gb127 ≠ gb187)); have n18_ := Aside0.mk ((by rw [hg]; exact Nat.ne_of_gt (blk_lt (g := gb127) (o := .cells #[.int .i64 t109, .bool t110, .bool t111, .bool t112, .int .i64 t113, .int .i64 t114, .int .u32 t115, .int .u32 t116, .slice Ao23 t117.length co23] 27 (0, 0)) (by (with_reducible repeat (first | refine blk_drewN ?_ _ | refine blk_drew ?_ | refine blk_alloc ?_ _)); exact BK127.out)) : gb187 ≠ gb127)); have n19_ := Aside0.mk ((by rw [hg]; exact Nat.ne_of_lt (blk_lt (g := gb128) (o := .cells #[.bool t120, .bool true, .int .i64 t122, .int .i64 t123, .int .u32 t124, .int .u32 t125] 33 (0, 0)) (by (with_reducible repeat (first | refine blk_drewN ?_ _ | refine blk_drew ?_ | refine blk_alloc ?_ _)); exact BK128.out)) : gb128 ≠ gb187)); have n20_ := Aside0.mk ((by rw [hg]; exact Nat.ne_of_gt (blk_lt (g := gb128) (o := .cells #[.bool t120, .bool true, .int .i64 t122, .int .i64 t123, .int .u32 t124, .int .u32 t125] 33 (0, 0)) (by (with_reducible repeat (first | refine blk_drewN ?_ _ | refine blk_drew ?_ | refine blk_alloc ?_ _)); exact BK128.out)) : gb187 ≠ gb128)); have n21_ := Aside0.mk ((by rw [hg]; exact Nat.ne_of_lt (blk_lt (g := gb147) (o := .cells #[.int .i64 t129, .bool t130, .bool t131, .bool true, .int .i64 t133, .int .i64 t134, .int .u32 t135, .int .u32 t136, .slice Ao35 t137.length co35] 27 (0, 0)) (by (with_reducible repeat (first | refine blk_drewN ?_ _ | refine blk_drew ?_ | refine blk_alloc ?_ _)); exact BK147.out)) : gb147 ≠ gb187)); have n22_ := Aside0.mk ((by rw [hg]; exact Nat.ne_of_gt (blk_lt (g := gb147) (o := .cells #[.int .i64 t129, .bool t130, .bool t131, .bool true, .int .i64 t133, .int .i64 t134, .int .u32 t135, .int .u32 t136, .slice Ao35 t137.length co35] 27 (0, 0)) (by (with_reducible repeat (first | refine blk_drewN ?_ _ | refine blk_drew ?_ | refine blk_alloc ?_ _)); exact BK147.out)) : gb187 ≠ gb147)); have n23_ := Aside0.mk ((by rw [hg]; exact Nat.ne_of_lt (blk_lt (g := gb148) (o := .cells #[.bool t140, .bool false, .int .i64 t142, .int .i64 t143, .int .u32 t144, .int .u32 t145] 33 (0, 0)) (by (with_reducible repeat (first | refine blk_drewN ?_ _ | refine blk_drew ?_ | refine blk_alloc ?_ _)); exact BK148.out)) : gb148 ≠ gb187)); have n24_ := Aside0.mk ((by rw [hg]; exact Nat.ne_of_gt (blk_lt (g := gb148) (o := .cells #[.bool t140, .bool false, .int .i64 t142, .int .i64 t143, .int .u32 t144, .int .u32 t145] 33 (0, 0)) (by (with_reducible repeat (first | refine blk_drewN ?_ _ | refine blk_drew ?_ | refine blk_alloc ?_ _)); exact BK148.out)) : gb187 ≠ gb148)); have n25_ := Aside0.mk ((by rw [hg]; exact Nat.ne_of_lt (blk_lt (g := gb167) (o := .cells #[.int .i64 t149, .bool t150, .bool t151, .bool t152, .int .i64 t153, .int .i64 t154, .int .u32 t155, .int .u32 t156, .slice Ao50 t157.length co50] 27 (0, 0)) (by (with_reducible repeat (first | refine blk_drewN ?_ _ | refine blk_drew ?_ | refine blk_alloc ?_ _)); exact BK167.out)) : gb167 ≠ gb187)); have n26_ := Aside0.mk ((by rw [hg]; exact Nat.ne_of_gt (blk_lt (g := gb167) (o := .cells #[.int .i64 t149, .bool t150, .bool t151, .bool t152, .int .i64 t153, .int .i64 t154, .int .u32 t155, .int .u32 t156, .slice Ao50 t157.length co50] 27 (0, 0)) (by (with_reducible repeat (first | refine blk_drewN ?_ _ | refine blk_drew ?_ | refine blk_alloc ?_ _)); exact BK167.out)) : gb187 ≠ gb167)); have n27_ := Aside0.mk ((by rw [hg]; exact Nat.ne_of_lt (blk_lt (g := gb168) (o := .cells #[.bool t160, .bool true, .int .i64 t162, .int .i64 t163, .int .u32 t164, .int .u32 t165] 33 (0, 0)) (by (with_reducible repeat (first | refine blk_drewN ?_ _ | refine blk_drew ?_ | refine blk_alloc ?_ _)); exact BK168.out)) : gb168 ≠ gb187)); have n28_ := Aside0.mk ((by rw [hg]; exact Nat.ne_of_gt (blk_lt (g := gb168) (o := .cells #[.bool t160, .bool true, .int .i64 t162, .int .i64 t163, .int .u32 t164, .int .u32 t165] 33 (0, 0)) (by (with_reducible repeat (first | refine blk_drewN ?_ _ | refine blk_drew ?_ | refine blk_alloc ?_ _)); exact BK168.out)) : gb187 ≠ gb168)); clear HO119; clear HO139; clear HO159; clear HO179; clear BK108; clear BK127; clear BK128; clear BK147; clear BK148; clear BK167; clear BK168; clear HB; have HO119 := n0_; have HO139 := n1_; have HO159 := n2_; have HO179 := n3_; have BK108 := n4_; have BK127 := n5_; have BK128 := n6_; have BK147 := n7_; have BK148 := n8_; have BK167 := n9_; have BK168 := n10_; have HB := n11_; have BK187 := n12_; have GW187 := n13_; have GE187 := n14_; have NB108_187 := n15_; have NB187_108 := n16_; have NB127_187 := n17_; have NB187_127 := n18_; have NB128_187 := n19_; have NB187_128 := n20_; have NB147_187 := n21_; have NB187_147 := n22_; have NB148_187 := n23_; have NB187_148 := n24_; have NB167_187 := n25_; have NB187_167 := n26_; have NB168_187 := n27_; have NB187_168 := n28_; clear n0_ n1_ n2_ n3_ n4_ n5_ n6_ n7_ n8_ n9_ n10_ n11_ n12_ n13_ n14_ n15_ n16_ n17_ n18_ n19_ n20_ n21_ n22_ n23_ n24_ n25_ n26_ n27_ n28_; clear hb hbox hg) | ((with_reducible refine gate_dst (N := 12) rfl ?_); (try (refine gate_guard (by rfl) ?_; dsimp only)); refine box_event ?hg (N := 12) ?hd (cs := #[.bool false, .bool false, .int .i64 0, .int .i64 0, .int .u32 0, .int .u32 0]) (t := 33) ?hr ?_; (case hd => rfl); (case hg => rfl); (case hr => first | (go_simp; done) | (go_simp; rfl)); intro gb188 hg w61 hbox hb; have n0_ := Aside0.mk (Kd.R_below (by (with_reducible repeat (first | apply Kd.R_alloc | apply Kd.R_drewN | apply Kd.R_drew)); exact HO119.out) hb); have n1_ := Aside0.mk (Kd.R_below (by (with_reducible repeat (first | apply Kd.R_alloc | apply Kd.R_drewN | apply Kd.R_drew)); exact HO139.out) hb); have n2_ := Aside0.mk (Kd.R_below (by (with_reducible repeat (first | apply Kd.R_alloc | apply Kd.R_drewN | apply Kd.R_drew)); exact HO159.out) hb); have n3_ := Aside0.mk (Kd.R_below (by (with_reducible repeat (first | apply Kd.R_alloc | apply Kd.R_drewN | apply Kd.R_drew)); exact HO179.out) hb); have n4_ := Aside0.mk (blk_below (g := gb108) (o := .cells #[.int .i64 1, .int .i64 0, .int .u32 7, .int .u32 0] 24 (0, 0)) (by (with_reducible repeat (first | refine blk_drewN ?_ _ | refine blk_drew ?_ | refine blk_alloc ?_ _)); exact BK108.out) hb); have n5_ := Aside0.mk (blk_below (g := gb127) (o := .cells #[.int .i64 t109, .bool t110, .bool t111, .bool t112, .int .i64 t113, .int .i64 t114, .int .u32 t115, .int .u32 t116, .slice Ao23 t117.length co23] 27 (0, 0)) (by (with_reducible repeat (first | refine blk_drewN ?_ _ | refine blk_drew ?_ | refine blk_alloc ?_ _)); exact BK127.out) hb); have n6_ := Aside0.mk (blk_below (g := gb128) (o := .cells #[.bool t120, .bool true, .int .i64 t122, .int .i64 t123, .int .u32 t124, .int .u32 t125] 33 (0, 0)) (by (with_reducible repeat (first | refine blk_drewN ?_ _ | refine blk_drew ?_ | refine blk_alloc ?_ _)); exact BK128.out) hb); have n7_ := Aside0.mk (blk_below (g := gb147) (o := .cells #[.int .i64 t129, .bool t130, .bool t131, .bool true, .int .i64 t133, .int .i64 t134, .int .u32 t135, .int .u32 t136, .slice Ao35 t137.length co35] 27 (0, 0)) (by (with_reducible repeat (first | refine blk_drewN ?_ _ | refine blk_drew ?_ | refine blk_alloc ?_ _)); exact BK147.out) hb); have n8_ := Aside0.mk (blk_below (g := gb148) (o := .cells #[.bool t140, .bool false, .int .i64 t142, .int .i64 t143, .int .u32 t144, .int .u32 t145] 33 (0, 0)) (by (with_reducible repeat (first | refine blk_drewN ?_ _ | refine blk_drew ?_ | refine blk_alloc ?_ _)); exact BK148.out) hb); have n9_ := Aside0.mk (blk_below (g := gb167) (o := .cells #[.int .i64 t149, .bool t150, .bool t151, .bool t152, .int .i64 t153, .int .i64 t154, .int .u32 t155, .int .u32 t156, .slice Ao50 t157.length co50] 27 (0, 0)) (by (with_reducible repeat (first | refine blk_drewN ?_ _ | refine blk_drew ?_ | refine blk_alloc ?_ _)); exact BK167.out) hb); have n10_ := Aside0.mk (blk_below (g := gb168) (o := .cells #[.bool t160, .bool true, .int .i64 t162, .int .i64 t163, .int .u32 t164, .int .u32 t165] 33 (0, 0)) (by (with_reducible repeat (first | refine blk_drewN ?_ _ | refine blk_drew ?_ | refine blk_alloc ?_ _)); exact BK168.out) hb); have n11_ := Aside0.mk (blk_below (g := gb187) (o := .cells #[.int .i64 0, .bool false, .bool false, .bool false, .int .i64 0, .int .i64 0, .int .u32 0, .int .u32 0, .slice none 0 0] 27 (0, 0)) (by (with_reducible repeat (first | refine blk_drewN ?_ _ | refine blk_drew ?_ | refine blk_alloc ?_ _)); exact BK187.out) hb); have n12_ := Aside0.mk (below_step (by repeat (first | (with_reducible first | exact HB.out | apply below_alloc | apply pw_below_drewN | apply below_drew1 | refine below_set ?_ GE108.out | refine below_set ?_ GE127.out | refine below_set ?_ GE128.out | refine below_set ?_ GE147.out | refine below_set ?_ GE148.out | refine below_set ?_ GE167.out | refine below_set ?_ GE168.out | refine below_set ?_ GE187.out) | exact HB.out)) hb); have n13_ := Aside0.mk (hbox); have n14_ := Aside0.mk ((by rw [hg]; exact (below_size (by repeat (first | (with_reducible first | exact HB.out | apply below_alloc | apply pw_below_drewN | apply below_drew1 | refine below_set ?_ GE108.out | refine below_set ?_ GE127.out | refine below_set ?_ GE128.out | refine below_set ?_ GE147.out | refine below_set ?_ GE148.out | refine below_set ?_ GE167.out | refine below_set ?_ GE168.out | refine below_set ?_ GE187.out) | exact HB.out))) : w.heap.size ≤ gb188)); have n15_ := Aside0.mk ((by rw [hg]; exact (below_size (by repeat (first | (with_reducible first | exact HB.out | apply below_alloc | apply pw_below_drewN | apply below_drew1 | refine below_set ?_ GE108.out | refine below_set ?_ GE127.out | refine below_set ?_ GE128.out | refine below_set ?_ GE147.out | refine below_set ?_ GE148.out | refine below_set ?_ GE167.out | refine below_set ?_ GE168.out | refine below_set ?_ GE187.out) | exact HB.out))) : w.heap.size ≤ gb188)); have n16_ := Aside0.mk ((by rw [hg]; exact Nat.ne_of_lt (blk_lt (g := gb108) (o := .cells #[.int .i64 1, .int .i64 0, .int .u32 7, .int .u32 0] 24 (0, 0)) (by (with_reducible repeat (first | refine blk_drewN ?_ _ | refine blk_drew ?_ | refine blk_alloc ?_ _)); exact BK108.out)) : gb108 ≠ gb188)); have n17_ := Aside0.mk ((by rw [hg]; exact Nat.ne_of_gt (blk_lt (g := gb108) (o := .cells #[.int .i64 1, .int .i64 0, .int .u32 7, .int .u32 0] 24 (0, 0)) (by (with_reducible repeat (first | refine blk_drewN ?_ _ | refine blk_drew ?_ | refine blk_alloc ?_ _)); exact BK108.out)) : gb188 ≠ gb108)); have n18_ := Aside0.mk ((by rw [hg]; exact Nat.ne_of_lt (blk_lt (g := gb127) (o := .cells #[.int .i64 t109, .bool t110, .bool t111, .bool t112, .int .i64 t113, .int .i64 t114, .int .u32 t115, .int .u32 t116, .slice Ao23 t117.length co23] 27 (0, 0)) (by (with_reducible repeat (first | refine blk_drewN ?_ _ | refine blk_drew ?_ | refine blk_alloc ?_ _)); exact BK127.out)) : gb127 ≠ gb188)); have n19_ := Aside0.mk ((by rw [hg]; exact Nat.ne_of_gt (blk_lt (g := gb127) (o := .cells #[.int .i64 t109, .bool t110, .bool t111, .bool t112, .int .i64 t113, .int .i64 t114, .int .u32 t115, .int .u32 t116, .slice Ao23 t117.length co23] 27 (0, 0)) (by (with_reducible repeat (first | refine blk_drewN ?_ _ | refine blk_drew ?_ | refine blk_alloc ?_ _)); exact BK127.out)) : gb188 ≠ gb127)); have n20_ := Aside0.mk ((by rw [hg]; exact Nat.ne_of_lt (blk_lt (g := gb128) (o := .cells #[.bool t120, .bool true, .int .i64 t122, .int .i64 t123, .int .u32 t124, .int .u32 t125] 33 (0, 0)) (by (with_reducible repeat (first | refine blk_drewN ?_ _ | refine blk_drew ?_ | refine blk_alloc ?_ _)); exact BK128.out)) : gb128 ≠ gb188)); have n21_ := Aside0.mk ((by rw [hg]; exact Nat.ne_of_gt (blk_lt (g := gb128) (o := .cells #[.bool t120, .bool true, .int .i64 t122, .int .i64 t123, .int .u32 t124, .int .u32 t125] 33 (0, 0)) (by (with_reducible repeat (first | refine blk_drewN ?_ _ | refine blk_drew ?_ | refine blk_alloc ?_ _)); exact BK128.out)) : gb188 ≠ gb128)); have n22_ := Aside0.mk ((by rw [hg]; exact Nat.ne_of_lt (blk_lt (g := gb147) (o := .cells #[.int .i64 t129, .bool t130, .bool t131, .bool true, .int .i64 t133, .int .i64 t134, .int .u32 t135, .int .u32 t136, .slice Ao35 t137.length co35] 27 (0, 0)) (by (with_reducible repeat (first | refine blk_drewN ?_ _ | refine blk_drew ?_ | refine blk_alloc ?_ _)); exact BK147.out)) : gb147 ≠ gb188)); have n23_ := Aside0.mk ((by rw [hg]; exact Nat.ne_of_gt (blk_lt (g := gb147) (o := .cells #[.int .i64 t129, .bool t130, .bool t131, .bool true, .int .i64 t133, .int .i64 t134, .int .u32 t135, .int .u32 t136, .slice Ao35 t137.length co35] 27 (0, 0)) (by (with_reducible repeat (first | refine blk_drewN ?_ _ | refine blk_drew ?_ | refine blk_alloc ?_ _)); exact BK147.out)) : gb188 ≠ gb147)); have n24_ := Aside0.mk ((by rw [hg]; exact Nat.ne_of_lt (blk_lt (g := gb148) (o := .cells #[.bool t140, .bool false, .int .i64 t142, .int .i64 t143, .int .u32 t144, .int .u32 t145] 33 (0, 0)) (by (with_reducible repeat (first | refine blk_drewN ?_ _ | refine blk_drew ?_ | refine blk_alloc ?_ _)); exact BK148.out)) : gb148 ≠ gb188)); have n25_ := Aside0.mk ((by rw [hg]; exact Nat.ne_of_gt (blk_lt (g := gb148) (o := .cells #[.bool t140, .bool false, .int .i64 t142, .int .i64 t143, .int .u32 t144, .int .u32 t145] 33 (0, 0)) (by (with_reducible repeat (first | refine blk_drewN ?_ _ | refine blk_drew ?_ | refine blk_alloc ?_ _)); exact BK148.out)) : gb188 ≠ gb148)); have n26_ := Aside0.mk ((by rw [hg]; exact Nat.ne_of_lt (blk_lt (g := gb167) (o := .cells #[.int .i64 t149, .bool t150, .bool t151, .bool t152, .int .i64 t153, .int .i64 t154, .int .u32 t155, .int .u32 t156, .slice Ao50 t157.length co50] 27 (0, 0)) (by (with_reducible repeat (first | refine blk_drewN ?_ _ | refine blk_drew ?_ | refine blk_alloc ?_ _)); exact BK167.out)) : gb167 ≠ gb188)); have n27_ := Aside0.mk ((by rw [hg]; exact Nat.ne_of_gt (blk_lt (g := gb167) (o := .cells #[.int .i64 t149, .bool t150, .bool t151, .bool t152, .int .i64 t153, .int .i64 t154, .int .u32 t155, .int .u32 t156, .slice Ao50 t157.length co50] 27 (0, 0)) (by (with_reducible repeat (first | refine blk_drewN ?_ _ | refine blk_drew ?_ | refine blk_alloc ?_ _)); exact BK167.out)) : gb188 ≠ gb167)); have n28_ := Aside0.mk ((by rw [hg]; exact Nat.ne_of_lt (blk_lt (g := gb168) (o := .cells #[.bool t160, .bool true, .int .i64 t162, .int .i64 t163, .int .u32 t164, .int .u32 t165] 33 (0, 0)) (by (with_reducible repeat (first | refine blk_drewN ?_ _ | refine blk_drew ?_ | refine blk_alloc ?_ _)); exact BK168.out)) : gb168 ≠ gb188)); have n29_ := Aside0.mk ((by rw [hg]; exact Nat.ne_of_gt (blk_lt (g := gb168) (o := .cells #[.bool t160, .bool true, .int .i64 t162, .int .i64 t163, .int .u32 t164, .int .u32 t165] 33 (0, 0)) (by (with_reducible repeat (first | refine blk_drewN ?_ _ | refine blk_drew ?_ | refine blk_alloc ?_ _)); exact BK168.out)) : gb188 ≠ gb168)); have n30_ := Aside0.mk ((by rw [hg]; exact Nat.ne_of_lt (blk_lt (g := gb187) (o := .cells #[.int .i64 0, .bool false, .bool false, .bool false, .int .i64 0, .int .i64 0, .int .u32 0, .int .u32 0, .slice none 0 0] 27 (0, 0)) (by (with_reducible repeat (first | refine blk_drewN ?_ _ | refine blk_drew ?_ | refine blk_alloc ?_ _)); exact BK187.out)) : gb187 ≠ gb188)); have n31_ := Aside0.mk ((by rw [hg]; exact Nat.ne_of_gt (blk_lt (g := gb187) (o := .cells #[.int .i64 0, .bool false, .bool false, .bool false, .int .i64 0, .int .i64 0, .int .u32 0, .int .u32 0, .slice none 0 0] 27 (0, 0)) (by (with_reducible repeat (first | refine blk_drewN ?_ _ | refine blk_drew ?_ | refine blk_alloc ?_ _)); exact BK187.out)) : gb188 ≠ gb187)); clear HO119; clear HO139; clear HO159; clear HO179; clear BK108; clear BK127; clear BK128; clear BK147; clear BK148; clear BK167; clear BK168; clear BK187; clear HB; have HO119 := n0_; have HO139 := n1_; have HO159 := n2_; have HO179 := n3_; have BK108 := n4_; have BK127 := n5_; have BK128 := n6_; have BK147 := n7_; have BK148 := n8_; have BK167 := n9_; have BK168 := n10_; have BK187 := n11_; have HB := n12_; have BK188 := n13_; have GW188 := n14_; have GE188 := n15_; have NB108_188 := n16_; have NB188_108 := n17_; have NB127_188 := n18_; have NB188_127 := n19_; have NB128_188 := n20_; have NB188_128 := n21_; have NB147_188 := n22_; have NB188_147 := n23_; have NB148_188 := n24_; have NB188_148 := n25_; have NB167_188 := n26_; have NB188_167 := n27_; have NB168_188 := n28_; have NB188_168 := n29_; have NB187_188 := n30_; have NB188_187 := n31_; clear n0_ n1_ n2_ n3_ n4_ n5_ n6_ n7_ n8_ n9_ n10_ n11_ n12_ n13_ n14_ n15_ n16_ n17_ n18_ n19_ n20_ n21_ n22_ n23_ n24_ n25_ n26_ n27_ n28_ n29_ n30_ n31_; clear hb hbox hg; have hnb62 := NB187_108.out; have hnc62 := NB108_187.out; have hnb63 := NB187_127.out; have hnc63 := NB127_187.out; have hnb64 := NB187_128.out; have hnc64 := NB128_187.out; have hnb65 := NB187_147.out; have hnc65 := NB147_187.out; have hnb66 := NB187_148.out; have hnc66 := NB148_187.out; have hnb67 := NB187_167.out; have hnc67 := NB167_187.out; have hnb68 := NB187_168.out; have hnc68 := NB168_187.out; have hnb69 := NB187_188.out; have hnc69 := NB188_187.out; have hcz70_0 : w61.cell? ⟨gb187, 0, none⟩ = some (.int .i64 0) := (blk_cell BK187.out 0).trans rfl; have hcz70_1 : w61.cell? ⟨gb187, 1, none⟩ = some (.bool false) := (blk_cell BK187.out 1).trans rfl; have hcz70_2 : w61.cell? ⟨gb187, 2, none⟩ = some (.bool false) := (blk_cell BK187.out 2).trans rfl; have hcz70_3 : w61.cell? ⟨gb187, 3, none⟩ = some (.bool false) := (blk_cell BK187.out 3).trans rfl; have hcz70_4 : w61.cell? ⟨gb187, 4, none⟩ = some (.int .i64 0) := (blk_cell BK187.out 4).trans rfl; have hcz70_5 : w61.cell? ⟨gb187, 5, none⟩ = some (.int .i64 0) := (blk_cell BK187.out 5).trans rfl; have hcz70_6 : w61.cell? ⟨gb187, 6, none⟩ = some (.int .u32 0) := (blk_cell BK187.out 6).trans rfl; have hcz70_7 : w61.cell? ⟨gb187, 7, none⟩ = some (.int .u32 0) := (blk_cell BK187.out 7).trans rfl; have hcz70_8 : w61.cell? ⟨gb187, 8, none⟩ = some (.slice none 0 0) := (blk_cell BK187.out 8).trans rfl; have hfz70_0 := blk_frozen BK187.out 0; have hfz70_1 := blk_frozen BK187.out 1; have hfz70_2 := blk_frozen BK187.out 2; have hfz70_3 := blk_frozen BK187.out 3; have hfz70_4 := blk_frozen BK187.out 4; have hfz70_5 := blk_frozen BK187.out 5; have hfz70_6 := blk_frozen BK187.out 6; have hfz70_7 := blk_frozen BK187.out 7; have hfz70_8 := blk_frozen BK187.out 8; obtain ⟨Ao71, co71, eo71⟩ := Kd.R_slice HO179.out; subst eo71; have hnb72 := NB188_108.out; have hnc72 := NB108_188.out; have hnb73 := NB188_127.out; have hnc73 := NB127_188.out; have hnb74 := NB188_128.out; have hnc74 := NB128_188.out; have hnb75 := NB188_147.out; have hnc75 := NB147_188.out; have hnb76 := NB188_148.out; have hnc76 := NB148_188.out; have hnb77 := NB188_167.out; have hnc77 := NB167_188.out; have hnb78 := NB188_168.out; have hnc78 := NB168_188.out; have hcz79_0 : w61.cell? ⟨gb188, 0, none⟩ = some (.bool false) := (blk_cell BK188.out 0).trans rfl; have hcz79_1 : w61.cell? ⟨gb188, 1, none⟩ = some (.bool false) := (blk_cell BK188.out 1).trans rfl; have hcz79_2 : w61.cell? ⟨gb188, 2, none⟩ = some (.int .i64 0) := (blk_cell BK188.out 2).trans rfl; have hcz79_3 : w61.cell? ⟨gb188, 3, none⟩ = some (.int .i64 0) := (blk_cell BK188.out 3).trans rfl; have hcz79_4 : w61.cell? ⟨gb188, 4, none⟩ = some (.int .u32 0) := (blk_cell BK188.out 4).trans rfl; have hcz79_5 : w61.cell? ⟨gb188, 5, none⟩ = some (.int .u32 0) := (blk_cell BK188.out 5).trans rfl; have hfz79_0 := blk_frozen BK188.out 0; have hfz79_1 := blk_frozen BK188.out 1; have hfz79_2 := blk_frozen BK188.out 2; have hfz79_3 := blk_frozen BK188.out 3; have hfz79_4 := blk_frozen BK188.out 4; have hfz79_5 := blk_frozen BK188.out 5; have hcz80_0 : w61.cell? ⟨gb128, 0, none⟩ = some (.bool t120) := (blk_cell BK128.out 0).trans rfl; have hcz80_1 : w61.cell? ⟨gb128, 1, none⟩ = some (.bool true) := (blk_cell BK128.out 1).trans rfl; have hcz80_2 : w61.cell? ⟨gb128, 2, none⟩ = some (.int .i64 t122) := (blk_cell BK128.out 2).trans rfl; have hcz80_3 : w61.cell? ⟨gb128, 3, none⟩ = some (.int .i64 t123) := (blk_cell BK128.out 3).trans rfl; have hcz80_4 : w61.cell? ⟨gb128, 4, none⟩ = some (.int .u32 t124) := (blk_cell BK128.out 4).trans rfl; have hcz80_5 : w61.cell? ⟨gb128, 5, none⟩ = some (.int .u32 t125) := (blk_cell BK128.out 5).trans rfl; have hfz80_0 := blk_frozen BK128.out 0; have hfz80_1 := blk_frozen BK128.out 1; have hfz80_2 := blk_frozen BK128.out 2; have hfz80_3 := blk_frozen BK128.out 3; have hfz80_4 := blk_frozen BK128.out 4; have hfz80_5 := blk_frozen BK128.out 5; have hcz81_0 : w61.cell? ⟨gb148, 0, none⟩ = some (.bool t140) := (blk_cell BK148.out 0).trans rfl; have hcz81_1 : w61.cell? ⟨gb148, 1, none⟩ = some (.bool false) := (blk_cell BK148.out 1).trans rfl; have hcz81_2 : w61.cell? ⟨gb148, 2, none⟩ = some (.int .i64 t142) := (blk_cell BK148.out 2).trans rfl; have hcz81_3 : w61.cell? ⟨gb148, 3, none⟩ = some (.int .i64 t143) := (blk_cell BK148.out 3).trans rfl; have hcz81_4 : w61.cell? ⟨gb148, 4, none⟩ = some (.int .u32 t144) := (blk_cell BK148.out 4).trans rfl; have hcz81_5 : w61.cell? ⟨gb148, 5, none⟩ = some (.int .u32 t145) := (blk_cell BK148.out 5).trans rfl; have hfz81_0 := blk_frozen BK148.out 0; have hfz81_1 := blk_frozen BK148.out 1; have hfz81_2 := blk_frozen BK148.out 2; have hfz81_3 := blk_frozen BK148.out 3; have hfz81_4 := blk_frozen BK148.out 4; have hfz81_5 := blk_frozen BK148.out 5; have hcz82_0 : w61.cell? ⟨gb147, 0, none⟩ = some (.int .i64 t129) := (blk_cell BK147.out 0).trans rfl; have hcz82_1 : w61.cell? ⟨gb147, 1, none⟩ = some (.bool t130) := (blk_cell BK147.out 1).trans rfl; have hcz82_2 : w61.cell? ⟨gb147, 2, none⟩ = some (.bool t131) := (blk_cell BK147.out 2).trans rfl; have hcz82_3 : w61.cell? ⟨gb147, 3, none⟩ = some (.bool true) := (blk_cell BK147.out 3).trans rfl; have hcz82_4 : w61.cell? ⟨gb147, 4, none⟩ = some (.int .i64 t133) := (blk_cell BK147.out 4).trans rfl; have hcz82_5 : w61.cell? ⟨gb147, 5, none⟩ = some (.int .i64 t134) := (blk_cell BK147.out 5).trans rfl; have hcz82_6 : w61.cell? ⟨gb147, 6, none⟩ = some (.int .u32 t135) := (blk_cell BK147.out 6).trans rfl; have hcz82_7 : w61.cell? ⟨gb147, 7, none⟩ = some (.int .u32 t136) := (blk_cell BK147.out 7).trans rfl; have hcz82_8 : w61.cell? ⟨gb147, 8, none⟩ = some (.slice Ao35 t137.length co35) := (blk_cell BK147.out 8).trans rfl; have hfz82_0 := blk_frozen BK147.out 0; have hfz82_1 := blk_frozen BK147.out 1; have hfz82_2 := blk_frozen BK147.out 2; have hfz82_3 := blk_frozen BK147.out 3; have hfz82_4 := blk_frozen BK147.out 4; have hfz82_5 := blk_frozen BK147.out 5; have hfz82_6 := blk_frozen BK147.out 6; have hfz82_7 := blk_frozen BK147.out 7; have hfz82_8 := blk_frozen BK147.out 8; have hcz83_0 : w61.cell? ⟨gb168, 0, none⟩ = some (.bool t160) := (blk_cell BK168.out 0).trans rfl; have hcz83_1 : w61.cell? ⟨gb168, 1, none⟩ = some (.bool true) := (blk_cell BK168.out 1).trans rfl; have hcz83_2 : w61.cell? ⟨gb168, 2, none⟩ = some (.int .i64 t162) := (blk_cell BK168.out 2).trans rfl; have hcz83_3 : w61.cell? ⟨gb168, 3, none⟩ = some (.int .i64 t163) := (blk_cell BK168.out 3).trans rfl; have hcz83_4 : w61.cell? ⟨gb168, 4, none⟩ = some (.int .u32 t164) := (blk_cell BK168.out 4).trans rfl; have hcz83_5 : w61.cell? ⟨gb168, 5, none⟩ = some (.int .u32 t165) := (blk_cell BK168.out 5).trans rfl; have hfz83_0 := blk_frozen BK168.out 0; have hfz83_1 := blk_frozen BK168.out 1; have hfz83_2 := blk_frozen BK168.out 2; have hfz83_3 := blk_frozen BK168.out 3; have hfz83_4 := blk_frozen BK168.out 4; have hfz83_5 := blk_frozen BK168.out 5; have hcz84_0 : w61.cell? ⟨gb108, 0, none⟩ = some (.int .i64 1) := (blk_cell BK108.out 0).trans rfl; have hcz84_1 : w61.cell? ⟨gb108, 1, none⟩ = some (.int .i64 0) := (blk_cell BK108.out 1).trans rfl; have hcz84_2 : w61.cell? ⟨gb108, 2, none⟩ = some (.int .u32 7) := (blk_cell BK108.out 2).trans rfl; have hcz84_3 : w61.cell? ⟨gb108, 3, none⟩ = some (.int .u32 0) := (blk_cell BK108.out 3).trans rfl; have hfz84_0 := blk_frozen BK108.out 0; have hfz84_1 := blk_frozen BK108.out 1; have hfz84_2 := blk_frozen BK108.out 2; have hfz84_3 := blk_frozen BK108.out 3; have hcz85_0 : w61.cell? ⟨gb167, 0, none⟩ = some (.int .i64 t149) := (blk_cell BK167.out 0).trans rfl; have hcz85_1 : w61.cell? ⟨gb167, 1, none⟩ = some (.bool t150) := (blk_cell BK167.out 1).trans rfl; have hcz85_2 : w61.cell? ⟨gb167, 2, none⟩ = some (.bool t151) := (blk_cell BK167.out 2).trans rfl; have hcz85_3 : w61.cell? ⟨gb167, 3, none⟩ = some (.bool t152) := (blk_cell BK167.out 3).trans rfl; have hcz85_4 : w61.cell? ⟨gb167, 4, none⟩ = some (.int .i64 t153) := (blk_cell BK167.out 4).trans rfl; have hcz85_5 : w61.cell? ⟨gb167, 5, none⟩ = some (.int .i64 t154) := (blk_cell BK167.out 5).trans rfl; have hcz85_6 : w61.cell? ⟨gb167, 6, none⟩ = some (.int .u32 t155) := (blk_cell BK167.out 6).trans rfl; have hcz85_7 : w61.cell? ⟨gb167, 7, none⟩ = some (.int .u32 t156) := (blk_cell BK167.out 7).trans rfl; have hcz85_8 : w61.cell? ⟨gb167, 8, none⟩ = some (.slice Ao50 t157.length co50) := (blk_cell BK167.out 8).trans rfl; have hfz85_0 := blk_frozen BK167.out 0; have hfz85_1 := blk_frozen BK167.out 1; have hfz85_2 := blk_frozen BK167.out 2; have hfz85_3 := blk_frozen BK167.out 3; have hfz85_4 := blk_frozen BK167.out 4; have hfz85_5 := blk_frozen BK167.out 5; have hfz85_6 := blk_frozen BK167.out 6; have hfz85_7 := blk_frozen BK167.out 7; have hfz85_8 := blk_frozen BK167.out 8))
           go_ret
           exact ⟨by first | rfl | (simp [errW_none, errW_some] <;> rfl) | (simp [*, errW_none, errW_some] <;> rfl), by repeat (first | (with_reducible first | exact HB.out | apply below_alloc | apply pw_below_drewN | apply below_drew1 | refine below_set ?_ GE108.out | refine below_set ?_ GE127.out | refine below_set ?_ GE128.out | refine below_set ?_ GE147.out | refine below_set ?_ GE148.out | refine below_set ?_ GE167.out | refine below_set ?_ GE168.out | refine below_set ?_ GE187.out | refine below_set ?_ GE188.out) | exact HB.out)⟩
          ·replace c14 := Bool.eq_false_iff.mpr c14
           subst c14
           have H1 : (some false) = some r := by rw [if_neg (show ¬ (false = true) by decide)] at H; exact H
           clear H
           have H := H1
           clear H1
           exact absurd ((Option.some.inj H).trans HRr.out) (by simp)
         ·rw [if_neg c13] at H
          have c13b0 : (t162 == 1 && (t163 == 0 && (t164 == 7 && (t165 == 0)))) = false := by simpa using c13
          (try (have c13b1 : decide (t162 = 1 && (t163 == 0 && (t164 == 7 && (t165 == 0)))) = false := by simpa using c13))
          (try (have c13b2 : (t162 == 1 && (t163 == 0 && (t164 == 7 && (t165 == 0)))) = false := by simpa using c13))
          (try (have c13b3 : ¬ (t162 = 1 && (t163 == 0 && (t164 == 7 && (t165 == 0)))) := by simpa using c13))
          clear c13
          exact absurd ((Option.some.inj H).trans HRr.out) (by simp)
        ·replace c12 := Bool.eq_false_iff.mpr c12
         subst c12
         have H1 : (some false) = some r := by rw [if_neg (show ¬ (false = true) by decide)] at H; exact H
         clear H
         have H := H1
         clear H1
         exact absurd ((Option.some.inj H).trans HRr.out) (by simp)
       ·replace c11 := Bool.eq_false_iff.mpr c11
        subst c11
        have H1 : (some false) = some r := by rw [if_neg (show ¬ (false = true) by decide)] at H; exact H
        clear H
        have H := H1
        clear H1
        exact absurd ((Option.some.inj H).trans HRr.out) (by simp)
     ·replace c9 := Bool.eq_false_iff.mpr c9
      subst c9
      have H1 : (some false) = some r := by rw [if_neg (show ¬ (false = true) by decide)] at H; exact H
      clear H
      have H := H1
      clear H1
      exact absurd ((Option.some.inj H).trans HRr.out) (by simp)
    ·rw [if_neg c8] at H
     have c8b0 : (t186 == 0) = false := beq_eq_false_iff_ne.mpr c8
     have c8b1 : (t186 != 0) = true := bne_iff_ne.mpr c8
     exact absurd ((Option.some.inj H).trans HRr.out) (by simp)
   ·rw [if_neg c7] at H
    have c7b0 : (t166 == 0) = false := beq_eq_false_iff_ne.mpr c7
    have c7b1 : (t166 != 0) = true := bne_iff_ne.mpr c7
    exact absurd ((Option.some.inj H).trans HRr.out) (by simp)
  ·rw [if_neg c6] at H
   have c6b0 : (t146 == 0) = false := beq_eq_false_iff_ne.mpr c6
   have c6b1 : (t146 != 0) = true := bne_iff_ne.mpr c6
   exact absurd ((Option.some.inj H).trans HRr.out) (by simp)
 ·rw [if_neg c5] at H
  have c5b0 : (t126 == 0) = false := beq_eq_false_iff_ne.mpr c5
  have c5b1 : (t126 != 0) = true := bne_iff_ne.mpr c5
  exact absurd ((Option.some.inj H).trans HRr.out) (by simp)

end Go.Proofs.Ytbpgpbbpeppjmaa.PD
