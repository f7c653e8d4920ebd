import Derived.Test.YtmhgckamkokedaaAC0
import Derived.RangeFuncNested
import Derived.RangeFuncBound
import Derived.RangeFuncCalls
import Derived.RangeFuncLeaves
import Derived.RangeFuncBox
import Derived.Shelf.Abstract
import Derived.Shelf.RegionOpen
import Derived.WalkKit
import Derived.OwnWalkIn
import Derived.TacticsInMore
import Derived.LoopNIn
import Derived.LoopIn
import Derived.Outline
import Derived.Lib.Hide
namespace Go.Proofs.Ytmhgckamkokedaa.PE.L
open Go.RowKit Go.Shelf Go.Proofs.YtmhgckamkokedaaW.PrintWords Go.Proofs.YtmhgckamkokedaaW.PrintLast Go.Proofs.YtmhgckamkokedaaW.PrintMore Go.Proofs.Ytmhgckamkokedaa.PA
set_option linter.unusedVariables false
set_option linter.unusedSimpArgs false
attribute [local go_sem] Oper.semAt_some

/-- What least's own cells hold. -/
def Lst (B : Nat) (s : Int × Int × Int) (W : World) : Prop :=
  W.cell? ⟨B, 0, none⟩ = some (.func (.func 14) #[] #[]) ∧ W.cell? ⟨B + 1, 0, none⟩ = some (.int .u32 s.1) ∧ W.cell? ⟨B + 2, 0, none⟩ = some (.int .i64 s.2.1) ∧ W.cell? ⟨B + 3, 0, none⟩ = some (.int .i64 s.2.2) ∧
  W.frozen? ⟨B + 1, 0, none⟩ = false ∧ W.frozen? ⟨B + 2, 0, none⟩ = false ∧ W.frozen? ⟨B + 3, 0, none⟩ = false
set_option maxRecDepth 100000 in
set_option maxHeartbeats 4000000 in
theorem least_w (Bs : Nat) (sv : Value) (zs : List Int) (hreach : zs.length * 4 ≤ 140737488351232) (w : World) (hBs : Bs < w.heap.size) (hc : w.cell? ⟨Bs, 0, none⟩ = some sv) (hI : Ints w.heap.size w sv zs) :
    Calls Try.prog 25 #[.func (.func 33) #[] #[.pointer (some ⟨Bs, 0, none⟩)], .func (.func 14) #[] #[]] w fun e w' => e = .returned (.tuple #[.int .u32 (stV zs).1, .int .i64 (stV zs).2.1]) ∧ Below w.heap.size w w' := by
  refine (callsIn_wide (n := 5)).1 ?_
  refine callsIn_of_wp_marks Try.func25 rfl trivial ?_ rfl
  simp only [Try.ntmps25, List.size_toArray, List.length_cons, List.length_nil, Nat.reduceAdd, Nat.reduceSub, Array.replicate_succ, Array.replicate_zero, List.push_toArray, List.append_toArray, List.nil_append, List.cons_append]
  gi_wp2
  have hB0 : Below w.heap.size w ((((w.alloc (.cells #[.func (.func 14) #[] #[]] 34)).alloc (.cells #[.int .u32 0] 32)).alloc (.cells #[.int .i64 (-1)] 3)).alloc (.cells #[.int .i64 0] 3)) := ((((Below.refl _ w).alloc (Nat.le_refl _) _).alloc (by simp) _).alloc (by simp; omega) _).alloc (by simp; omega) _
  refine wpIn_rangeFunc_ownF rfl (by omega) (gf := 33) (lb := #[.pointer (some ⟨Bs, 0, none⟩)]) rfl trivial (enters_of Try.func33 (by kernel_rfl) rfl)
    (values_stops _ (by omega) Bs w.heap.size sv zs hreach _ (by simp; omega) (by simp; omega) ((hB0.cell (p := ⟨Bs, 0, none⟩) hBs).trans hc) (hI.below hB0)) belowK_t (belowK_b (by simp; omega)) (Below.refl _ _) (fun _ => rfl)
    (fun pre W => Lst w.heap.size (stV pre) W ∧ Below w.heap.size w W)
    (fun _ _ _ => False)
    (OwnFrom.and (Own.from (fun s A B row hs hg hr => ⟨cell_kept hs.1 hg hr, cell_kept hs.2.1 hg hr, cell_kept hs.2.2.1 hg hr, cell_kept hs.2.2.2.1 hg hr, (frozen_kept hs.2.1 hg hr).trans hs.2.2.2.2.1, (frozen_kept hs.2.2.1 hg hr).trans hs.2.2.2.2.2.1, (frozen_kept hs.2.2.2.1 hg hr).trans hs.2.2.2.2.2.2⟩) _) (ownFrom_below (Nat.le_refl _) (by simp; omega)))
    (fun _ _ _ _ _ hs _ _ => hs)
    ⟨⟨by go_simp, by go_simp; rfl, by go_simp; rfl, by go_simp; rfl, by go_simp, by go_simp, by go_simp⟩, hB0⟩
    (fun x => { tmps := #[.func (.func 33) #[] #[.pointer (some ⟨Bs, 0, none⟩)], .func (.func 14) #[] #[], undef, .pointer (some ⟨w.heap.size, 0, none⟩), .pointer (some ⟨w.heap.size + 1, 0, none⟩), .pointer (some ⟨w.heap.size + 2, 0, none⟩), .pointer (some ⟨w.heap.size + 3, 0, none⟩), .int .u32 x, .func (.func 33) #[] #[.pointer (some ⟨Bs, 0, none⟩)], .int .u32 x, undef, undef, undef, undef, undef, undef, undef, undef, undef, undef, undef, undef, undef, undef], defers := [] }) ?assign ?body ?done ?stop
  case assign =>
    intro l x W K hK
    gi_wp2
    exact hK
  case body =>
    rintro l pre x W ⟨⟨h3, h4, h5, h6, f4, f5, f6⟩, hB⟩ hlen
    have hmx : Try.prog.follows .mixedOrders = true := by kernel_rfl
    have hz := hB.size
    have hi := stV_len pre
    have hsn := stV_snoc pre x
    generalize stV pre = s at *
    obtain ⟨b, wh, i⟩ := s
    dsimp only at h4 h5 h6 hi
    have hi0 : 0 ≤ i := by omega
    have hi1 : i ≤ 140737488351232 := by omega
    unfold stp at hsn
    dsimp only at hsn
    clear hi hlen hreach hI hBs hc
    by_cases hn : wh < 0
    · rw [if_pos (.inl hn)] at hsn
      have HS := Lib.hid hsn
      clear hsn
      have hn' : decide (wh < 0) = true := decide_eq_true hn
      clear hn
      gi_wp2
      refine ⟨fun _ h => (by cases h), ?_⟩
      gi_wp2
      gi_region_with_o (fail)
      all_goals gi_wp2
      all_goals (try go_bits)
      all_goals (refine ⟨?_, ?_, (by rw [HS.out]; exact ⟨by (first | (go_simp; done) | (simp [*]; done)), by (first | (go_simp; done) | (simp [*]; done)), by (first | (go_simp; done) | (simp [*]; done)), by (first | (go_simp; done) | (simp [*]; done)), by (first | (go_simp; done) | (simp [*]; done)), by (first | (go_simp; done) | (simp [*]; done)), by (first | (go_simp; done) | (simp [*]; done))⟩), ?_⟩)
      all_goals first | ((repeat (first | exact KeepsOthers.refl _ | exact keepsOthers_below hb | refine KeepsOthers.trans ?_ (KeepsOthers.setCell _ _ _) | refine KeepsOthers.trans ?_ (KeepsOthers.drew _))); done) | ((repeat (first | exact Below.refl _ _ | exact hB | exact hb.mono hz | exact hB.trans (hb.mono hz) | refine Below.setCell ?_ (by simp; try omega) _ | refine below_drew ?_)); done)
    · have hn' : decide (wh < 0) = false := decide_eq_false hn
      cases hr : decide (act x < act b)
      · rw [if_neg (fun h => h.elim hn (of_decide_eq_false hr))] at hsn
        have HS := Lib.hid hsn
        have HR := Lib.hid hr
        clear hsn hr hn
        gi_wp2_with (refine ⟨trivial, ?_⟩; gi_at_call 14; refine (CallsIn.inRound l (callsIn_wide.2 (under_w x b _ HR.out _))).mono ?_; rintro e w1 ⟨rfl, hb⟩; replace h3 := pw_cell_below hb h3; replace f4 := (hb.frozen (p := ⟨w.heap.size + 1, 0, none⟩) (World.block_lt_of_cell? _ _ h4)).trans f4; replace f5 := (hb.frozen (p := ⟨w.heap.size + 2, 0, none⟩) (World.block_lt_of_cell? _ _ h5)).trans f5; replace f6 := (hb.frozen (p := ⟨w.heap.size + 3, 0, none⟩) (World.block_lt_of_cell? _ _ h6)).trans f6; replace h4 := pw_cell_below hb h4; replace h5 := pw_cell_below hb h5; replace h6 := pw_cell_below hb h6)
        all_goals (try go_bits)
        all_goals (refine ⟨?_, ?_, (by rw [HS.out]; exact ⟨by (first | (go_simp; done) | (simp [*]; done)), by (first | (go_simp; done) | (simp [*]; done)), by (first | (go_simp; done) | (simp [*]; done)), by (first | (go_simp; done) | (simp [*]; done)), by (first | (go_simp; done) | (simp [*]; done)), by (first | (go_simp; done) | (simp [*]; done)), by (first | (go_simp; done) | (simp [*]; done))⟩), ?_⟩)
        all_goals first | ((repeat (first | exact KeepsOthers.refl _ | exact keepsOthers_below hb | refine KeepsOthers.trans ?_ (KeepsOthers.setCell _ _ _) | refine KeepsOthers.trans ?_ (KeepsOthers.drew _))); done) | ((repeat (first | exact Below.refl _ _ | exact hB | exact hb.mono hz | exact hB.trans (hb.mono hz) | refine Below.setCell ?_ (by simp; try omega) _ | refine below_drew ?_)); done)
      · rw [if_pos (.inr (of_decide_eq_true hr))] at hsn
        have HS := Lib.hid hsn
        have HR := Lib.hid hr
        clear hsn hr hn
        gi_wp2_with (refine ⟨trivial, ?_⟩; gi_at_call 14; refine (CallsIn.inRound l (callsIn_wide.2 (under_w x b _ HR.out _))).mono ?_; rintro e w1 ⟨rfl, hb⟩; replace h3 := pw_cell_below hb h3; replace f4 := (hb.frozen (p := ⟨w.heap.size + 1, 0, none⟩) (World.block_lt_of_cell? _ _ h4)).trans f4; replace f5 := (hb.frozen (p := ⟨w.heap.size + 2, 0, none⟩) (World.block_lt_of_cell? _ _ h5)).trans f5; replace f6 := (hb.frozen (p := ⟨w.heap.size + 3, 0, none⟩) (World.block_lt_of_cell? _ _ h6)).trans f6; replace h4 := pw_cell_below hb h4; replace h5 := pw_cell_below hb h5; replace h6 := pw_cell_below hb h6)
        gi_region_with_o (fail)
        all_goals gi_wp2
        all_goals (try go_bits)
        all_goals (refine ⟨?_, ?_, (by rw [HS.out]; exact ⟨by (first | (go_simp; done) | (simp [*]; done)), by (first | (go_simp; done) | (simp [*]; done)), by (first | (go_simp; done) | (simp [*]; done)), by (first | (go_simp; done) | (simp [*]; done)), by (first | (go_simp; done) | (simp [*]; done)), by (first | (go_simp; done) | (simp [*]; done)), by (first | (go_simp; done) | (simp [*]; done))⟩), ?_⟩)
        all_goals first | ((repeat (first | exact KeepsOthers.refl _ | exact keepsOthers_below hb | refine KeepsOthers.trans ?_ (KeepsOthers.setCell _ _ _) | refine KeepsOthers.trans ?_ (KeepsOthers.drew _))); done) | ((repeat (first | exact Below.refl _ _ | exact hB | exact hb.mono hz | exact hB.trans (hb.mono hz) | refine Below.setCell ?_ (by simp; try omega) _ | refine below_drew ?_)); done)
  case done =>
    rintro D ys W hD rfl ⟨⟨h3, h4, h5, h6, f4, f5, f6⟩, hB⟩ hK
    have hmx : Try.prog.follows .mixedOrders = true := by kernel_rfl
    clear hI
    gi_wp2
    gi_region_with_o (fail)
    all_goals gi_wp2
    all_goals
      generalize hWF : World.drew _ = WF
      have hKO : KeepsOthers W WF := by rw [← hWF]; repeat (first | exact KeepsOthers.refl _ | refine KeepsOthers.trans ?_ (KeepsOthers.setCell _ _ _) | refine KeepsOthers.trans ?_ (KeepsOthers.drew _))
      have hBF : Below w.heap.size w WF := by rw [← hWF]; repeat (first | exact hB | refine Below.setCell ?_ (by simp; try omega) _ | refine below_drew ?_)
      have q4 : WF.cell? ⟨w.heap.size + 1, 0, none⟩ = some (.int .u32 (stV ys).1) := by rw [← hWF]; clear hWF hKO hBF; (first | (go_simp; done) | (simp [*]; done))
      have q5 : WF.cell? ⟨w.heap.size + 2, 0, none⟩ = some (.int .i64 (stV ys).2.1) := by rw [← hWF]; clear hWF hKO hBF; (first | (go_simp; done) | (simp [*]; done))
      clear hWF
      have hK' := hKO.same D _ hK rfl
      refine ⟨by simp, .inl ⟨_, _, rfl, run_takeDeferred hK', ?_⟩⟩
      have p4 := cell_kept q4 (grownBy_putObj' _ D (.deferred none)) (fun r e => by cases e; exact ⟨_, hK', rfl⟩)
      have p5 := cell_kept q5 (grownBy_putObj' _ D (.deferred none)) (fun r e => by cases e; exact ⟨_, hK', rfl⟩)
      refine ⟨.tuple #[.int .u32 (stV ys).1, .int .i64 (stV ys).2.1], ?_, rfl, hBF.trans (belowK_b (w := w) (Nat.le_refl _) _ D _ _ (by simp at hD; omega) hK' rfl rfl)⟩
      simp [results, Try.f25, go_sem, p4, p5]
  case stop =>
    rintro D c pre W _ _ h _
    exact h.elim
end Go.Proofs.Ytmhgckamkokedaa.PE.L
