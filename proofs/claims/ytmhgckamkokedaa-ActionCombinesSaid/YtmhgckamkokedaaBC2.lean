import Derived.Test.YtmhgckamkokedaaBC1
import Derived.RangeFuncNested
import Derived.RangeFuncBound
import Derived.RangeFuncCalls
import Derived.RangeFuncLeaves
import Derived.RangeFuncBox
import Derived.Shelf.Abstract
import Derived.Shelf.RegionOpen
import Derived.WalkKit
import Derived.OwnWalkIn
import Derived.TacticsInMore
import Derived.LoopNIn
import Derived.LoopIn
import Derived.Outline
import Derived.Lib.Hide
namespace Go.Proofs.Ytmhgckamkokedaa.RE
open Go.RowKit Go.Shelf Go.Proofs.YtmhgckamkokedaaW.PrintWords Go.Proofs.YtmhgckamkokedaaW.PrintLast Go.Proofs.YtmhgckamkokedaaW.PrintMore
open Go.Proofs.Ytmhgckamkokedaa.PE.L (upto upto_succ upto_length upto_take act under_w stp stV stV_snoc stV_len keepsOthers_below Lst combV)
set_option linter.unusedVariables false
set_option linter.unusedSimpArgs false
attribute [local go_sem] Oper.semAt_some

theorem lst_own (B : Nat) {β : Type} (f : β → Int × Int × Int) : Own (fun s W => Lst B (f s) W) :=
  fun s A B row hs hg hr => ⟨cell_kept hs.1 hg hr, cell_kept hs.2.1 hg hr, cell_kept hs.2.2.1 hg hr, cell_kept hs.2.2.2.1 hg hr, (frozen_kept hs.2.1 hg hr).trans hs.2.2.2.2.1, (frozen_kept hs.2.2.1 hg hr).trans hs.2.2.2.2.2.1, (frozen_kept hs.2.2.2.1 hg hr).trans hs.2.2.2.2.2.2⟩
theorem lst_tell {B Bt : Nat} {s : Int × Int × Int} {X Y : World} (hb : Bt < B) (h : Lst B s X) (ht : Tell Bt X Y) : Lst B s Y := by
  obtain ⟨k, rfl⟩ := ht
  have far : ∀ (a : Addr), a.block ≠ Bt → (X.setCell ⟨Bt, 0, none⟩ (.int .i64 k)).cell? a = X.cell? a := fun a ha => World.cell?_setCell_far _ _ _ _ (Ne.symm ha)
  have farf : ∀ (a : Addr), a.block ≠ Bt → (X.setCell ⟨Bt, 0, none⟩ (.int .i64 k)).frozen? a = X.frozen? a := fun a ha => by unfold World.frozen?; rw [Below.heap_setCell _ _ _ _ ha]
  obtain ⟨h1, h2, h3, h4, h5, h6, h7⟩ := h
  exact ⟨(far _ (by dsimp only; omega)).trans h1, (far _ (by dsimp only; omega)).trans h2, (far _ (by dsimp only; omega)).trans h3, (far _ (by dsimp only; omega)).trans h4, (farf _ (by dsimp only; omega)).trans h5, (farf _ (by dsimp only; omega)).trans h6, (farf _ (by dsimp only; omega)).trans h7⟩
theorem lst_kept {B : Nat} {s : Int × Int × Int} {X Y : World} {row : Option Nat} (h : Lst B s X) (hg : X.grownBy Y row) (hr : ∀ r, row = some r → ∃ o : Obj, X.heap[r]? = some o ∧ o.isCells = false) : Lst B s Y := lst_own B (β := Unit) (fun _ => s) () X Y row h hg hr
theorem books_tell {D Bt : Nat} {L : Loop} {X Y : World} (hD : Bt < D) (h : Tell Bt X Y) (hb : Books D L X) : Books D L Y := by
  obtain ⟨k, rfl⟩ := h
  exact ⟨(Below.heap_setCell _ _ _ _ (by dsimp only; omega)).trans hb.1, (Below.heap_setCell _ _ _ _ (by dsimp only; omega)).trans hb.2⟩
set_option maxRecDepth 100000 in
set_option maxHeartbeats 8000000 in
theorem least2_w (Bl Bt b off cap : Nat) (sa : Option Addr) (zs : List Int) (hsa : 0 < zs.length → sa = some ⟨b, off, none⟩) (hreach : zs.length ≤ 1000) (w : World) (hb : b < w.heap.size) (hbt : b ≠ Bt) (hBl : Boxed w Bl 22 (.slice sa zs.length cap)) (hne : Bl ≠ Bt) (hBt : Boxed w Bt 3 (.int .i64 0))
    (hc : ∀ j, j < zs.length → w.cell? ⟨b, off + j, none⟩ = some (.int .u32 (zs[j]?.getD 0))) :
    Calls Try.prog 25 #[.func (.func 13) #[] #[.pointer (some ⟨Bl, 0, none⟩), .pointer (some ⟨Bt, 0, none⟩)], .func (.func 14) #[] #[]] w fun e w' => e = .returned (.tuple #[.int .u32 (stV zs).1, .int .i64 (stV zs).2.1]) ∧ Told w.heap.size Bt w zs.length w' := by
  have hln := hBl.lt
  have htn := hBt.lt
  have hT0 : Told w.heap.size Bt w 0 w := ⟨rfl, rfl, rfl, Nat.le_refl _, fun _ _ _ => rfl, hBt⟩
  have HS := Lib.hid (fun (n : Nat) (hn : 1 ≤ n) (W : World) (hW : Below w.heap.size w W) => told_seq n hn Bl Bt w.heap.size b off cap sa zs hsa hreach w hb hbt hBl hln hne htn hc W (hT0.below hW htn))
  clear hc hBl hsa hT0
  refine (callsIn_wide (n := 5)).1 ?_
  refine callsIn_of_wp_marks Try.func25 rfl trivial ?_ rfl
  simp only [Try.ntmps25, List.size_toArray, List.length_cons, List.length_nil, Nat.reduceAdd, Nat.reduceSub, Array.replicate_succ, Array.replicate_zero, List.push_toArray, List.append_toArray, List.nil_append, List.cons_append]
  gi_wp2
  have hB0 : Below w.heap.size w ((((w.alloc (.cells #[.func (.func 14) #[] #[]] 34)).alloc (.cells #[.int .u32 0] 32)).alloc (.cells #[.int .i64 (-1)] 3)).alloc (.cells #[.int .i64 0] 3)) := ((((Below.refl _ w).alloc (Nat.le_refl _) _).alloc (by simp) _).alloc (by simp; omega) _).alloc (by simp; omega) _
  have hl0 : Lst w.heap.size (stV []) ((((w.alloc (.cells #[.func (.func 14) #[] #[]] 34)).alloc (.cells #[.int .u32 0] 32)).alloc (.cells #[.int .i64 (-1)] 3)).alloc (.cells #[.int .i64 0] 3)) := ⟨by go_simp, by go_simp; rfl, by go_simp; rfl, by go_simp; rfl, by go_simp, by go_simp, by go_simp⟩
  have hs0 : ((((w.alloc (.cells #[.func (.func 14) #[] #[]] 34)).alloc (.cells #[.int .u32 0] 32)).alloc (.cells #[.int .i64 (-1)] 3)).alloc (.cells #[.int .i64 0] 3)).heap.size = w.heap.size + 4 := by simp
  generalize ((((w.alloc (.cells #[.func (.func 14) #[] #[]] 34)).alloc (.cells #[.int .u32 0] 32)).alloc (.cells #[.int .i64 (-1)] 3)).alloc (.cells #[.int .i64 0] 3)) = V0 at hB0 hl0 hs0 ⊢
  refine wp_rangeW (gf := 13) (lb := #[.pointer (some ⟨Bl, 0, none⟩), .pointer (some ⟨Bt, 0, none⟩)]) (Ok := Tell Bt) (Kp := Below w.heap.size) (encs := fun x : Int => #[Value.int .u32 x]) (S := fun xs V => xs = zs ∧ Told w.heap.size Bt w zs.length V) (Sp := fun pre => pre <+: zs) (N := zs.length) rfl (by omega) rfl trivial (enters_of Try.func13 (by kernel_rfl) rfl) (fun _ => rfl)
    (fun rec => HS.out (5 - 1) (by omega) _ ((hB0.alloc (by omega) _).alloc (by simp; omega) _))
    (fun U V o' hk hl => by
      obtain ⟨L, hL⟩ := hl
      have hz := (Array.getElem?_eq_some_iff.1 hL).1
      exact hk.trans ((Below.refl _ V).grown (grownBy_putObj' _ _ _) (by omega) (fun k e => by cases e; omega)))
    (fun s X Y row hs hg hr => ⟨hs.1, hs.2.below ((Below.refl _ X).grown hg (by have := hs.2.size; omega) (fun k e => by have := (hr k e).1; omega)) htn⟩)
    (fun X Y L h hbk => books_tell (by omega) h hbk)
    (fun pre W => Lst w.heap.size (stV pre) W)
    (fun _ _ _ => False)
    (Own.from (lst_own _ _) _) (fun _ _ _ _ _ hs _ _ => hs) (fun s X Y h ht => lst_tell htn h ht) (fun _ _ _ _ hs _ => hs) hl0 ?round ?done ?stop
  case round =>
    rintro l pre x V hL hlen
    have hwV : w.heap.size + 4 ≤ V.heap.size := by have := World.block_lt_of_cell? _ _ hL.2.2.2.1; dsimp only at this; omega
    gi_wp2
    refine ⟨KeepsFrom.refl _ _, fun V2 hg _ hko hkp => ?_⟩
    have hkp2 := hkp (Below.refl _ _)
    replace hL := lst_kept hL hg (fun r e => by cases e; exact hko)
    have hz := hkp2.size
    have HKP := Lib.hid hkp2
    obtain ⟨h3, h4, h5, h6, f4, f5, f6⟩ := hL
    have hmx : Try.prog.follows .mixedOrders = true := by kernel_rfl
    have hi := stV_len pre
    have hsn := stV_snoc pre x
    generalize stV pre = s at *
    obtain ⟨bb, wh, i⟩ := s
    dsimp only at h4 h5 h6 hi
    have hi0 : 0 ≤ i := by omega
    have hi1 : i ≤ 140737488351232 := by omega
    unfold stp at hsn
    dsimp only at hsn
    clear hi hlen hreach hg hko hkp hkp2
    by_cases hn : wh < 0
    · rw [if_pos (.inl hn)] at hsn
      have HSN := Lib.hid hsn
      clear hsn
      have hn' : decide (wh < 0) = true := decide_eq_true hn
      clear hn
      gi_wp2
      refine ⟨fun _ h => (by cases h), ?_⟩
      gi_wp2
      gi_region_with_o (fail)
      all_goals gi_wp2
      all_goals (try go_bits)
      all_goals (refine ⟨?_, HKP.out.trans ?_, (by show Lst w.heap.size (stV (pre ++ [x])) _; rw [HSN.out]; exact ⟨by (first | (go_simp; done) | (simp [*]; done)), by (first | (go_simp; done) | (simp [*]; done)), by (first | (go_simp; done) | (simp [*]; done)), by (first | (go_simp; done) | (simp [*]; done)), by (first | (go_simp; done) | (simp [*]; done)), by (first | (go_simp; done) | (simp [*]; done)), by (first | (go_simp; done) | (simp [*]; done))⟩)⟩)
      all_goals first | (refine KeepsOthers.from ?_ _; (repeat (first | exact KeepsOthers.refl _ | refine KeepsOthers.trans ?_ (KeepsOthers.setCell _ _ _) | refine KeepsOthers.trans ?_ (KeepsOthers.drew _))); done) | ((repeat (first | exact Below.refl _ _ | refine Below.setCell ?_ (by simp; try omega) _ | refine below_drew ?_)); done)
    · have hn' : decide (wh < 0) = false := decide_eq_false hn
      cases hr : decide (act x < act bb)
      · rw [if_neg (fun h => h.elim hn (of_decide_eq_false hr))] at hsn
        have HSN := Lib.hid hsn
        have HR := Lib.hid hr
        clear hsn hr hn
        gi_wp2_with (refine ⟨trivial, ?_⟩; gi_at_call 14; refine (CallsIn.inRound l (callsIn_wide.2 (under_w x bb _ HR.out _))).mono ?_; rintro e w1 ⟨rfl, hb⟩; replace h3 := pw_cell_below hb h3; replace f4 := (hb.frozen (p := ⟨w.heap.size + 1, 0, none⟩) (World.block_lt_of_cell? _ _ h4)).trans f4; replace f5 := (hb.frozen (p := ⟨w.heap.size + 2, 0, none⟩) (World.block_lt_of_cell? _ _ h5)).trans f5; replace f6 := (hb.frozen (p := ⟨w.heap.size + 3, 0, none⟩) (World.block_lt_of_cell? _ _ h6)).trans f6; replace h4 := pw_cell_below hb h4; replace h5 := pw_cell_below hb h5; replace h6 := pw_cell_below hb h6)
        all_goals (try go_bits)
        all_goals (refine ⟨?_, HKP.out.trans ?_, (by show Lst w.heap.size (stV (pre ++ [x])) _; rw [HSN.out]; exact ⟨by (first | (go_simp; done) | (simp [*]; done)), by (first | (go_simp; done) | (simp [*]; done)), by (first | (go_simp; done) | (simp [*]; done)), by (first | (go_simp; done) | (simp [*]; done)), by (first | (go_simp; done) | (simp [*]; done)), by (first | (go_simp; done) | (simp [*]; done)), by (first | (go_simp; done) | (simp [*]; done))⟩)⟩)
        all_goals first | (refine KeepsOthers.from ?_ _; (repeat (first | exact KeepsOthers.refl _ | exact keepsOthers_below hb | refine KeepsOthers.trans ?_ (KeepsOthers.setCell _ _ _) | refine KeepsOthers.trans ?_ (KeepsOthers.drew _))); done) | ((repeat (first | exact Below.refl _ _ | exact hb.mono (by omega) | refine Below.setCell ?_ (by simp; try omega) _ | refine below_drew ?_)); done)
      · rw [if_pos (.inr (of_decide_eq_true hr))] at hsn
        have HSN := Lib.hid hsn
        have HR := Lib.hid hr
        clear hsn hr hn
        gi_wp2_with (refine ⟨trivial, ?_⟩; gi_at_call 14; refine (CallsIn.inRound l (callsIn_wide.2 (under_w x bb _ HR.out _))).mono ?_; rintro e w1 ⟨rfl, hb⟩; replace h3 := pw_cell_below hb h3; replace f4 := (hb.frozen (p := ⟨w.heap.size + 1, 0, none⟩) (World.block_lt_of_cell? _ _ h4)).trans f4; replace f5 := (hb.frozen (p := ⟨w.heap.size + 2, 0, none⟩) (World.block_lt_of_cell? _ _ h5)).trans f5; replace f6 := (hb.frozen (p := ⟨w.heap.size + 3, 0, none⟩) (World.block_lt_of_cell? _ _ h6)).trans f6; replace h4 := pw_cell_below hb h4; replace h5 := pw_cell_below hb h5; replace h6 := pw_cell_below hb h6)
        gi_region_with_o (fail)
        all_goals gi_wp2
        all_goals (try go_bits)
        all_goals (refine ⟨?_, HKP.out.trans ?_, (by show Lst w.heap.size (stV (pre ++ [x])) _; rw [HSN.out]; exact ⟨by (first | (go_simp; done) | (simp [*]; done)), by (first | (go_simp; done) | (simp [*]; done)), by (first | (go_simp; done) | (simp [*]; done)), by (first | (go_simp; done) | (simp [*]; done)), by (first | (go_simp; done) | (simp [*]; done)), by (first | (go_simp; done) | (simp [*]; done)), by (first | (go_simp; done) | (simp [*]; done))⟩)⟩)
        all_goals first | (refine KeepsOthers.from ?_ _; (repeat (first | exact KeepsOthers.refl _ | exact keepsOthers_below hb | refine KeepsOthers.trans ?_ (KeepsOthers.setCell _ _ _) | refine KeepsOthers.trans ?_ (KeepsOthers.drew _))); done) | ((repeat (first | exact Below.refl _ _ | exact hb.mono (by omega) | refine Below.setCell ?_ (by simp; try omega) _ | refine below_drew ?_)); done)
  case done =>
    rintro D ys W hD ⟨rfl, hTd⟩ ⟨h3, h4, h5, h6, f4, f5, f6⟩ hK
    have hmx : Try.prog.follows .mixedOrders = true := by kernel_rfl
    have hzW := hTd.size
    have HTd := Lib.hid hTd
    clear HS hTd
    gi_wp2
    gi_region_with_o (fail)
    all_goals gi_wp2
    all_goals
      generalize hWF : World.drew _ = WF
      have hKO : KeepsOthers W WF := by rw [← hWF]; repeat (first | exact KeepsOthers.refl _ | refine KeepsOthers.trans ?_ (KeepsOthers.setCell _ _ _) | refine KeepsOthers.trans ?_ (KeepsOthers.drew _))
      have hBF : Below w.heap.size W WF := by rw [← hWF]; repeat (first | exact Below.refl _ _ | refine Below.setCell ?_ (by simp; try omega) _ | refine below_drew ?_)
      have q4 : WF.cell? ⟨w.heap.size + 1, 0, none⟩ = some (.int .u32 (stV ys).1) := by rw [← hWF]; clear hWF hKO hBF; (first | (go_simp; done) | (simp [*]; done))
      have q5 : WF.cell? ⟨w.heap.size + 2, 0, none⟩ = some (.int .i64 (stV ys).2.1) := by rw [← hWF]; clear hWF hKO hBF; (first | (go_simp; done) | (simp [*]; done))
      clear hWF
      have hK' := hKO.same D _ hK rfl
      refine ⟨by simp, .inl ⟨_, _, rfl, run_takeDeferred hK', ?_⟩⟩
      have p4 := cell_kept q4 (grownBy_putObj' _ D (.deferred none)) (fun r e => by cases e; exact ⟨_, hK', rfl⟩)
      have p5 := cell_kept q5 (grownBy_putObj' _ D (.deferred none)) (fun r e => by cases e; exact ⟨_, hK', rfl⟩)
      refine ⟨.tuple #[.int .u32 (stV ys).1, .int .i64 (stV ys).2.1], ?_, rfl, HTd.out.below (hBF.trans (belowK_b (w := w) (Nat.le_refl _) _ D _ _ (by omega) hK' rfl rfl)) htn⟩
      simp [results, Try.f25, go_sem, p4, p5]
  case stop =>
    rintro D c pre W _ _ h _
    exact h.elim
end Go.Proofs.Ytmhgckamkokedaa.RE
