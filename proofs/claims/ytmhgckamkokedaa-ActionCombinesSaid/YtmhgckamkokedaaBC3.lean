import Derived.Test.YtmhgckamkokedaaBC2
import Derived.Test.YtmhgckamkokedaaAC2
import Derived.RangeFuncNested
import Derived.RangeFuncBound
import Derived.RangeFuncCalls
import Derived.RangeFuncLeaves
import Derived.RangeFuncBox
import Derived.Shelf.Abstract
import Derived.Shelf.RegionOpen
import Derived.WalkKit
import Derived.OwnWalkIn
import Derived.TacticsInMore
import Derived.LoopNIn
import Derived.LoopIn
import Derived.Outline
import Derived.Lib.Hide
namespace Go.Proofs.Ytmhgckamkokedaa.RE
open Go.RowKit Go.Shelf Go.Proofs.YtmhgckamkokedaaW.PrintWords Go.Proofs.YtmhgckamkokedaaW.PrintLast Go.Proofs.YtmhgckamkokedaaW.PrintMore
open Go.Proofs.Ytmhgckamkokedaa.PE.L (upto upto_succ upto_length upto_take act under_w stp stV stV_snoc stV_len keepsOthers_below Lst combV)
set_option linter.unusedVariables false
set_option linter.unusedSimpArgs false
attribute [local go_sem] Oper.semAt_some

theorem Told.unalloc {o : Obj} {Bt : Nat} {w V : World} {k : Int} (h : Told (w.alloc o).heap.size Bt (w.alloc o) k V) (ht : Bt < w.heap.size) : V.heap[w.heap.size]? = some o ∧ Told w.heap.size Bt w k V :=
  ⟨(h.block _ (by simp) (by omega)).trans (World.alloc_heap_new w o), h.os, h.tape, h.output, by have := h.size; simp at this; omega, fun i hi hn => (h.block i (by simp; omega) hn).trans (Below.heap_alloc _ _ _ hi), h.box⟩
set_option maxRecDepth 100000 in
set_option maxHeartbeats 2000000 in
theorem seq2_w (Bl Bt b off cap : Nat) (sa : Option Addr) (zs : List Int) (hsa : 0 < zs.length → sa = some ⟨b, off, none⟩) (hreach : zs.length ≤ 1000) (w : World) (hb : b < w.heap.size) (hbt : b ≠ Bt) (hBl : Boxed w Bl 22 (.slice sa zs.length cap)) (hne : Bl ≠ Bt) (hBt : Boxed w Bt 3 (.int .i64 0))
    (hc : ∀ j, j < zs.length → w.cell? ⟨b, off + j, none⟩ = some (.int .u32 (zs[j]?.getD 0))) :
    Calls Try.prog 12 #[.func (.func 13) #[] #[.pointer (some ⟨Bl, 0, none⟩), .pointer (some ⟨Bt, 0, none⟩)]] w fun e w' => e = .returned (.tuple #[.agg #[.int .i64 (combV zs).1, .int .u16 (combV zs).2.1], .int .i64 (combV zs).2.2]) ∧ Told w.heap.size Bt w zs.length w' := by
  unfold combV
  have htn := hBt.lt
  have HB0 := Lib.hid ((Below.refl _ w).alloc (Nat.le_refl _) (.cells #[.int .i64 0, .int .u16 0] 27))
  have hq := least2_w Bl Bt b off cap sa zs hsa hreach (w.alloc (.cells #[.int .i64 0, .int .u16 0] 27)) (by simp; omega) hbt (hBl.alloc _) hne (hBt.alloc _) (fun j hj => (HB0.out.cell (p := ⟨b, off + j, none⟩) hb).trans (hc j hj))
  generalize (stV zs).1 = bb at *
  generalize (stV zs).2.1 = wh at *
  clear hc hBl hBt hsa hreach
  have HQ := Lib.hid hq
  clear hq
  by_cases hn : wh < 0
  · rw [if_pos hn]
    go_enter Try.func12, Try.ntmps12
    go_wp2_with fail
    refine HQ.out.mono ?_
    rintro e w1 ⟨rfl, hT⟩
    obtain ⟨hk, hT1⟩ := hT.unalloc htn
    have HT := Lib.hid hT1
    have hz := hT1.size
    clear hT hT1
    have hc_r := blk_cell hk; have hf_r := blk_frozen hk; have hl_r := blk_lt hk
    go_wp2_with fail
    refine bodyPost_ret (v := .tuple #[.agg #[.int .i64 7, .int .u16 0], .int .i64 wh]) (by simp [results, Try.results12, go_sem, hc_r, hl_r]) rfl ⟨rfl, ?_⟩
    refine HT.out.below ?_ htn
    repeat (first | exact Below.refl _ _ | refine Below.setCell ?_ (by simp) _)
  · rw [if_neg hn]
    go_enter Try.func12, Try.ntmps12
    go_wp2_with fail
    refine HQ.out.mono ?_
    rintro e w1 ⟨rfl, hT⟩
    obtain ⟨hk, hT1⟩ := hT.unalloc htn
    have HT := Lib.hid hT1
    have HK := Lib.hid hk
    have hz := hT1.size
    clear hT hT1 hk
    go_wp2_with fail
    refine (PA.action_Split.calls 20 bb _ _ _ (PE.L.split_f bb)).mono ?_
    rintro e w2 ⟨rfl, hb2⟩
    have hk := (hb2.block _ (blk_lt HK.out)).trans HK.out
    have HT2 := Lib.hid (HT.out.below (hb2.mono hz) htn)
    clear hb2
    have hc_r := blk_cell hk; have hf_r := blk_frozen hk; have hl_r := blk_lt hk
    go_wp2_with fail
    refine bodyPost_ret (v := .tuple #[.agg #[.int .i64 (act bb), .int .u16 (IntKind.u16.wrap bb)], .int .i64 wh]) (by simp [results, Try.results12, go_sem, hc_r, hl_r]) rfl ⟨rfl, ?_⟩
    refine HT2.out.below ?_ htn
    repeat (first | exact Below.refl _ _ | refine Below.setCell ?_ (by simp) _)
end Go.Proofs.Ytmhgckamkokedaa.RE
