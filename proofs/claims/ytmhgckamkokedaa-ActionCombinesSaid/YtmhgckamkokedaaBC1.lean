import Derived.Test.YtmhgckamkokedaaBC0
import Derived.RangeFuncNested
import Derived.RangeFuncBound
import Derived.RangeFuncCalls
import Derived.RangeFuncLeaves
import Derived.RangeFuncBox
import Derived.Shelf.Abstract
import Derived.Shelf.RegionOpen
import Derived.WalkKit
import Derived.OwnWalkIn
import Derived.TacticsInMore
import Derived.LoopNIn
import Derived.LoopIn
import Derived.Outline
import Derived.Lib.Hide
namespace Go.Proofs.Ytmhgckamkokedaa.RE
open Go.RowKit Go.Shelf Go.Proofs.YtmhgckamkokedaaW.PrintWords Go.Proofs.YtmhgckamkokedaaW.PrintLast Go.Proofs.YtmhgckamkokedaaW.PrintMore
open Go.Proofs.Ytmhgckamkokedaa.PE.L (upto upto_succ upto_length upto_take act under_w stp stV stV_snoc stV_len keepsOthers_below Lst combV)
set_option linter.unusedVariables false
set_option linter.unusedSimpArgs false
attribute [local go_sem] Oper.semAt_some

/-- The world V is W0, but what lies from n0 on, and the box Bt, which holds k. -/
structure Told (n0 Bt : Nat) (W0 : World) (k : Int) (V : World) : Prop where
  os : V.os = W0.os
  tape : V.tape = W0.tape
  output : V.output = W0.output
  size : W0.heap.size ≤ V.heap.size
  block : ∀ i, i < n0 → i ≠ Bt → V.heap[i]? = W0.heap[i]?
  box : Boxed V Bt 3 (.int .i64 k)
theorem Told.below {n0 Bt : Nat} {W0 V V' : World} {k : Int} (h : Told n0 Bt W0 k V) (hb : Below n0 V V') (ht : Bt < n0) : Told n0 Bt W0 k V' :=
  ⟨hb.os.trans h.os, hb.tape.trans h.tape, hb.output.trans h.output, Nat.le_trans h.size hb.size, fun i hi hn => (hb.block i hi).trans (h.block i hi hn), (hb.block Bt ht).trans h.box⟩
theorem Told.set {n0 Bt : Nat} {W0 V : World} {k : Int} (h : Told n0 Bt W0 k V) (u : Int) : Told n0 Bt W0 u (V.setCell ⟨Bt, 0, none⟩ (.int .i64 u)) :=
  ⟨h.os, h.tape, h.output, by simpa [World.setCell] using h.size, fun i hi hn => (Below.heap_setCell _ _ _ i hn).trans (h.block i hi hn), h.box.set _⟩
theorem Told.other {n0 Bt : Nat} {W0 V : World} {k : Int} {B t : Nat} {v : Value} (h : Told n0 Bt W0 k V) (hb : Boxed W0 B t v) (hn : B < n0) (hne : B ≠ Bt) : Boxed V B t v := (h.block B hn hne).trans hb
theorem Told.cell {n0 Bt : Nat} {W0 V : World} {k : Int} {a : Addr} (h : Told n0 Bt W0 k V) (hn : a.block < n0) (hne : a.block ≠ Bt) : V.cell? a = W0.cell? a := by
  unfold World.cell?
  rw [h.block _ hn hne]
/-- The closure's own step. -/
def Tell (Bt : Nat) (X Y : World) : Prop := ∃ k : Int, Y = X.setCell ⟨Bt, 0, none⟩ (.int .i64 k)
set_option maxRecDepth 100000 in
set_option maxHeartbeats 4000000 in
theorem told_seq (n : Nat) (hn : 1 ≤ n) (Bl Bt n0 b off cap : Nat) (sa : Option Addr) (zs : List Int) (hsa : 0 < zs.length → sa = some ⟨b, off, none⟩) (hreach : zs.length ≤ 1000) (W0 : World) (hb : b < n0) (hbt : b ≠ Bt) (hBl : Boxed W0 Bl 22 (.slice sa zs.length cap)) (hln : Bl < n0) (hne : Bl ≠ Bt) (htn : Bt < n0)
    (hc : ∀ j, j < zs.length → W0.cell? ⟨b, off + j, none⟩ = some (.int .u32 (zs[j]?.getD 0))) (W : World) (hT : Told n0 Bt W0 0 W) :
    SeqW Fence.wide n Try.prog 13 #[.pointer (some ⟨Bl, 0, none⟩), .pointer (some ⟨Bt, 0, none⟩)] (fun x : Int => #[Value.int .u32 x]) (Tell Bt) (Below n0) (fun xs V => xs = zs ∧ Told n0 Bt W0 zs.length V) (fun pre => pre <+: zs) zs.length W := by
  intro l J Jx hJo _ hY h0
  obtain ⟨m, hm⟩ : ∃ m, m = zs.length := ⟨_, rfl⟩
  have HM := Lib.hid hm
  have HY := Lib.hid hY
  have HC := Lib.hid hc
  rw [← hm] at hBl hreach hsa ⊢
  have HSA := Lib.hid hsa
  clear hsa
  refine callsIn_of_wp Try.func13 rfl trivial ?_ rfl
  simp only [Try.ntmps13, List.size_toArray, List.length_cons, List.length_nil, Nat.reduceAdd, Nat.reduceSub, Array.replicate_succ, Array.replicate_zero, List.push_toArray, List.append_toArray, List.nil_append, List.cons_append]
  have hcl := (hT.other hBl hln hne).cell
  have hup : ∀ k : Nat, k ≤ m → upto (fun j => zs[j]?.getD 0) k = zs.take k := fun k hk => upto_take zs (by omega)
  have HU := Lib.hid hup
  clear hY hc hm hup
  gi_wp2
  gi_loopw [8] (fun i wr => ∃ k : Nat, k ≤ m ∧ i = .int .i64 k ∧ J (upto (fun j => zs[j]?.getD 0) k) wr ∧ Told n0 Bt W0 k wr)
    (fun i _ => m - (intOf i).toNat)
  case atStart => exact ⟨0, Nat.zero_le _, rfl, h0, hT⟩
  case round =>
    obtain ⟨k, hk, rfl, hJs, hT1⟩ := hrel
    clear hcl
    have hbx := hT1.box
    have hcb := hbx.cell
    have hfb := hbx.frozen
    by_cases hlt : k < m
    · obtain rfl := HSA.out (by omega)
      have hcx : wr.cell? ⟨b, off + k, none⟩ = some (.int .u32 (zs[k]?.getD 0)) := (hT1.cell (a := ⟨b, off + k, none⟩) hb hbt).trans (HC.out k (by rw [← HM.out]; exact hlt))
      have hJ2 := hJo _ _ _ hJs ⟨(k : Int) + 1, rfl⟩
      have hT2 := hT1.set ((k : Int) + 1)
      have hk1 : wrap64 ((k : Int) + 1) = (k : Int) + 1 := by unfold wrap64; omega
      obtain ⟨fn, tmps, assign, body, hy, hR⟩ := HY.out _ (zs[k]?.getD 0) _ hJ2 (by rw [upto_length, ← HM.out]; exact hlt)
      have HJ := Lib.hid hJ2
      have HT2 := Lib.hid hT2
      clear hJ2 hT2 hJs hT1 hbx
      gi_wp2
      refine hR.mono ?_
      rintro e W3 (⟨rfl, hJ3, hk3⟩ | ⟨rfl, hJx3, -⟩)
      · gi_wp2
        go_roundw
        case rel => exact ⟨k + 1, by omega, by simp, by rw [upto_succ]; exact hJ3, by have := HT2.out.below hk3 htn; simpa using this⟩
        case measure => simp [intOf]; omega
      · gi_wp2
        refine bodyPost_ret (results_none rfl _ _ _) rfl ?_
        exact ⟨⟨_, rfl⟩, .inr ⟨_, by rw [← upto_succ, HU.out _ (by omega)]; exact List.take_prefix _ _, hJx3⟩⟩
    · obtain rfl : k = m := by omega
      gi_wp2
      go_end0
      refine ⟨⟨_, rfl⟩, .inl ⟨_, ⟨?_, hT1⟩, hJs⟩⟩
      rw [HU.out _ (Nat.le_refl _), HM.out, List.take_length]
end Go.Proofs.Ytmhgckamkokedaa.RE
