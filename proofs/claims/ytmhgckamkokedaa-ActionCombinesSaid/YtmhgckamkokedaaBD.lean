import Derived.Test.YtmhgckamkokedaaBC3
import Derived.Test.YtmhgckamkokedaaBP
import Derived.RangeFuncNested
import Derived.RangeFuncBound
import Derived.RangeFuncCalls
import Derived.RangeFuncLeaves
import Derived.RangeFuncBox
import Derived.Shelf.Abstract
import Derived.Shelf.RegionOpen
import Derived.WalkKit
import Derived.OwnWalkIn
import Derived.TacticsInMore
import Derived.LoopNIn
import Derived.LoopIn
import Derived.Outline
import Derived.Lib.Hide
namespace Go.Proofs.Ytmhgckamkokedaa.RE
open Go.RowKit Go.Shelf Go.Proofs.YtmhgckamkokedaaW.PrintWords Go.Proofs.YtmhgckamkokedaaW.PrintLast Go.Proofs.YtmhgckamkokedaaW.PrintMore
open Go.Proofs.Ytmhgckamkokedaa.PE.L (upto upto_succ upto_length upto_take act under_w stp stV stV_snoc stV_len keepsOthers_below Lst combV)
set_option linter.unusedVariables false
set_option linter.unusedSimpArgs false
attribute [local go_sem] Oper.semAt_some

attribute [local go_sem high] PC.eqA27
/-- What the law's world keeps: the row of its own, and the box that holds it. -/
structure Facts (w : World) (X : Nat) (Ar : Option Addr) (cr : Nat) (zs : List Int) (W : World) : Prop where
  bel : Below w.heap.size w W
  row : Kd.R (Kd.int .u32) 32 W w.heap.size (fun _ => True) (.slice Ar zs.length cr) zs
  bx : Boxed W X 22 (.slice Ar zs.length cr)
theorem Facts.below {w W W' : World} {X cr : Nat} {Ar : Option Addr} {zs : List Int} (h : Facts w X Ar cr zs W) (hb : Below W.heap.size W W') : Facts w X Ar cr zs W' :=
  ⟨h.bel.trans (hb.mono h.bel.size), Kd.R_below h.row hb, (hb.block _ h.bx.lt).trans h.bx⟩
theorem Facts.alloc {w W : World} {X cr : Nat} {Ar : Option Addr} {zs : List Int} (h : Facts w X Ar cr zs W) (o : Obj) : Facts w X Ar cr zs (W.alloc o) := h.below ((Below.refl _ W).alloc (Nat.le_refl _) o)
theorem Facts.rd {w W : World} {X cr : Nat} {Ar : Option Addr} {zs : List Int} (h : Facts w X Ar cr zs W) : Kd.C (Kd.int .u32) W Ar zs.length zs := (Kd.R_reads' h.row).2.2
theorem Facts.cap {w W : World} {X cr : Nat} {Ar : Option Addr} {zs : List Int} (h : Facts w X Ar cr zs W) : zs.length ≤ cr := (Kd.R_reads' h.row).2.1
theorem Told.bel {n0 Bt m : Nat} {W0 V : World} {k : Int} (h : Told n0 Bt W0 k V) (hm : m ≤ n0) (ht : m ≤ Bt) : Below m W0 V := ⟨h.os, h.tape, h.output, h.size, fun i hi => h.block i (by omega) (by omega)⟩
theorem Facts.told {w W V : World} {X cr Bt : Nat} {Ar : Option Addr} {zs : List Int} {u : Value} {k : Int} (h : Facts w X Ar cr zs W) (ht : Told W.heap.size Bt W k V) (hb : Boxed W Bt 3 u) (hw : w.heap.size ≤ Bt) (hne : X ≠ Bt) : Facts w X Ar cr zs V :=
  ⟨h.bel.trans (ht.bel h.bel.size hw), Kd.R_mono (Kd.R_step (Kd.R_types h.row hb (by intro q hq; rw [List.mem_singleton.1 hq]; decide)) (fun k hk hlt => ht.block k hlt hk.2)) (fun _ _ => trivial), ht.other h.bx h.bx.lt hne⟩
theorem pick {W : World} {sa : Option Addr} {c Bt X : Nat} {zs : List Int} (h : PE.L.Ints W.heap.size W (.slice sa zs.length c) zs) (ht : Boxed W Bt 3 (.int .i64 0)) (hX : X < W.heap.size) (hne : X ≠ Bt) :
    ∃ b off, (0 < zs.length → sa = some ⟨b, off, none⟩) ∧ b < W.heap.size ∧ b ≠ Bt ∧ ∀ j, j < zs.length → W.cell? ⟨b, off + j, none⟩ = some (.int .u32 (zs[j]?.getD 0)) := by
  rcases h with ⟨a, c', e, rfl⟩ | ⟨b, off, cap, e, hb, hc⟩
  · exact ⟨X, 0, by simp, hX, hne, fun j hj => by simp at hj⟩
  · simp only [Value.slice.injEq] at e
    by_cases hz : zs = []
    · subst hz; exact ⟨X, 0, by simp, hX, hne, fun j hj => by simp at hj⟩
    · refine ⟨b, off, fun _ => e.1, hb, fun hbt => ?_, hc⟩
      have h0 := hc 0 (List.length_pos_iff.2 hz)
      rw [hbt] at h0
      unfold World.cell? at h0
      rw [show W.heap[Bt]? = _ from ht] at h0
      by_cases ho : off = 0
      · subst ho; simp at h0
      · simp [ho] at h0
set_option maxRecDepth 100000 in
set_option maxHeartbeats 8000000 in
theorem combines_w (A0 : Option Addr) (c0 : Nat) (l0 : List Int) (w : World) (hr0 : Kd.C (Kd.int .u32) w A0 l0.length l0) (hc0 : l0.length ≤ c0) :
    Calls Try.prog 3 #[.slice A0 l0.length c0] w fun e w' => e = .returned (.bool true) ∧ Below w.heap.size w w' := by
  obtain ⟨zs, hzs⟩ : ∃ zs, zs = l0.take 40 := ⟨_, rfl⟩
  have hz40 : zs.length ≤ 40 := by rw [hzs]; simp; omega
  have hfew : PC.wicketgatelaw06_few.f l0 = some zs := by rw [PC.few_f, hzs]
  obtain ⟨a, q, i, hcv⟩ : ∃ a q i, combV zs = (a, q, i) := ⟨_, _, _, rfl⟩
  have hrc := PC.rcomb_f 1000 zs hz40 (by omega)
  rw [hcv] at hrc
  have HFEW := Lib.hid hfew
  have HRC := Lib.hid hrc
  have HCV := Lib.hid hcv
  have HA := Lib.hid ((Below.refl _ w).alloc (Nat.le_refl _) (.cells #[.slice A0 l0.length c0] 22))
  have HR0 := Lib.hid hr0
  clear hzs hfew hrc hcv hr0
  have hfld27_0 := fun (w_ : World) (v0_ v1_ : Value) => (show (Instr.field 27 (.agg #[v0_, v1_]) 0).run Try.prog w_ = .ok v0_ w_ from by kernel_rfl)
  go_enter Try.func3, Try.ntmps3
  go_wp2_with (first | (go_at_call 8; (with_reducible refine (PC.wicketgatelaw06_wakes.calls 1000 true _ (PC.wakes_f (by omega))).mono ?_); rintro e1 w2 ⟨rfl, hb2⟩; have hx2 : Boxed w2 w.heap.size 22 (.slice A0 l0.length c0) := (hb2.block _ (by simp)).trans (World.alloc_heap_new w _); have HB2 := Lib.hid (HA.out.trans (hb2.mono (by simp))); have HX2 := Lib.hid hx2; have y0 := hx2.cell; clear hx2 hb2) | (go_at_call 9; (with_reducible refine (PC.wicketgatelaw06_few.calls A0 c0 l0 zs w2 (Kd.C_below HR0.out HB2.out) hc0 HFEW.out).mono ?_); rintro e2 w3 ⟨v3, rfl, hR3, hb3⟩; obtain ⟨Ar, cr, rfl⟩ := Kd.R_slice hR3; have hx3 : Boxed w3 w.heap.size 22 (.slice A0 l0.length c0) := (hb3.block _ HX2.out.lt).trans HX2.out; have F4 := Lib.hid (Facts.mk (X := w.heap.size) ((HB2.out.trans (hb3.mono HB2.out.size)).setCell (p := ⟨w.heap.size, 0, none⟩) (Nat.le_refl _) (.slice Ar zs.length cr)) (Kd.R_lower (Kd.R_set hR3 hx3 (by intro q_ hq_; rw [List.mem_singleton.1 hq_]; decide) 0 (.slice Ar zs.length cr)) HB2.out.size) (hx3.set (.slice Ar zs.length cr))); have y1 := hx3.cell; have yf1 := hx3.frozen; clear hx3 hR3 hb3) | (go_at_call 10; (with_reducible refine (PC.wicketgateref06_Combine.calls 1000 Ar cr zs a q i _ F4.out.rd F4.out.cap HRC.out).mono ?_); rintro e3 w5 ⟨rfl, hb5⟩; have F5 := Lib.hid (F4.out.below hb5); have F6 := Lib.hid (F5.out.alloc (.cells #[.int .i64 a, .int .u16 q] 27)); have y2 := F5.out.bx.cell; have l2 := F5.out.bx.lt; clear hb5) | (go_at_call 11; have hcw := PE.L.combine_w Ar cr zs (w5.alloc (.cells #[.int .i64 a, .int .u16 q] 27)) F6.out.rd (by omega); rw [HCV.out] at hcw; (with_reducible refine hcw.mono ?_); rintro e4 w7 ⟨rfl, hb7⟩; have F7 := Lib.hid (F6.out.below hb7); have HP3 := Lib.hid ((hb7.block _ (by simp)).trans (World.alloc_heap_new w5 (.cells #[.int .i64 a, .int .u16 q] 27))); have y3 := F7.out.bx.cell; have p30 := blk_cell HP3.out 0; have p31 := blk_cell HP3.out 1; have l3 := blk_lt HP3.out; have l4 := F7.out.bx.lt; clear hb7 hcw; have F8 := Lib.hid ((F7.out.alloc (.cells #[.int .i64 a, .int .u16 q] 27)).alloc (.cells #[.int .i64 0] 3)); have hbt := Boxed.new (w7.alloc (.cells #[.int .i64 a, .int .u16 q] 27)) 3 (.int .i64 0); rw [World.size_alloc] at hbt; have HBT := Lib.hid hbt; clear hbt; have HPK := Lib.hid (pick (PE.L.ints_of_C (c := cr) F8.out.rd) HBT.out F8.out.bx.lt (by omega))) | (go_at_call 12; obtain ⟨b, off, hsa, hb, hbt2, hcells⟩ := HPK.out; have hsq := seq2_w w.heap.size (w7.heap.size + 1) b off cr Ar zs hsa (by omega) _ hb hbt2 F8.out.bx (by omega) HBT.out hcells; rw [HCV.out] at hsq; (with_reducible refine hsq.mono ?_); rintro e5 w9 ⟨rfl, hT9⟩; have F9 := Lib.hid (F8.out.told hT9 HBT.out (by have := HB2.out.size; omega) (by omega)); have HP9 := Lib.hid ((hT9.block w5.heap.size (by simp; omega) (by omega)).trans ((Below.heap_alloc _ _ _ (by simp; omega)).trans ((Below.heap_alloc _ _ _ l3).trans HP3.out))); have y5 := F9.out.bx.cell; have p90 := blk_cell HP9.out 0; have p91 := blk_cell HP9.out 1; have l5 := F9.out.bx.lt; have l6 := blk_lt HP9.out; have t9 := hT9.box.cell; have l7 := hT9.box.lt; clear y0 y1 yf1 y2 y3 p30 p31 hsq hsa hb hbt2 hcells hT9))
  have F10 := Lib.hid (F9.out.alloc (.cells #[.int .i64 a, .int .u16 q] 27))
  clear p90 p91 t9 y5 l2 l3 l4 l5 l6 l7 F4 F5 F6 F7 F8 F9 HPK HP3 HP9 HBT HX2 HB2 HR0 HA HFEW HRC HCV
  go_loopw [56] (fun i wr => ∃ k : Nat, k ≤ zs.length ∧ i = .int .i64 k ∧ Hid (Facts w w.heap.size Ar cr zs wr)) (fun i _ => zs.length - (intOf i).toNat)
  case atStart => exact ⟨0, Nat.zero_le _, rfl, F10⟩
  case round =>
    obtain ⟨k, hk, rfl, FR⟩ := hrel
    clear F10
    have yr := FR.out.bx.cell
    by_cases hkl : k < zs.length
    · obtain ⟨ad, hA, hx⟩ := Kd.at_int FR.out.rd (k : Int) (by omega) (by omega)
      subst hA
      simp only [Int.toNat_natCast] at hx
      generalize rd zs (k : Int) = xa at hx
      go_wp2_with fail
      clear hx yr
      go_loopw [63] (fun i wx => ∃ j : Nat, j ≤ zs.length ∧ i = .int .i64 j ∧ Hid (Facts w w.heap.size (some ad) cr zs wx)) (fun i _ => zs.length - (intOf i).toNat)
      case atStart => exact ⟨0, Nat.zero_le _, rfl, FR⟩
      case round =>
        obtain ⟨j, hj, rfl, FX⟩ := hrel
        clear FR
        by_cases hjl : j < zs.length
        · obtain ⟨ad2, hA2, hx⟩ := Kd.at_int FX.out.rd (j : Int) (by omega) (by omega)
          obtain rfl := Option.some.inj hA2
          simp only [Int.toNat_natCast] at hx
          generalize rd zs (j : Int) = xb at hx
          clear hA2
          by_cases h20 : (k : Int) + j < 20
          · obtain ⟨r, hr⟩ : ∃ r, decide (act xa < act xb) = r := ⟨_, rfl⟩
            go_wp2_with (first | (go_at_call 14; (with_reducible refine (PE.L.under_w xa xb r hr _).mono ?_); rintro e1 v1 ⟨rfl, hb1⟩; have G1 := Lib.hid (FX.out.below hb1); clear hb1 hx) | (go_at_call 15; (with_reducible refine (PC.wicketgateref06_Split.calls 20 xa _ _ v1 (PC.rsplit_f (by omega) xa)).mono ?_); rintro e2 v2 ⟨rfl, hb2⟩; have G2 := Lib.hid (G1.out.below hb2); clear hb2) | (go_at_call 15; (with_reducible refine (PC.wicketgateref06_Split.calls 20 xb _ _ v2 (PC.rsplit_f (by omega) xb)).mono ?_); rintro e3 v3 ⟨rfl, hb3⟩; have G3 := Lib.hid (G2.out.below hb3); clear hb3))
            all_goals exact ⟨⟨j + 1, by omega, by simp, G3⟩, by simp [intOf]; omega⟩
          · go_wp2_with fail
            exact ⟨⟨j + 1, by omega, by simp, FX⟩, by simp [intOf]; omega⟩
        · go_wp2_with fail
          exact ⟨⟨k + 1, by omega, by simp, FX⟩, by simp [intOf]; omega⟩
    · go_wp2_with fail
      go_ret
      exact ⟨rfl, FR.out.bel⟩
end Go.Proofs.Ytmhgckamkokedaa.RE
