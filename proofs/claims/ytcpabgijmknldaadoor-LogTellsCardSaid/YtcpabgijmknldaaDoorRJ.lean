import Derived.Test.YtcpabgijmknldaaDoorRH
import Derived.RangeFuncNested
import Derived.RangeFuncBound
import Derived.RangeFuncCalls
import Derived.RangeFuncLeaves
import Derived.RangeFuncBox
import Derived.Shelf.Abstract
import Derived.Shelf.RegionOpen
import Derived.WalkKit
import Derived.OwnWalkIn
import Derived.TacticsInMore
import Derived.LoopNIn
import Derived.LoopIn
import Derived.Outline
import Derived.Lib.Hide
namespace Go.Proofs.YtcpabgijmknldaaDoor.RG
open Go.RowKit Go.Shelf Go.Proofs.YtcpabgijmknldaaDoorW.PrintWords Go.Proofs.YtcpabgijmknldaaDoorW.PrintLast Go.Proofs.YtcpabgijmknldaaDoorW.PrintMore
open Go.Proofs.YtcpabgijmknldaaDoor.PS (S29 S31 k29 k31 k31_open k31_openM k31_mkM k31_mk rd_T31 at_T31 z31)
set_option linter.unusedVariables false
set_option linter.unusedSimpArgs false
attribute [local go_sem] Oper.semAt_some

theorem und23 : Tryd.prog.underlying 23 = some (.slice 31) := by kernel_rfl
theorem Kept31.trans {n0 n1 : Nat} {X Y Z : World} (h : Kept31 n0 n1 X Y) (k : Kept31 n0 n1 Y Z) : Kept31 n0 n1 X Z := ⟨h.1.trans k.1, fun i o hi ho hne => k.2 i o hi (h.2 i o hi ho hne) hne⟩
theorem Kept31.alloc {n0 n1 : Nat} (X : World) (o : Obj) (h : n0 ≤ X.heap.size) : Kept31 n0 n1 X (X.alloc o) := ⟨(Below.refl _ X).alloc h o, fun i p _ hp _ => (Below.heap_alloc _ _ _ (Array.getElem?_eq_some_iff.1 hp).1).trans hp⟩
theorem cells6_new (W : World) (cs : Array Value) (t : TypeId) : ∀ j u, cs.toList[j]? = some u → (W.alloc (.cells cs t)).cell? ((⟨W.heap.size, 0, none⟩ : Addr).add j) = some u := by
  intro j u hj
  have e := World.alloc_heap_new W (.cells cs t)
  have hj' : cs[j]? = some u := by simpa using hj
  generalize W.alloc (.cells cs t) = W1 at e ⊢
  generalize W.heap.size = p at e ⊢
  by_cases h0 : j = 0
  · subst h0; simp [World.cell?, Addr.add, e, hj']
  · simp [World.cell?, Addr.add, e, h0, hj']
theorem kept_app {W w1 : World} {n0 n1 B k : Nat} {v v' : Value} {xs : List Value} {tmp : Obj} (hrow : W.ownsRow n0 31 6 v k xs) (hB : B < n1) (hgrow : (W.alloc tmp).grownBy w1 v.ownBlock) (hb : Below n0 W (w1.setCell ⟨B, 0, none⟩ v')) : Kept31 n0 n1 W (w1.setCell ⟨B, 0, none⟩ v') := by
  refine ⟨hb, fun j o hj ho hne => ?_⟩
  have hlt := (Array.getElem?_eq_some_iff.1 ho).1
  refine (Below.heap_setCell _ _ _ j (by show j ≠ B; omega)).trans ((hgrow.block j (by simp; omega) (fun e => ?_)).trans ((Below.heap_alloc _ _ _ hlt).trans ho))
  rcases hrow.2 with ⟨rfl, _⟩ | ⟨g, cap, cur, rfl, _, hgb, _⟩
  · simp [Value.ownBlock] at e
  · obtain rfl : j = g := by simpa [Value.ownBlock] using e
    rw [ho] at hgb
    exact hne _ _ (Option.some.inj hgb)
theorem reps31 {R : S31 → List Value → Prop} (hR : ∀ x, R x (cellsOf x)) : ∀ xs : List S31, Reps R 6 xs (xs.flatMap cellsOf)
  | [] => Reps.none _ _
  | x :: xs => Reps.front (hR x) rfl (reps31 hR xs) rfl
theorem R31_of_own {W : World} {base : Nat} {v : Value} {xs : List S31} (h : W.ownsRow base 31 6 v xs.length (xs.flatMap cellsOf)) : Kd.R k31 31 W base (fun _ => True) v xs :=
  ⟨fun _ _ => trivial, _, h, reps31 (fun x => k31_mkM _ _ _ x) xs⟩
theorem books_own {D n1 : Nat} {L : Loop} {X Y : World} (hD : D + 1 < n1) (h : Own31 n1 X Y) (hb : Books D L X) : Books D L Y := by
  obtain ⟨row, hg, hr⟩ := h
  exact ⟨(hg.block _ hb.lt (fun e => by have := (hr _ e.symm).1; omega)).trans hb.1, (hg.block _ (by have := hb.lt; omega) (fun e => by have := (hr _ e.symm).1; omega)).trans hb.2⟩
theorem kept_put {n0 n1 p : Nat} {X Y : World} (o : Obj) (h : Kept31 n0 n1 X Y) (hp : p < n1) (h0 : n0 ≤ p) (hl : p < Y.heap.size) : Kept31 n0 n1 X (Y.putObj p o) :=
  ⟨h.1.trans ((Below.refl _ Y).grown (grownBy_putObj' _ _ _) (by omega) (fun k e => by cases e; omega)), fun i q hi hq hne => (World.putObj_heap_other (by omega)).trans (h.2 i q hi hq hne)⟩
/-- How many such lines are gone. -/
def goneV (g num : Int) : Int := if g < num then 0 else IntKind.u64.wrap (IntKind.u64.wrap (g - (if num < 1 then 1 else num)) + 1)
set_option maxRecDepth 100000 in
set_option maxHeartbeats 4000000 in
theorem appendSeq_w (Br Bm : Nat) (room nx num : Int) (A : Option Addr) (c : Nat) (ls : List S31) (hl : ls.length ≤ 1000) (w : World) (hC : Kd.C k31 w A ls.length ls) (hr : w.heap[Br]? = some (.cells #[.int .i64 room, .int .u64 nx, .slice A ls.length c] 25 (0, 0))) (hm : Boxed w Bm 22 (.int .u64 num)) :
    Calls Tryd.prog 39 #[.slice none 0 0, .func (.func 40) #[] #[.pointer (some ⟨Br, 0, none⟩), .pointer (some ⟨Bm, 0, none⟩)]] w fun e w' => ∃ v, e = .returned v ∧ Kd.R k31 31 w' w.heap.size (fun _ => True) v (sinceB ls num) ∧ Below w.heap.size w w' := by
  refine (callsIn_wide (n := 5)).1 ?_
  refine callsIn_of_wp_marks Tryd.func39 rfl trivial ?_ rfl
  simp only [Tryd.ntmps39, List.size_toArray, List.length_cons, List.length_nil, Nat.reduceAdd, Nat.reduceSub, Array.replicate_succ, Array.replicate_zero, List.push_toArray, List.append_toArray, List.nil_append, List.cons_append]
  obtain ⟨i0, hi, hz0, hz1, hz2⟩ := info_parts Go.Proofs.YtcpabgijmknldaaDoor.PS.info31
  have HC := Lib.hid hC
  have HR := Lib.hid hr
  have HM := Lib.hid hm
  clear hC hr hm
  gi_wp2
  obtain ⟨V0, hV0⟩ : ∃ V0, V0 = w.alloc (.cells #[.slice none 0 0] 23) := ⟨_, rfl⟩
  have hs0 : V0.heap.size = w.heap.size + 1 := by rw [hV0]; simp
  have hbx : Boxed V0 w.heap.size 23 (.slice none 0 0) := by rw [hV0]; exact Boxed.new w 23 _
  have hB0 : Below w.heap.size w V0 := by rw [hV0]; exact (Below.refl _ w).alloc (Nat.le_refl _) _
  rw [← hV0]
  have hof : OwnFrom w.heap.size (fun (pre : List S31) W => (∃ v, Boxed W w.heap.size 23 v ∧ W.ownsRow w.heap.size 31 6 v pre.length (pre.flatMap cellsOf) ∧ True) ∧ Below w.heap.size w W) :=
    OwnFrom.and (Own.from (holdsRow_own w.heap.size w.heap.size 23 31 6 (fun pre : List S31 => pre.length) (fun pre : List S31 => pre.flatMap cellsOf) (fun _ _ => True)) _) (ownFrom_below (Nat.le_refl _) (by omega))
  refine wp_rangeW (gf := 40) (lb := #[.pointer (some ⟨Br, 0, none⟩), .pointer (some ⟨Bm, 0, none⟩)]) (Ok := Own31 (w.heap.size + 3)) (Kp := Kept31 w.heap.size (w.heap.size + 3)) (encs := fun x : S31 => #[lineV x]) (S := fun xs => xs = sinceB ls num) (Sp := fun pre => pre <+: sinceB ls num) (N := ls.length) rfl (by omega) rfl trivial (enters_of Tryd.func40 (by kernel_rfl) rfl) (fun _ => rfl)
    (fun rec => by
      have e : ((V0.alloc (.deferred (some []))).alloc (.loop rec)).heap.size = w.heap.size + 3 := by simp [hs0]
      have h := since_seq (5 - 1) (by omega) Br Bm room nx num A c ls w HC.out HR.out HM.out ((V0.alloc (.deferred (some []))).alloc (.loop rec)) ((hB0.alloc (by omega) _).alloc (by simp; omega) _)
      rw [e] at h
      exact h)
    (fun U V o' hk hl => by
      obtain ⟨L, hL⟩ := hl
      exact kept_put _ hk (by omega) (by omega) (Array.getElem?_eq_some_iff.1 hL).1)
    (fun X Y L h hbk => books_own (by omega) h hbk)
    (fun pre W => (∃ v, Boxed W w.heap.size 23 v ∧ W.ownsRow w.heap.size 31 6 v pre.length (pre.flatMap cellsOf) ∧ True) ∧ Below w.heap.size w W)
    (fun _ _ _ => False)
    (ownFrom_mono hof (by omega)) (fun _ _ _ _ _ hs _ _ => hs) (abide_own (ownFrom_mono hof (by omega))) (fun _ _ _ _ hs _ => hs) ⟨⟨_, hbx, World.ownsRow_nil _ _ _ _, trivial⟩, hB0⟩ ?round ?done ?stop
  case round =>
    rintro l pre x V ⟨⟨v, hv, hrow, -⟩, h5⟩ hlen
    have hwV := h5.size
    have hVb := hv.lt
    gi_wp2
    refine ⟨(KeepsFrom.of_grownBy (World.grownBy_alloc V _ none) (fun j e => by cases e)), fun V2 hg _ hko hkp => ?_⟩
    obtain ⟨V1, hV1⟩ : ∃ V1, V1 = V.alloc (.cells #[.int .u64 x.f0, .int .i64 x.f1, .int .u32 x.f2, .int .u32 x.f3, .int .i64 x.f4.f0, .int .u16 x.f4.f1] 31) := ⟨_, rfl⟩
    obtain ⟨q, hq⟩ : ∃ q, q = V.heap.size := ⟨_, rfl⟩
    have hx1 : V1.heap[q]? = some (.cells #[.int .u64 x.f0, .int .i64 x.f1, .int .u32 x.f2, .int .u32 x.f3, .int .i64 x.f4.f0, .int .u16 x.f4.f1] 31 (0, 0)) := by rw [hV1, hq]; exact World.alloc_heap_new V _
    have hk1 : Kept31 w.heap.size (w.heap.size + 3) V V1 := by rw [hV1]; exact Kept31.alloc V _ hwV
    have hv1 : Boxed V1 w.heap.size 23 v := by rw [hV1]; exact hv.alloc _
    have hrow1 : V1.ownsRow w.heap.size 31 6 v pre.length (pre.flatMap cellsOf) := by rw [hV1]; exact hrow.alloc _
    rw [← hV1] at hg hko hkp
    rw [← hq]
    obtain ⟨o, ho, hoc⟩ := hko
    have hne : q ≠ V0.heap.size + 1 := fun e => by
      rw [← e, hx1] at ho
      obtain rfl := Option.some.inj ho
      simp [Obj.isCells] at hoc
    have hrw : ∀ r, some (V0.heap.size + 1) = some r → r = w.heap.size + 2 := fun r e => by cases e; omega
    replace hx1 := (hg.block q (Array.getElem?_eq_some_iff.1 hx1).1 (fun e => hne (Option.some.inj e))).trans hx1
    replace hkp := hkp hk1
    replace hv1 := hv1.kept hg (fun e => by have := hrw _ e.symm; omega)
    replace hrow1 := hrow1.kept hg (by
      rcases hrow1.2 with ⟨rfl, _⟩ | ⟨g, cap, cur, rfl, _, hgb, _⟩
      · exact .inl rfl
      · refine .inr fun e' => ?_
        have e2 : V0.heap.size + 1 = g := by simpa [Value.ownBlock] using e'.symm
        rw [e2, hgb] at ho
        obtain rfl := Option.some.inj ho
        simp [Obj.isCells] at hoc)
    have hB2 : Below w.heap.size w V2 := h5.trans hkp.1
    have hw2 := hB2.size
    have c0 := blk_cell hx1 0
    have c1 := blk_cell hx1 1
    have c2 := blk_cell hx1 2
    have c3 := blk_cell hx1 3
    have c4 := blk_cell hx1 4
    have c5 := blk_cell hx1 5
    have cv := hv1.cell
    have hpl : pre.length ≤ 1000 := by omega
    clear hV1 hq hg ho hoc hne hrw hk1 hbx hB0 hv hrow h5 hof
    gi_wp2_with (gi_at_builtin; refine wpListIn_append_own _ rfl _ _ 23 rfl w.heap.size 31 i0 _ 6 40 und23 hi hz0 hz1 hz2 rfl (by decide) _ _ _ rfl (hrow1.alloc _) ⟨V2.heap.size, 0, none⟩ 1 1 (cellsOf x) rfl rfl (cells6_new _ _ _) (by simp [Value.oneCell', cellsOf]) (by unfold maxLen; omega) (by omega) (by simp; omega) ?_; intro v' w1 hown' hgrow _; obtain ⟨g', cap', rfl⟩ := ownsRow_succ hown'; obtain ⟨hv1', hv2, hr2, hk2, hb2⟩ := hv1.appended (by decide) hrow1 hw2 (by omega) hown' hgrow; have hc1 := hv1'.cell; have hf1 := hv1'.frozen; have HK := Lib.hid (kept_app (n1 := w.heap.size + 3) (v' := .slice (some ⟨g', 0, none⟩) (pre.length + 1) cap') hrow1 (by omega) hgrow hb2))
    exact ⟨hk2.from _, hkp.trans HK.out, ⟨_, hv2, by rw [List.length_append, List.flatMap_append]; simpa using hr2, trivial⟩, hB2.trans hb2⟩
  case done =>
    rintro D ys W hD rfl ⟨⟨v, hv, hrow, -⟩, hB⟩ hK
    have hc := hv.cell
    gi_wp2
    refine ⟨by simp, .inl ⟨_, _, rfl, run_takeDeferred hK, ?_⟩⟩
    exact ⟨_, results_tmp rfl _ _ _, v, rfl, R31_of_own (ownsRow_putObj hrow _ hK rfl), hB.trans (belowK_b (w := w) (Nat.le_refl _) W D _ _ (by omega) hK rfl rfl)⟩
  case stop =>
    rintro D c pre W _ _ h _
    exact h.elim
end Go.Proofs.YtcpabgijmknldaaDoor.RG
