import Derived.Test.YtcpabgijmknldaaDoorRG
import Derived.Test.YtcpabgijmknldaaDoorPSx0
import Derived.RangeFuncNested
import Derived.RangeFuncBound
import Derived.RangeFuncCalls
import Derived.RangeFuncLeaves
import Derived.RangeFuncBox
import Derived.Shelf.Abstract
import Derived.Shelf.RegionOpen
import Derived.WalkKit
import Derived.OwnWalkIn
import Derived.TacticsInMore
import Derived.LoopNIn
import Derived.LoopIn
import Derived.Outline
import Derived.Lib.Hide
namespace Go.Proofs.YtcpabgijmknldaaDoor.RG
open Go.RowKit Go.Shelf Go.Proofs.YtcpabgijmknldaaDoorW.PrintWords Go.Proofs.YtcpabgijmknldaaDoorW.PrintLast Go.Proofs.YtcpabgijmknldaaDoorW.PrintMore
open Go.Proofs.YtcpabgijmknldaaDoor.PS (S29 S31 k29 k31 k31_open k31_openM k31_mkM k31_mk rd_T31 at_T31 z31)
set_option linter.unusedVariables false
set_option linter.unusedSimpArgs false
attribute [local go_sem] Oper.semAt_some

def cellsOf (x : S31) : List Value := [.int .u64 x.f0, .int .i64 x.f1, .int .u32 x.f2, .int .u32 x.f3, .int .i64 x.f4.f0, .int .u16 x.f4.f1]
/-- A line's value. -/
abbrev lineV (x : S31) : Value := .agg #[.int .u64 x.f0, .int .i64 x.f1, .int .u32 x.f2, .int .u32 x.f3, .int .i64 x.f4.f0, .int .u16 x.f4.f1]
def upto {α : Type} (f : Nat → α) (k : Nat) : List α := (List.range k).map f
theorem upto_succ {α : Type} (f : Nat → α) (k : Nat) : upto f (k + 1) = upto f k ++ [f k] := by simp [upto, List.range_succ]
theorem upto_length {α : Type} (f : Nat → α) (k : Nat) : (upto f k).length = k := by simp [upto]
theorem upto_prefix {α : Type} (f : Nat → α) {k n : Nat} (h : k ≤ n) : upto f k <+: upto f n := by
  unfold upto
  rw [show n = k + (n - k) by omega, List.range_add, List.map_append]
  exact List.prefix_append _ _
/-- What Backward tells. -/
def backAt (ls : List S31) (k : Nat) : Int × S31 := ((ls.length : Int) - 1 - k, rd_T31 ls ((ls.length : Int) - 1 - k))
set_option maxRecDepth 100000 in
set_option maxHeartbeats 2000000 in
/-- slices.Backward's iterator, in whatever world that keeps what lay below w0's end, and its box. -/
theorem back_seq (n : Nat) (hn : 1 ≤ n) (Bs : Nat) (A : Option Addr) (c : Nat) (ls : List S31) (w0 : World) (hC : Kd.C k31 w0 A ls.length ls) (Ok : World → World → Prop) (W : World) (hB : Below w0.heap.size w0 W) (hbox : Boxed W Bs 23 (.slice A ls.length c)) :
    SeqW Fence.wide n Tryd.prog 42 #[.pointer (some ⟨Bs, 0, none⟩)] (fun x : Int × S31 => #[.int .i64 x.1, lineV x.2]) Ok (fun V V' => Below w0.heap.size V V' ∧ V'.heap[Bs]? = V.heap[Bs]?) (fun xs => xs = upto (backAt ls) ls.length) (fun pre => pre <+: upto (backAt ls) ls.length) ls.length W := by
  intro l J Jx _ _ hY h0
  have hmax : ls.length ≤ 9223372036854775807 := hC.2.1
  have HC := Lib.hid hC
  obtain ⟨m, hm⟩ : ∃ m, m = ls.length := ⟨_, rfl⟩
  have HM := Lib.hid hm
  rw [← hm] at hbox hmax hY ⊢
  clear hC hm
  refine callsIn_of_wp Tryd.func42 rfl trivial ?_ rfl
  simp only [Tryd.ntmps42, List.size_toArray, List.length_cons, List.length_nil, Nat.reduceAdd, Nat.reduceSub, Array.replicate_succ, Array.replicate_zero, List.push_toArray, List.append_toArray, List.nil_append, List.cons_append]
  have hcb := hbox.cell
  gi_wp2
  gi_loopw [3] (fun i wr => ∃ (k : Nat) (j : Int), k ≤ m ∧ i = .int .i64 j ∧ Hid (j = (m : Int) - 1 - k) ∧ -1 ≤ j ∧ j < (m : Int) ∧ J (upto (backAt ls) k) wr ∧ Below w0.heap.size w0 wr ∧ Boxed wr Bs 23 (.slice A m c))
    (fun i _ => (intOf i + 1).toNat)
  case atStart => exact ⟨0, (m : Int) - 1, Nat.zero_le _, rfl, Lib.hid (by simp), by omega, by omega, h0, hB, hbox⟩
  case round =>
    obtain ⟨k, j, hk, rfl, HJ, hj0, hj1, hJs, hnx, hbx⟩ := hrel
    clear hcb hbox
    have hcb := hbx.cell
    by_cases hlt : 0 ≤ j
    · have hkm : k < m := by have := HJ.out; omega
      obtain ⟨ad, hA, hx0, hx1, hx2, hx3, hx4, hx5⟩ := at_T31 (Kd.C_below HC.out hnx) j hlt (by rw [← HM.out]; exact hj1)
      subst hA
      have hba : backAt ls k = (j, rd_T31 ls j) := by unfold backAt; rw [← HM.out, ← HJ.out]
      obtain ⟨fn, tmps, assign, body, hy, hR⟩ := hY _ (backAt ls k) wr hJs (by rw [upto_length]; exact hkm)
      rw [hba] at hy
      dsimp only at hy
      have HS := Lib.hid (upto_succ (backAt ls) k)
      clear hba
      gi_wp2
      refine hR.mono ?_
      rintro e W3 (⟨rfl, hJ3, hk3⟩ | ⟨rfl, hJx3, -⟩)
      · gi_wp2
        go_roundw
        case rel => exact ⟨k + 1, j - 1, by omega, rfl, Lib.hid (by have := HJ.out; omega), by omega, by omega, by rw [HS.out]; exact hJ3, hnx.trans hk3.1, hk3.2.trans hbx⟩
        case measure => simp [intOf]; omega
      · gi_wp2
        refine bodyPost_ret (results_none rfl _ _ _) rfl ?_
        exact ⟨⟨_, rfl⟩, .inr ⟨_, by rw [← HS.out]; exact upto_prefix _ (by omega), hJx3⟩⟩
    · have hkm : k = m := by have := HJ.out; omega
      subst hkm
      gi_wp2
      go_end0
      exact ⟨⟨_, rfl⟩, .inl hJs⟩
theorem backw_w (A : Option Addr) (n c : Nat) (w : World) : Calls Tryd.prog 41 #[.slice A n c] w fun e w' => e = .returned (.func (.func 42) #[] #[.pointer (some ⟨w.heap.size, 0, none⟩)]) ∧ w' = w.alloc (.cells #[.slice A n c] 23) := by
  go_enter Tryd.func41, Tryd.ntmps41
  go_wp2
  go_ret
  exact ⟨rfl, rfl⟩
/-- The lines from a number on, the last one first. -/
def sinceB (ls : List S31) (num : Int) : List S31 := (upto (fun k => (backAt ls k).2) ls.length).takeWhile (fun x => decide (num ≤ x.f0))
/-- What a round of the caller's loop leaves: what lay below n0; and from n1 on, all but rows of lines. -/
def Kept31 (n0 n1 : Nat) (V V' : World) : Prop := Below n0 V V' ∧ ∀ (k : Nat) (o : Obj), n1 ≤ k → V.heap[k]? = some o → (∀ c fr, o ≠ .cells c 31 fr) → V'.heap[k]? = some o
/-- The iterator's own steps: new blocks; a block that is no cells, from n1 on. -/
def Own31 (n1 : Nat) (X Y : World) : Prop := ∃ row, X.grownBy Y row ∧ ∀ r, row = some r → n1 ≤ r ∧ ∃ o : Obj, X.heap[r]? = some o ∧ o.isCells = false
theorem abide_own {β : Type} {n1 : Nat} {I : β → World → Prop} (h : OwnFrom n1 I) : Abide (Own31 n1) I := fun s X Y hs ⟨row, hg, hr⟩ => h s X Y row hs hg hr
theorem own_abide {β : Type} {n1 : Nat} {I : β → World → Prop} (h : Abide (Own31 n1) I) : OwnFrom n1 I := fun s X Y row hs hg hr => h s X Y hs ⟨row, hg, hr⟩
theorem ownFrom_mono {β : Type} {B B' : Nat} {I : β → World → Prop} (h : OwnFrom B I) (hb : B ≤ B') : OwnFrom B' I := fun s X Y row hs hg hr => h s X Y row hs hg (fun r e => ⟨Nat.le_trans hb (hr r e).1, (hr r e).2⟩)
theorem takeWhile_prefix {p : S31 → Bool} {l q : List S31} (h : q <+: l) (hq : ∀ x ∈ q, p x = true) : q <+: l.takeWhile p := by
  obtain ⟨t, rfl⟩ := h
  rw [List.takeWhile_append_of_pos hq]
  exact List.prefix_append _ _
theorem takeWhile_stop {p : S31 → Bool} {l q : List S31} {x : S31} (h : q ++ [x] <+: l) (hq : ∀ y ∈ q, p y = true) (hx : p x = false) : l.takeWhile p = q := by
  obtain ⟨t, rfl⟩ := h
  rw [List.append_assoc, List.takeWhile_append_of_pos hq, List.singleton_append, List.takeWhile_cons, hx]
  simp
theorem takeWhile_all {p : S31 → Bool} {l : List S31} (hq : ∀ y ∈ l, p y = true) : l.takeWhile p = l := by
  rw [← List.append_nil l, List.takeWhile_append_of_pos (by simpa using hq)]; simp
theorem map_upto (ls : List S31) (k : Nat) : (upto (backAt ls) k).map Prod.snd = upto (fun k => (backAt ls k).2) k := by simp [upto]
theorem Kept31.keeps {n0 n1 B : Nat} {V V' : World} (h : Kept31 n0 n1 V V') (hB : n1 ≤ B) : KeepsFrom B V V' := ⟨h.1.size, fun k o hk ho hc => h.2 k o (by omega) ho (fun c fr e => by rw [e] at hc; simp [Obj.isCells] at hc)⟩
theorem Kept31.box {n0 n1 k t : Nat} {v : Value} {V V' : World} (h : Kept31 n0 n1 V V') (hk : n1 ≤ k) (ht : t ≠ 31) (hb : Boxed V k t v) : Boxed V' k t v := h.2 k _ hk hb (fun c fr e => ht (by injection e))
set_option maxRecDepth 100000 in
set_option maxHeartbeats 4000000 in
/-- since's iterator. -/
theorem since_seq (n : Nat) (hn : 3 ≤ n) (Br Bm : Nat) (room nx num : Int) (A : Option Addr) (c : Nat) (ls : List S31) (w0 : World) (hC : Kd.C k31 w0 A ls.length ls) (hr : w0.heap[Br]? = some (.cells #[.int .i64 room, .int .u64 nx, .slice A ls.length c] 25 (0, 0))) (hm : Boxed w0 Bm 22 (.int .u64 num)) (W : World) (hB : Below w0.heap.size w0 W) :
    SeqW Fence.wide n Tryd.prog 40 #[.pointer (some ⟨Br, 0, none⟩), .pointer (some ⟨Bm, 0, none⟩)] (fun x : S31 => #[lineV x]) (Own31 W.heap.size) (Kept31 w0.heap.size W.heap.size) (fun xs => xs = sinceB ls num) (fun pre => pre <+: sinceB ls num) ls.length W := by
  intro l J Jx hJo hJxo hY h0
  have hJ1 := own_abide hJo
  have hJx1 := own_abide hJxo
  have HC := Lib.hid hC
  have hrW := (hB.block _ (blk_lt hr)).trans hr
  have hmW : Boxed W Bm 22 (.int .u64 num) := (hB.block _ hm.lt).trans hm
  refine callsIn_of_wp_marks Tryd.func40 rfl trivial ?_ rfl
  simp only [Tryd.ntmps40, List.size_toArray, List.length_cons, List.length_nil, Nat.reduceAdd, Nat.reduceSub, Array.replicate_succ, Array.replicate_zero, List.push_toArray, List.append_toArray, List.nil_append, List.cons_append]
  have hc2 : W.cell? ⟨Br, 2, none⟩ = some (.slice A ls.length c) := blk_cell hrW 2
  have hrl := blk_lt hrW
  have HR0 := Lib.hid hr
  clear hC hr
  gi_wp2
  refine ⟨trivial, fun _ => by omega, (callsIn_wide.2 (backw_w A ls.length c _)).mono ?_⟩
  rintro e w' ⟨rfl, rfl⟩
  gi_wp2
  obtain ⟨y, hy0⟩ : ∃ y, y = W.heap.size := ⟨_, rfl⟩
  obtain ⟨V0, hV0⟩ : ∃ V0, V0 = (W.alloc (.cells #[.func (.yield l) #[] #[]] 80)).alloc (.cells #[.slice A ls.length c] 23) := ⟨_, rfl⟩
  have hs0 : V0.heap.size = y + 2 := by rw [hV0, hy0]; simp
  have hby : Boxed V0 y 80 (.func (.yield l) #[] #[]) := by rw [hV0, hy0]; exact (Boxed.new W 80 _).alloc _
  have hbz : Boxed V0 (y + 1) 23 (.slice A ls.length c) := by
    have e := Boxed.new (W.alloc (.cells #[.func (.yield l) #[] #[]] 80)) 23 (.slice A ls.length c)
    rw [World.size_alloc, ← hV0, ← hy0] at e
    exact e
  have hJ0 : J [] V0 := by rw [hV0]; exact hJ1.alloc _ (hJ1.alloc _ h0)
  have hw0 := hB.size
  have hBV : Below w0.heap.size w0 V0 := by rw [hV0]; exact (hB.alloc hw0 _).alloc (by simp; omega) _
  have e1 : (W.alloc (.cells #[.func (.yield l) #[] #[]] 80)).heap.size = y + 1 := by simp [hy0]
  simp only [← hy0] at *
  rw [← hV0]
  clear hV0 e1 hy0 hB hrW hmW hc2 h0
  have hmV : Boxed V0 Bm 22 (.int .u64 num) := (hBV.block _ hm.lt).trans hm
  have hml := hm.lt
  refine wp_rangeW (gf := 42) (lb := #[.pointer (some ⟨y + 1, 0, none⟩)]) (Ok := fun _ _ => False) (Kp := fun V V' => Below w0.heap.size V V' ∧ V'.heap[y + 1]? = V.heap[y + 1]?) (encs := fun x : Int × S31 => #[.int .i64 x.1, lineV x.2]) rfl (by omega) rfl trivial (enters_of Tryd.func42 (by kernel_rfl) rfl) (fun _ => rfl)
    (fun rec => back_seq (n - 1) (by omega) (y + 1) A c ls w0 HC.out _ _ ((hBV.alloc (by omega) _).alloc (by simp; omega) _) ((hbz.alloc _).alloc _))
    (fun U V o' hk hl => ?_) (fun _ _ _ h => h.elim)
    (fun pre V => (J (pre.map Prod.snd) V ∧ (∀ p ∈ pre, num ≤ p.2.f0) ∧ Boxed V y 80 (.func (.yield l) #[] #[]) ∧ Boxed V (y + 1) 23 (.slice A ls.length c)) ∧ Below w0.heap.size w0 V)
    (fun cd pre V => cd = .ret ∧ ((∃ q x, pre = q ++ [x] ∧ (∀ p ∈ q, num ≤ p.2.f0) ∧ x.2.f0 < num ∧ J (q.map Prod.snd) V) ∨ ((∀ p ∈ pre, num ≤ p.2.f0) ∧ Jx (pre.map Prod.snd) V)))
    ?_ ?_ (fun _ _ _ _ h => h.elim) (fun _ _ _ _ _ h => h.elim) ⟨⟨hJ0, fun p hp => by simp at hp, hby, hbz⟩, hBV⟩ ?round ?done ?stop
  · obtain ⟨L, hL⟩ := hl
    have hz := (Array.getElem?_eq_some_iff.1 hL).1
    exact ⟨hk.1.trans ((Below.refl _ V).grown (grownBy_putObj' _ _ _) (by have := hk.1.size; omega) (fun k e => by cases e; omega)), (World.putObj_heap_other (by omega)).trans hk.2⟩
  · intro s X Y row ⟨⟨h1, h2, h3, h4⟩, h5⟩ hg hr
    exact ⟨⟨hJ1 _ X Y row h1 hg (fun r e => ⟨by have := (hr r e).1; omega, (hr r e).2⟩), h2, h3.kept hg (fun e => by have := (hr y e.symm).1; omega), h4.kept hg (fun e => by have := (hr (y + 1) e.symm).1; omega)⟩, h5.grown hg h5.size (fun k e => by have := (hr k e).1; omega)⟩
  · intro cd s X Y row ⟨h1, h2⟩ hg hr
    have hr' : ∀ r, row = some r → y ≤ r ∧ ∃ o : Obj, X.heap[r]? = some o ∧ o.isCells = false := fun r e => ⟨by have := (hr r e).1; omega, (hr r e).2⟩
    rcases h2 with ⟨q, x, a1, a2, a3, a4⟩ | ⟨a1, a2⟩
    · exact ⟨h1, .inl ⟨q, x, a1, a2, a3, hJ1 _ X Y row a4 hg hr'⟩⟩
    · exact ⟨h1, .inr ⟨a1, hJx1 _ X Y row a2 hg hr'⟩⟩
  case round =>
    rintro l2 pre ⟨i, x⟩ V ⟨⟨h1, h2, h3, h4⟩, h5⟩ hlen
    have hkW : V0.heap.size = y + 2 := hs0
    have hVz := h4.lt
    have hwV := h5.size
    dsimp only
    gi_wp2
    refine ⟨(KeepsFrom.of_grownBy (World.grownBy_alloc V _ none) (fun j e => by cases e)), fun V2 hg _ hko hkp => ?_⟩
    obtain ⟨V1, hV1⟩ : ∃ V1, V1 = V.alloc (.cells #[.int .u64 x.f0, .int .i64 x.f1, .int .u32 x.f2, .int .u32 x.f3, .int .i64 x.f4.f0, .int .u16 x.f4.f1] 31) := ⟨_, rfl⟩
    obtain ⟨b, hb⟩ : ∃ b, b = V.heap.size := ⟨_, rfl⟩
    have hx1 : V1.heap[b]? = some (.cells #[.int .u64 x.f0, .int .i64 x.f1, .int .u32 x.f2, .int .u32 x.f3, .int .i64 x.f4.f0, .int .u16 x.f4.f1] 31 (0, 0)) := by rw [hV1, hb]; exact World.alloc_heap_new V _
    have hbV1 : Below w0.heap.size V V1 := by rw [hV1]; exact (Below.refl _ V).alloc hwV _
    have hy1 : V1.heap[y + 1]? = V.heap[y + 1]? := by rw [hV1]; exact Below.heap_alloc _ _ _ (by omega)
    have hJ2 : J (pre.map Prod.snd) V1 := by rw [hV1]; exact hJ1.alloc _ h1
    have h3' : Boxed V1 y 80 (.func (.yield l) #[] #[]) := by rw [hV1]; exact h3.alloc _
    have h4' : Boxed V1 (y + 1) 23 (.slice A ls.length c) := by rw [hV1]; exact h4.alloc _
    have hmv : Boxed V1 Bm 22 (.int .u64 num) := by rw [hV1]; exact Boxed.alloc ((h5.block _ hml).trans hm) _
    rw [← hV1] at hg hko hkp
    rw [← hb]
    obtain ⟨o, ho, hoc⟩ := hko
    have hne : b ≠ V0.heap.size + 1 := fun e => by
      rw [← e, hx1] at ho
      obtain rfl := Option.some.inj ho
      simp [Obj.isCells] at hoc
    have hrow : ∀ r, some (V0.heap.size + 1) = some r → r = y + 3 := fun r e => by cases e; omega
    replace hx1 := (hg.block b (Array.getElem?_eq_some_iff.1 hx1).1 (fun e => hne (Option.some.inj e))).trans hx1
    replace hkp := hkp ⟨hbV1, hy1⟩
    replace hJ2 := hJ1 _ V1 V2 _ hJ2 hg (fun r e => ⟨by have := hrow r e; omega, by cases e; exact ⟨o, ho, hoc⟩⟩)
    replace h3' := h3'.kept hg (fun e => by have := hrow _ e.symm; omega)
    replace h4' := h4'.kept hg (fun e => by have := hrow _ e.symm; omega)
    replace hmv := hmv.kept hg (fun e => by have := hrow _ e.symm; omega)
    have hB2 : Below w0.heap.size w0 V2 := h5.trans hkp.1
    have c0 := blk_cell hx1 0
    have c1 := blk_cell hx1 1
    have c2 := blk_cell hx1 2
    have c3 := blk_cell hx1 3
    have c4 := blk_cell hx1 4
    have c5 := blk_cell hx1 5
    have cy := h3'.cell
    have cm := hmv.cell
    clear hV1 hb hg ho hoc hne hrow hbV1 hy1 hbz hby hJ0 hBV hmV h1 h3 h4 h5
    by_cases hlt : x.f0 < num
    · have HL := Lib.hid hlt
      gi_wp2
      iterate 4 (try (refine ⟨fun _ h => (by cases h), ?_⟩; gi_wp2))
      exact ⟨KeepsFrom.refl _ _, hkp, rfl, .inl ⟨pre, (i, x), rfl, h2, HL.out, hJ2⟩⟩
    · obtain ⟨fn, tmps, assign, body, hy, hR⟩ := hY (pre.map Prod.snd) x V2 hJ2 (by simpa using hlen)
      have HL := Lib.hid (Int.not_lt.1 hlt)
      gi_wp2
      refine ⟨fun _ => by omega, (RoundIn_any hR).mono ?_⟩
      rintro e W3 (⟨rfl, hJ3, hk3⟩ | ⟨rfl, hJx3, hk3⟩)
      · gi_wp2
        refine ⟨hk3.keeps (by omega), ⟨hkp.1.trans hk3.1, ?_⟩, ⟨⟨by rw [List.map_append]; exact hJ3, ?_, hk3.box (Nat.le_refl _) (by decide) h3', hk3.box (by omega) (by decide) h4'⟩, hB2.trans hk3.1⟩⟩
        · exact ((hk3.box (by omega) (by decide) h4' : W3.heap[y + 1]? = _).trans (show V2.heap[y + 1]? = _ from h4').symm).trans hkp.2
        · intro p hp
          rcases List.mem_append.1 hp with hp | hp
          · exact h2 p hp
          · rw [List.mem_singleton.1 hp]; exact HL.out
      · gi_wp2
        refine ⟨hk3.keeps (by omega), ⟨hkp.1.trans hk3.1, ?_⟩, rfl, .inr ⟨?_, by rw [List.map_append]; exact hJx3⟩⟩
        · exact ((hk3.box (by omega) (by decide) h4' : W3.heap[y + 1]? = _).trans (show V2.heap[y + 1]? = _ from h4').symm).trans hkp.2
        · intro p hp
          rcases List.mem_append.1 hp with hp | hp
          · exact h2 p hp
          · rw [List.mem_singleton.1 hp]; exact HL.out
  case done =>
    rintro D xs V hD rfl ⟨⟨h1, h2, h3, h4⟩, h5⟩ hK
    have hS : upto (fun k => (backAt ls k).2) ls.length = sinceB ls num := by
      unfold sinceB
      rw [takeWhile_all]
      rw [← map_upto]
      intro p hp
      obtain ⟨q, hq, rfl⟩ := List.mem_map.1 hp
      exact decide_eq_true (h2 q hq)
    rw [map_upto, hS] at h1
    have H1 := Lib.hid (hJ1.putObj (.deferred none) h1 (by omega) hK rfl)
    clear h1 hS h2
    gi_wp2
    refine ⟨by simp, .inl ⟨_, _, rfl, run_takeDeferred hK, ?_⟩⟩
    exact ⟨.tuple #[], by simp [results, Tryd.f40], ⟨_, rfl⟩, .inl ⟨_, rfl, H1.out⟩⟩
  case stop =>
    rintro D cd pre V hD hSp ⟨rfl, h2⟩ hK
    have hQ : (∃ xs, xs = sinceB ls num ∧ J xs (V.putObj D (.deferred none))) ∨ (∃ pre, pre <+: sinceB ls num ∧ Jx pre (V.putObj D (.deferred none))) := by
      have hSp' := hSp.map Prod.snd
      rw [map_upto] at hSp'
      rcases h2 with ⟨q, x, rfl, a2, a3, a4⟩ | ⟨a1, a2⟩
      · refine .inl ⟨_, rfl, ?_⟩
        rw [List.map_append] at hSp'
        have e := takeWhile_stop (p := fun x => decide (num ≤ x.f0)) hSp' (fun z hz => by
          obtain ⟨u, hu, rfl⟩ := List.mem_map.1 hz
          exact decide_eq_true (a2 u hu)) (decide_eq_false (by omega))
        have e2 : sinceB ls num = q.map Prod.snd := e
        rw [e2]
        exact hJ1.putObj _ a4 (by omega) hK rfl
      · refine .inr ⟨pre.map Prod.snd, ?_, hJx1.putObj _ a2 (by omega) hK rfl⟩
        exact takeWhile_prefix hSp' (fun z hz => by
          obtain ⟨u, hu, rfl⟩ := List.mem_map.1 hz
          exact decide_eq_true (a1 u hu))
    have HQ := Lib.hid hQ
    clear hQ h2 hSp
    gi_wp2
    refine ⟨by simp, .inl ⟨_, _, rfl, run_takeDeferred hK, ?_⟩⟩
    exact ⟨.tuple #[], by simp [results, Tryd.f40], ⟨_, rfl⟩, HQ.out⟩
end Go.Proofs.YtcpabgijmknldaaDoor.RG
