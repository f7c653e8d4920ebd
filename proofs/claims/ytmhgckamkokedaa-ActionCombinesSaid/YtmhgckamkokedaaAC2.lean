import Derived.Test.YtmhgckamkokedaaAC1
import Derived.RangeFuncNested
import Derived.RangeFuncBound
import Derived.RangeFuncCalls
import Derived.RangeFuncLeaves
import Derived.RangeFuncBox
import Derived.Shelf.Abstract
import Derived.Shelf.RegionOpen
import Derived.WalkKit
import Derived.OwnWalkIn
import Derived.TacticsInMore
import Derived.LoopNIn
import Derived.LoopIn
import Derived.Outline
import Derived.Lib.Hide
namespace Go.Proofs.Ytmhgckamkokedaa.PE.L
open Go.RowKit Go.Shelf Go.Proofs.YtmhgckamkokedaaW.PrintWords Go.Proofs.YtmhgckamkokedaaW.PrintLast Go.Proofs.YtmhgckamkokedaaW.PrintMore Go.Proofs.Ytmhgckamkokedaa.PA
set_option linter.unusedVariables false
set_option linter.unusedSimpArgs false
attribute [local go_sem] Oper.semAt_some
theorem heap_new_at (w : World) (o : Obj) (n : Nat) (hn : n = w.heap.size) : (w.alloc o).heap[n]? = some o := hn ▸ heap_alloc_new w o
theorem below_drewN' {B : Nat} {w W : World} (h : Below B w W) (n : Nat) : Below B w (W.drewN n) := pw_below_drewN h n
theorem below_drew' {B : Nat} {w W : World} (h : Below B w W) : Below B w W.drew := below_drew h
theorem boxes1 {w w' : World} {c0 : Array Value} {t0 : TypeId} (hb : Below (w.alloc (.cells c0 t0)).heap.size (w.alloc (.cells c0 t0)) w') :
    Aside0 (w'.heap[w.heap.size]? = some (.cells c0 t0 (0, 0))) ∧ Below w.heap.size w w' := by
  have h0 : w'.heap[w.heap.size]? = some (.cells c0 t0 (0, 0)) := (hb.block _ (by simp only [World.size_alloc]; omega)).trans (heap_new_at w (.cells c0 t0) (w.heap.size) (by simp only [World.size_alloc]))
  exact ⟨⟨h0⟩, ((Below.refl _ _).alloc (Nat.le_refl _) _).trans (hb.mono (by simp only [World.size_alloc]; omega))⟩

theorem boxes2 {w w' : World} {c0 c1 : Array Value} {t0 t1 : TypeId} (hb : Below ((w.alloc (.cells c0 t0)).alloc (.cells c1 t1)).heap.size ((w.alloc (.cells c0 t0)).alloc (.cells c1 t1)) w') :
    Aside0 (w'.heap[w.heap.size]? = some (.cells c0 t0 (0, 0))) ∧ Aside0 (w'.heap[w.heap.size + 1]? = some (.cells c1 t1 (0, 0))) ∧ Below w.heap.size w w' := by
  have h0 : w'.heap[w.heap.size]? = some (.cells c0 t0 (0, 0)) := (hb.block _ (by simp only [World.size_alloc]; omega)).trans ((Below.heap_alloc (w.alloc (.cells c0 t0)) (.cells c1 t1) (w.heap.size) (by simp only [World.size_alloc]; omega)).trans (heap_new_at w (.cells c0 t0) (w.heap.size) (by simp only [World.size_alloc])))
  have h1 : w'.heap[w.heap.size + 1]? = some (.cells c1 t1 (0, 0)) := (hb.block _ (by simp only [World.size_alloc]; omega)).trans (heap_new_at (w.alloc (.cells c0 t0)) (.cells c1 t1) (w.heap.size + 1) (by simp only [World.size_alloc]))
  exact ⟨⟨h0⟩, ⟨h1⟩, (((Below.refl _ _).alloc (Nat.le_refl _) _).alloc (by simp only [World.size_alloc]; omega) _).trans (hb.mono (by simp only [World.size_alloc]; omega))⟩

theorem ints_of_C {w : World} {sa : Option Addr} {c : Nat} {l : List Int} (h : Kd.C (Kd.int .u32) w sa l.length l) : Ints w.heap.size w (.slice sa l.length c) l := by
  by_cases hz : l.length = 0
  · exact .inl ⟨sa, c, by rw [hz], List.eq_nil_of_length_eq_zero hz⟩
  · obtain ⟨ad, rfl, hel⟩ := h.2.2 (by omega)
    have key : ∀ j, j < l.length → w.cell? (ad.add j) = some (.int .u32 (l[j]?.getD 0)) := by
      intro j hj
      obtain ⟨cs, h1, h2, h3⟩ := hel j _ (List.getElem?_eq_getElem hj)
      obtain rfl := h2
      have := h3 0 _ rfl
      have e1 : (Kd.int IntKind.u32).sz = 1 := rfl
      rw [e1] at this
      simpa [hj] using this
    obtain ⟨b, off, spot⟩ := ad
    have h0 := key 0 (by omega)
    have hspot : spot = none := by simpa [Addr.add] using World.cell?_spot h0
    subst hspot
    refine .inr ⟨b, off, c, rfl, ?_, fun j hj => ?_⟩
    · have := World.block_lt_of_cell? _ _ h0
      simpa [Addr.add] using this
    · have := key j hj
      have e : (⟨b, off, none⟩ : Addr).add j = ⟨b, off + j, none⟩ := by unfold Addr.add; split <;> simp_all
      rw [e] at this
      exact this
theorem values_w (sa : Option Addr) (len cap : Nat) (w : World) : Calls Try.prog 24 #[.slice sa len cap] w fun e w' => e = .returned (.func (.func 33) #[] #[.pointer (some ⟨w.heap.size, 0, none⟩)]) ∧ w' = w.alloc (.cells #[.slice sa len cap] 22) := by
  go_enter Try.func24, Try.ntmps24
  go_wp2
  go_ret
  exact ⟨rfl, rfl⟩
def combV (l : List Int) : Int × Int × Int := if (stV l).2.1 < 0 then (7, 0, (stV l).2.1) else (act (stV l).1, IntKind.u16.wrap (stV l).1, (stV l).2.1)
set_option maxHeartbeats 1000000 in
theorem seq_w (fv : Value) (l : List Int) (w : World) (hl : ∀ W, Below w.heap.size w W → Calls Try.prog 25 #[fv, .func (.func 14) #[] #[]] W fun e w' => e = .returned (.tuple #[.int .u32 (stV l).1, .int .i64 (stV l).2.1]) ∧ Below W.heap.size W w') :
    Calls Try.prog 12 #[fv] w fun e w' => e = .returned (.tuple #[.agg #[.int .i64 (combV l).1, .int .u16 (combV l).2.1], .int .i64 (combV l).2.2]) ∧ Below w.heap.size w w' := by
  unfold combV
  have hq := hl _ ((Below.refl _ w).alloc (Nat.le_refl _) (.cells #[.int .i64 0, .int .u16 0] 27))
  generalize (stV l).1 = b at *
  generalize (stV l).2.1 = wh at *
  clear hl
  have HQ := Lib.hid hq
  clear hq
  by_cases hn : wh < 0
  · rw [if_pos hn]
    go_enter Try.func12, Try.ntmps12
    go_wp2_with fail
    refine HQ.out.mono ?_
    rintro e w1 ⟨rfl, hb⟩
    obtain ⟨hk_r, hB⟩ := boxes1 hb
    clear hb
    have hc_r := blk_cell hk_r.out; have hf_r := blk_frozen hk_r.out; have hl_r := blk_lt hk_r.out
    go_wp2_with fail
    refine bodyPost_ret (v := .tuple #[.agg #[.int .i64 7, .int .u16 0], .int .i64 wh]) (by simp [results, Try.results12, go_sem, hc_r, hl_r]) rfl ⟨rfl, ?_⟩
    repeat (first | exact hB | refine Below.setCell ?_ (by simp) _)
  · rw [if_neg hn]
    go_enter Try.func12, Try.ntmps12
    go_wp2_with fail
    refine HQ.out.mono ?_
    rintro e w1 ⟨rfl, hb⟩
    obtain ⟨hk_r, hB⟩ := boxes1 hb
    clear hb
    go_wp2_with fail
    refine (action_Split.calls 20 b _ _ _ (split_f b)).mono ?_
    rintro e w2 ⟨rfl, hb⟩
    replace hk_r := Aside0.mk ((hb.block _ (blk_lt hk_r.out)).trans hk_r.out)
    have hB2 := hB.trans (hb.mono hB.size)
    clear hb hB
    have hc_r := blk_cell hk_r.out; have hf_r := blk_frozen hk_r.out; have hl_r := blk_lt hk_r.out
    go_wp2_with fail
    refine bodyPost_ret (v := .tuple #[.agg #[.int .i64 (act b), .int .u16 (IntKind.u16.wrap b)], .int .i64 wh]) (by simp [results, Try.results12, go_sem, hc_r, hl_r]) rfl ⟨rfl, ?_⟩
    repeat (first | exact hB2 | refine Below.setCell ?_ (by simp) _)
set_option maxHeartbeats 1000000 in
theorem combine_w (sa : Option Addr) (c : Nat) (l : List Int) (w : World) (hr : Kd.C (Kd.int .u32) w sa l.length l) (hreach : l.length * 4 ≤ 140737488351232) :
    Calls Try.prog 11 #[.slice sa l.length c] w fun e w' => e = .returned (.tuple #[.agg #[.int .i64 (combV l).1, .int .u16 (combV l).2.1], .int .i64 (combV l).2.2]) ∧ Below w.heap.size w w' := by
  have HI := Lib.hid (ints_of_C (c := c) hr)
  have HR := Lib.hid hreach
  clear hr hreach
  go_enter Try.func11, Try.ntmps11
  go_wp2_with fail
  refine (values_w sa l.length c _).mono ?_
  rintro e w1 ⟨rfl, hw1⟩
  have hB0 : Below w.heap.size w w1 := by rw [hw1]; exact ((Below.refl _ w).alloc (Nat.le_refl _) _).alloc (by simp) _
  have hk_r : Aside0 (w1.heap[w.heap.size]? = some (.cells #[.int .i64 0, .int .u16 0] 27 (0, 0))) := ⟨by rw [hw1]; exact (Below.heap_alloc _ _ _ (by simp)).trans (heap_alloc_new w _)⟩
  have hk_s : Aside0 (w1.heap[w.heap.size + 1]? = some (.cells #[.slice sa l.length c] 22 (0, 0))) := ⟨by rw [hw1]; exact heap_new_at _ _ _ (by simp)⟩
  clear hw1
  have HB := Lib.hid hB0
  clear hB0
  go_wp2_with fail
  refine (seq_w _ l _ (fun W hW => least_w (w.heap.size + 1) (.slice sa l.length c) l HR.out W (Nat.lt_of_lt_of_le (blk_lt hk_s.out) hW.size) ((hW.cell (p := ⟨w.heap.size + 1, 0, none⟩) (blk_lt hk_s.out)).trans (blk_cell hk_s.out 0)) ?_)).mono ?_
  · have h1 := HI.out.below (HB.out.trans (hW.mono HB.out.size))
    rcases h1 with h1 | ⟨b, off, cap, e, hb, hc⟩
    · exact .inl h1
    · exact .inr ⟨b, off, cap, e, by have := HB.out.size; have := hW.size; omega, hc⟩
  rintro e w2 ⟨rfl, hb⟩
  replace hk_r := Aside0.mk ((hb.block _ (blk_lt hk_r.out)).trans hk_r.out)
  have hB2 := HB.out.trans (hb.mono HB.out.size)
  clear hb HB
  have hc_r := blk_cell hk_r.out; have hf_r := blk_frozen hk_r.out; have hl_r := blk_lt hk_r.out
  go_wp2_with fail
  refine bodyPost_ret (v := .tuple #[.agg #[.int .i64 (combV l).1, .int .u16 (combV l).2.1], .int .i64 (combV l).2.2]) (by simp [results, Try.results11, go_sem, hc_r, hl_r]) rfl ⟨rfl, ?_⟩
  repeat (first | exact hB2 | refine Below.setCell ?_ (by simp) _)
end Go.Proofs.Ytmhgckamkokedaa.PE.L
