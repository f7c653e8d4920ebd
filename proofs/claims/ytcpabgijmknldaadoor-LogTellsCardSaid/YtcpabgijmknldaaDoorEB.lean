import Derived.Test.YtcpabgijmknldaaDoorEA
import Derived.Deep.RegionHeld3
namespace Go.Proofs.YtcpabgijmknldaaDoor.PE
open Go.RowKit Go.Proofs.YtcpabgijmknldaaDoorW.PrintWords Go.Proofs.YtcpabgijmknldaaDoorW.PrintLast Go.Proofs.YtcpabgijmknldaaDoorW.PrintMore
attribute [local go_sem] max2_int min2_int max_two min_two
set_option linter.unusedVariables false
set_option linter.unusedSimpArgs false
namespace L
/-- The table of the actions' effects, as the program's start lays it. -/
def Tab (w : World) : Prop := 0 < w.heap.size ∧ ∀ i : Nat, w.cell? ⟨0, i, none⟩ = (#[.func (.func 59) #[] #[], .func (.func 60) #[] #[], .func (.func 61) #[] #[], .func (.func 62) #[] #[], .func (.func 63) #[] #[], .func (.func 65) #[] #[], .func (.func 66) #[] #[], .func (.func 67) #[] #[]] : Array Value)[i]?
theorem Tab.cell {w : World} (h : Tab w) (i : Nat) : w.cell? ⟨0, i, none⟩ = (#[.func (.func 59) #[] #[], .func (.func 60) #[] #[], .func (.func 61) #[] #[], .func (.func 62) #[] #[], .func (.func 63) #[] #[], .func (.func 65) #[] #[], .func (.func 66) #[] #[], .func (.func 67) #[] #[]] : Array Value)[i]? := h.2 i
theorem Tab.pos {w : World} (h : Tab w) : 0 < w.heap.size := h.1
theorem Tab.below {w w' : World} (h : Tab w) (hb : Below w.heap.size w w') : Tab w' :=
  ⟨Nat.lt_of_lt_of_le h.1 hb.size, fun i => (hb.cell (p := ⟨0, i, none⟩) h.1).trans (h.2 i)⟩
theorem Tab.alloc {w : World} (h : Tab w) (o : Obj) : Tab (w.alloc o) := h.below ((Below.refl _ _).alloc (Nat.le_refl _) o)
theorem Tab.drewN {w : World} (h : Tab w) (n : Nat) : Tab (w.drewN n) := h.below (pw_below_drewN (Below.refl _ _) n)
theorem Tab.drew {w : World} (h : Tab w) : Tab w.drew := h.below (below_drew (Below.refl _ _))
theorem Tab.set {w W : World} {g i : Nat} (h : Tab W) (hT : Aside0 (Tab w)) (hg : Aside0 (w.heap.size ≤ g)) (v : Value) : Tab (W.setCell ⟨g, i, none⟩ v) :=
  ⟨by simpa [World.setCell] using h.1, fun j => by
    have hp := hT.out.1
    have hq := hg.out
    have hb : Below g W (W.setCell ⟨g, i, none⟩ v) := (Below.refl _ _).setCell (p := ⟨g, i, none⟩) (Nat.le_refl _) v
    exact (hb.cell (p := ⟨0, j, none⟩) (show 0 < g by omega)).trans (h.2 j)⟩
theorem below_undrew {w w' : World} (h : Below w.drew.heap.size w.drew w') : Below w.heap.size w w' := ⟨h.os, h.tape, h.output, h.size, h.block⟩
def RetE2 (x : Ef) (er : Int) (w : World) (e : Ending) (w' : World) : Prop := e = .returned (.tuple #[.agg #[.int .i64 x.en, .bool x.ru, .int .i64 x.re, .bool x.si, .int .u16 x.co, .bool x.lo, .int .i64 x.as_], .int .i64 er]) ∧ Below w.heap.size w w'

set_option maxHeartbeats 2000000 in
theorem Of_0 (d : Int) (tr li : Bool) (h0 : 0 ≤ d) (h1 : d ≤ 65535) (w : World) (hT : Tab w) : Calls Tryd.prog 38 #[.agg #[.int .i64 0, .int .u16 d], .agg #[.bool tr, .bool li]] w (RetE2 (effV 0 d tr li) 0 w) := by
  have hp := hT.pos
  have hc : w.cell? ⟨0, 0, none⟩ = some (.func (.func 59) #[] #[]) := hT.cell 0
  have HT := Aside0.mk hT
  clear hT
  go_enter Tryd.func38, Tryd.ntmps38
  go_wp2_with fail
  go_region_held3 (fun w' => w'.cell? ⟨w.heap.size, 0, none⟩ = some (.int .i64 0) ∧ w'.cell? ⟨w.heap.size, 1, none⟩ = some (.int .u16 d) ∧ w'.cell? ⟨w.heap.size + 1, 0, none⟩ = some (.bool tr) ∧ w'.cell? ⟨w.heap.size + 1, 1, none⟩ = some (.bool li) ∧ w'.cell? ⟨0, 0, none⟩ = some (.func (.func 59) #[] #[]) ∧ Below w.heap.size w w')
    ((first | (refine ⟨by go_simp, by go_simp, by go_simp, by go_simp, by go_simp, ?_⟩; with_reducible exact below_drew' ((((Below.refl _ _).alloc (Nat.le_refl _) _).alloc (by simp) _).alloc (by simp only [World.size_alloc]; omega) _)) | (with_reducible refine ⟨hx0, hx1, hx2, hx3, hx4, hB⟩) | (refine ⟨by go_simp, by go_simp, by go_simp, by go_simp, by go_simp, ?_⟩; repeat (first | (with_reducible exact hB) | (with_reducible refine Below.setCell ?_ (by simp only []; omega) _)))))
    ((go_at_call 59; refine (eff0V _ _ _ _).mono ?_; rintro e w1 ⟨rfl, hb⟩; obtain ⟨k1, k2, k3, hB⟩ := boxes3 (below_undrew hb); have hx0 := blk_cell k1.out 0; have hx1 := blk_cell k1.out 1; have hx2 := blk_cell k2.out 0; have hx3 := blk_cell k2.out 1; simp only [List.getElem?_toArray, List.getElem?_cons_zero, List.getElem?_cons_succ] at hx0 hx1 hx2 hx3; have hx4 := (hB.cell (p := ⟨0, 0, none⟩) hp).trans hc; have hc_r := blk_cell k3.out; have hf_r := blk_frozen k3.out; clear hb))
  go_wp2_with fail
  refine bodyPost_ret (v := .tuple #[.agg #[.int .i64 (effV 0 d tr li).en, .bool (effV 0 d tr li).ru, .int .i64 (effV 0 d tr li).re, .bool (effV 0 d tr li).si, .int .u16 (effV 0 d tr li).co, .bool (effV 0 d tr li).lo, .int .i64 (effV 0 d tr li).as_], .int .i64 0]) (by simp [results, Tryd.results38, go_sem, hc_r]) rfl ⟨rfl, ?_⟩
  go_split_ands
  assumption

set_option maxHeartbeats 2000000 in
theorem Of_1 (d : Int) (tr li : Bool) (h0 : 0 ≤ d) (h1 : d ≤ 65535) (w : World) (hT : Tab w) : Calls Tryd.prog 38 #[.agg #[.int .i64 1, .int .u16 d], .agg #[.bool tr, .bool li]] w (RetE2 (effV 1 d tr li) 0 w) := by
  have hp := hT.pos
  have hc : w.cell? ⟨0, 1, none⟩ = some (.func (.func 60) #[] #[]) := hT.cell 1
  have HT := Aside0.mk hT
  clear hT
  go_enter Tryd.func38, Tryd.ntmps38
  go_wp2_with fail
  go_region_held3 (fun w' => w'.cell? ⟨w.heap.size, 0, none⟩ = some (.int .i64 1) ∧ w'.cell? ⟨w.heap.size, 1, none⟩ = some (.int .u16 d) ∧ w'.cell? ⟨w.heap.size + 1, 0, none⟩ = some (.bool tr) ∧ w'.cell? ⟨w.heap.size + 1, 1, none⟩ = some (.bool li) ∧ w'.cell? ⟨0, 1, none⟩ = some (.func (.func 60) #[] #[]) ∧ Below w.heap.size w w')
    ((first | (refine ⟨by go_simp, by go_simp, by go_simp, by go_simp, by go_simp, ?_⟩; with_reducible exact below_drew' ((((Below.refl _ _).alloc (Nat.le_refl _) _).alloc (by simp) _).alloc (by simp only [World.size_alloc]; omega) _)) | (with_reducible refine ⟨hx0, hx1, hx2, hx3, hx4, hB⟩) | (refine ⟨by go_simp, by go_simp, by go_simp, by go_simp, by go_simp, ?_⟩; repeat (first | (with_reducible exact hB) | (with_reducible refine Below.setCell ?_ (by simp only []; omega) _)))))
    ((go_at_call 60; refine (eff1V _ _ _ _).mono ?_; rintro e w1 ⟨rfl, hb⟩; obtain ⟨k1, k2, k3, hB⟩ := boxes3 (below_undrew hb); have hx0 := blk_cell k1.out 0; have hx1 := blk_cell k1.out 1; have hx2 := blk_cell k2.out 0; have hx3 := blk_cell k2.out 1; simp only [List.getElem?_toArray, List.getElem?_cons_zero, List.getElem?_cons_succ] at hx0 hx1 hx2 hx3; have hx4 := (hB.cell (p := ⟨0, 1, none⟩) hp).trans hc; have hc_r := blk_cell k3.out; have hf_r := blk_frozen k3.out; clear hb))
  go_wp2_with fail
  refine bodyPost_ret (v := .tuple #[.agg #[.int .i64 (effV 1 d tr li).en, .bool (effV 1 d tr li).ru, .int .i64 (effV 1 d tr li).re, .bool (effV 1 d tr li).si, .int .u16 (effV 1 d tr li).co, .bool (effV 1 d tr li).lo, .int .i64 (effV 1 d tr li).as_], .int .i64 0]) (by simp [results, Tryd.results38, go_sem, hc_r]) rfl ⟨rfl, ?_⟩
  go_split_ands
  assumption

set_option maxHeartbeats 2000000 in
theorem Of_2 (d : Int) (tr li : Bool) (h0 : 0 ≤ d) (h1 : d ≤ 65535) (w : World) (hT : Tab w) : Calls Tryd.prog 38 #[.agg #[.int .i64 2, .int .u16 d], .agg #[.bool tr, .bool li]] w (RetE2 (effV 2 d tr li) 0 w) := by
  have hp := hT.pos
  have hc : w.cell? ⟨0, 2, none⟩ = some (.func (.func 61) #[] #[]) := hT.cell 2
  have HT := Aside0.mk hT
  clear hT
  go_enter Tryd.func38, Tryd.ntmps38
  go_wp2_with fail
  go_region_held3 (fun w' => w'.cell? ⟨w.heap.size, 0, none⟩ = some (.int .i64 2) ∧ w'.cell? ⟨w.heap.size, 1, none⟩ = some (.int .u16 d) ∧ w'.cell? ⟨w.heap.size + 1, 0, none⟩ = some (.bool tr) ∧ w'.cell? ⟨w.heap.size + 1, 1, none⟩ = some (.bool li) ∧ w'.cell? ⟨0, 2, none⟩ = some (.func (.func 61) #[] #[]) ∧ Below w.heap.size w w')
    ((first | (refine ⟨by go_simp, by go_simp, by go_simp, by go_simp, by go_simp, ?_⟩; with_reducible exact below_drew' ((((Below.refl _ _).alloc (Nat.le_refl _) _).alloc (by simp) _).alloc (by simp only [World.size_alloc]; omega) _)) | (with_reducible refine ⟨hx0, hx1, hx2, hx3, hx4, hB⟩) | (refine ⟨by go_simp, by go_simp, by go_simp, by go_simp, by go_simp, ?_⟩; repeat (first | (with_reducible exact hB) | (with_reducible refine Below.setCell ?_ (by simp only []; omega) _)))))
    ((go_at_call 61; refine (eff2V _ _ _ _).mono ?_; rintro e w1 ⟨rfl, hb⟩; obtain ⟨k1, k2, k3, hB⟩ := boxes3 (below_undrew hb); have hx0 := blk_cell k1.out 0; have hx1 := blk_cell k1.out 1; have hx2 := blk_cell k2.out 0; have hx3 := blk_cell k2.out 1; simp only [List.getElem?_toArray, List.getElem?_cons_zero, List.getElem?_cons_succ] at hx0 hx1 hx2 hx3; have hx4 := (hB.cell (p := ⟨0, 2, none⟩) hp).trans hc; have hc_r := blk_cell k3.out; have hf_r := blk_frozen k3.out; clear hb))
  go_wp2_with fail
  refine bodyPost_ret (v := .tuple #[.agg #[.int .i64 (effV 2 d tr li).en, .bool (effV 2 d tr li).ru, .int .i64 (effV 2 d tr li).re, .bool (effV 2 d tr li).si, .int .u16 (effV 2 d tr li).co, .bool (effV 2 d tr li).lo, .int .i64 (effV 2 d tr li).as_], .int .i64 0]) (by simp [results, Tryd.results38, go_sem, hc_r]) rfl ⟨rfl, ?_⟩
  go_split_ands
  assumption

set_option maxHeartbeats 2000000 in
theorem Of_3 (d : Int) (tr li : Bool) (h0 : 0 ≤ d) (h1 : d ≤ 65535) (w : World) (hT : Tab w) : Calls Tryd.prog 38 #[.agg #[.int .i64 3, .int .u16 d], .agg #[.bool tr, .bool li]] w (RetE2 (effV 3 d tr li) 0 w) := by
  have hp := hT.pos
  have hc : w.cell? ⟨0, 3, none⟩ = some (.func (.func 62) #[] #[]) := hT.cell 3
  have HT := Aside0.mk hT
  clear hT
  go_enter Tryd.func38, Tryd.ntmps38
  go_wp2_with fail
  go_region_held3 (fun w' => w'.cell? ⟨w.heap.size, 0, none⟩ = some (.int .i64 3) ∧ w'.cell? ⟨w.heap.size, 1, none⟩ = some (.int .u16 d) ∧ w'.cell? ⟨w.heap.size + 1, 0, none⟩ = some (.bool tr) ∧ w'.cell? ⟨w.heap.size + 1, 1, none⟩ = some (.bool li) ∧ w'.cell? ⟨0, 3, none⟩ = some (.func (.func 62) #[] #[]) ∧ Below w.heap.size w w')
    ((first | (refine ⟨by go_simp, by go_simp, by go_simp, by go_simp, by go_simp, ?_⟩; with_reducible exact below_drew' ((((Below.refl _ _).alloc (Nat.le_refl _) _).alloc (by simp) _).alloc (by simp only [World.size_alloc]; omega) _)) | (with_reducible refine ⟨hx0, hx1, hx2, hx3, hx4, hB⟩) | (refine ⟨by go_simp, by go_simp, by go_simp, by go_simp, by go_simp, ?_⟩; repeat (first | (with_reducible exact hB) | (with_reducible refine Below.setCell ?_ (by simp only []; omega) _)))))
    ((go_at_call 62; refine (eff3 _ _ _ h0 h1 _).mono ?_; rintro e w1 ⟨rfl, hb⟩; obtain ⟨k1, k2, k3, hB⟩ := boxes3 (below_undrew hb); have hx0 := blk_cell k1.out 0; have hx1 := blk_cell k1.out 1; have hx2 := blk_cell k2.out 0; have hx3 := blk_cell k2.out 1; simp only [List.getElem?_toArray, List.getElem?_cons_zero, List.getElem?_cons_succ] at hx0 hx1 hx2 hx3; have hx4 := (hB.cell (p := ⟨0, 3, none⟩) hp).trans hc; have hc_r := blk_cell k3.out; have hf_r := blk_frozen k3.out; clear hb))
  go_wp2_with fail
  refine bodyPost_ret (v := .tuple #[.agg #[.int .i64 (effV 3 d tr li).en, .bool (effV 3 d tr li).ru, .int .i64 (effV 3 d tr li).re, .bool (effV 3 d tr li).si, .int .u16 (effV 3 d tr li).co, .bool (effV 3 d tr li).lo, .int .i64 (effV 3 d tr li).as_], .int .i64 0]) (by simp [results, Tryd.results38, go_sem, hc_r]) rfl ⟨rfl, ?_⟩
  go_split_ands
  assumption

set_option maxHeartbeats 2000000 in
theorem Of_4 (d : Int) (tr li : Bool) (h0 : 0 ≤ d) (h1 : d ≤ 65535) (w : World) (hT : Tab w) : Calls Tryd.prog 38 #[.agg #[.int .i64 4, .int .u16 d], .agg #[.bool tr, .bool li]] w (RetE2 (effV 4 d tr li) 0 w) := by
  have hp := hT.pos
  have hc : w.cell? ⟨0, 4, none⟩ = some (.func (.func 63) #[] #[]) := hT.cell 4
  have HT := Aside0.mk hT
  clear hT
  go_enter Tryd.func38, Tryd.ntmps38
  go_wp2_with fail
  go_region_held3 (fun w' => w'.cell? ⟨w.heap.size, 0, none⟩ = some (.int .i64 4) ∧ w'.cell? ⟨w.heap.size, 1, none⟩ = some (.int .u16 d) ∧ w'.cell? ⟨w.heap.size + 1, 0, none⟩ = some (.bool tr) ∧ w'.cell? ⟨w.heap.size + 1, 1, none⟩ = some (.bool li) ∧ w'.cell? ⟨0, 4, none⟩ = some (.func (.func 63) #[] #[]) ∧ Below w.heap.size w w')
    ((first | (refine ⟨by go_simp, by go_simp, by go_simp, by go_simp, by go_simp, ?_⟩; with_reducible exact below_drew' ((((Below.refl _ _).alloc (Nat.le_refl _) _).alloc (by simp) _).alloc (by simp only [World.size_alloc]; omega) _)) | (with_reducible refine ⟨hx0, hx1, hx2, hx3, hx4, hB⟩) | (refine ⟨by go_simp, by go_simp, by go_simp, by go_simp, by go_simp, ?_⟩; repeat (first | (with_reducible exact hB) | (with_reducible refine Below.setCell ?_ (by simp only []; omega) _)))))
    ((go_at_call 63; refine (eff4V _ _ _ _).mono ?_; rintro e w1 ⟨rfl, hb⟩; obtain ⟨k1, k2, k3, hB⟩ := boxes3 (below_undrew hb); have hx0 := blk_cell k1.out 0; have hx1 := blk_cell k1.out 1; have hx2 := blk_cell k2.out 0; have hx3 := blk_cell k2.out 1; simp only [List.getElem?_toArray, List.getElem?_cons_zero, List.getElem?_cons_succ] at hx0 hx1 hx2 hx3; have hx4 := (hB.cell (p := ⟨0, 4, none⟩) hp).trans hc; have hc_r := blk_cell k3.out; have hf_r := blk_frozen k3.out; clear hb))
  go_wp2_with fail
  refine bodyPost_ret (v := .tuple #[.agg #[.int .i64 (effV 4 d tr li).en, .bool (effV 4 d tr li).ru, .int .i64 (effV 4 d tr li).re, .bool (effV 4 d tr li).si, .int .u16 (effV 4 d tr li).co, .bool (effV 4 d tr li).lo, .int .i64 (effV 4 d tr li).as_], .int .i64 0]) (by simp [results, Tryd.results38, go_sem, hc_r]) rfl ⟨rfl, ?_⟩
  go_split_ands
  assumption

set_option maxHeartbeats 2000000 in
theorem Of_5 (d : Int) (tr li : Bool) (h0 : 0 ≤ d) (h1 : d ≤ 65535) (w : World) (hT : Tab w) : Calls Tryd.prog 38 #[.agg #[.int .i64 5, .int .u16 d], .agg #[.bool tr, .bool li]] w (RetE2 (effV 5 d tr li) 0 w) := by
  have hp := hT.pos
  have hc : w.cell? ⟨0, 5, none⟩ = some (.func (.func 65) #[] #[]) := hT.cell 5
  have HT := Aside0.mk hT
  clear hT
  go_enter Tryd.func38, Tryd.ntmps38
  go_wp2_with fail
  go_region_held3 (fun w' => w'.cell? ⟨w.heap.size, 0, none⟩ = some (.int .i64 5) ∧ w'.cell? ⟨w.heap.size, 1, none⟩ = some (.int .u16 d) ∧ w'.cell? ⟨w.heap.size + 1, 0, none⟩ = some (.bool tr) ∧ w'.cell? ⟨w.heap.size + 1, 1, none⟩ = some (.bool li) ∧ w'.cell? ⟨0, 5, none⟩ = some (.func (.func 65) #[] #[]) ∧ Below w.heap.size w w')
    ((first | (refine ⟨by go_simp, by go_simp, by go_simp, by go_simp, by go_simp, ?_⟩; with_reducible exact below_drew' ((((Below.refl _ _).alloc (Nat.le_refl _) _).alloc (by simp) _).alloc (by simp only [World.size_alloc]; omega) _)) | (with_reducible refine ⟨hx0, hx1, hx2, hx3, hx4, hB⟩) | (refine ⟨by go_simp, by go_simp, by go_simp, by go_simp, by go_simp, ?_⟩; repeat (first | (with_reducible exact hB) | (with_reducible refine Below.setCell ?_ (by simp only []; omega) _)))))
    ((go_at_call 65; refine (eff5V _ _ _ _).mono ?_; rintro e w1 ⟨rfl, hb⟩; obtain ⟨k1, k2, k3, hB⟩ := boxes3 (below_undrew hb); have hx0 := blk_cell k1.out 0; have hx1 := blk_cell k1.out 1; have hx2 := blk_cell k2.out 0; have hx3 := blk_cell k2.out 1; simp only [List.getElem?_toArray, List.getElem?_cons_zero, List.getElem?_cons_succ] at hx0 hx1 hx2 hx3; have hx4 := (hB.cell (p := ⟨0, 5, none⟩) hp).trans hc; have hc_r := blk_cell k3.out; have hf_r := blk_frozen k3.out; clear hb))
  go_wp2_with fail
  refine bodyPost_ret (v := .tuple #[.agg #[.int .i64 (effV 5 d tr li).en, .bool (effV 5 d tr li).ru, .int .i64 (effV 5 d tr li).re, .bool (effV 5 d tr li).si, .int .u16 (effV 5 d tr li).co, .bool (effV 5 d tr li).lo, .int .i64 (effV 5 d tr li).as_], .int .i64 0]) (by simp [results, Tryd.results38, go_sem, hc_r]) rfl ⟨rfl, ?_⟩
  go_split_ands
  assumption

set_option maxHeartbeats 2000000 in
theorem Of_6 (d : Int) (tr li : Bool) (h0 : 0 ≤ d) (h1 : d ≤ 65535) (w : World) (hT : Tab w) : Calls Tryd.prog 38 #[.agg #[.int .i64 6, .int .u16 d], .agg #[.bool tr, .bool li]] w (RetE2 (effV 6 d tr li) 0 w) := by
  have hp := hT.pos
  have hc : w.cell? ⟨0, 6, none⟩ = some (.func (.func 66) #[] #[]) := hT.cell 6
  have HT := Aside0.mk hT
  clear hT
  go_enter Tryd.func38, Tryd.ntmps38
  go_wp2_with fail
  go_region_held3 (fun w' => w'.cell? ⟨w.heap.size, 0, none⟩ = some (.int .i64 6) ∧ w'.cell? ⟨w.heap.size, 1, none⟩ = some (.int .u16 d) ∧ w'.cell? ⟨w.heap.size + 1, 0, none⟩ = some (.bool tr) ∧ w'.cell? ⟨w.heap.size + 1, 1, none⟩ = some (.bool li) ∧ w'.cell? ⟨0, 6, none⟩ = some (.func (.func 66) #[] #[]) ∧ Below w.heap.size w w')
    ((first | (refine ⟨by go_simp, by go_simp, by go_simp, by go_simp, by go_simp, ?_⟩; with_reducible exact below_drew' ((((Below.refl _ _).alloc (Nat.le_refl _) _).alloc (by simp) _).alloc (by simp only [World.size_alloc]; omega) _)) | (with_reducible refine ⟨hx0, hx1, hx2, hx3, hx4, hB⟩) | (refine ⟨by go_simp, by go_simp, by go_simp, by go_simp, by go_simp, ?_⟩; repeat (first | (with_reducible exact hB) | (with_reducible refine Below.setCell ?_ (by simp only []; omega) _)))))
    ((go_at_call 66; refine (eff6V _ _ _ _).mono ?_; rintro e w1 ⟨rfl, hb⟩; obtain ⟨k1, k2, k3, hB⟩ := boxes3 (below_undrew hb); have hx0 := blk_cell k1.out 0; have hx1 := blk_cell k1.out 1; have hx2 := blk_cell k2.out 0; have hx3 := blk_cell k2.out 1; simp only [List.getElem?_toArray, List.getElem?_cons_zero, List.getElem?_cons_succ] at hx0 hx1 hx2 hx3; have hx4 := (hB.cell (p := ⟨0, 6, none⟩) hp).trans hc; have hc_r := blk_cell k3.out; have hf_r := blk_frozen k3.out; clear hb))
  go_wp2_with fail
  refine bodyPost_ret (v := .tuple #[.agg #[.int .i64 (effV 6 d tr li).en, .bool (effV 6 d tr li).ru, .int .i64 (effV 6 d tr li).re, .bool (effV 6 d tr li).si, .int .u16 (effV 6 d tr li).co, .bool (effV 6 d tr li).lo, .int .i64 (effV 6 d tr li).as_], .int .i64 0]) (by simp [results, Tryd.results38, go_sem, hc_r]) rfl ⟨rfl, ?_⟩
  go_split_ands
  assumption

set_option maxHeartbeats 2000000 in
theorem Of_7 (d : Int) (tr li : Bool) (h0 : 0 ≤ d) (h1 : d ≤ 65535) (w : World) (hT : Tab w) : Calls Tryd.prog 38 #[.agg #[.int .i64 7, .int .u16 d], .agg #[.bool tr, .bool li]] w (RetE2 (effV 7 d tr li) 0 w) := by
  have hp := hT.pos
  have hc : w.cell? ⟨0, 7, none⟩ = some (.func (.func 67) #[] #[]) := hT.cell 7
  have HT := Aside0.mk hT
  clear hT
  go_enter Tryd.func38, Tryd.ntmps38
  go_wp2_with fail
  go_region_held3 (fun w' => w'.cell? ⟨w.heap.size, 0, none⟩ = some (.int .i64 7) ∧ w'.cell? ⟨w.heap.size, 1, none⟩ = some (.int .u16 d) ∧ w'.cell? ⟨w.heap.size + 1, 0, none⟩ = some (.bool tr) ∧ w'.cell? ⟨w.heap.size + 1, 1, none⟩ = some (.bool li) ∧ w'.cell? ⟨0, 7, none⟩ = some (.func (.func 67) #[] #[]) ∧ Below w.heap.size w w')
    ((first | (refine ⟨by go_simp, by go_simp, by go_simp, by go_simp, by go_simp, ?_⟩; with_reducible exact below_drew' ((((Below.refl _ _).alloc (Nat.le_refl _) _).alloc (by simp) _).alloc (by simp only [World.size_alloc]; omega) _)) | (with_reducible refine ⟨hx0, hx1, hx2, hx3, hx4, hB⟩) | (refine ⟨by go_simp, by go_simp, by go_simp, by go_simp, by go_simp, ?_⟩; repeat (first | (with_reducible exact hB) | (with_reducible refine Below.setCell ?_ (by simp only []; omega) _)))))
    ((go_at_call 67; refine (eff7V _ _ _ _).mono ?_; rintro e w1 ⟨rfl, hb⟩; obtain ⟨k1, k2, k3, hB⟩ := boxes3 (below_undrew hb); have hx0 := blk_cell k1.out 0; have hx1 := blk_cell k1.out 1; have hx2 := blk_cell k2.out 0; have hx3 := blk_cell k2.out 1; simp only [List.getElem?_toArray, List.getElem?_cons_zero, List.getElem?_cons_succ] at hx0 hx1 hx2 hx3; have hx4 := (hB.cell (p := ⟨0, 7, none⟩) hp).trans hc; have hc_r := blk_cell k3.out; have hf_r := blk_frozen k3.out; clear hb))
  go_wp2_with fail
  refine bodyPost_ret (v := .tuple #[.agg #[.int .i64 (effV 7 d tr li).en, .bool (effV 7 d tr li).ru, .int .i64 (effV 7 d tr li).re, .bool (effV 7 d tr li).si, .int .u16 (effV 7 d tr li).co, .bool (effV 7 d tr li).lo, .int .i64 (effV 7 d tr li).as_], .int .i64 0]) (by simp [results, Tryd.results38, go_sem, hc_r]) rfl ⟨rfl, ?_⟩
  go_split_ands
  assumption

set_option maxHeartbeats 1000000 in
theorem Of_neg (a d : Int) (tr li : Bool) (h : a < 0) (w : World) : Calls Tryd.prog 38 #[.agg #[.int .i64 a, .int .u16 d], .agg #[.bool tr, .bool li]] w (RetE2 ⟨0, false, 0, false, 0, false, 0⟩ 160 w) := by
  skip
  go_enter Tryd.func38, Tryd.ntmps38
  go_wp2_with fail
  refine bodyPost_ret (v := .tuple #[.agg #[.int .i64 0, .bool false, .int .i64 0, .bool false, .int .u16 0, .bool false, .int .i64 0], .int .i64 160]) (by simp [results, Tryd.results38, go_sem]) rfl ⟨rfl, ?_⟩
  exact ((((Below.refl _ _).alloc (Nat.le_refl _) _).alloc (by simp) _).alloc (by simp only [World.size_alloc]; omega) _)

set_option maxHeartbeats 1000000 in
theorem Of_big (a d : Int) (tr li : Bool) (h : 8 ≤ a) (w : World) : Calls Tryd.prog 38 #[.agg #[.int .i64 a, .int .u16 d], .agg #[.bool tr, .bool li]] w (RetE2 ⟨0, false, 0, false, 0, false, 0⟩ 160 w) := by
  have h2 : 0 ≤ a := by omega
  go_enter Tryd.func38, Tryd.ntmps38
  go_wp2_with fail
  refine bodyPost_ret (v := .tuple #[.agg #[.int .i64 0, .bool false, .int .i64 0, .bool false, .int .u16 0, .bool false, .int .i64 0], .int .i64 160]) (by simp [results, Tryd.results38, go_sem]) rfl ⟨rfl, ?_⟩
  exact ((((Below.refl _ _).alloc (Nat.le_refl _) _).alloc (by simp) _).alloc (by simp only [World.size_alloc]; omega) _)

def OfV (a d : Int) (tr li : Bool) : Ef := if 0 ≤ a ∧ a < 8 then effV a d tr li else ⟨0, false, 0, false, 0, false, 0⟩
def OfE (a : Int) : Int := if 0 ≤ a ∧ a < 8 then 0 else 160
theorem Of_w (a d : Int) (tr li : Bool) (h0 : 0 ≤ d) (h1 : d ≤ 65535) (w : World) (hT : Tab w) : Calls Tryd.prog 38 #[.agg #[.int .i64 a, .int .u16 d], .agg #[.bool tr, .bool li]] w (RetE2 (OfV a d tr li) (OfE a) w) := by
  by_cases h : 0 ≤ a ∧ a < 8
  · unfold OfV OfE
    rw [if_pos h, if_pos h]
    obtain rfl | rfl | rfl | rfl | rfl | rfl | rfl | rfl : a = 0 ∨ a = 1 ∨ a = 2 ∨ a = 3 ∨ a = 4 ∨ a = 5 ∨ a = 6 ∨ a = 7 := by omega
    · exact Of_0 d tr li h0 h1 w hT
    · exact Of_1 d tr li h0 h1 w hT
    · exact Of_2 d tr li h0 h1 w hT
    · exact Of_3 d tr li h0 h1 w hT
    · exact Of_4 d tr li h0 h1 w hT
    · exact Of_5 d tr li h0 h1 w hT
    · exact Of_6 d tr li h0 h1 w hT
    · exact Of_7 d tr li h0 h1 w hT
  · unfold OfV OfE
    rw [if_neg h, if_neg h]
    by_cases hn : a < 0
    · exact Of_neg a d tr li hn w
    · exact Of_big a d tr li (by omega) w
end L
end Go.Proofs.YtcpabgijmknldaaDoor.PE
