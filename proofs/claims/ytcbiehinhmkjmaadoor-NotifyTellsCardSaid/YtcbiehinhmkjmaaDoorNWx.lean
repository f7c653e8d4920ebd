import Derived.Test.YtcbiehinhmkjmaaDoorNM
import Derived.Shelf.Sort.Plain
import Derived.Sort.OwnSortedInts
import Derived.Shelf.Small.Bits
import Derived.Test.YtcbiehinhmkjmaaDoorNK
import Derived.Test.YtcbiehinhmkjmaaDoorNX
import Derived.Test.YtcbiehinhmkjmaaDoorPBs
import Derived.Test.YtcbiehinhmkjmaaDoorNY
namespace Go.Proofs.YtcbiehinhmkjmaaDoor.NB
open Go.RowKit Go.Proofs.YtcbiehinhmkjmaaDoorW.PrintWords Go.Proofs.YtcbiehinhmkjmaaDoorW.PrintLast Go.Proofs.YtcbiehinhmkjmaaDoorW.PrintMore
open Go.Proofs.YtcbiehinhmkjmaaDoor.PB
set_option linter.unusedVariables false
set_option linter.unusedSimpArgs false
abbrev NWxb0 : Array Bool := #[false, false, false, false, false, false, false, false, false, false, false, false, false, false, false, false, false, false, false, false, false, false, false, false, false, false, false]
abbrev NWxb1 : Array Bool := #[true, false, false, false, false, false, false, false, false, false, false, false, false, false, false, false, false, false, false, false, false, false, false, false, false, false, false]
abbrev NWxb2 : Array Bool := #[true, true, false, false, false, false, false, false, false, false, false, false, false, false, false, false, false, false, false, false, false, false, false, false, false, false, false]
abbrev NWxb3 : Array Bool := #[true, true, true, false, false, false, false, false, false, false, false, false, false, false, false, false, false, false, false, false, false, false, false, false, false, false, false]
abbrev NWxb4 : Array Bool := #[true, true, true, true, false, false, false, false, false, false, false, false, false, false, false, false, false, false, false, false, false, false, false, false, false, false, false]
abbrev NWxb5 : Array Bool := #[true, true, true, true, true, false, false, false, false, false, false, false, false, false, false, false, false, false, false, false, false, false, false, false, false, false, false]
abbrev NWxb6 : Array Bool := #[true, true, true, true, true, true, false, false, false, false, false, false, false, false, false, false, false, false, false, false, false, false, false, false, false, false, false]
abbrev NWxb7 : Array Bool := #[true, true, true, true, true, true, true, false, false, false, false, false, false, false, false, false, false, false, false, false, false, false, false, false, false, false, false]
abbrev NWxb8 : Array Bool := #[true, true, true, true, true, true, true, true, false, false, false, false, false, false, false, false, false, false, false, false, false, false, false, false, false, false, false]
abbrev NWxb9 : Array Bool := #[true, true, true, true, true, true, true, true, true, false, false, false, false, false, false, false, false, false, false, false, false, false, false, false, false, false, false]
abbrev NWxb10 : Array Bool := #[true, true, true, true, true, true, true, true, true, true, false, false, false, false, false, false, false, false, false, false, false, false, false, false, false, false, false]
abbrev NWxb11 : Array Bool := #[true, true, true, true, true, true, true, true, true, true, true, false, false, false, false, false, false, false, false, false, false, false, false, false, false, false, false]
abbrev NWxb12 : Array Bool := #[true, true, true, true, true, true, true, true, true, true, true, true, false, false, false, false, false, false, false, false, false, false, false, false, false, false, false]
abbrev NWxb13 : Array Bool := #[true, true, true, true, true, true, true, true, true, true, true, true, true, false, false, false, false, false, false, false, false, false, false, false, false, false, false]
abbrev NWxb14 : Array Bool := #[true, true, true, true, true, true, true, true, true, true, true, true, true, true, false, false, false, false, false, false, false, false, false, false, false, false, false]
abbrev NWxb15 : Array Bool := #[true, true, true, true, true, true, true, true, true, true, true, true, true, true, true, false, false, false, false, false, false, false, false, false, false, false, false]
abbrev NWxb16 : Array Bool := #[true, true, true, true, true, true, true, true, true, true, true, true, true, true, true, false, true, false, false, false, false, false, false, false, false, false, false]
abbrev NWxb17 : Array Bool := #[true, true, true, true, true, true, true, true, true, true, true, true, true, true, true, false, true, true, false, false, false, false, false, false, false, false, false]
abbrev NWxb18 : Array Bool := #[true, true, true, true, true, true, true, true, true, true, true, true, true, true, true, true, true, true, false, false, false, false, false, false, false, false, false]
abbrev NWxb19 : Array Bool := #[true, true, true, true, true, true, true, true, true, true, true, true, true, true, true, true, true, true, true, false, false, false, false, false, false, false, false]
abbrev NWxb20 : Array Bool := #[true, true, true, true, true, true, true, true, true, true, true, true, true, true, true, true, true, true, true, true, false, false, false, false, false, false, false]
abbrev NWxb21 : Array Bool := #[true, true, true, true, true, true, true, true, true, true, true, true, true, true, true, true, true, true, true, true, true, false, false, false, false, false, false]
abbrev NWxb22 : Array Bool := #[true, true, true, true, true, true, true, true, true, true, true, true, true, true, true, true, true, true, true, true, true, true, false, false, false, false, false]
abbrev NWxb23 : Array Bool := #[true, true, true, true, true, true, true, true, true, true, true, true, true, true, true, true, true, true, true, true, true, true, false, true, false, false, false]
abbrev NWxb24 : Array Bool := #[true, true, true, true, true, true, true, true, true, true, true, true, true, true, true, true, true, true, true, true, true, true, true, true, false, false, false]
abbrev NWxb25 : Array Bool := #[true, true, true, true, true, true, true, true, true, true, true, true, true, true, true, true, true, true, true, true, true, true, true, true, true, false, false]
abbrev NWxb26 : Array Bool := #[true, true, true, true, true, true, true, true, true, true, true, true, true, true, true, true, true, true, true, true, true, true, true, true, true, true, false]
abbrev NWxb27 : Array Bool := #[true, true, true, true, true, true, true, true, true, true, true, true, true, true, true, true, true, true, true, true, true, true, true, true, true, true, true]
/-- The numbers of the shelf's functions in this program. -/
def rho : Go.Shelf.Ren := ⟨fun x => if x = 125 then 53 else if x = 128 then 63 else if x = 129 then 64 else if x = 189 then 49 else if x = 215 then 70 else if x = 216 then 60 else if x = 257 then 52 else if x = 294 then 54 else if x = 295 then 55 else if x = 296 then 56 else if x = 297 then 57 else if x = 298 then 58 else if x = 299 then 59 else if x = 300 then 61 else if x = 301 then 62 else if x = 328 then 65 else if x = 329 then 66 else if x = 330 then 67 else if x = 331 then 68 else if x = 332 then 69 else if x = 343 then 71 else x, fun x => if x = 28 then 61 else if x = 46 then 92 else if x = 51 then 26 else if x = 53 then 22 else if x = 131 then 58 else if x = 182 then 103 else if x = 183 then 104 else if x = 218 then 112 else if x = 222 then 116 else if x = 228 then 118 else if x = 229 then 119 else x, fun x => x⟩
theorem lays189 : Lays.n189 Tryd.prog rho where
 mixed := by kernel_rfl
 f125 := by kernel_rfl
 f128 := by kernel_rfl
 f129 := by kernel_rfl
 f189 := by kernel_rfl
 f215 := by kernel_rfl
 f216 := by kernel_rfl
 f257 := by kernel_rfl
 f294 := by kernel_rfl
 f295 := by kernel_rfl
 f296 := by kernel_rfl
 f297 := by kernel_rfl
 f298 := by kernel_rfl
 f299 := by kernel_rfl
 f300 := by kernel_rfl
 f301 := by kernel_rfl
 f328 := by kernel_rfl
 f329 := by kernel_rfl
 f330 := by kernel_rfl
 f331 := by kernel_rfl
 f332 := by kernel_rfl
 f343 := by kernel_rfl
 t0 := by kernel_rfl
 a0 := fun _ => by kernel_rfl
 z0 := fun _ => by kernel_rfl
 v0 := fun _ => by kernel_rfl
 t3 := by kernel_rfl
 a3 := fun _ => by kernel_rfl
 z3 := fun _ => by kernel_rfl
 v3 := fun _ => by kernel_rfl
 t4 := by kernel_rfl
 a4 := fun _ => by kernel_rfl
 z4 := fun _ => by kernel_rfl
 v4 := fun _ => by kernel_rfl
 t5 := by kernel_rfl
 a5 := fun _ => by kernel_rfl
 z5 := fun _ => by kernel_rfl
 v5 := fun _ => by kernel_rfl
 t9 := by kernel_rfl
 a9 := fun _ => by kernel_rfl
 z9 := fun _ => by kernel_rfl
 v9 := fun _ => by kernel_rfl
 t28 := by kernel_rfl
 a28 := fun _ => by kernel_rfl
 z28 := fun _ => by kernel_rfl
 v28 := fun _ => by kernel_rfl
 t46 := by kernel_rfl
 a46 := fun _ => by kernel_rfl
 z46 := fun _ => by kernel_rfl
 v46 := fun _ => by kernel_rfl
 t51 := by kernel_rfl
 a51 := fun _ => by kernel_rfl
 z51 := fun _ => by kernel_rfl
 v51 := fun _ => by kernel_rfl
 t53 := by kernel_rfl
 a53 := fun _ => by kernel_rfl
 z53 := fun _ => by kernel_rfl
 v53 := fun _ => by kernel_rfl
 t131 := by kernel_rfl
 a131 := fun _ => by kernel_rfl
 z131 := fun _ => by kernel_rfl
 v131 := fun _ => by kernel_rfl
 t182 := by kernel_rfl
 a182 := fun _ => by kernel_rfl
 z182 := fun _ => by kernel_rfl
 v182 := fun _ => by kernel_rfl
 t183 := by kernel_rfl
 a183 := fun _ => by kernel_rfl
 z183 := fun _ => by kernel_rfl
 v183 := fun _ => by kernel_rfl
 t218 := by kernel_rfl
 a218 := fun _ => by kernel_rfl
 z218 := fun _ => by kernel_rfl
 v218 := fun _ => by kernel_rfl
 t222 := by kernel_rfl
 a222 := fun _ => by kernel_rfl
 z222 := fun _ => by kernel_rfl
 v222 := fun _ => by kernel_rfl
 t228 := by kernel_rfl
 a228 := fun _ => by kernel_rfl
 z228 := fun _ => by kernel_rfl
 v228 := fun _ => by kernel_rfl
 t229 := by kernel_rfl
 a229 := fun _ => by kernel_rfl
 z229 := fun _ => by kernel_rfl
 v229 := fun _ => by kernel_rfl

theorem lays125 : Lays.n125 Tryd.prog rho := { lays189 with }
theorem sort_nil54 (w : World) : Calls Tryd.prog 54 #[.slice none 0 0, .int .i64 0, .int .i64 0] w fun e w' => e = .returned (.tuple #[]) ∧ w' = w := by
 go_enter Tryd.func54, Tryd.ntmps54
 go_wp2_with fail
 go_loopw [6] (fun i wr => i = .int .i64 1 ∧ wr = w) (fun _ _ => 0)
 case atStart => exact ⟨rfl, rfl⟩
 case round =>
  obtain ⟨rfl, rfl⟩ := hrel
  go_wp2_with fail
  exact ⟨rfl, .tuple #[], (by simp [results, Tryd.results54, go_sem]), rfl, rfl⟩
theorem sort_nil52 (l : Int) (w : World) : Calls Tryd.prog 52 #[.slice none 0 0, .int .i64 0, .int .i64 0, .int .i64 l] w fun e w' => e = .returned (.tuple #[]) ∧ w' = w := by
 go_enter Tryd.func52, Tryd.ntmps52
 go_wp2_with fail
 go_loopw [1, 2, 3, 8, 9] (fun a b i p q wr => a = .int .i64 0 ∧ b = .int .i64 0 ∧ i = .int .i64 l ∧ p = .bool true ∧ q = .bool true ∧ wr = w) (fun _ _ _ _ _ _ => 0)
 case atStart => exact ⟨rfl, rfl, rfl, rfl, rfl, rfl⟩
 case round =>
  obtain ⟨rfl, rfl, rfl, rfl, rfl, rfl⟩ := hrel
  go_wp2_with (go_at_call 54; (with_reducible refine (sort_nil54 _).mono ?_); rintro e w6 ⟨rfl, rfl⟩)
  exact ⟨rfl, .tuple #[], (by simp [results, Tryd.results52, go_sem]), rfl, rfl⟩
theorem sort_nil (w : World) : Calls Tryd.prog 49 #[.slice none 0 0] w fun e w' => e = .returned (.tuple #[]) ∧ w' = w := by
 have HL : ∀ w, Calls Tryd.prog 53 #[.int .u64 0] w fun e w' => e = .returned (.int .i64 0) ∧ w' = w := fun w => (Any.bits_Len lays125 0 w (by omega) (by omega)).mono (by rintro e w' ⟨rfl, rfl⟩; exact ⟨by kernel_rfl, rfl⟩)
 go_enter Tryd.func49, Tryd.ntmps49
 go_wp2_with (first | (go_at_call 53; (with_reducible refine (HL _).mono ?_); rintro e w6 ⟨rfl, rfl⟩) | (go_at_call 52; (with_reducible refine (sort_nil52 _ _).mono ?_); rintro e w6 ⟨rfl, rfl⟩))
 exact ⟨rfl, .tuple #[], (by simp [results, Tryd.results49, go_sem]), rfl, rfl⟩
/-- The library's order of numbers. -/
def srt (l : List Int) : List Int := l.mergeSort fun x y => decide (x ≤ y)
/-- A row of ints of the call's own: nil, or its block. -/
theorem row_out {W : World} {n0 : Nat} {ok : Nat → Prop} {v : Value} {xs : List Int} (h : Kd.R (Kd.int .i64) 3 W n0 ok v xs) :
  (v = .slice none 0 0 ∧ xs = []) ∨ ∃ g cap cur, v = .slice (some ⟨g, 0, none⟩) xs.length cap ∧ n0 ≤ g ∧ ok g ∧ W.heap[g]? = some (.cells cur 3 (0, 0)) ∧ xs.length ≤ cap ∧ cap ≤ maxLen ∧ cur.size = cap ∧ ∀ j x, xs[j]? = some x → W.cell? ⟨g, j, none⟩ = some (.int .i64 x) := by
 obtain ⟨h0, inner, ho, hr⟩ := h
 obtain ⟨A0, c0, hv, hc, hC⟩ := Kd.R_reads (show Kd.R (Kd.int .i64) 3 W n0 ok v xs from ⟨h0, inner, ho, hr⟩)
 rcases ho.2 with ⟨hv', hn⟩ | ⟨g, cap, cur, hv', hg, hh, hn, hm, hs, ht⟩
 ·exact .inl ⟨hv', List.eq_nil_of_length_eq_zero hn⟩
 ·refine .inr ⟨g, cap, cur, hv', hg, h0 g (by rw [hv']; rfl), hh, hn, hm, by rw [hs]; exact Nat.mul_one _, ?_⟩
  intro j x hx
  have hlt : j < xs.length := (List.getElem?_eq_some_iff.1 hx).1
  obtain ⟨ad, rfl, hel⟩ := hC.2.2 (by omega)
  rw [hv'] at hv
  injection hv with e1 e2 e3
  injection e1 with e1
  subst e1
  obtain ⟨cs, h1, h2, h3⟩ := hel j _ hx
  obtain rfl := h2
  have := h3 0 _ rfl
  have e1 : (Kd.int IntKind.i64).sz = 1 := rfl
  rw [e1] at this
  rw [Addr.add_lit, Nat.zero_add, Nat.mul_one, Nat.add_zero] at this
  exact this
theorem row_in {W : World} {n0 : Nat} {ok : Nat → Prop} {xs : List Int} {g cap : Nat} {cur : Array Value} (hg : n0 ≤ g) (hok : ok g) (hh : W.heap[g]? = some (.cells cur 3 (0, 0))) (hn : xs.length ≤ cap) (hm : cap ≤ maxLen) (hs : cur.size = cap)
  (hc : ∀ j x, xs[j]? = some x → W.cell? ⟨g, j, none⟩ = some (.int .i64 x)) : Kd.R (Kd.int .i64) 3 W n0 ok (.slice (some ⟨g, 0, none⟩) xs.length cap) xs := by
 refine ⟨fun k hk => ?_, xs.map (Value.int .i64), ⟨by rw [List.length_map]; exact (Nat.mul_one _).symm, .inr ⟨g, cap, cur, rfl, hg, hh, hn, hm, by rw [hs]; exact (Nat.mul_one _).symm, ?_⟩⟩, ?_⟩
 ·have : g = k := by simpa [Value.ownBlock] using hk
  exact this ▸ hok
 ·apply List.ext_getElem?
  intro j
  have e : (Kd.int IntKind.i64).sz = 1 := rfl
  rw [e, Nat.mul_one]
  by_cases hj : j < xs.length
  ·have h1 := hc j _ (List.getElem?_eq_getElem hj)
   rw [blk_cell hh] at h1
   rw [List.getElem?_take_of_lt hj, List.getElem?_map, List.getElem?_eq_getElem hj, Array.getElem?_toList, h1]
   rfl
  ·rw [List.getElem?_eq_none (by simp; omega), List.getElem?_eq_none (by simp; omega)]
 ·exact Kd.reps_scalar xs
theorem sort_w (W : World) (A : Option Addr) (n c : Nat) (zs : List Int) (B : Nat) (h : Kd.R (Kd.int .i64) 3 W B (fun _ => True) (.slice A n c) zs) (hl : zs.length ≤ 1000) :
  Calls Tryd.prog 49 #[.slice A n c] W fun e w' => e = .returned (.tuple #[]) ∧ Kd.R (Kd.int .i64) 3 w' B (fun _ => True) (.slice A n c) (srt zs) ∧ Below B W w' := by
 rcases row_out h with ⟨hv, rfl⟩ | ⟨g, cap, cur, hv, hg, hok, hh, hn, hm, hs, hc⟩
 ·obtain ⟨rfl, rfl, rfl⟩ : A = none ∧ n = 0 ∧ c = 0 := by cases hv; exact ⟨rfl, rfl, rfl⟩
  refine (sort_nil W).mono ?_
  rintro e w' ⟨rfl, rfl⟩
  rw [show srt [] = [] by unfold srt; exact List.mergeSort_nil]
  exact ⟨rfl, h, Below.refl _ _⟩
 ·obtain ⟨rfl, rfl, rfl⟩ : A = some ⟨g, 0, none⟩ ∧ n = zs.length ∧ c = cap := by cases hv; exact ⟨rfl, rfl, rfl⟩
  have hgl : g < W.heap.size := (Array.getElem?_eq_some_iff.1 hh).1
  have ht : cur.toList.take zs.length = zs.map (Value.int .i64) := by
   apply List.ext_getElem?
   intro j
   by_cases hj : j < zs.length
   ·have h1 := hc j _ (List.getElem?_eq_getElem hj)
    rw [blk_cell hh] at h1
    rw [List.getElem?_take_of_lt hj, List.getElem?_map, List.getElem?_eq_getElem hj, Array.getElem?_toList, h1]
    rfl
   ·rw [List.getElem?_eq_none (by simp; omega), List.getElem?_eq_none (by simp; omega)]
  refine (Any.slices_Sort_int lays189 g 0 c zs W (holds_of_blockI hh ht) hgl (by omega)).mono ?_
  rintro e w' ⟨rfl, k, os, hw⟩
  change w' = Sort.grow (Sort.putRow (Value.int .i64) (Sort.ahead W k) g 0 (srt zs).toArray) os at hw
  subst hw
  have hL : (srt zs).length = zs.length := by unfold srt; exact List.length_mergeSort zs
  have hh' := heap_sortedI (n := k) (os := os) (srt zs).toArray hh
  have ht' := take_putCellsI cur (srt zs) (by rw [hL]; omega)
  refine ⟨rfl, ?_, ?_⟩
  ·rw [← hL]
   refine row_in hg trivial hh' (by rw [hL]; exact hn) hm (by simp [Sort.putCells, hs]) ?_
   intro j x hx
   have hj : j < (srt zs).length := (List.getElem?_eq_some_iff.1 hx).1
   rw [blk_cell hh', ← Array.getElem?_toList, ← List.getElem?_take_of_lt hj, ht', List.getElem?_map, hx]
   rfl
  ·obtain ⟨_, _, _, g1, g2⟩ := grownBy_sortedI (w := W) (g := g) (n := k) (os := os) (srt zs).toArray
   exact ⟨rfl, rfl, rfl, g1, fun k hk => g2 k (by omega) (fun e => by injection e with e; omega)⟩
end Go.Proofs.YtcbiehinhmkjmaaDoor.NB

namespace Go.Proofs.YtcbiehinhmkjmaaDoor.NB
open Go.RowKit Go.Proofs.YtcbiehinhmkjmaaDoorW.PrintWords Go.Proofs.YtcbiehinhmkjmaaDoorW.PrintLast Go.Proofs.YtcbiehinhmkjmaaDoorW.PrintMore
open Go.Proofs.YtcbiehinhmkjmaaDoor.PB
set_option linter.unusedVariables false
set_option linter.unusedSimpArgs false
set_option maxRecDepth 100000 in
set_option maxHeartbeats 4000000 in
theorem cl41_w (x : S36) (w : World) : Calls Tryd.prog 41 #[.agg #[.int .u64 x.f0, .int .i64 x.f1, .int .u32 x.f2.f0, .int .u32 x.f2.f1, .int .u64 x.f2.f2, .int .u64 x.f2.f3.f0, .int .u64 x.f2.f3.f1, .int .u64 x.f2.f3.f2, .int .u64 x.f2.f3.f3, .int .u64 x.f2.f3.f4, .int .u64 x.f2.f3.f5, .bool x.f3]] w fun e w' => e = .returned (.int .i64 x.f1) ∧ Below w.heap.size w w' := by
 go_enter Tryd.func41, Tryd.ntmps41
 go_wp2_with fail
 go_ret
 exact ⟨rfl, (Below.refl _ w).alloc (Nat.le_refl _) _⟩
set_option maxRecDepth 100000 in
set_option maxHeartbeats 4000000 in
theorem rising_w (A : Option Addr) (c : Nat) (l : List S36) (hl : l.length ≤ 100) (w : World) (hr : Kd.C k36 w A l.length l) :
  Calls Tryd.prog 40 #[.slice A l.length c, .func (.func 41) #[] #[]] w fun e w' => ∃ (A' : Option Addr) (n' c' : Nat), e = .returned (.slice A' n' c') ∧ n' = l.length ∧ Kd.R (Kd.int .i64) 3 w' w.heap.size (fun _ => True) (.slice A' n' c') (srt (l.map (fun x => x.f1))) ∧ Below w.heap.size w w' := by
 obtain ⟨m, hm⟩ : ∃ m, m = l.length := ⟨_, rfl⟩
 have HM := Lib.hid hm
 have HC := Lib.hid hr
 rw [← hm] at hl HC ⊢
 clear hr hm
 go_enter Tryd.func40, Tryd.ntmps40
 go_wp2_with fail
 go_loopw [5, 10] (fun v i wr => ∃ (k : Nat) (j : Int) (A5 : Option Addr) (n5 c5 : Nat), v = .slice A5 n5 c5 ∧ i = .int .i64 j ∧ Hid (j = (k : Int)) ∧ 0 ≤ j ∧ j ≤ (m : Int) ∧ Hid (n5 = k) ∧ Hid (Below w.heap.size w wr) ∧ Hid (Kd.R (Kd.int .i64) 3 wr w.heap.size (fun _ => True) (.slice A5 n5 c5) ((l.take k).map (fun x => x.f1)))) (fun _ i _ => (m - intOf i).toNat)
 case atStart => exact ⟨0, 0, none, 0, 0, rfl, rfl, Lib.hid rfl, by omega, by omega, Lib.hid rfl, Lib.hid (Below.refl _ _), Lib.hid (Kd.R_nil _ _ _ _ _)⟩
 case round =>
  obtain ⟨k, j, A5, n5, c5, rfl, rfl, HJ, hj0, hj1, HN5, KB, KR⟩ := hrel
  by_cases hlt : j < (m : Int)
  ·obtain ⟨ad, hA, hx0, hx1, hx2, hx3, hx4, hx5, hx6, hx7, hx8, hx9, hx10, hx11⟩ := at_T36 (Kd.C_below HC.out KB.out) j hj0 hlt
   subst hA
   obtain ⟨x, hx⟩ : ∃ x, x = rd_T36 l j := ⟨_, rfl⟩
   rw [← hx] at hx0 hx1 hx2 hx3 hx4 hx5 hx6 hx7 hx8 hx9 hx10 hx11
   have HXK := Lib.hid hx
   clear hx
   have hbl := World.block_lt_of_cell? _ _ hx0
   obtain ⟨zs, hzs⟩ : ∃ zs, zs = (l.take k).map (fun x => x.f1) := ⟨_, rfl⟩
   rw [← hzs] at KR
   have HZ := Lib.hid hzs
   have HZL := Lib.hid (show zs.length ≤ 100 by rw [hzs, List.length_map, List.length_take]; have := HM.out; omega)
   clear hzs
   have hwj : wrap64 (j + 1) = j + 1 := by unfold wrap64; omega
   go_wp2_with (first | (go_at_call 41; (with_reducible refine (cl41_w x _).mono ?_); rintro e w6 ⟨rfl, hb6⟩; have HB6 := Lib.hid ((bel_al KB.out (.cells #[.int .u64 x.f0, .int .i64 x.f1, .int .u32 x.f2.f0, .int .u32 x.f2.f1, .int .u64 x.f2.f2, .int .u64 x.f2.f3.f0, .int .u64 x.f2.f3.f1, .int .u64 x.f2.f3.f2, .int .u64 x.f2.f3.f3, .int .u64 x.f2.f3.f4, .int .u64 x.f2.f3.f5, .bool x.f3] 36)).trans (hb6.mono (bel_al KB.out (.cells #[.int .u64 x.f0, .int .i64 x.f1, .int .u32 x.f2.f0, .int .u32 x.f2.f1, .int .u64 x.f2.f2, .int .u64 x.f2.f3.f0, .int .u64 x.f2.f3.f1, .int .u64 x.f2.f3.f2, .int .u64 x.f2.f3.f3, .int .u64 x.f2.f3.f4, .int .u64 x.f2.f3.f5, .bool x.f3] 36)).size)); have HR6 := Lib.hid (Kd.R_below (Kd.R_alloc KR.out (.cells #[.int .u64 x.f0, .int .i64 x.f1, .int .u32 x.f2.f0, .int .u32 x.f2.f1, .int .u64 x.f2.f2, .int .u64 x.f2.f3.f0, .int .u64 x.f2.f3.f1, .int .u64 x.f2.f3.f2, .int .u64 x.f2.f3.f3, .int .u64 x.f2.f3.f4, .int .u64 x.f2.f3.f5, .bool x.f3] 36)) hb6); clear hb6) | ((with_reducible refine gate_builtin (b := .append) (xs := #[.tmp 14, .tmp 18]) rfl ?_); at_builtin; refine Kd.R_append (Kd.int .i64) (w0 := w) w.heap.size rfl (.tmp 14) (.tmp 18) 61 3 (.int .i64 0) 8 rfl Tryd.underlying61 (by kernel_rfl) rfl (by decide) (by omega) (.slice A5 n5 c5) zs x.f1 [.int .i64 x.f1] (fun _ => True) (fun _ => False) rfl (by first | (go_simp; done) | (go_simp; rfl)) ?aP (fun _ hk => hk.elim) ?aF ?aO ?aB ?aS ?aL ?_; (case aP => rfl); (case aF => exact (fun _ _ => trivial)); (case aO => exact HR6.out); (case aB => exact HB6.out); (case aS => exact HB6.out.size); (case aL => have := HZL.out; omega); intro v8 w8 ho hb hg hat; obtain ⟨A8, c8, rfl⟩ := Kd.R_slice ho; obtain ⟨n8, hn8⟩ : ∃ n, n = (zs ++ [x.f1]).length := ⟨_, rfl⟩; rw [← hn8] at ho ⊢; have HN8 := Lib.hid hn8; clear hn8; have HR8 := Lib.hid ho; have HB8 := Lib.hid hb; clear ho hb hg hat))
   refine ⟨⟨k + 1, j + 1, A8, n8, c8, rfl, rfl, Lib.hid (by have := HJ.out; omega), by omega, by omega, Lib.hid ?_, HB8, Lib.hid ?_⟩, by simp [intOf]; omega⟩
   ·rw [HN8.out, HZ.out, List.length_append, List.length_map, List.length_take]
    have := HJ.out
    have := HM.out
    simp
    omega
   ·have hk : k < l.length := by have := HJ.out; have := HM.out; omega
    rw [List.take_add_one, List.getElem?_eq_getElem hk, List.map_append, ← HZ.out]
    rw [show x.f1 = l[k].f1 by rw [HXK.out, HJ.out, rd_at hk]] at HR8
    exact HR8.out
  ·have hk : k = m := by have := HJ.out; omega
   obtain ⟨zs, hzs⟩ : ∃ zs, zs = l.map (fun x => x.f1) := ⟨_, rfl⟩
   have hz : (l.take k).map (fun x => x.f1) = zs := by rw [hzs, hk, HM.out, List.take_length]
   rw [hz] at KR
   have hzl : zs.length ≤ 1000 := by rw [hzs, List.length_map]; have := HM.out; omega
   have HZZ := Lib.hid hzs
   have HHZ := Lib.hid hz
   clear hzs hz
   go_wp2_with (go_at_call 49; (with_reducible refine (sort_w _ A5 n5 c5 zs _ KR.out hzl).mono ?_); rintro e w6 ⟨rfl, hr6, hb6⟩; have HR6 := Lib.hid hr6; have HB6 := Lib.hid (KB.out.trans hb6); clear hr6 hb6)
   go_ret
   exact ⟨A5, n5, c5, rfl, HN5.out.trans hk, HZZ.out ▸ HR6.out, HB6.out⟩
end Go.Proofs.YtcbiehinhmkjmaaDoor.NB

namespace Go.Proofs.YtcbiehinhmkjmaaDoor.NB
open Go.RowKit Go.Proofs.YtcbiehinhmkjmaaDoorW.PrintWords Go.Proofs.YtcbiehinhmkjmaaDoorW.PrintLast Go.Proofs.YtcbiehinhmkjmaaDoorW.PrintMore
open Go.Proofs.YtcbiehinhmkjmaaDoor.PB
set_option linter.unusedVariables false
set_option linter.unusedSimpArgs false
open Go.Proofs.YtcbiehinhmkjmaaDoor.PE.L (Tab)

theorem by_ex_loop (l : List S36) (ck : Int) (hl : l.length ≤ 100) : ∀ (d lo hi k : Nat), hi = lo + d → hi ≤ l.length → d < k →
  ∃ (i : Nat) (b : Bool), api_Notice_uint64.l0 k l ck (l.length : Int) lo hi = some ((i : Int), b) ∧ (b = true → i < l.length ∧ ckOf l i = ck) := by
 intro d
 induction d using Nat.strongRecOn with
 | _ d ih =>
  intro lo hi k hhi hle hk
  obtain ⟨k, rfl⟩ : ∃ n, k = n + 1 := ⟨k - 1, by omega⟩
  rcases Nat.lt_or_ge lo hi with h | h
  ·obtain ⟨m, hm⟩ : ∃ m, m = (lo + hi) / 2 := ⟨_, rfl⟩
   have hm1 : lo ≤ m := by omega
   have hm2 : m < hi := by omega
   have hm3 : m < l.length := by omega
   rw [by_step k l ck _ lo hi m (Int.ofNat_lt.2 h) (by rw [half_m lo hi (by omega), hm]) (Int.natCast_nonneg m) (Int.ofNat_lt.2 hm3) (w_succ m (by omega))]
   split
   ·exact ih (hi - (m + 1)) (by omega) (m + 1) hi k (by omega) hle (by omega)
   ·exact ih (m - lo) (by omega) lo m k (by omega) (by omega) (by omega)
  ·obtain rfl : lo = hi := by omega
   rw [by_end k l ck _ lo lo (Int.lt_irrefl _)]
   rcases Nat.lt_or_ge lo l.length with h2 | h2
   ·rw [if_pos (Int.ofNat_lt.2 h2), if_pos (Int.natCast_nonneg lo), if_pos (Int.ofNat_lt.2 h2)]
    refine ⟨lo, _, rfl, fun h => ⟨h2, ?_⟩⟩
    rw [beq_iff_eq] at h
    unfold cmpV at h
    split at h
    ·cases h
    ·split at h
     ·cases h
     ·omega
   ·rw [if_neg (fun h => absurd (Int.ofNat_lt.1 h) (Nat.not_lt.2 h2))]
    exact ⟨lo, false, rfl, fun h => by cases h⟩
theorem by_ex (k : Nat) (hk : 200 < k) (nx : Int) (l : List S36) (ck : Int) (hl : l.length ≤ 100) :
  ∃ (i : Nat) (b : Bool), notify_by.f k nx l ck = some ((i : Int), b) ∧ (b = true → i < l.length ∧ ckOf l i = ck) := by
 obtain ⟨i, b, h, h1⟩ := by_ex_loop l ck hl l.length 0 l.length k (by omega) (Nat.le_refl _) (by omega)
 refine ⟨i, b, ?_, h1⟩
 unfold notify_by.f api_Notice_uint64.f
 rw [show ((0 : Int)) = ((0 : Nat) : Int) from rfl, h]
 rfl
def validV (nx : Int) (l : List S36) (ck : Int) : Bool := decide (Dok nx l ∧ ansI l ck ≠ -1 ∧ (rd_T36 l (ansI l ck)).f3 = true)
set_option maxRecDepth 100000 in
set_option maxHeartbeats 4000000 in
theorem valid_w (nx : Int) (A : Option Addr) (c : Nat) (l : List S36) (ck : Int) (hl : l.length ≤ 100) (hc : l.length ≤ c) (w : World) (hr : Kd.C k36 w A l.length l) :
  Calls Tryd.prog 20 #[.agg #[.int .u64 nx, .slice A l.length c], .int .u64 ck] w fun e w' => e = .returned (.bool (validV nx l ck)) ∧ Below w.heap.size w w' := by
 obtain ⟨i, b, hby, hb1, hb2⟩ : ∃ (i : Nat) (b : Bool), notify_by.f 1000 nx l ck = some ((i : Int), b) ∧ (b = true → i < l.length ∧ ckOf l i = ck) ∧ (Dok nx l → b = false → ∀ q : Nat, q < l.length → ckOf l q ≠ ck) := by
  by_cases h : Dok nx l
  ·obtain ⟨i, b, h1, h2, h3⟩ := by_f 1000 (by decide) nx l ck hl (dok_sorted h)
   exact ⟨i, b, h1, h2, fun _ => h3⟩
  ·obtain ⟨i, b, h1, h2⟩ := by_ex 1000 (by decide) nx l ck hl
   exact ⟨i, b, h1, h2, fun h4 => absurd h4 h⟩
 obtain ⟨m, hm⟩ : ∃ m, m = l.length := ⟨_, rfl⟩
 have HM := Lib.hid hm
 have hB1 : Below w.heap.size w (w.alloc (.cells #[.int .u64 nx, .slice A m c] 25)) := bel_al (Below.refl _ _) _
 have HB1 := Lib.hid hB1
 have HC1 := Lib.hid (Kd.C_below hr hB1)
 have HX1 := Lib.hid (al_new w (.cells #[.int .u64 nx, .slice A m c] 25))
 have HBY : Hid (∀ W : World, Kd.C k36 W A m l → Calls Tryd.prog 34 #[.agg #[.int .u64 nx, .slice A m c], .int .u64 ck] W fun e w' => e = .returned (.tuple #[.int .i64 (i : Int), .bool b]) ∧ Below W.heap.size W w') := by
  rw [hm]
  exact Lib.hid (fun W h => notify_by.calls 1000 nx A c l ck (i : Int) b W h hc hby)
 have HCK : Hid (∀ W : World, Kd.C k36 W A m l → Calls Tryd.prog 21 #[.agg #[.int .u64 nx, .slice A m c]] W fun e w' => e = .returned (.int .i64 (chkV nx l)) ∧ Below W.heap.size W w') := by
  rw [hm]
  exact Lib.hid (fun W h => check_w nx A c l hc W h)
 rw [← hm] at HC1 ⊢
 clear hr hB1 hc hm hby
 by_cases hok : Dok nx l
 case neg =>
  have HV := Lib.hid (chk_no hok)
  have HR := Lib.hid (show validV nx l ck = false from decide_eq_false (fun h => hok h.1))
  clear hok hb1 hb2
  go_enter Tryd.func20, Tryd.ntmps20
  go_wp2_with (first | (go_at_call 34; (with_reducible refine (HBY.out _ HC1.out).mono ?_); rintro e w2 ⟨rfl, hb⟩; have HB2 := Lib.hid (HB1.out.trans (hb.mono HB1.out.size)); have HX2 := Lib.hid ((hb.block _ (blk_lt HX1.out)).trans HX1.out); have HC2 := Lib.hid (Kd.C_below HC1.out hb); have HB12 := Lib.hid hb; clear hb; have y0 := blk_cell HX2.out 0; have y1 := blk_cell HX2.out 1) | (go_at_call 21; (with_reducible refine (HCK.out _ HC2.out).mono ?_); rintro e w3 ⟨he, hb⟩; rw [HV.out] at he; subst he; have HB3 := Lib.hid (HB2.out.trans (hb.mono HB2.out.size)); have HX3 := Lib.hid ((hb.block _ (blk_lt HX2.out)).trans HX2.out); clear y0 y1; have y1 := blk_cell HX3.out 1; clear hb))
  go_ret
  exact ⟨by rw [HR.out]; rfl, HB3.out⟩
 have HV := Lib.hid (chk_ok hok)
 cases b with
 | false =>
  have HR := Lib.hid (show validV nx l ck = false from decide_eq_false (fun h => h.2.1 (idx_miss (fun q hq => by simpa using hb2 hok rfl q hq))))
  clear hok hb1 hb2
  go_enter Tryd.func20, Tryd.ntmps20
  go_wp2_with (first | (go_at_call 34; (with_reducible refine (HBY.out _ HC1.out).mono ?_); rintro e w2 ⟨rfl, hb⟩; have HB2 := Lib.hid (HB1.out.trans (hb.mono HB1.out.size)); have HX2 := Lib.hid ((hb.block _ (blk_lt HX1.out)).trans HX1.out); have HC2 := Lib.hid (Kd.C_below HC1.out hb); have HB12 := Lib.hid hb; clear hb; have y0 := blk_cell HX2.out 0; have y1 := blk_cell HX2.out 1) | (go_at_call 21; (with_reducible refine (HCK.out _ HC2.out).mono ?_); rintro e w3 ⟨he, hb⟩; rw [HV.out] at he; subst he; have HB3 := Lib.hid (HB2.out.trans (hb.mono HB2.out.size)); have HX3 := Lib.hid ((hb.block _ (blk_lt HX2.out)).trans HX2.out); clear y0 y1; have y1 := blk_cell HX3.out 1; clear hb))
  go_ret
  exact ⟨by rw [HR.out]; rfl, HB3.out⟩
 | true =>
  obtain ⟨hil, hic⟩ := hb1 rfl
  have hs := dok_sorted hok
  have hI : ansI l ck = i := idx_hit hil (by simpa using hic) (fun q hq => by have := hs q i hq hil; have h2 : ckOf l (i : Int) = ck := hic; rw [h2] at this; simpa using Int.ne_of_lt this)
  have hne : ¬ (i : Int) = -1 := by omega
  have HR := Lib.hid (show validV nx l ck = (rd_T36 l (i : Int)).f3 by unfold validV; rw [hI]; cases h : (rd_T36 l (i : Int)).f3 <;> simp [hok, hne])
  have hi0 : (0 : Int) ≤ (i : Int) := by omega
  have hi1 : (i : Int) < (m : Int) := by have := HM.out; omega
  obtain ⟨ad, hA, _, _, _, _, _, _, _, _, _, _, _, hx11⟩ := at_T36 HC1.out (i : Int) hi0 hi1
  rw [Int.toNat_natCast] at hx11
  have HX11 := Lib.hid hx11
  subst hA
  clear hok hb1 hb2 hs hI hne hil hic hx11
  go_enter Tryd.func20, Tryd.ntmps20
  go_wp2_with (first | (go_at_call 34; (with_reducible refine (HBY.out _ HC1.out).mono ?_); rintro e w2 ⟨rfl, hb⟩; have HB2 := Lib.hid (HB1.out.trans (hb.mono HB1.out.size)); have HX2 := Lib.hid ((hb.block _ (blk_lt HX1.out)).trans HX1.out); have HC2 := Lib.hid (Kd.C_below HC1.out hb); have HB12 := Lib.hid hb; clear hb; have y0 := blk_cell HX2.out 0; have y1 := blk_cell HX2.out 1) | (go_at_call 21; (with_reducible refine (HCK.out _ HC2.out).mono ?_); rintro e w3 ⟨he, hb⟩; rw [HV.out] at he; subst he; have HB3 := Lib.hid (HB2.out.trans (hb.mono HB2.out.size)); have HX3 := Lib.hid ((hb.block _ (blk_lt HX2.out)).trans HX2.out); clear y0 y1; have y1 := blk_cell HX3.out 1; have g11 := ((hb.cell (World.block_lt_of_cell? _ _ ((HB12.out.cell (World.block_lt_of_cell? _ _ HX11.out)).trans HX11.out))).trans ((HB12.out.cell (World.block_lt_of_cell? _ _ HX11.out)).trans HX11.out)); clear hb))
  go_ret
  exact ⟨by rw [HR.out]; rfl, HB3.out⟩
end Go.Proofs.YtcbiehinhmkjmaaDoor.NB

namespace Go.Proofs.YtcbiehinhmkjmaaDoor.NB
open Go.RowKit Go.Proofs.YtcbiehinhmkjmaaDoorW.PrintWords Go.Proofs.YtcbiehinhmkjmaaDoorW.PrintLast Go.Proofs.YtcbiehinhmkjmaaDoorW.PrintMore
open Go.Proofs.YtcbiehinhmkjmaaDoor.PB
set_option linter.unusedVariables false
set_option linter.unusedSimpArgs false

theorem same_both_loop (a b : Int) (l m : List S36) (hl : l.length ≤ 1000) (hm : l.length = m.length) : ∀ (d i k : Nat), i + d = l.length → d < k → ∃ r, api_Notice_39.l0 k l m (l.length : Int) i = some r ∧ wicketgateref25_Same.l0 k i a l b m = some r := by
 intro d
 induction d with
 | zero =>
  intro i k hi hk
  obtain ⟨k, rfl⟩ : ∃ n, k = n + 1 := ⟨k - 1, by omega⟩
  rw [api_Notice_39.l0, wicketgateref25_Same.l0, if_neg (by omega), if_neg (by omega)]
  exact ⟨true, rfl, rfl⟩
 | succ d ih =>
  intro i k hi hk
  obtain ⟨k, rfl⟩ : ∃ n, k = n + 1 := ⟨k - 1, by omega⟩
  have a1 : (i : Int) < (l.length : Int) := by omega
  have a2 : (0 : Int) ≤ (i : Int) := by omega
  have a3 : (i : Int) < (m.length : Int) := by omega
  rw [api_Notice_39.l0, wicketgateref25_Same.l0, if_pos a1, if_pos a1, if_pos a2, if_pos a2, if_pos a1, if_pos a3, if_pos a3, w_succ i (by omega)]
  split
  ·exact ⟨false, rfl, rfl⟩
  ·exact ih (i + 1) k (by omega) (by omega)
theorem same_both (k : Nat) (hk : 2000 ≤ k) (a b : Int) (l m : List S36) (hl : l.length ≤ 100) : ∃ r, notify_Same.f k a l b m = some r ∧ wicketgateref25_Same.f (k + 1) a l b m = some r := by
 have hj : ∀ c, wicketgateref25_Same.j0 (k + 1) c a l b m = if c = true then some false else wicketgateref25_Same.l0 k 0 a l b m := fun c => by rw [wicketgateref25_Same.j0]
 unfold notify_Same.f wicketgateref25_Same.f api_Notice_39.f
 simp only [hj]
 by_cases h1 : a = b
 ·rw [if_pos h1, if_pos h1]
  by_cases h2 : (l.length : Int) = (m.length : Int)
  ·obtain ⟨r, h3, h4⟩ := same_both_loop a b l m (by omega) (by omega) l.length 0 k (by omega) (by omega)
   rw [if_pos h2, show ((l.length : Int) != (m.length : Int)) = false by simpa using h2, if_neg Bool.false_ne_true, show (0 : Int) = ((0 : Nat) : Int) from rfl, h3, h4]
   exact ⟨r, rfl, rfl⟩
  ·rw [if_neg h2, show ((l.length : Int) != (m.length : Int)) = true by simpa using h2, if_pos rfl]
   exact ⟨false, rfl, rfl⟩
 ·rw [if_neg h1, if_neg h1]
  exact ⟨false, rfl, by simp⟩
end Go.Proofs.YtcbiehinhmkjmaaDoor.NB

namespace Go.Proofs.YtcbiehinhmkjmaaDoor.NB
open Go.RowKit Go.Proofs.YtcbiehinhmkjmaaDoorW.PrintWords Go.Proofs.YtcbiehinhmkjmaaDoorW.PrintLast Go.Proofs.YtcbiehinhmkjmaaDoorW.PrintMore
open Go.Proofs.YtcbiehinhmkjmaaDoor.PB
set_option linter.unusedVariables false
set_option linter.unusedSimpArgs false
set_option maxRecDepth 100000 in
set_option maxHeartbeats 4000000 in
theorem rgone_w (nx : Int) (A : Option Addr) (c : Nat) (l : List S36) (t : Int) (hl : l.length ≤ 100) (hc : l.length ≤ c) (w : World) (hr : Kd.C k36 w A l.length l) :
  Calls Tryd.prog 24 #[.agg #[.int .u64 nx, .slice A l.length c], .int .i64 t] w fun e w' => ∃ (A' : Option Addr) (n' c' : Nat), e = .returned (.tuple #[.agg #[.int .u64 (goneR nx l t).1, .slice A' n' c'], .bool (goneR nx l t).2.2.2, .int .i64 (goneR nx l t).2.2.1]) ∧ n' = (goneR nx l t).2.1.length ∧ n' ≤ c' ∧ Kd.C k36 w' A' n' (goneR nx l t).2.1 ∧ Below w.heap.size w w' := by
 obtain ⟨m, hm⟩ : ∃ m, m = l.length := ⟨_, rfl⟩
 have HM := Lib.hid hm
 have HL := Lib.hid hl
 have HCC := Lib.hid hc
 have HC0 := Lib.hid hr
 have hB1 : Below w.heap.size w ((w.alloc (.cells #[.int .u64 nx, .slice A m c] 25)).alloc (.cells #[.int .u64 0, .slice none 0 0] 25)) := (bel_al (bel_al (Below.refl w.heap.size w) (.cells #[.int .u64 nx, .slice A m c] 25)) (.cells #[.int .u64 0, .slice none 0 0] 25))
 have HB1 := Lib.hid hB1
 have HC1 := Lib.hid (Kd.C_below hr hB1)
 have HRC : Hid (∀ (W : World) (b : Bool), wicketgateref25_Right.f 30000 nx l = some b → Kd.C k36 W A m l → Calls Tryd.prog 23 #[.agg #[.int .u64 nx, .slice A m c]] W fun e w' => e = .returned (.bool b) ∧ Below W.heap.size W w') := by
  rw [hm]
  exact Lib.hid (fun W b hb h => wicketgateref25_Right.calls 30000 nx A c l b W h hc hb)
 have HWO : Hid (∀ (W : World) (p : Nat), wicketgateref25_without.f 1000 nx l p = some (nx, cut l p) → Kd.C k36 W A m l → Calls Tryd.prog 29 #[.agg #[.int .u64 nx, .slice A m c], .int .i64 p] W fun e w' => ∃ v : Value, e = .returned (.agg #[.int .u64 nx, v]) ∧ Kd.R k36 36 w' W.heap.size (fun _ => True) v (cut l p) ∧ Below W.heap.size W w') := by
  rw [hm]
  exact Lib.hid (fun W p hb h => wicketgateref25_without.calls 1000 nx A c l (p : Int) nx (cut l p) W h hc hb)
 have h0 := (al_keep (o := .cells #[.int .u64 0, .slice none 0 0] 25) (al_new w (.cells #[.int .u64 nx, .slice A m c] 25)))
 (try simp only [World.size_alloc] at h0)
 have H0 := Lib.hid h0
 clear h0
 have h1 := (al_new (w.alloc (.cells #[.int .u64 nx, .slice A m c] 25)) (.cells #[.int .u64 0, .slice none 0 0] 25))
 (try simp only [World.size_alloc] at h1)
 have H1 := Lib.hid h1
 clear h1
 rw [← hm] at HC1 HC0 HCC ⊢
 clear hr hB1 hc hl hm
 by_cases hok : Dok nx l
 case neg =>
  have HRF := Lib.hid (show wicketgateref25_Right.f 30000 nx l = some false by rw [right_f 30000 (by decide) nx l HL.out, decide_eq_false hok])
  have HR := Lib.hid (show (goneR nx l t) = _ from if_neg hok)
  clear hok
  go_enter Tryd.func24, Tryd.ntmps24
  go_wp2_with (first | (go_at_call 23; (with_reducible refine (HRC.out _ false HRF.out HC1.out).mono ?_); rintro e w2 ⟨rfl, hb⟩; have HB2 := Lib.hid (HB1.out.trans (hb.mono HB1.out.size)); have HC2 := Lib.hid (Kd.C_below HC1.out hb); have HK0 := Lib.hid ((hb.block _ (blk_lt H0.out)).trans H0.out); have HK1 := Lib.hid ((hb.block _ (blk_lt H1.out)).trans H1.out); clear hb; have p0 := blk_cell HK1.out 0; have pf0 := blk_frozen HK1.out 0; have p1 := blk_cell HK1.out 1; have pf1 := blk_frozen HK1.out 1; have pl := blk_lt HK1.out))
  refine bodyPost_ret (v := .tuple #[.agg #[.int .u64 0, .slice none 0 0], .bool false, .int .i64 350]) (by simp [results, Tryd.results24, go_sem, p0, p1, pl]) rfl ?_
  refine ⟨none, 0, 0, by rw [HR.out], by rw [HR.out]; rfl, Nat.le_refl _, by rw [HR.out]; exact Kd.C_nil _ _, ?_⟩
  (repeat (with_reducible first | exact HB2.out | refine Below.setCell ?_ (by dsimp only; omega) _))
 have HRF := Lib.hid (show wicketgateref25_Right.f 30000 nx l = some true by rw [right_f 30000 (by decide) nx l HL.out, decide_eq_true hok])
 have HOK := Lib.hid hok
 clear hok
 go_enter Tryd.func24, Tryd.ntmps24
 go_wp2_with (first | (go_at_call 23; (with_reducible refine (HRC.out _ true HRF.out HC1.out).mono ?_); rintro e w2 ⟨rfl, hb⟩; have HB2 := Lib.hid (HB1.out.trans (hb.mono HB1.out.size)); have HC2 := Lib.hid (Kd.C_below HC1.out hb); have HK0 := Lib.hid ((hb.block _ (blk_lt H0.out)).trans H0.out); have HK1 := Lib.hid ((hb.block _ (blk_lt H1.out)).trans H1.out); clear hb; skip))
 go_loopw [7] (fun i wr => ∃ (k : Nat) (j : Int), i = .int .i64 j ∧ Hid (j = (k : Int)) ∧ 0 ≤ j ∧ j ≤ (m : Int) ∧ Hid (wr = w2) ∧ Hid (∀ q : Nat, q < k → ((rd_T36 l (q : Int)).f1 == t) = false)) (fun i _ => (m - intOf i).toNat)
 case atStart => exact ⟨0, 0, rfl, Lib.hid rfl, by omega, by omega, Lib.hid rfl, Lib.hid (fun q hq => absurd hq (Nat.not_lt_zero _))⟩
 case round =>
  obtain ⟨k, j, rfl, HJ, hj0, hj1, HWR, KO⟩ := hrel
  obtain rfl := HWR.out
  have x0 := blk_cell HK0.out 0
  have x1 := blk_cell HK0.out 1
  have xl := blk_lt HK0.out
  by_cases hlt : j < (m : Int)
  ·obtain ⟨ad, hA, _, hx1, _⟩ := at_T36 HC2.out j hj0 hlt
   subst hA
   obtain ⟨y, hy⟩ : ∃ y, y = rd_T36 l j := ⟨_, rfl⟩
   rw [← hy] at hx1
   have HXK := Lib.hid hy
   clear hy
   by_cases hck : y.f1 = t
   ·have hI : idxV (fun x => x.f1 == t) l = k := idx_hit (by have := HJ.out; have := HM.out; omega) (by rw [← HJ.out, ← HXK.out]; simpa using hck) KO.out
    have hcb : (y.f1 == t) = true := by simpa using hck
    have hne : ¬ (k : Int) = -1 := by omega
    have HR := Lib.hid (show (goneR nx l t) = (nx, cut l k, 0, true) by unfold goneR goneL goneB; rw [if_pos HOK.out, hI, if_neg hne, decide_eq_false hne, Int.toNat_natCast]; rfl)
    have HWF := Lib.hid (without_f 1000 (by decide) nx l k HL.out)
    have HWJ := Lib.hid (HWO.out _ k HWF.out HC2.out)
    rw [← HJ.out] at HWJ
    clear hI hck hne
    go_wp2_with (first | (go_at_call 29; (with_reducible refine (HWJ.out).mono ?_); rintro e w5 ⟨v5, rfl, hR5, hb5⟩; obtain ⟨A5, c5, rfl⟩ := Kd.R_slice hR5; obtain ⟨n5, hn5⟩ : ∃ n, n = (cut l k).length := ⟨_, rfl⟩; rw [← hn5] at hR5 ⊢; have HN5 := Lib.hid hn5; clear hn5; have HR5 := Lib.hid (Kd.R_mono (ok' := fun q => w.heap.size + 1 < q) (Kd.R_bound hR5) (fun q hq => by have := hq.2.1; have := blk_lt HK1.out; omega)); have HB5 := Lib.hid (HB2.out.trans (hb5.mono HB2.out.size)); have HQ1 := Lib.hid ((hb5.block _ (blk_lt HK1.out)).trans HK1.out); clear hR5 hb5 x0 x1 xl hx1; have p0 := blk_cell HQ1.out 0; have pf0 := blk_frozen HQ1.out 0; have p1 := blk_cell HQ1.out 1; have pf1 := blk_frozen HQ1.out 1; have pl := blk_lt HQ1.out))
    refine bodyPost_ret (v := .tuple #[.agg #[.int .u64 nx, .slice A5 n5 c5], .bool true, .int .i64 0]) (by simp [results, Tryd.results24, go_sem, p0, p1, pl]) rfl ?_
    have hRF := Kd.R_far (Kd.R_far HR5.out (p := ⟨w.heap.size + 1, 0, none⟩) (fun q hq e => by dsimp only at e; omega) (.int .u64 nx)) (p := ⟨w.heap.size + 1, 1, none⟩) (fun q hq e => by dsimp only at e; omega) (.slice A5 n5 c5)
    have hRR := Kd.R_reads' hRF
    rw [← HN5.out] at hRR
    refine ⟨A5, n5, c5, by rw [HR.out], by rw [HR.out]; exact HN5.out, hRR.2.1, by rw [HR.out]; exact hRR.2.2, ?_⟩
    (repeat (with_reducible first | exact HB5.out | refine Below.setCell ?_ (by dsimp only; omega) _))
   ·have hcb : (y.f1 == t) = false := by simpa using hck
    have HNC := Lib.hid hcb
    clear hck
    have hwj : wrap64 (j + 1) = j + 1 := by have := HM.out; have := HL.out; unfold wrap64; omega
    go_wp2_with fail
    refine ⟨⟨k + 1, j + 1, by rw [hwj], Lib.hid (by have := HJ.out; omega), by omega, by omega, Lib.hid trivial, Lib.hid (fun q hq => ?_)⟩, by rw [hwj]; simp [intOf]; omega⟩
    rcases Nat.lt_or_ge q k with h | h
    ·exact KO.out q h
    ·obtain rfl : q = k := by omega
     rw [← HJ.out, ← HXK.out]
     exact HNC.out
  ·have hI : idxV (fun x => x.f1 == t) l = -1 := idx_miss (fun q hq => KO.out q (by have := HJ.out; have := HM.out; omega))
   have HR := Lib.hid (show (goneR nx l t) = (nx, l, 0, false) by unfold goneR goneL goneB; rw [if_pos HOK.out, if_pos hI, hI]; rfl)
   clear hI
   have p0 := blk_cell HK1.out 0; have pf0 := blk_frozen HK1.out 0; have p1 := blk_cell HK1.out 1; have pf1 := blk_frozen HK1.out 1; have pl := blk_lt HK1.out
   go_wp2_with fail
   refine bodyPost_ret (v := .tuple #[.agg #[.int .u64 nx, .slice A m c], .bool false, .int .i64 0]) (by simp [results, Tryd.results24, go_sem, p0, p1, pl]) rfl ?_
   have hBF : Below w.heap.size w ((wr.setCell ⟨w.heap.size + 1, 0, none⟩ (.int .u64 nx)).setCell ⟨w.heap.size + 1, 1, none⟩ (.slice A m c)) := (HB2.out.setCell (by dsimp only; omega) _).setCell (by dsimp only; omega) _
   exact ⟨A, m, c, by rw [HR.out], by rw [HR.out]; exact HM.out, HCC.out, by rw [HR.out]; exact Kd.C_below HC0.out hBF, hBF⟩
end Go.Proofs.YtcbiehinhmkjmaaDoor.NB

namespace Go.Proofs.YtcbiehinhmkjmaaDoor.NB
open Go.RowKit Go.Proofs.YtcbiehinhmkjmaaDoorW.PrintWords Go.Proofs.YtcbiehinhmkjmaaDoorW.PrintLast Go.Proofs.YtcbiehinhmkjmaaDoorW.PrintMore
open Go.Proofs.YtcbiehinhmkjmaaDoor.PB
set_option linter.unusedVariables false
set_option linter.unusedSimpArgs false

def waitV (nx : Int) (l : List S36) : List Int := open Classical in if Dok nx l then srt (l.map (fun x => x.f1)) else []
theorem wait_ok {nx : Int} {l : List S36} (h : Dok nx l) : waitV nx l = srt (l.map (fun x => x.f1)) := if_pos h
theorem wait_no {nx : Int} {l : List S36} (h : ¬ Dok nx l) : waitV nx l = [] := if_neg h
theorem srt_len (l : List Int) : (srt l).length = l.length := List.length_mergeSort l
def tidIn (l : List S36) (n : Int) : List Int := (l.map (fun x => x.f1)).filter (fun t => t == n)
def tidOut (l : List S36) : Nat → List Int
 | 0 => []
 | m + 1 => tidOut l m ++ tidIn l ((m + 1 : Nat) : Int)
theorem tidIn_len (l : List S36) (n : Int) : (tidIn l n).length ≤ l.length := by
 unfold tidIn
 exact Nat.le_trans (List.length_filter_le _ _) (by rw [List.length_map]; exact Nat.le_refl _)
theorem tidOut_len (l : List S36) (m : Nat) : (tidOut l m).length ≤ m * l.length := by
 induction m with
 | zero => exact Nat.zero_le _
 | succ m ih =>
  rw [tidOut, List.length_append, Nat.succ_mul]
  have := tidIn_len l ((m + 1 : Nat) : Int)
  omega
theorem tidIn_step (l : List S36) (n : Int) (q : Nat) (hq : q < l.length) : tidIn (l.take (q + 1)) n = tidIn (l.take q) n ++ (if (rd_T36 l (q : Int)).f1 = n then [(rd_T36 l (q : Int)).f1] else []) := by
 unfold tidIn
 rw [List.take_add_one, List.getElem?_eq_getElem hq, rd_at hq]
 simp only [Option.toList_some, List.map_append, List.map_cons, List.map_nil, List.filter_append]
 congr 1
 by_cases h : l[q].f1 = n
 ·rw [if_pos h]
  simp [h]
 ·rw [if_neg h]
  simp [h]
theorem tidOut_perm (l : List S36) (h : ∀ t ∈ l.map (fun x => x.f1), 1 ≤ t) (m : Nat) : (tidOut l m).Perm ((l.map (fun x => x.f1)).filter (fun t => decide (t ≤ (m : Int)))) := by
 induction m with
 | zero =>
  rw [tidOut, List.filter_eq_nil_iff.2 (fun t ht => by have := h t ht; simp; omega)]
 | succ m ih =>
  rw [tidOut]
  refine (ih.append_right _).trans ?_
  have h2 := List.filter_append_perm (fun t => decide (t ≤ (m : Int))) ((l.map (fun x => x.f1)).filter (fun t => decide (t ≤ ((m + 1 : Nat) : Int))))
  rw [List.filter_filter, List.filter_filter] at h2
  have e1 : (l.map (fun x => x.f1)).filter (fun a => decide (a ≤ (m : Int)) && decide (a ≤ ((m + 1 : Nat) : Int))) = (l.map (fun x => x.f1)).filter (fun t => decide (t ≤ (m : Int))) := List.filter_congr (fun t _ => by by_cases h : t ≤ (m : Int) <;> simp [h] <;> omega)
  have e2 : (l.map (fun x => x.f1)).filter (fun a => !decide (a ≤ (m : Int)) && decide (a ≤ ((m + 1 : Nat) : Int))) = tidIn l ((m + 1 : Nat) : Int) := List.filter_congr (fun t _ => by rw [Bool.eq_iff_iff]; simp; omega)
  rw [e1, e2] at h2
  exact h2
theorem tidOut_le (l : List S36) (m : Nat) : (∀ t ∈ tidOut l m, t ≤ (m : Int)) ∧ (tidOut l m).Pairwise (fun a b => decide (a ≤ b) = true) := by
 induction m with
 | zero => exact ⟨fun t ht => by simp [tidOut] at ht, List.Pairwise.nil⟩
 | succ m ih =>
  have hin : ∀ t ∈ tidIn l ((m + 1 : Nat) : Int), t = ((m + 1 : Nat) : Int) := fun t ht => by
   have := (List.mem_filter.1 ht).2
   simpa using this
  refine ⟨fun t ht => ?_, ?_⟩
  ·rw [tidOut, List.mem_append] at ht
   rcases ht with ht | ht
   ·have := ih.1 t ht
    omega
   ·rw [hin t ht]
    exact Int.le_refl _
  ·rw [tidOut, List.pairwise_append]
   refine ⟨ih.2, ?_, fun a ha b hb => ?_⟩
   ·refine List.pairwise_of_forall_mem_list (fun a ha b hb => ?_)
    rw [hin a ha, hin b hb]
    simp
   ·have := ih.1 a ha
    rw [hin b hb]
    simp
    omega
theorem dok_tids {nx : Int} {l : List S36} (h : Dok nx l) : ∀ t ∈ l.map (fun x => x.f1), 1 ≤ t ∧ t ≤ 20 := by
 intro t ht
 obtain ⟨x, hx, rfl⟩ := List.mem_map.1 ht
 obtain ⟨q, hq, rfl⟩ := List.mem_iff_getElem.1 hx
 have := h.2.2.2 q hq
 unfold okAt tidOf at this
 rw [rd_at hq] at this
 exact ⟨this.2.2.2.1, this.2.2.2.2.1⟩
theorem tids_srt {nx : Int} {l : List S36} (h : Dok nx l) : tidOut l 20 = srt (l.map (fun x => x.f1)) := by
 have h1 := tidOut_perm l (fun t ht => (dok_tids h t ht).1) 20
 rw [List.filter_eq_self.2 (fun t ht => by have := (dok_tids h t ht).2; simp; omega)] at h1
 refine List.Perm.eq_of_pairwise (le := fun a b => a ≤ b) (fun a b _ _ h1 h2 => Int.le_antisymm h1 h2) ((tidOut_le l 20).2.imp (fun h => of_decide_eq_true h)) ?_ (h1.trans (List.mergeSort_perm _ _).symm)
 exact (List.pairwise_mergeSort (le := fun a b => decide (a ≤ b)) (fun a b c h1 h2 => by simp at *; omega) (fun a b => by simp; omega) _).imp (fun h => of_decide_eq_true h)
def validA (l : List S36) (ck : Int) : Bool := l.any (fun x => x.f0 == ck && x.f3)
theorem validA_step (l : List S36) (ck : Int) (q : Nat) (hq : q < l.length) : validA (l.take (q + 1)) ck = (validA (l.take q) ck || ((rd_T36 l (q : Int)).f0 == ck && (rd_T36 l (q : Int)).f3)) := by
 unfold validA
 rw [List.take_add_one, List.getElem?_eq_getElem hq, rd_at hq]
 simp only [Option.toList_some, List.any_append, List.any_cons, List.any_nil, Bool.or_false]
theorem valid_no {nx : Int} {l : List S36} {ck : Int} (h : ¬ Dok nx l) : validV nx l ck = false := decide_eq_false (fun h2 => h h2.1)
theorem valid_any {nx : Int} {l : List S36} {ck : Int} (h : Dok nx l) : validV nx l ck = validA l ck := by
 have hs := dok_sorted h
 rcases idx_cases (fun x => x.f0 == ck) l with ⟨h1, h2⟩ | ⟨k, hk, h1, h2, h3⟩
 ·have e : validV nx l ck = false := decide_eq_false (fun h4 => h4.2.1 h1)
  rw [e]
  symm
  unfold validA
  rw [List.any_eq_false]
  intro x hx
  obtain ⟨q, hq, rfl⟩ := List.mem_iff_getElem.1 hx
  have := h2 q hq
  rw [rd_at hq] at this
  rw [this]
  simp
 ·have h4 : ansI l ck = (k : Int) := h1
  have e : validV nx l ck = l[k].f3 := by
   unfold validV
   rw [h4, rd_at hk]
   cases h : l[k].f3 <;> simp [h, *]
  rw [e]
  unfold validA
  have hck : l[k].f0 = ck := by rw [rd_at hk] at h2; simpa using h2
  cases h5 : l[k].f3 with
  | true => exact (List.any_eq_true.2 ⟨l[k], List.getElem_mem hk, by simp [hck, h5]⟩).symm
  | false =>
   symm
   rw [List.any_eq_false]
   intro x hx
   obtain ⟨q, hq, rfl⟩ := List.mem_iff_getElem.1 hx
   by_cases hqk : q = k
   ·subst hqk
    simp [h5]
   ·have h6 : l[q].f0 ≠ ck := by
     intro h7
     rcases Nat.lt_or_gt_of_ne hqk with h8 | h8
     ·have := hs q k h8 hk
      unfold ckOf at this
      rw [rd_at hq, rd_at hk] at this
      omega
     ·have := hs k q h8 hq
      unfold ckOf at this
      rw [rd_at hq, rd_at hk] at this
      omega
    simp [h6]
set_option maxRecDepth 100000 in
set_option maxHeartbeats 4000000 in
theorem waiting_w (nx : Int) (A : Option Addr) (c : Nat) (l : List S36) (hl : l.length ≤ 100) (hc : l.length ≤ c) (w : World) (hr : Kd.C k36 w A l.length l) :
  Calls Tryd.prog 22 #[.agg #[.int .u64 nx, .slice A l.length c]] w fun e w' => ∃ (A' : Option Addr) (n' c' : Nat), e = .returned (.slice A' n' c') ∧ n' = (waitV nx l).length ∧ Kd.R (Kd.int .i64) 3 w' w.heap.size (fun _ => True) (.slice A' n' c') (waitV nx l) ∧ Below w.heap.size w w' := by
 obtain ⟨m, hm⟩ : ∃ m, m = l.length := ⟨_, rfl⟩
 have HL := Lib.hid hl
 have hB1 : Below w.heap.size w (w.alloc (.cells #[.int .u64 nx, .slice A m c] 25)) := bel_al (Below.refl _ _) _
 have HB1 := Lib.hid hB1
 have HC1 := Lib.hid (Kd.C_below hr hB1)
 have HX1 := Lib.hid (al_new w (.cells #[.int .u64 nx, .slice A m c] 25))
 have HCK : Hid (∀ W : World, Kd.C k36 W A m l → Calls Tryd.prog 21 #[.agg #[.int .u64 nx, .slice A m c]] W fun e w' => e = .returned (.int .i64 (chkV nx l)) ∧ Below W.heap.size W w') := by
  rw [hm]
  exact Lib.hid (fun W h => check_w nx A c l hc W h)
 have HRS : Hid (l.length ≤ 100 → ∀ W : World, Kd.C k36 W A m l → Calls Tryd.prog 40 #[.slice A m c, .func (.func 41) #[] #[]] W fun e w' => ∃ (A' : Option Addr) (n' c' : Nat), e = .returned (.slice A' n' c') ∧ n' = m ∧ Kd.R (Kd.int .i64) 3 w' W.heap.size (fun _ => True) (.slice A' n' c') (srt (l.map (fun x => x.f1))) ∧ Below W.heap.size W w') := by
  rw [hm]
  exact Lib.hid (fun hl W h => rising_w A c l hl W h)
 have HM := Lib.hid hm
 rw [← hm] at HC1 ⊢
 clear hr hB1 hc hl hm
 by_cases hok : Dok nx l
 case neg =>
  have HV := Lib.hid (chk_no hok)
  have HW := Lib.hid (wait_no hok)
  clear hok
  go_enter Tryd.func22, Tryd.ntmps22
  go_wp2_with (first | (go_at_call 21; (with_reducible refine (HCK.out _ HC1.out).mono ?_); rintro e w3 ⟨he, hb⟩; rw [HV.out] at he; subst he; have HB3 := Lib.hid (HB1.out.trans (hb.mono HB1.out.size)); have HX3 := Lib.hid ((hb.block _ (blk_lt HX1.out)).trans HX1.out); have HC3 := Lib.hid (Kd.C_below HC1.out hb); clear hb; have y0 := blk_cell HX3.out 0; have y1 := blk_cell HX3.out 1))
  go_ret
  exact ⟨none, 0, 0, rfl, by rw [HW.out]; rfl, by rw [HW.out]; exact Kd.R_nil _ _ _ _ _, HB3.out⟩
 have HV := Lib.hid (chk_ok hok)
 have HW := Lib.hid (wait_ok hok)
 clear hok
 go_enter Tryd.func22, Tryd.ntmps22
 go_wp2_with (first | (go_at_call 21; (with_reducible refine (HCK.out _ HC1.out).mono ?_); rintro e w3 ⟨he, hb⟩; rw [HV.out] at he; subst he; have HB3 := Lib.hid (HB1.out.trans (hb.mono HB1.out.size)); have HX3 := Lib.hid ((hb.block _ (blk_lt HX1.out)).trans HX1.out); have HC3 := Lib.hid (Kd.C_below HC1.out hb); clear hb; have y0 := blk_cell HX3.out 0; have y1 := blk_cell HX3.out 1) | (go_at_call 40; (with_reducible refine (HRS.out HL.out _ HC3.out).mono ?_); rintro e w4 ⟨A4, n4, c4, rfl, hn4, hR4, hb4⟩; have HN4 := Lib.hid hn4; have HR4 := Lib.hid (Kd.R_lower hR4 HB3.out.size); have HB4 := Lib.hid (HB3.out.trans (hb4.mono HB3.out.size)); clear hn4 hR4 hb4))
 go_ret
 exact ⟨A4, n4, c4, rfl, by rw [HW.out, srt_len, List.length_map, HN4.out, HM.out], by rw [HW.out]; exact HR4.out, HB4.out⟩
end Go.Proofs.YtcbiehinhmkjmaaDoor.NB

namespace Go.Proofs.YtcbiehinhmkjmaaDoor.NB
open Go.RowKit Go.Proofs.YtcbiehinhmkjmaaDoorW.PrintWords Go.Proofs.YtcbiehinhmkjmaaDoorW.PrintLast Go.Proofs.YtcbiehinhmkjmaaDoorW.PrintMore
open Go.Proofs.YtcbiehinhmkjmaaDoor.PB
set_option linter.unusedVariables false
set_option linter.unusedSimpArgs false
open Go.Proofs.YtcbiehinhmkjmaaDoor.PE.L (Tab)
def tl7.T7 : Bool × List (List Nat × List Nat) := (true, [([], []), ([], []), ([1], [1]), ([0, 2], [0, 2]), ([3], [3]), ([4], [4]), ([5, 4], [4, 5]), ([6, 4, 4], [4, 6]), ([7], [7]), ([8, 7], [7, 8]), ([7, 9, 4], [4, 7, 9]), ([4, 10], [4, 10]), ([11, 7], [11]), ([12], [12]), ([12], [12]), ([13, 14, 12, 12], [12, 13, 14]), ([12], [12]), ([12], [12]), ([16, 17, 15, 12], [12, 16, 17]), ([15, 18, 12], [12, 15, 18]), ([12, 19], [12, 19]), ([20, 18], [20]), ([21, 21], [21]), ([21], [21]), ([22, 23, 22, 21], [21, 22, 23]), ([24, 21], [21, 24]), ([21, 25], [21, 25])])
def tl7.B7 : List Nat := [0, 0, 2, 7, 15, 31, 63, 127, 255, 511, 1023, 2047, 4095, 8191, 8191, 32767, 8191, 8191, 262143, 524287, 1048575, 2097151, 4194303, 4194303, 16777215, 33554431, 67108863]
theorem tl7.tab7 : rtab .any (opsOf Tryd.f7 7) = tl7.T7 := by kernel_rfl
theorem tl7.bits7 : waitsOk tl7.T7.2 tl7.B7 = true := by kernel_rfl
def tl32.T32 : Bool × List (List Nat × List Nat) := (true, [([], []), ([0], [0]), ([1], [1]), ([2], [2]), ([3], [3]), ([4, 3, 3], [3, 4]), ([3], [3]), ([6, 3], [3, 6]), ([5, 7, 5, 3], [3, 5, 7]), ([8, 3], [3, 8]), ([3, 9], [3, 9]), ([10, 8, 0, 1, 2, 3, 4, 5, 6, 7, 8, 9, 10], [10])])
def tl32.B32 : List Nat := [0, 1, 3, 7, 15, 31, 15, 79, 255, 511, 1023, 2047]
theorem tl32.tab32 : rtab .any (opsOf Tryd.f7 32) = tl32.T32 := by kernel_rfl
theorem tl32.bits32 : waitsOk tl32.T32.2 tl32.B32 = true := by kernel_rfl
def tl33.T33 : Bool × List (List Nat × List Nat) := (true, [([], []), ([0], [0]), ([], []), ([2], [2]), ([1, 3], [1, 3]), ([4], [4]), ([5], [5]), ([6, 5, 5], [5, 6]), ([5], [5]), ([8, 5], [5, 8]), ([7, 9, 7, 5], [5, 7, 9]), ([5], [5]), ([10, 11, 5], [5, 10, 11]), ([5, 12], [5, 12])])
def tl33.B33 : List Nat := [0, 1, 0, 4, 15, 31, 63, 127, 63, 319, 1023, 63, 4095, 8191]
theorem tl33.tab33 : rtab .any (opsOf Tryd.f7 33) = tl33.T33 := by kernel_rfl
theorem tl33.bits33 : waitsOk tl33.T33.2 tl33.B33 = true := by kernel_rfl
def tl38.T38 : Bool × List (List Nat × List Nat) := (true, [([], []), ([], []), ([0, 1], [0, 1]), ([2], [2]), ([], []), ([], []), ([4, 5], [4, 5]), ([6], [6]), ([3, 7], [3, 7])])
def tl38.B38 : List Nat := [0, 0, 3, 7, 0, 0, 48, 112, 255]
theorem tl38.tab38 : rtab .any (opsOf Tryd.f7 38) = tl38.T38 := by kernel_rfl
theorem tl38.bits38 : waitsOk tl38.T38.2 tl38.B38 = true := by kernel_rfl

/-- What NotifyTells keeps: its three boxes, and the two desks' rows. -/
structure FT (w W : World) (dx dy dq : Obj) (A : Option Addr) (m : Nat) (l : List S36) (B : Option Addr) (n : Nat) (k : List S36) : Prop where
 hb : Below w.heap.size w W
 hx : W.heap[w.heap.size]? = some dx
 ho : W.heap[w.heap.size + 1]? = some dy
 hq : W.heap[w.heap.size + 1 + 1]? = some dq
 hc : Kd.C k36 W A m l
 hd : Kd.C k36 W B n k
theorem FT.below {w W W' : World} {dx dy dq : Obj} {A B : Option Addr} {m n : Nat} {l k : List S36} (h : FT w W dx dy dq A m l B n k) (hb : Below W.heap.size W W') : FT w W' dx dy dq A m l B n k :=
 ⟨h.hb.trans (hb.mono h.hb.size), (hb.block _ (blk_lt h.hx)).trans h.hx, (hb.block _ (blk_lt h.ho)).trans h.ho, (hb.block _ (blk_lt h.hq)).trans h.hq, Kd.C_below h.hc hb, Kd.C_below h.hd hb⟩
theorem FT.alloc {w W : World} {dx dy dq : Obj} {A B : Option Addr} {m n : Nat} {l k : List S36} (h : FT w W dx dy dq A m l B n k) (o : Obj) : FT w (W.alloc o) dx dy dq A m l B n k := h.below (bel_al (Below.refl _ _) o)
theorem copied_t (nx : Int) (l : List S36) (hl : l.length ≤ 100) : wicketgatelaw25_copied.f nx l = some (nx, l) := by
 unfold wicketgatelaw25_copied.f
 simp only [Option.bind_some, List.length_nil, List.nil_append]
 rw [if_pos (by omega)]
theorem goneR_len (nx : Int) (l : List S36) (t : Int) (hl : l.length ≤ 100) : (goneR nx l t).2.1.length ≤ 100 := by
 unfold goneR
 split
 ·show (goneL l t).length ≤ 100
  unfold goneL
  split
  ·exact hl
  ·unfold cut
   rw [List.length_append, List.length_take, List.length_drop]
   omega
 ·exact Nat.zero_le _
set_option maxRecDepth 100000 in
set_option maxHeartbeats 4000000 in
theorem tells_ok (nx : Int) (A : Option Addr) (c : Nat) (l : List S36) (ny : Int) (B : Option Addr) (d : Nat) (k : List S36) (q0 q1 : Int) (hok : Dok nx l) (hl : l.length ≤ 100) (hk : k.length ≤ 100) (hc : l.length ≤ c) (hd : k.length ≤ d) (w : World) (hr : Kd.C k36 w A l.length l) (hs : Kd.C k36 w B k.length k) (hT : Tab w) :
  Calls Tryd.prog 7 #[.agg #[.int .u64 nx, .slice A l.length c], .agg #[.int .u64 ny, .slice B k.length d], .agg #[.int .u64 q0, .int .u64 q1]] w fun e w' => e = .returned (.bool true) ∧ Below w.heap.size w w' := by
 obtain ⟨m, hm⟩ : ∃ m, m = l.length := ⟨_, rfl⟩
 obtain ⟨n, hn⟩ : ∃ n, n = k.length := ⟨_, rfl⟩
 obtain ⟨t, ht⟩ : ∃ t, t = wrap64 (q1.tmod 25) := ⟨_, rfl⟩
 obtain ⟨r, hrr⟩ : ∃ r, r = goneR nx l t := ⟨_, rfl⟩
 obtain ⟨p, hp⟩ : ∃ p, p = r.2.1.length := ⟨_, rfl⟩
 obtain ⟨ts, htts⟩ : ∃ ts, ts = tidOut l 20 := ⟨_, rfl⟩
 have hts : waitV nx l = ts := (wait_ok hok).trans ((tids_srt hok).symm.trans htts.symm)
 have HTS := Lib.hid htts
 obtain ⟨z, hz⟩ : ∃ z, z = ts.length := ⟨_, rfl⟩
 have HZ := Lib.hid hz
 have HRC : Hid (∀ (W : World), Kd.C k36 W A m l → Calls Tryd.prog 23 #[.agg #[.int .u64 nx, .slice A m c]] W fun e w' => e = .returned (.bool true) ∧ Below W.heap.size W w') := by
  rw [hm]
  exact Lib.hid (fun W h => wicketgateref25_Right.calls 30000 nx A c l true W h hc (by rw [right_f 30000 (by decide) nx l hl]; rw [decide_eq_true hok]))
 have HCP : Hid (∀ W : World, Kd.C k36 W A m l → Calls Tryd.prog 9 #[.agg #[.int .u64 nx, .slice A m c]] W fun e w' => ∃ v : Value, e = .returned (.agg #[.int .u64 nx, v]) ∧ Kd.R k36 36 w' W.heap.size (fun _ => True) v l ∧ Below W.heap.size W w') := by
  rw [hm]
  exact Lib.hid (fun W h => wicketgatelaw25_copied.calls nx A c l nx l W h hc (copied_t nx l hl))
 have HCK : Hid (∀ (W : World) (A2 : Option Addr) (c2 : Nat), m ≤ c2 → Kd.C k36 W A2 m l → Calls Tryd.prog 21 #[.agg #[.int .u64 nx, .slice A2 m c2]] W fun e w' => e = .returned (.int .i64 0) ∧ Below W.heap.size W w') := by
  rw [hm]
  exact Lib.hid (fun W A2 c2 h2 h => by rw [← chk_ok hok]; exact check_w nx A2 c2 l h2 W h)
 have HSB : Hid (∃ b : Bool, (∀ W : World, Kd.C k36 W A m l → Kd.C k36 W B n k → Calls Tryd.prog 18 #[.agg #[.int .u64 nx, .slice A m c], .agg #[.int .u64 ny, .slice B n d]] W fun e w' => e = .returned (.bool b) ∧ Below W.heap.size W w') ∧ (∀ W : World, Kd.C k36 W A m l → Kd.C k36 W B n k → Calls Tryd.prog 14 #[.agg #[.int .u64 nx, .slice A m c], .agg #[.int .u64 ny, .slice B n d]] W fun e w' => e = .returned (.bool b) ∧ Below W.heap.size W w')) := by
  rw [hm, hn]
  exact Lib.hid (by obtain ⟨b, h1, h2⟩ := same_both 3000 (by decide) nx ny l k hl; exact ⟨b, fun W h3 h4 => notify_Same.calls 3000 nx A c l ny B d k b W h3 hc h4 hd h1, fun W h3 h4 => wicketgateref25_Same.calls 3001 nx A c l ny B d k b W h3 hc h4 hd h2⟩)
 have HGN : Hid (∀ (W : World) (A2 : Option Addr) (c2 : Nat) (tt : Int), tt = t → m ≤ c2 → Kd.C k36 W A2 m l → Calls Tryd.prog 17 #[.agg #[.int .u64 nx, .slice A2 m c2], .int .i64 tt] W fun e w' => ∃ v : Value, e = .returned (.tuple #[.agg #[.int .u64 r.1, v], .bool r.2.2.2, .int .i64 r.2.2.1]) ∧ Kd.R k36 36 w' W.heap.size (fun _ => True) v r.2.1 ∧ Below W.heap.size W w') := by
  rw [hm, hrr]
  exact Lib.hid (fun W A2 c2 tt htt h2 h => by rw [htt]; exact gone_w nx A2 c2 l t h2 W h)
 have HRG : Hid (∀ (W : World) (tt : Int), tt = t → Kd.C k36 W A m l → Calls Tryd.prog 24 #[.agg #[.int .u64 nx, .slice A m c], .int .i64 tt] W fun e w' => ∃ (A' : Option Addr) (c' : Nat), e = .returned (.tuple #[.agg #[.int .u64 r.1, .slice A' p c'], .bool r.2.2.2, .int .i64 r.2.2.1]) ∧ p ≤ c' ∧ Kd.C k36 w' A' p r.2.1 ∧ Below W.heap.size W w') := by
  rw [hm, hp, hrr]
  exact Lib.hid (fun W tt htt h => by rw [htt]; exact (rgone_w nx A c l t hl hc W h).mono (fun e w' hh => by obtain ⟨A', n', c', h1, h2, h3, h4, h5⟩ := hh; subst h2; exact ⟨A', c', h1, h3, h4, h5⟩))
 have HSA : Hid (∀ (W : World) (A3 : Option Addr) (c3 : Nat) (A4 : Option Addr) (c4 : Nat), Kd.C k36 W A3 p r.2.1 → p ≤ c3 → Kd.C k36 W A4 p r.2.1 → p ≤ c4 → Calls Tryd.prog 14 #[.agg #[.int .u64 r.1, .slice A3 p c3], .agg #[.int .u64 r.1, .slice A4 p c4]] W fun e w' => e = .returned (.bool true) ∧ Below W.heap.size W w') := by
  rw [hp, hrr]
  exact Lib.hid (fun W A3 c3 A4 c4 h1 h2 h3 h4 => wicketgateref25_Same.calls 2000 (goneR nx l t).1 A3 c3 (goneR nx l t).2.1 (goneR nx l t).1 A4 c4 (goneR nx l t).2.1 true W h1 h2 h3 h4 (rsame_self 2000 (Nat.le_refl _) _ _ (Nat.le_trans (goneR_len nx l t hl) (by decide))))
 have HWT : Hid (∀ (W : World) (A2 : Option Addr) (c2 : Nat), m ≤ c2 → Kd.C k36 W A2 m l → Calls Tryd.prog 22 #[.agg #[.int .u64 nx, .slice A2 m c2]] W fun e w' => ∃ (A' : Option Addr) (c' : Nat), e = .returned (.slice A' z c') ∧ Kd.R (Kd.int .i64) 3 w' W.heap.size (fun _ => True) (.slice A' z c') ts ∧ Below W.heap.size W w') := by
  rw [hm]
  exact Lib.hid (fun W A2 c2 h2 h => (waiting_w nx A2 c2 l hl h2 W h).mono (fun e w' hh => by obtain ⟨A', n', c', h1, h2, h3, h4⟩ := hh; rw [hts] at h2 h3; rw [← hz] at h2; subst h2; exact ⟨A', c', h1, h3, h4⟩))
 have HVA : Hid (∀ (W : World) (A2 : Option Addr) (c2 : Nat), m ≤ c2 → Kd.C k36 W A2 m l → Calls Tryd.prog 20 #[.agg #[.int .u64 nx, .slice A2 m c2], .int .u64 q0] W fun e w' => e = .returned (.bool (validA l q0)) ∧ Below W.heap.size W w') := by
  rw [hm]
  exact Lib.hid (fun W A2 c2 h2 h => by rw [← valid_any hok]; exact valid_w nx A2 c2 l q0 hl h2 W h)
 have HM := Lib.hid hm
 have HP := Lib.hid hp
 have HL := Lib.hid hl
 have h100 : ¬ (100 : Int) < (m : Int) := by omega
 have h101 : ¬ (100 : Int) < (n : Int) := by omega
 have HF1 : FT w (((w.alloc (.cells #[.int .u64 nx, .slice A m c] 25)).alloc (.cells #[.int .u64 ny, .slice B n d] 25)).alloc (.cells #[.int .u64 q0, .int .u64 q1] 64)) (.cells #[.int .u64 nx, .slice A m c] 25) (.cells #[.int .u64 ny, .slice B n d] 25) (.cells #[.int .u64 q0, .int .u64 q1] 64) A m l B n k := by
  rw [← hm] at hr
  rw [← hn] at hs
  have e1 := al_keep (o := .cells #[.int .u64 q0, .int .u64 q1] 64) (al_keep (o := .cells #[.int .u64 ny, .slice B n d] 25) (al_new w (.cells #[.int .u64 nx, .slice A m c] 25)))
  have e2 := al_keep (o := .cells #[.int .u64 q0, .int .u64 q1] 64) (al_new (w.alloc (.cells #[.int .u64 nx, .slice A m c] 25)) (.cells #[.int .u64 ny, .slice B n d] 25))
  have e3 := al_new ((w.alloc (.cells #[.int .u64 nx, .slice A m c] 25)).alloc (.cells #[.int .u64 ny, .slice B n d] 25)) (.cells #[.int .u64 q0, .int .u64 q1] 64)
  simp only [World.size_alloc] at e2 e3
  exact ⟨bel_al (bel_al (bel_al (Below.refl _ _) _) _) _, e1, e2, e3, Kd.C_alloc (Kd.C_alloc (Kd.C_alloc hr _) _) _, Kd.C_alloc (Kd.C_alloc (Kd.C_alloc hs _) _) _⟩
 have HF1 := Lib.hid HF1
 have HT1 := Lib.hid (hT.below HF1.out.hb)
 rw [← hm, ← hn]
 clear hr hs hT hm hn hl hk hc hd hrr hp hok hts htts hz
 go_enter Tryd.func7, Tryd.ntmps7
 obtain ⟨sb, HSB1, HSB2⟩ := HSB.out
 replace HSB1 := Lib.hid HSB1
 replace HSB2 := Lib.hid HSB2
 clear HSB
 go_wp2_with (first | (go_at_call 8; (with_reducible refine (wakes_w _ HT1.out).mono ?_); rintro e w2 ⟨rfl, hb⟩; have HF2 := Lib.hid (HF1.out.below hb); clear hb; have y0 := blk_cell HF2.out.hx 0; have y1 := blk_cell HF2.out.hx 1; have o0 := blk_cell HF2.out.ho 0; have o1 := blk_cell HF2.out.ho 1) | (go_at_call 23; (with_reducible refine (HRC.out _ HF2.out.hc).mono ?_); rintro e w3 ⟨rfl, hb⟩; have HF3 := Lib.hid (HF2.out.below hb); clear hb y0 y1 o0 o1; have y0 := blk_cell HF3.out.hx 0; have y1 := blk_cell HF3.out.hx 1) | (go_at_call 9; (with_reducible refine (HCP.out _ HF3.out.hc).mono ?_); rintro e w4 ⟨v4, rfl, hR4, hb⟩; obtain ⟨A4, c4, rfl⟩ := Kd.R_slice hR4; rw [← HM.out] at hR4 ⊢; have HK4 := Lib.hid (Kd.R_reads' hR4); rw [← HM.out] at HK4; have HF4 := Lib.hid (HF3.out.below hb); clear hb hR4 y0 y1; skip) | (go_at_call 21; (with_reducible refine (HCK.out _ A4 c4 HK4.out.2.1 HK4.out.2.2).mono ?_); rintro e w5 ⟨rfl, hb⟩; have HF5 := Lib.hid (HF4.out.below hb); clear hb HK4; have y0 := blk_cell HF5.out.hx 0; have y1 := blk_cell HF5.out.hx 1))
 clear y0 y1
 refine start_ (n := 27) (S := fun w' => FT w w' (.cells #[.int .u64 nx, .slice A m c] 25) (.cells #[.int .u64 ny, .slice B n d] 25) (.cells #[.int .u64 q0, .int .u64 q1] 64) A m l B n k) (ds := []) NWxb0 (by kernel_rfl) rfl rfl (HF5.out.below (below_drew (Below.refl _ _))) (fun hHeld => ?_); refine with_tabW tl7.tab7 tl7.bits7 (fun HT_ HW_ => ?_)
 refine pure_ (i := 0) (N := some 42) (v := ?_) (a' := ?_) NWxb1 rfl rfl (any_of HT_.out (by kernel_rfl)) (fun _ _ _ h => h) (Or.inl ⟨by rfl, ?_⟩) ?_ ?_
 rotate_left
 ·intro w'
  go_simp
  with_reducible rfl
 rotate_left
 ·(try simp only [Act.put, List.setIfInBounds_toArray, List.set_cons_zero, List.set_cons_succ])
  rfl
 refine pure_ (i := 1) (N := some 43) (v := ?_) (a' := ?_) NWxb2 rfl rfl (any_of HT_.out (by kernel_rfl)) (fun _ _ _ h => h) (Or.inl ⟨by rfl, ?_⟩) ?_ ?_
 rotate_left
 ·intro w'
  go_simp
  with_reducible rfl
 rotate_left
 ·(try simp only [Act.put, List.setIfInBounds_toArray, List.set_cons_zero, List.set_cons_succ])
  rfl
 refine pure_ (i := 2) (N := some 44) (v := ?_) (a' := ?_) NWxb3 rfl rfl (any_of HT_.out (by kernel_rfl)) (fun _ _ _ h => h) (Or.inl ⟨by rfl, ?_⟩) ?_ ?_
 rotate_left
 ·intro w'
  go_simp
  with_reducible rfl
 rotate_left
 ·(try simp only [Act.put, List.setIfInBounds_toArray, List.set_cons_zero, List.set_cons_succ])
  rfl
 refine pure_ (i := 3) (N := some 45) (v := ?_) (a' := ?_) NWxb4 rfl rfl (any_of HT_.out (by kernel_rfl)) (fun _ _ _ h => h) (Or.inl ⟨by rfl, ?_⟩) ?_ ?_
 rotate_left
 ·intro w'
  go_simp
  with_reducible rfl
 rotate_left
 ·(try simp only [Act.put, List.setIfInBounds_toArray, List.set_cons_zero, List.set_cons_succ])
  rfl
 refine pure_ (i := 4) (N := some 46) (v := ?_) (a' := ?_) NWxb5 rfl rfl (any_of HT_.out (by kernel_rfl)) (fun _ _ _ h => h) (Or.inl ⟨by rfl, ?_⟩) ?_ ?_
 rotate_left
 ·intro w'
  go_simp
  with_reducible rfl
 rotate_left
 ·(try simp only [Act.put, List.setIfInBounds_toArray, List.set_cons_zero, List.set_cons_succ])
  rfl
 refine pure_ (i := 5) (N := some 47) (v := ?_) (a' := ?_) NWxb6 rfl rfl (any_of HT_.out (by kernel_rfl)) (fun _ _ _ h => h) (Or.inl ⟨by rfl, ?_⟩) ?_ ?_
 rotate_left
 ·intro w'
  go_simp
  with_reducible rfl
 rotate_left
 ·(try simp only [Act.put, List.setIfInBounds_toArray, List.set_cons_zero, List.set_cons_succ])
  rfl
 refine pure_ (i := 6) (N := some 48) (v := ?_) (a' := ?_) NWxb7 rfl rfl (any_of HT_.out (by kernel_rfl)) (fun _ _ _ h => h) (Or.inl ⟨by rfl, ?_⟩) ?_ ?_
 rotate_left
 ·intro w'
  go_simp
  with_reducible rfl
 rotate_left
 ·(try simp only [Act.put, List.setIfInBounds_toArray, List.set_cons_zero, List.set_cons_succ])
  rfl
 refine pure_ (i := 7) (N := some 49) (v := ?_) (a' := ?_) NWxb8 rfl rfl (any_of HT_.out (by kernel_rfl)) (fun _ _ _ h => h) (Or.inl ⟨by rfl, ?_⟩) ?_ ?_
 rotate_left
 ·intro w'
  go_simp
  with_reducible rfl
 rotate_left
 ·(try simp only [Act.put, List.setIfInBounds_toArray, List.set_cons_zero, List.set_cons_succ])
  rfl
 refine pure_ (i := 8) (N := some 50) (v := undef) (a' := ?_) NWxb9 rfl rfl (any_of HT_.out (by kernel_rfl)) (fun _ _ _ h => h) (Or.inr ⟨by rfl, rfl⟩) ?_ ?_
 rotate_left
 ·(try simp only [Act.put, List.setIfInBounds_toArray, List.set_cons_zero, List.set_cons_succ])
  rfl
 refine pure_ (i := 9) (N := some 51) (v := undef) (a' := ?_) NWxb10 rfl rfl (any_of HT_.out (by kernel_rfl)) (fun _ _ _ h => h) (Or.inr ⟨by rfl, rfl⟩) ?_ ?_
 rotate_left
 ·(try simp only [Act.put, List.setIfInBounds_toArray, List.set_cons_zero, List.set_cons_succ])
  rfl
 refine pure_ (i := 10) (N := some 52) (v := ?_) (a' := ?_) NWxb11 rfl rfl (any_of HT_.out (by kernel_rfl)) (fun _ _ _ h => h) (Or.inl ⟨by rfl, ?_⟩) ?_ ?_
 rotate_left
 ·intro w'
  go_simp
  with_reducible rfl
 rotate_left
 ·(try simp only [Act.put, List.setIfInBounds_toArray, List.set_cons_zero, List.set_cons_succ])
  rfl
 refine pure_ (i := 11) (N := some 53) (v := ?_) (a' := ?_) NWxb12 rfl rfl (any_of HT_.out (by kernel_rfl)) (fun _ _ _ h => h) (Or.inl ⟨by rfl, ?_⟩) ?_ ?_
 rotate_left
 ·intro w'
  go_simp
  with_reducible rfl
 rotate_left
 ·(try simp only [Act.put, List.setIfInBounds_toArray, List.set_cons_zero, List.set_cons_succ])
  rfl
 refine pure_ (i := 12) (N := some 54) (v := ?_) (a' := ?_) NWxb13 rfl rfl (any_of HT_.out (by kernel_rfl)) (fun _ _ _ h => h) (Or.inl ⟨by rfl, ?_⟩) ?_ ?_
 rotate_left
 ·intro w'
  go_simp
  with_reducible rfl
 rotate_left
 ·(try simp only [Act.put, List.setIfInBounds_toArray, List.set_cons_zero, List.set_cons_succ])
  rfl
 refine take_ (i := 13) (N := some 55) (v := ?_) (a' := ?_) NWxb14 rfl rfl (take_ofW HT_.out HW_.out (by kernel_rfl)) (fun _ _ _ h => h) (Or.inl ⟨by rfl, ?_⟩) hHeld ?_ ?_
 rotate_left
 ·intro w' hS_
  have hx_0 : w'.cell? ⟨w.heap.size, 0, none⟩ = _ := blk_cell hS_.hx 0
  have hx_1 : w'.cell? ⟨w.heap.size, 1, none⟩ = _ := blk_cell hS_.hx 1
  go_simp
  with_reducible rfl
 rotate_left
 ·(try simp only [Act.put, List.setIfInBounds_toArray, List.set_cons_zero, List.set_cons_succ])
  rfl
 refine take_ (i := 14) (N := some 56) (v := ?_) (a' := ?_) NWxb15 rfl rfl (take_ofW HT_.out HW_.out (by kernel_rfl)) (fun _ _ _ h => h) (Or.inl ⟨by rfl, ?_⟩) hHeld ?_ ?_
 rotate_left
 ·intro w' hS_
  have hx_0 : w'.cell? ⟨w.heap.size + 1, 0, none⟩ = _ := blk_cell hS_.ho 0
  have hx_1 : w'.cell? ⟨w.heap.size + 1, 1, none⟩ = _ := blk_cell hS_.ho 1
  go_simp
  with_reducible rfl
 rotate_left
 ·(try simp only [Act.put, List.setIfInBounds_toArray, List.set_cons_zero, List.set_cons_succ])
  rfl
 refine take_ (i := 16) (N := some 58) (v := ?_) (a' := ?_) NWxb16 rfl rfl (take_ofW HT_.out HW_.out (by kernel_rfl)) (fun _ _ _ h => h) (Or.inl ⟨by rfl, ?_⟩) hHeld ?_ ?_
 rotate_left
 ·intro w' hS_
  have hx_0 : w'.cell? ⟨w.heap.size, 0, none⟩ = _ := blk_cell hS_.hx 0
  have hx_1 : w'.cell? ⟨w.heap.size, 1, none⟩ = _ := blk_cell hS_.hx 1
  go_simp
  with_reducible rfl
 rotate_left
 ·(try simp only [Act.put, List.setIfInBounds_toArray, List.set_cons_zero, List.set_cons_succ])
  rfl
 refine take_ (i := 17) (N := some 59) (v := ?_) (a' := ?_) NWxb17 rfl rfl (take_ofW HT_.out HW_.out (by kernel_rfl)) (fun _ _ _ h => h) (Or.inl ⟨by rfl, ?_⟩) hHeld ?_ ?_
 rotate_left
 ·intro w' hS_
  have hx_0 : w'.cell? ⟨w.heap.size + 1, 0, none⟩ = _ := blk_cell hS_.ho 0
  have hx_1 : w'.cell? ⟨w.heap.size + 1, 1, none⟩ = _ := blk_cell hS_.ho 1
  go_simp
  with_reducible rfl
 rotate_left
 ·(try simp only [Act.put, List.setIfInBounds_toArray, List.set_cons_zero, List.set_cons_succ])
  rfl
 refine one_ (i := 15) (N := some 57) NWxb18 rfl rfl (one_of HT_.out (by kernel_rfl)) (by decide) (fun K hK => ?_)
 refine goes_ Tryd.func18 (by kernel_rfl) rfl #[.agg #[.int .u64 nx, .slice A m c], .agg #[.int .u64 ny, .slice B n d]] (by rfl) rfl rfl (by (try simp only [List.map_toArray, List.map_cons, List.map_nil]); first | done | rfl) ?_
 refine (HSB1.out _ hHeld.hc hHeld.hd).mono ?_
 rintro e w7 ⟨rfl, hb⟩
 refine ⟨_, rfl, ?_⟩
 have HN := hHeld.below hb
 clear hb
 clear hHeld
 refine hK.out _ _ (HN) (fun hHeld => ?_)
 clear hK K
 refine norm_ (a' := ?_) ?_ ?_
 rotate_left
 ·show Act.put _ (some 57) _ = _
  (try simp only [Act.put, List.setIfInBounds_toArray, List.set_cons_zero, List.set_cons_succ])
  rfl
 refine one_ (i := 18) (N := some 60) NWxb19 rfl rfl (one_of HT_.out (by kernel_rfl)) (by decide) (fun K hK => ?_)
 refine goes_ Tryd.func14 (by kernel_rfl) rfl #[.agg #[.int .u64 nx, .slice A m c], .agg #[.int .u64 ny, .slice B n d]] (by rfl) rfl rfl (by (try simp only [List.map_toArray, List.map_cons, List.map_nil]); first | done | rfl) ?_
 refine (HSB2.out _ hHeld.hc hHeld.hd).mono ?_
 rintro e w7 ⟨rfl, hb⟩
 refine ⟨_, rfl, ?_⟩
 have HN := hHeld.below hb
 clear hb
 clear hHeld
 refine hK.out _ _ (HN) (fun hHeld => ?_)
 clear hK K
 refine norm_ (a' := ?_) ?_ ?_
 rotate_left
 ·show Act.put _ (some 60) _ = _
  (try simp only [Act.put, List.setIfInBounds_toArray, List.set_cons_zero, List.set_cons_succ])
  rfl
 refine pure_ (i := 19) (N := some 61) (v := ?_) (a' := ?_) NWxb20 rfl rfl (any_of HT_.out (by kernel_rfl)) (fun _ _ _ h => h) (Or.inl ⟨by rfl, ?_⟩) ?_ ?_
 rotate_left
 ·intro w'
  go_simp
  with_reducible rfl
 rotate_left
 ·(try simp only [Act.put, List.setIfInBounds_toArray, List.set_cons_zero, List.set_cons_succ])
  rfl
 refine pure_ (i := 20) (N := some 62) (v := ?_) (a' := ?_) NWxb21 rfl rfl (any_of HT_.out (by kernel_rfl)) (fun _ _ _ h => h) (Or.inl ⟨by rfl, ?_⟩) ?_ ?_
 rotate_left
 ·intro w'
  go_simp
  with_reducible rfl
 rotate_left
 ·(try simp only [Act.put, List.setIfInBounds_toArray, List.set_cons_zero, List.set_cons_succ])
  rfl
 refine pure_ (i := 21) (N := some 63) (v := ?_) (a' := ?_) NWxb22 rfl rfl (any_of HT_.out (by kernel_rfl)) (fun _ _ _ h => h) (Or.inl ⟨by rfl, ?_⟩) ?_ ?_
 rotate_left
 ·intro w'
  go_simp
  with_reducible rfl
 rotate_left
 ·(try simp only [Act.put, List.setIfInBounds_toArray, List.set_cons_zero, List.set_cons_succ])
  rfl
 refine pure_ (i := 23) (N := some 65) (v := ?_) (a' := ?_) NWxb23 rfl rfl (any_of HT_.out (by kernel_rfl)) (fun _ _ _ h => h) (Or.inl ⟨by rfl, ?_⟩) ?_ ?_
 rotate_left
 ·intro w'
  go_simp
  with_reducible rfl
 rotate_left
 ·(try simp only [Act.put, List.setIfInBounds_toArray, List.set_cons_zero, List.set_cons_succ])
  rfl
 refine one_ (i := 22) (N := some 64) NWxb24 rfl rfl (one_of HT_.out (by kernel_rfl)) (by decide) (fun K hK => ?_)
 refine goes_ Tryd.func19 (by kernel_rfl) rfl #[] (by rfl) rfl rfl (by (try simp only [List.map_toArray, List.map_cons, List.map_nil]); first | done | rfl) ?_
 refine (notify_New.calls 1 [] _ rfl).mono ?_
 rintro e w7 ⟨v7, rfl, hR7, hb⟩
 refine ⟨_, rfl, ?_⟩
 obtain ⟨A7, c7, rfl⟩ := Kd.R_slice hR7
 have HK7 := Lib.hid (Kd.R_reads' hR7)
 clear hR7
 have HN := hHeld.below hb
 clear hb
 clear hHeld
 refine hK.out _ _ (HN) (fun hHeld => ?_)
 clear hK K
 refine norm_ (a' := ?_) ?_ ?_
 rotate_left
 ·show Act.put _ (some 64) _ = _
  (try simp only [Act.put, List.setIfInBounds_toArray, List.set_cons_zero, List.set_cons_succ])
  rfl
 refine one_ (i := 24) (N := some 66) NWxb25 rfl rfl (one_of HT_.out (by kernel_rfl)) (by decide) (fun K hK => ?_)
 refine goes_ Tryd.func14 (by kernel_rfl) rfl #[.agg #[.int .u64 1, .slice A7 0 c7], .agg #[.int .u64 1, .slice none 0 0]] (by rfl) rfl rfl (by (try simp only [List.map_toArray, List.map_cons, List.map_nil]); first | done | rfl) ?_
 refine (wicketgateref25_Same.calls 2000 1 A7 c7 [] 1 none 0 [] true _ ⟨rfl, by simp, fun h => absurd h (Nat.lt_irrefl 0)⟩ (Nat.zero_le _) (Kd.C_nil _ _) (Nat.le_refl _) (rsame_self 2000 (Nat.le_refl _) 1 [] (Nat.zero_le _))).mono ?_
 rintro e w8 ⟨rfl, hb⟩
 refine ⟨_, rfl, ?_⟩
 have HN := hHeld.below hb
 clear hb
 clear hHeld
 refine hK.out _ _ (HN) (fun hHeld => ?_)
 clear hK K
 refine norm_ (a' := ?_) ?_ ?_
 rotate_left
 ·show Act.put _ (some 66) _ = _
  (try simp only [Act.put, List.setIfInBounds_toArray, List.set_cons_zero, List.set_cons_succ])
  rfl
 refine pure_ (i := 25) (N := some 67) (v := ?_) (a' := ?_) NWxb26 rfl rfl (any_of HT_.out (by kernel_rfl)) (fun _ _ _ h => h) (Or.inl ⟨by rfl, ?_⟩) ?_ ?_
 rotate_left
 ·intro w'
  go_simp
  with_reducible rfl
 rotate_left
 ·(try simp only [Act.put, List.setIfInBounds_toArray, List.set_cons_zero, List.set_cons_succ])
  rfl
 refine pure_ (i := 26) (N := some 68) (v := ?_) (a' := ?_) NWxb27 rfl rfl (any_of HT_.out (by kernel_rfl)) (fun _ _ _ h => h) (Or.inl ⟨by rfl, ?_⟩) ?_ ?_
 rotate_left
 ·intro w'
  go_simp
  with_reducible rfl
 rotate_left
 ·(try simp only [Act.put, List.setIfInBounds_toArray, List.set_cons_zero, List.set_cons_succ])
  rfl
 refine done_ (done_of HT_.out (by kernel_rfl)) ?_
 clear HT_ HW_
 have HF6 := Lib.hid hHeld
 clear hHeld
 have y0 := blk_cell HF6.out.hx 0
 have y1 := blk_cell HF6.out.hx 1
 have q0_ := blk_cell HF6.out.hq 0
 have q1_ := blk_cell HF6.out.hq 1
 have HTT := Lib.hid ht.symm
 clear ht
 go_wp2_with (first | (go_at_call 9; (with_reducible refine (HCP.out _ HF6.out.hc).mono ?_); rintro e w9 ⟨v9, rfl, hR9, hb⟩; obtain ⟨A9, c9, rfl⟩ := Kd.R_slice hR9; rw [← HM.out] at hR9 ⊢; have HK9 := Lib.hid (Kd.R_reads' hR9); rw [← HM.out] at HK9; have HF9 := Lib.hid (HF6.out.below hb); clear hb hR9 y0 y1; clear q0_ q1_) | (go_at_call 17; (with_reducible refine (HGN.out _ A9 c9 _ HTT.out HK9.out.2.1 HK9.out.2.2).mono ?_); rintro e w10 ⟨v10, rfl, hR10, hb⟩; obtain ⟨A10, c10, rfl⟩ := Kd.R_slice hR10; rw [← HP.out] at hR10 ⊢; have HK10 := Lib.hid (Kd.R_reads' hR10); rw [← HP.out] at HK10; have HF10 := Lib.hid ((HF9.out.below hb).alloc (.cells #[.int .u64 r.1, .slice A10 p c10] 25)); have HD10 := Lib.hid (al_new w10 (.cells #[.int .u64 r.1, .slice A10 p c10] 25)); have HC10 := Lib.hid (Kd.C_alloc HK10.out.2.2 (.cells #[.int .u64 r.1, .slice A10 p c10] 25)); clear hb hR10; have y0 := blk_cell HF10.out.hx 0; have y1 := blk_cell HF10.out.hx 1) | (go_at_call 24; (with_reducible refine (HRG.out _ _ HTT.out HF10.out.hc).mono ?_); rintro e w11 ⟨A11, c11, rfl, hcc, hC11, hb⟩; have HF11 := Lib.hid ((HF10.out.below hb).alloc (.cells #[.int .u64 r.1, .slice A11 p c11] 25)); have HD10b := Lib.hid (al_keep (o := (.cells #[.int .u64 r.1, .slice A11 p c11] 25)) ((hb.block _ (blk_lt HD10.out)).trans HD10.out)); have HD11 := Lib.hid (al_new w11 (.cells #[.int .u64 r.1, .slice A11 p c11] 25)); have HC10b := Lib.hid (Kd.C_alloc (Kd.C_below HC10.out hb) (.cells #[.int .u64 r.1, .slice A11 p c11] 25)); have HC11 := Lib.hid (Kd.C_alloc hC11 (.cells #[.int .u64 r.1, .slice A11 p c11] 25)); have HCC := Lib.hid hcc; clear hb hC11 hcc y0 y1; have u0 := blk_cell HD10b.out 0; have u1 := blk_cell HD10b.out 1; have ul := blk_lt HD10b.out; have v0 := blk_cell HD11.out 0; have v1 := blk_cell HD11.out 1; have vl := blk_lt HD11.out) | (go_at_call 14; (with_reducible refine (HSA.out _ A10 c10 A11 c11 HC10b.out HK10.out.2.1 HC11.out HCC.out).mono ?_); rintro e w12 ⟨rfl, hb⟩; have HF12 := Lib.hid (HF11.out.below hb); clear hb u0 u1 ul v0 v1 vl HD10b HD11 HC10b HC11 HCC HD10 HC10 HK10 HK9 HSA HGN HRG; have y0 := blk_cell HF12.out.hx 0; have y1 := blk_cell HF12.out.hx 1))
 go_loopw [17, 18] (fun v i wr => ∃ (k1 : Nat) (j : Int) (A5 : Option Addr) (n5 c5 : Nat), v = .slice A5 n5 c5 ∧ i = .int .i64 j ∧ Hid (j = (k1 : Int) + 1) ∧ 1 ≤ j ∧ j ≤ 21 ∧ Hid (n5 = (tidOut l k1).length) ∧ Hid (Below w12.heap.size w12 wr) ∧ Hid (Kd.R (Kd.int .i64) 3 wr w12.heap.size (fun _ => True) (.slice A5 n5 c5) (tidOut l k1))) (fun _ i _ => (21 - intOf i).toNat)
 case atStart => exact ⟨0, 1, none, 0, 0, rfl, rfl, Lib.hid rfl, by omega, by omega, Lib.hid rfl, Lib.hid (Below.refl _ _), Lib.hid (Kd.R_nil _ _ _ _ _)⟩
 case round =>
  obtain ⟨k1, j, A5, n5, c5, rfl, rfl, HJ, hj0, hj1, HN5, KB, KR⟩ := hrel
  have HF13 := Lib.hid (HF12.out.below KB.out)
  clear y0 y1
  have y0 := blk_cell HF13.out.hx 0; have y1 := blk_cell HF13.out.hx 1
  by_cases hlt : j ≤ 20
  ·go_wp2_with fail
   go_loopw [17, 109] (fun v i wi => ∃ (k2 : Nat) (j2 : Int) (A5 : Option Addr) (n5 c5 : Nat), v = .slice A5 n5 c5 ∧ i = .int .i64 j2 ∧ Hid (j2 = (k2 : Int)) ∧ 0 ≤ j2 ∧ j2 ≤ (m : Int) ∧ Hid (n5 = (tidOut l k1 ++ tidIn (l.take k2) j).length) ∧ Hid (Below w12.heap.size w12 wi) ∧ Hid (Kd.R (Kd.int .i64) 3 wi w12.heap.size (fun _ => True) (.slice A5 n5 c5) (tidOut l k1 ++ tidIn (l.take k2) j))) (fun _ i _ => (m - intOf i).toNat)
   case atStart => exact ⟨0, 0, A5, n5, c5, rfl, rfl, Lib.hid rfl, by omega, by omega, Lib.hid (by rw [HN5.out]; simp [tidIn]), KB, Lib.hid (by rw [List.take_zero, show tidIn [] j = [] from rfl, List.append_nil]; exact KR.out)⟩
   case round =>
    clear KR HN5
    obtain ⟨k2, j2, A5, n5, c5, rfl, rfl, HJ2, hk0, hk1, HN5, KB2, KR⟩ := hrel
    by_cases hlt2 : j2 < (m : Int)
    ·obtain ⟨ad, hA, hx0, hx1, hx2, hx3, hx4, hx5, hx6, hx7, hx8, hx9, hx10, hx11⟩ := at_T36 (HF12.out.below KB2.out).hc j2 hk0 hlt2
     subst hA
     obtain ⟨x, hx⟩ : ∃ x, x = rd_T36 l j2 := ⟨_, rfl⟩
     rw [← hx] at hx0 hx1 hx2 hx3 hx4 hx5 hx6 hx7 hx8 hx9 hx10 hx11
     have HXK := Lib.hid hx
     clear hx
     have hbl := World.block_lt_of_cell? _ _ hx0
     obtain ⟨zs, hzs⟩ : ∃ zs, zs = tidOut l k1 ++ tidIn (l.take k2) j := ⟨_, rfl⟩
     rw [← hzs] at KR
     have HZ := Lib.hid hzs
     have HZL := Lib.hid (show zs.length ≤ 100000 by
      rw [hzs, List.length_append]
      have e1 := tidOut_len l k1
      have e2 := tidIn_len (l.take k2) j
      rw [List.length_take] at e2
      have := HM.out; have := HL.out; have := HJ.out
      have e3 : k1 * l.length ≤ 20 * 100 := Nat.mul_le_mul (by omega) HL.out
      omega)
     have hql : k2 < l.length := by have := HJ2.out; have := HM.out; omega
     have HST := Lib.hid (tidIn_step l j k2 hql)
     rw [show rd_T36 l (k2 : Int) = x by rw [HXK.out, HJ2.out]] at HST
     clear hzs hql
     have hwj : wrap64 (j2 + 1) = j2 + 1 := by unfold wrap64; omega
     by_cases hck : x.f1 = j
     ·have hcb : (x.f1 == j) = true := by simpa using hck
      rw [if_pos hck, hck] at HST
      rw [hck] at hx1
      have HB6 := Lib.hid (bel_al KB2.out (.cells #[.int .u64 x.f0, .int .i64 j, .int .u32 x.f2.f0, .int .u32 x.f2.f1, .int .u64 x.f2.f2, .int .u64 x.f2.f3.f0, .int .u64 x.f2.f3.f1, .int .u64 x.f2.f3.f2, .int .u64 x.f2.f3.f3, .int .u64 x.f2.f3.f4, .int .u64 x.f2.f3.f5, .bool x.f3] 36))
      have HR6 := Lib.hid (Kd.R_alloc KR.out (.cells #[.int .u64 x.f0, .int .i64 j, .int .u32 x.f2.f0, .int .u32 x.f2.f1, .int .u64 x.f2.f2, .int .u64 x.f2.f3.f0, .int .u64 x.f2.f3.f1, .int .u64 x.f2.f3.f2, .int .u64 x.f2.f3.f3, .int .u64 x.f2.f3.f4, .int .u64 x.f2.f3.f5, .bool x.f3] 36))
      go_wp2_with (first | ((with_reducible refine gate_builtin (b := .append) (xs := #[.tmp 117, .tmp 119]) rfl ?_); at_builtin; refine Kd.R_append (Kd.int .i64) (w0 := w12) w12.heap.size rfl (.tmp 117) (.tmp 119) 61 3 (.int .i64 0) 8 rfl Tryd.underlying61 (by kernel_rfl) rfl (by decide) (by omega) (.slice A5 n5 c5) zs j [.int .i64 j] (fun _ => True) (fun _ => False) rfl (by first | (go_simp; done) | (go_simp; rfl)) ?aP (fun _ hk => hk.elim) ?aF ?aO ?aB ?aS ?aL ?_; (case aP => rfl); (case aF => exact (fun _ _ => trivial)); (case aO => exact HR6.out); (case aB => exact HB6.out); (case aS => exact HB6.out.size); (case aL => have := HZL.out; omega); intro v8 w8 ho hb hg hat; obtain ⟨A8, c8, rfl⟩ := Kd.R_slice ho; obtain ⟨n8, hn8⟩ : ∃ n, n = (zs ++ [j]).length := ⟨_, rfl⟩; rw [← hn8] at ho ⊢; have HN8 := Lib.hid hn8; clear hn8; have HR8 := Lib.hid ho; have HB8 := Lib.hid hb; clear ho hb hg hat))
      refine ⟨⟨k2 + 1, j2 + 1, A8, n8, c8, rfl, rfl, Lib.hid (by have := HJ2.out; omega), by omega, by omega, Lib.hid ?_, HB8, Lib.hid ?_⟩, by simp [intOf]; omega⟩
      ·rw [HN8.out, HST.out, HZ.out, List.append_assoc]
      ·rw [HST.out, ← List.append_assoc, ← HZ.out]; exact HR8.out
     ·have hcb : (x.f1 == j) = false := by simpa using hck
      rw [if_neg hck, List.append_nil] at HST
      clear hck
      go_wp2_with fail
      refine ⟨⟨k2 + 1, j2 + 1, A5, n5, c5, rfl, rfl, Lib.hid (by have := HJ2.out; omega), by omega, by omega, Lib.hid ?_, Lib.hid (bel_al KB2.out _), Lib.hid ?_⟩, by simp [intOf]; omega⟩
      ·rw [HST.out]; exact HN5.out
      ·rw [HST.out, ← HZ.out]; exact Kd.R_alloc KR.out _
    ·have hkm : k2 = l.length := by have := HJ2.out; have := HM.out; omega
     have hto : tidOut l k1 ++ tidIn (l.take k2) j = tidOut l (k1 + 1) := by rw [hkm, List.take_length, tidOut, HJ.out]; rfl
     rw [hto] at HN5 KR
     clear hkm hto
     have hwj : wrap64 (j + 1) = j + 1 := by unfold wrap64; omega
     go_wp2_with fail
     exact ⟨⟨k1 + 1, j + 1, A5, n5, c5, rfl, rfl, Lib.hid (by have := HJ.out; omega), by omega, by omega, HN5, KB2, KR⟩, by simp [intOf]; omega⟩
  ·obtain rfl : k1 = 20 := by have := HJ.out; omega
   go_wp2_with fail
   have hn5 : z = n5 := by rw [HN5.out, HZ.out, HTS.out]
   subst hn5
   have HTR := Lib.hid (show Kd.R (Kd.int .i64) 3 wr w12.heap.size (fun _ => True) (.slice A5 z c5) ts by rw [HTS.out]; exact KR.out)
   clear KR HN5
   go_loopw [16, 125] (fun v i wx => ∃ (k2 : Nat) (j2 : Int) (b : Bool), v = .bool b ∧ i = .int .i64 j2 ∧ Hid (j2 = (k2 : Int)) ∧ 0 ≤ j2 ∧ j2 ≤ (m : Int) ∧ Hid (b = validA (l.take k2) q0) ∧ Hid (FT w wx (.cells #[.int .u64 nx, .slice A m c] 25) (.cells #[.int .u64 ny, .slice B n d] 25) (.cells #[.int .u64 q0, .int .u64 q1] 64) A m l B n k) ∧ Hid (Below wr.heap.size wr wx)) (fun _ i _ => (m - intOf i).toNat)
   case atStart => exact ⟨0, 0, false, rfl, rfl, Lib.hid rfl, by omega, by omega, Lib.hid rfl, HF13, Lib.hid (Below.refl _ _)⟩
   case round =>
    obtain ⟨k2, j2, b, rfl, rfl, HJ2, hk0, hk1, HV2, HFX, KX⟩ := hrel
    clear y0 y1
    by_cases hlt2 : j2 < (m : Int)
    ·obtain ⟨ad, hA, hx0, hx1, hx2, hx3, hx4, hx5, hx6, hx7, hx8, hx9, hx10, hx11⟩ := at_T36 HFX.out.hc j2 hk0 hlt2
     subst hA
     obtain ⟨x, hx⟩ : ∃ x, x = rd_T36 l j2 := ⟨_, rfl⟩
     rw [← hx] at hx0 hx1 hx2 hx3 hx4 hx5 hx6 hx7 hx8 hx9 hx10 hx11
     have HST := Lib.hid (validA_step l q0 k2 (by have := HJ2.out; have := HM.out; omega))
     rw [show rd_T36 l (k2 : Int) = x by rw [hx, HJ2.out], ← HV2.out] at HST
     have hbl := World.block_lt_of_cell? _ _ hx0
     have q0_ := blk_cell HFX.out.hq 0
     have ql := blk_lt HFX.out.hq
     have hwj : wrap64 (j2 + 1) = j2 + 1 := by have := HM.out; have := HL.out; unfold wrap64; omega
     clear hx
     cases b with
     | true =>
      go_wp2_with fail
      exact ⟨⟨k2 + 1, j2 + 1, true, rfl, rfl, Lib.hid (by have := HJ2.out; omega), by omega, by omega, Lib.hid (by rw [HST.out]; rfl), Lib.hid (HFX.out.alloc _), Lib.hid (bel_al KX.out _)⟩, by simp [intOf]; omega⟩
     | false =>
      by_cases hck : x.f0 = q0
      ·have hcb : (x.f0 == q0) = true := by simpa using hck
       rw [hcb] at HST
       rw [hck] at hx0
       clear hck hcb
       go_wp2_with fail
       exact ⟨⟨k2 + 1, j2 + 1, x.f3, rfl, rfl, Lib.hid (by have := HJ2.out; omega), by omega, by omega, Lib.hid (by rw [HST.out]; rfl), Lib.hid (HFX.out.alloc _), Lib.hid (bel_al KX.out _)⟩, by simp [intOf]; omega⟩
      ·have hcb : (x.f0 == q0) = false := by simpa using hck
       rw [hcb] at HST
       clear hck
       go_wp2_with fail
       exact ⟨⟨k2 + 1, j2 + 1, false, rfl, rfl, Lib.hid (by have := HJ2.out; omega), by omega, by omega, Lib.hid (by rw [HST.out]; rfl), Lib.hid (HFX.out.alloc _), Lib.hid (bel_al KX.out _)⟩, by simp [intOf]; omega⟩
    ·obtain rfl : b = validA l q0 := by rw [HV2.out, show k2 = l.length by have := HJ2.out; have := HM.out; omega, List.take_length]
     clear HV2
     have y0 := blk_cell HFX.out.hx 0
     have y1 := blk_cell HFX.out.hx 1
     have HTRX := Lib.hid (Kd.R_below HTR.out KX.out)
     clear HTR
     go_wp2_with (first | (go_at_call 9; (with_reducible refine (HCP.out _ HFX.out.hc).mono ?_); rintro e w15 ⟨v15, rfl, hR15, hb⟩; obtain ⟨A15, c15, rfl⟩ := Kd.R_slice hR15; rw [← HM.out] at hR15 ⊢; have HK15 := Lib.hid (Kd.R_reads' hR15); rw [← HM.out] at HK15; have HF15 := Lib.hid (HFX.out.below hb); have HTR15 := Lib.hid (Kd.R_below HTRX.out hb); clear hb hR15 y0 y1) | (go_at_call 22; (with_reducible refine (HWT.out _ A15 c15 HK15.out.2.1 HK15.out.2.2).mono ?_); rintro e w16 ⟨A16, c16, rfl, hR16, hb⟩; have HF16 := Lib.hid (HF15.out.below hb); have HTR16 := Lib.hid (Kd.R_below HTR15.out hb); have HWR16 := Lib.hid hR16; clear hb hR16 HK15))
     refine start_ (n := 14) (S := fun w' => (FT w w' (.cells #[.int .u64 nx, .slice A m c] 25) (.cells #[.int .u64 ny, .slice B n d] 25) (.cells #[.int .u64 q0, .int .u64 q1] 64) A m l B n k) ∧ Below w16.heap.size w16 w') (ds := []) #[false, false, false, false, false, false, false, false, false, false, false, false, false, false] (by kernel_rfl) rfl rfl (And.intro (HF16.out.below (below_drew (Below.refl _ _))) (below_drew (Below.refl _ _))) (fun hHeld => ?_); refine with_tabW tl33.tab33 tl33.bits33 (fun HT_ HW_ => ?_)
     refine pure_ (i := 0) (N := some 158) (v := ?_) (a' := ?_) #[true, false, false, false, false, false, false, false, false, false, false, false, false, false] rfl rfl (any_of HT_.out (by kernel_rfl)) (fun _ _ _ h => h) (Or.inl ⟨by rfl, ?_⟩) ?_ ?_
     rotate_left
     ·intro w'
      go_simp
      with_reducible rfl
     rotate_left
     ·(try simp only [Act.put, List.setIfInBounds_toArray, List.set_cons_zero, List.set_cons_succ])
      rfl
     refine pure_ (i := 1) (N := some 159) (v := ?_) (a' := ?_) #[true, true, false, false, false, false, false, false, false, false, false, false, false, false] rfl rfl (any_of HT_.out (by kernel_rfl)) (fun _ _ _ h => h) (Or.inl ⟨by rfl, ?_⟩) ?_ ?_
     rotate_left
     ·intro w'
      go_simp
      with_reducible rfl
     rotate_left
     ·(try simp only [Act.put, List.setIfInBounds_toArray, List.set_cons_zero, List.set_cons_succ])
      rfl
     refine pure_ (i := 2) (N := some 160) (v := ?_) (a' := ?_) #[true, true, true, false, false, false, false, false, false, false, false, false, false, false] rfl rfl (any_of HT_.out (by kernel_rfl)) (fun _ _ _ h => h) (Or.inl ⟨by rfl, ?_⟩) ?_ ?_
     rotate_left
     ·intro w'
      go_simp
      with_reducible rfl
     rotate_left
     ·(try simp only [Act.put, List.setIfInBounds_toArray, List.set_cons_zero, List.set_cons_succ])
      rfl
     refine pure_ (i := 3) (N := some 161) (v := ?_) (a' := ?_) #[true, true, true, true, false, false, false, false, false, false, false, false, false, false] rfl rfl (any_of HT_.out (by kernel_rfl)) (fun _ _ _ h => h) (Or.inl ⟨by rfl, ?_⟩) ?_ ?_
     rotate_left
     ·intro w'
      go_simp
      with_reducible rfl
     rotate_left
     ·(try simp only [Act.put, List.setIfInBounds_toArray, List.set_cons_zero, List.set_cons_succ])
      rfl
     refine pure_ (i := 4) (N := some 162) (v := ?_) (a' := ?_) #[true, true, true, true, true, false, false, false, false, false, false, false, false, false] rfl rfl (any_of HT_.out (by kernel_rfl)) (fun _ _ _ h => h) (Or.inl ⟨by rfl, ?_⟩) ?_ ?_
     rotate_left
     ·intro w'
      go_simp
      with_reducible rfl
     rotate_left
     ·(try simp only [Act.put, List.setIfInBounds_toArray, List.set_cons_zero, List.set_cons_succ])
      rfl
     refine pure_ (i := 5) (N := some 163) (v := ?_) (a' := ?_) #[true, true, true, true, true, true, false, false, false, false, false, false, false, false] rfl rfl (any_of HT_.out (by kernel_rfl)) (fun _ _ _ h => h) (Or.inl ⟨by rfl, ?_⟩) ?_ ?_
     rotate_left
     ·intro w'
      go_simp
      with_reducible rfl
     rotate_left
     ·(try simp only [Act.put, List.setIfInBounds_toArray, List.set_cons_zero, List.set_cons_succ])
      rfl
     refine pure_ (i := 8) (N := some 166) (v := ?_) (a' := ?_) #[true, true, true, true, true, true, false, false, true, false, false, false, false, false] rfl rfl (any_of HT_.out (by kernel_rfl)) (fun _ _ _ h => h) (Or.inl ⟨by rfl, ?_⟩) ?_ ?_
     rotate_left
     ·intro w'
      go_simp
      with_reducible rfl
     rotate_left
     ·(try simp only [Act.put, List.setIfInBounds_toArray, List.set_cons_zero, List.set_cons_succ])
      rfl
     refine pure_ (i := 11) (N := some 169) (v := ?_) (a' := ?_) #[true, true, true, true, true, true, false, false, true, false, false, true, false, false] rfl rfl (any_of HT_.out (by kernel_rfl)) (fun _ _ _ h => h) (Or.inl ⟨by rfl, ?_⟩) ?_ ?_
     rotate_left
     ·intro w'
      go_simp
      with_reducible rfl
     rotate_left
     ·(try simp only [Act.put, List.setIfInBounds_toArray, List.set_cons_zero, List.set_cons_succ])
      rfl
     refine take_ (i := 6) (N := some 164) (v := ?_) (a' := ?_) #[true, true, true, true, true, true, true, false, true, false, false, true, false, false] rfl rfl (take_ofW HT_.out HW_.out (by kernel_rfl)) (fun _ _ _ h => h) (Or.inl ⟨by rfl, ?_⟩) hHeld ?_ ?_
     rotate_left
     ·intro w' hS_
      have hx_0 : w'.cell? ⟨w.heap.size, 0, none⟩ = _ := blk_cell hS_.1.hx 0
      have hx_1 : w'.cell? ⟨w.heap.size, 1, none⟩ = _ := blk_cell hS_.1.hx 1
      go_simp
      with_reducible rfl
     rotate_left
     ·(try simp only [Act.put, List.setIfInBounds_toArray, List.set_cons_zero, List.set_cons_succ])
      rfl
     refine take_ (i := 9) (N := some 167) (v := ?_) (a' := ?_) #[true, true, true, true, true, true, true, false, true, true, false, true, false, false] rfl rfl (take_ofW HT_.out HW_.out (by kernel_rfl)) (fun _ _ _ h => h) (Or.inl ⟨by rfl, ?_⟩) hHeld ?_ ?_
     rotate_left
     ·intro w' hS_
      have hx_0 : w'.cell? ⟨w.heap.size + 1 + 1, 0, none⟩ = _ := blk_cell hS_.1.hq 0
      go_simp
      with_reducible rfl
     rotate_left
     ·(try simp only [Act.put, List.setIfInBounds_toArray, List.set_cons_zero, List.set_cons_succ])
      rfl
     refine one_ (i := 7) (N := some 165) #[true, true, true, true, true, true, true, true, true, true, false, true, false, false] rfl rfl (one_of HT_.out (by kernel_rfl)) (by decide) (fun K hK => ?_)
     refine goes_ Tryd.func9 (by kernel_rfl) rfl #[.agg #[.int .u64 nx, .slice A m c]] (by rfl) rfl rfl (by (try simp only [List.map_toArray, List.map_cons, List.map_nil]); first | done | rfl) ?_
     refine (HCP.out _ hHeld.1.hc).mono ?_
     rintro e w17 ⟨v17, rfl, hR17, hb⟩
     refine ⟨_, rfl, ?_⟩
     obtain ⟨A17, c17, rfl⟩ := Kd.R_slice hR17
     rw [← HM.out] at hR17 ⊢
     have HK17 := Lib.hid (Kd.R_reads' hR17)
     rw [← HM.out] at HK17
     clear hR17
     have HN := And.intro (hHeld.1.below hb) (hHeld.2.trans (hb.mono hHeld.2.size))
     clear hb
     clear hHeld
     refine hK.out _ _ (HN) (fun hHeld => ?_)
     clear hK K
     refine norm_ (a' := ?_) ?_ ?_
     rotate_left
     ·show Act.put _ (some 165) _ = _
      (try simp only [Act.put, List.setIfInBounds_toArray, List.set_cons_zero, List.set_cons_succ])
      rfl
     refine one_ (i := 10) (N := some 168) #[true, true, true, true, true, true, true, true, true, true, true, true, false, false] rfl rfl (one_of HT_.out (by kernel_rfl)) (by decide) (fun K hK => ?_)
     refine goes_ Tryd.func20 (by kernel_rfl) rfl #[.agg #[.int .u64 nx, .slice A17 m c17], .int .u64 q0] (by rfl) rfl rfl (by (try simp only [List.map_toArray, List.map_cons, List.map_nil]); first | done | rfl) ?_
     refine (HVA.out _ A17 c17 HK17.out.2.1 HK17.out.2.2).mono ?_
     rintro e w18 ⟨rfl, hb⟩
     refine ⟨_, rfl, ?_⟩
     have HN := And.intro (hHeld.1.below hb) (hHeld.2.trans (hb.mono hHeld.2.size))
     clear hb
     clear hHeld
     refine hK.out _ _ (HN) (fun hHeld => ?_)
     clear hK K
     refine norm_ (a' := ?_) ?_ ?_
     rotate_left
     ·show Act.put _ (some 168) _ = _
      (try simp only [Act.put, List.setIfInBounds_toArray, List.set_cons_zero, List.set_cons_succ])
      rfl
     refine pure_ (i := 12) (N := some 170) (v := ?_) (a' := ?_) #[true, true, true, true, true, true, true, true, true, true, true, true, true, false] rfl rfl (any_of HT_.out (by kernel_rfl)) (fun _ _ _ h => h) (Or.inl ⟨by rfl, ?_⟩) ?_ ?_
     rotate_left
     ·intro w'
      go_simp
      with_reducible rfl
     rotate_left
     ·(try simp only [Act.put, List.setIfInBounds_toArray, List.set_cons_zero, List.set_cons_succ])
      rfl
     refine pure_ (i := 13) (N := some 171) (v := ?_) (a' := ?_) #[true, true, true, true, true, true, true, true, true, true, true, true, true, true] rfl rfl (any_of HT_.out (by kernel_rfl)) (fun _ _ _ h => h) (Or.inl ⟨by rfl, ?_⟩) ?_ ?_
     rotate_left
     ·intro w'
      go_simp
      with_reducible rfl
     rotate_left
     ·(try simp only [Act.put, List.setIfInBounds_toArray, List.set_cons_zero, List.set_cons_succ])
      rfl
     refine done_ (done_of HT_.out (by kernel_rfl)) ?_
     clear HT_ HW_
     have HF18 := Lib.hid hHeld.1
     have HT18 := Lib.hid (Kd.R_below HTR16.out hHeld.2)
     have HW18 := Lib.hid (Kd.R_below HWR16.out hHeld.2)
     clear hHeld HTR16 HWR16
     go_wp2_with fail
     go_loopw [174] (fun i wy => ∃ (k3 : Nat) (j3 : Int), i = .int .i64 j3 ∧ Hid (j3 = (k3 : Int)) ∧ 0 ≤ j3 ∧ j3 ≤ (z : Int) ∧ Hid (Below w18.heap.size w18 wy)) (fun i _ => (z - intOf i).toNat)
     case atStart => exact ⟨0, 0, rfl, Lib.hid rfl, by omega, by omega, Lib.hid (Below.refl _ _)⟩
     case round =>
      obtain ⟨k3, j3, rfl, HJ3, hz0, hz1, HWY⟩ := hrel
      by_cases hlt3 : j3 < (z : Int)
      ·have hC1 := (Kd.R_reads' (Kd.R_below HT18.out HWY.out)).2.2
       rw [← HZ.out] at hC1
       have hC2 := (Kd.R_reads' (Kd.R_below HW18.out HWY.out)).2.2
       rw [← HZ.out] at hC2
       obtain ⟨ad1, hA1, g1⟩ := Kd.at_int hC1 j3 hz0 hlt3
       obtain ⟨ad2, hA2, g2⟩ := Kd.at_int hC2 j3 hz0 hlt3
       subst hA1
       subst hA2
       obtain ⟨v3, hv3⟩ : ∃ v, v = rd ts j3 := ⟨_, rfl⟩
       rw [← hv3] at g1 g2
       have hz2 : (z : Int) ≤ 100000 := by
        have e1 := tidOut_len l 20
        have := HZ.out; have := HTS.out; have := HL.out
        rw [← HTS.out, ← HZ.out] at e1
        omega
       have hwj : wrap64 (j3 + 1) = j3 + 1 := by unfold wrap64; omega
       have HG1 := Lib.hid g1
       have HG2 := Lib.hid g2
       clear hv3 hC1 hC2 g1 g2
       go_wp2_with fail
       refine start_ (n := 9) (S := fun w' => Below wr.heap.size wr w') (ds := []) #[false, false, false, false, false, false, false, false, false] (by kernel_rfl) rfl rfl (below_drew (Below.refl _ _)) (fun hHeld => ?_); refine with_tabW tl38.tab38 tl38.bits38 (fun HT_ HW_ => ?_)
       refine pure_ (i := 0) (N := some 177) (v := ?_) (a' := ?_) #[true, false, false, false, false, false, false, false, false] rfl rfl (any_of HT_.out (by kernel_rfl)) (fun _ _ _ h => h) (Or.inl ⟨by rfl, ?_⟩) ?_ ?_
       rotate_left
       ·intro w'
        go_simp
        with_reducible rfl
       rotate_left
       ·(try simp only [Act.put, List.setIfInBounds_toArray, List.set_cons_zero, List.set_cons_succ])
        rfl
       refine pure_ (i := 1) (N := some 178) (v := ?_) (a' := ?_) #[true, true, false, false, false, false, false, false, false] rfl rfl (any_of HT_.out (by kernel_rfl)) (fun _ _ _ h => h) (Or.inl ⟨by rfl, ?_⟩) ?_ ?_
       rotate_left
       ·intro w'
        go_simp
        with_reducible rfl
       rotate_left
       ·(try simp only [Act.put, List.setIfInBounds_toArray, List.set_cons_zero, List.set_cons_succ])
        rfl
       refine pure_ (i := 2) (N := some 179) (v := ?_) (a' := ?_) #[true, true, true, false, false, false, false, false, false] rfl rfl (any_of HT_.out (by kernel_rfl)) (fun _ _ _ h => h) (Or.inl ⟨by rfl, ?_⟩) ?_ ?_
       rotate_left
       ·intro w'
        go_simp
        with_reducible rfl
       rotate_left
       ·(try simp only [Act.put, List.setIfInBounds_toArray, List.set_cons_zero, List.set_cons_succ])
        rfl
       refine pure_ (i := 4) (N := some 181) (v := ?_) (a' := ?_) #[true, true, true, false, true, false, false, false, false] rfl rfl (any_of HT_.out (by kernel_rfl)) (fun _ _ _ h => h) (Or.inl ⟨by rfl, ?_⟩) ?_ ?_
       rotate_left
       ·intro w'
        go_simp
        with_reducible rfl
       rotate_left
       ·(try simp only [Act.put, List.setIfInBounds_toArray, List.set_cons_zero, List.set_cons_succ])
        rfl
       refine pure_ (i := 5) (N := some 182) (v := ?_) (a' := ?_) #[true, true, true, false, true, true, false, false, false] rfl rfl (any_of HT_.out (by kernel_rfl)) (fun _ _ _ h => h) (Or.inl ⟨by rfl, ?_⟩) ?_ ?_
       rotate_left
       ·intro w'
        go_simp
        with_reducible rfl
       rotate_left
       ·(try simp only [Act.put, List.setIfInBounds_toArray, List.set_cons_zero, List.set_cons_succ])
        rfl
       refine pure_ (i := 6) (N := some 183) (v := ?_) (a' := ?_) #[true, true, true, false, true, true, true, false, false] rfl rfl (any_of HT_.out (by kernel_rfl)) (fun _ _ _ h => h) (Or.inl ⟨by rfl, ?_⟩) ?_ ?_
       rotate_left
       ·intro w'
        go_simp
        with_reducible rfl
       rotate_left
       ·(try simp only [Act.put, List.setIfInBounds_toArray, List.set_cons_zero, List.set_cons_succ])
        rfl
       refine take_ (i := 3) (N := some 180) (v := ?_) (a' := ?_) #[true, true, true, true, true, true, true, false, false] rfl rfl (take_ofW HT_.out HW_.out (by kernel_rfl)) (fun _ _ _ h => h) (Or.inl ⟨by rfl, ?_⟩) hHeld ?_ ?_
       rotate_left
       ·intro w' hS_
        have hx_ := (hS_.cell (World.block_lt_of_cell? _ _ HG2.out)).trans HG2.out
        go_simp
        with_reducible rfl
       rotate_left
       ·(try simp only [Act.put, List.setIfInBounds_toArray, List.set_cons_zero, List.set_cons_succ])
        rfl
       refine take_ (i := 7) (N := some 184) (v := ?_) (a' := ?_) #[true, true, true, true, true, true, true, true, false] rfl rfl (take_ofW HT_.out HW_.out (by kernel_rfl)) (fun _ _ _ h => h) (Or.inl ⟨by rfl, ?_⟩) hHeld ?_ ?_
       rotate_left
       ·intro w' hS_
        have hx_ := (hS_.cell (World.block_lt_of_cell? _ _ HG1.out)).trans HG1.out
        go_simp
        with_reducible rfl
       rotate_left
       ·(try simp only [Act.put, List.setIfInBounds_toArray, List.set_cons_zero, List.set_cons_succ])
        rfl
       refine pure_ (i := 8) (N := some 185) (v := ?_) (a' := ?_) #[true, true, true, true, true, true, true, true, true] rfl rfl (any_of HT_.out (by kernel_rfl)) (fun _ _ _ h => h) (Or.inl ⟨by rfl, ?_⟩) ?_ ?_
       rotate_left
       ·intro w'
        go_simp
        with_reducible rfl
       rotate_left
       ·(try simp only [Act.put, List.setIfInBounds_toArray, List.set_cons_zero, List.set_cons_succ])
        rfl
       refine done_ (done_of HT_.out (by kernel_rfl)) ?_
       clear HT_ HW_
       have HWZ := Lib.hid (HWY.out.trans (hHeld.mono HWY.out.size))
       clear hHeld HG1 HG2
       go_wp2_with fail
       exact ⟨⟨k3 + 1, j3 + 1, rfl, Lib.hid (by have := HJ3.out; omega), by omega, by omega, HWZ⟩, by simp [intOf]; omega⟩
      ·go_wp2_with fail
       go_ret
       exact ⟨rfl, (HF18.out.below HWY.out).hb⟩
set_option maxRecDepth 100000 in
set_option maxHeartbeats 4000000 in
theorem tells_no (nx : Int) (A : Option Addr) (c : Nat) (l : List S36) (ny : Int) (B : Option Addr) (d : Nat) (k : List S36) (q0 q1 : Int) (hok : ¬ Dok nx l) (hl : l.length ≤ 100) (hk : k.length ≤ 100) (hc : l.length ≤ c) (hd : k.length ≤ d) (w : World) (hr : Kd.C k36 w A l.length l) (hs : Kd.C k36 w B k.length k) (hT : Tab w) :
  Calls Tryd.prog 7 #[.agg #[.int .u64 nx, .slice A l.length c], .agg #[.int .u64 ny, .slice B k.length d], .agg #[.int .u64 q0, .int .u64 q1]] w fun e w' => e = .returned (.bool true) ∧ Below w.heap.size w w' := by
 obtain ⟨m, hm⟩ : ∃ m, m = l.length := ⟨_, rfl⟩
 obtain ⟨n, hn⟩ : ∃ n, n = k.length := ⟨_, rfl⟩
 obtain ⟨t, ht⟩ : ∃ t, t = wrap64 (q1.tmod 25) := ⟨_, rfl⟩
 obtain ⟨r, hrr⟩ : ∃ r, r = goneR nx l t := ⟨_, rfl⟩
 obtain ⟨p, hp⟩ : ∃ p, p = r.2.1.length := ⟨_, rfl⟩
 have HRC : Hid (∀ (W : World), Kd.C k36 W A m l → Calls Tryd.prog 23 #[.agg #[.int .u64 nx, .slice A m c]] W fun e w' => e = .returned (.bool false) ∧ Below W.heap.size W w') := by
  rw [hm]
  exact Lib.hid (fun W h => wicketgateref25_Right.calls 30000 nx A c l false W h hc (by rw [right_f 30000 (by decide) nx l hl]; rw [decide_eq_false hok]))
 have HCP : Hid (∀ W : World, Kd.C k36 W A m l → Calls Tryd.prog 9 #[.agg #[.int .u64 nx, .slice A m c]] W fun e w' => ∃ v : Value, e = .returned (.agg #[.int .u64 nx, v]) ∧ Kd.R k36 36 w' W.heap.size (fun _ => True) v l ∧ Below W.heap.size W w') := by
  rw [hm]
  exact Lib.hid (fun W h => wicketgatelaw25_copied.calls nx A c l nx l W h hc (copied_t nx l hl))
 have HCK : Hid (∀ (W : World) (A2 : Option Addr) (c2 : Nat), m ≤ c2 → Kd.C k36 W A2 m l → Calls Tryd.prog 21 #[.agg #[.int .u64 nx, .slice A2 m c2]] W fun e w' => e = .returned (.int .i64 350) ∧ Below W.heap.size W w') := by
  rw [hm]
  exact Lib.hid (fun W A2 c2 h2 h => by rw [← chk_no hok]; exact check_w nx A2 c2 l h2 W h)
 have HSB : Hid (∃ b : Bool, (∀ W : World, Kd.C k36 W A m l → Kd.C k36 W B n k → Calls Tryd.prog 18 #[.agg #[.int .u64 nx, .slice A m c], .agg #[.int .u64 ny, .slice B n d]] W fun e w' => e = .returned (.bool b) ∧ Below W.heap.size W w') ∧ (∀ W : World, Kd.C k36 W A m l → Kd.C k36 W B n k → Calls Tryd.prog 14 #[.agg #[.int .u64 nx, .slice A m c], .agg #[.int .u64 ny, .slice B n d]] W fun e w' => e = .returned (.bool b) ∧ Below W.heap.size W w')) := by
  rw [hm, hn]
  exact Lib.hid (by obtain ⟨b, h1, h2⟩ := same_both 3000 (by decide) nx ny l k hl; exact ⟨b, fun W h3 h4 => notify_Same.calls 3000 nx A c l ny B d k b W h3 hc h4 hd h1, fun W h3 h4 => wicketgateref25_Same.calls 3001 nx A c l ny B d k b W h3 hc h4 hd h2⟩)
 have HGN : Hid (∀ (W : World) (A2 : Option Addr) (c2 : Nat) (tt : Int), tt = t → m ≤ c2 → Kd.C k36 W A2 m l → Calls Tryd.prog 17 #[.agg #[.int .u64 nx, .slice A2 m c2], .int .i64 tt] W fun e w' => ∃ v : Value, e = .returned (.tuple #[.agg #[.int .u64 r.1, v], .bool r.2.2.2, .int .i64 r.2.2.1]) ∧ Kd.R k36 36 w' W.heap.size (fun _ => True) v r.2.1 ∧ Below W.heap.size W w') := by
  rw [hm, hrr]
  exact Lib.hid (fun W A2 c2 tt htt h2 h => by rw [htt]; exact gone_w nx A2 c2 l t h2 W h)
 have HRG : Hid (∀ (W : World) (tt : Int), tt = t → Kd.C k36 W A m l → Calls Tryd.prog 24 #[.agg #[.int .u64 nx, .slice A m c], .int .i64 tt] W fun e w' => ∃ (A' : Option Addr) (c' : Nat), e = .returned (.tuple #[.agg #[.int .u64 r.1, .slice A' p c'], .bool r.2.2.2, .int .i64 r.2.2.1]) ∧ p ≤ c' ∧ Kd.C k36 w' A' p r.2.1 ∧ Below W.heap.size W w') := by
  rw [hm, hp, hrr]
  exact Lib.hid (fun W tt htt h => by rw [htt]; exact (rgone_w nx A c l t hl hc W h).mono (fun e w' hh => by obtain ⟨A', n', c', h1, h2, h3, h4, h5⟩ := hh; subst h2; exact ⟨A', c', h1, h3, h4, h5⟩))
 have HSA : Hid (∀ (W : World) (A3 : Option Addr) (c3 : Nat) (A4 : Option Addr) (c4 : Nat), Kd.C k36 W A3 p r.2.1 → p ≤ c3 → Kd.C k36 W A4 p r.2.1 → p ≤ c4 → Calls Tryd.prog 14 #[.agg #[.int .u64 r.1, .slice A3 p c3], .agg #[.int .u64 r.1, .slice A4 p c4]] W fun e w' => e = .returned (.bool true) ∧ Below W.heap.size W w') := by
  rw [hp, hrr]
  exact Lib.hid (fun W A3 c3 A4 c4 h1 h2 h3 h4 => wicketgateref25_Same.calls 2000 (goneR nx l t).1 A3 c3 (goneR nx l t).2.1 (goneR nx l t).1 A4 c4 (goneR nx l t).2.1 true W h1 h2 h3 h4 (rsame_self 2000 (Nat.le_refl _) _ _ (Nat.le_trans (goneR_len nx l t hl) (by decide))))
 have HWT : Hid (∀ (W : World) (A2 : Option Addr) (c2 : Nat), m ≤ c2 → Kd.C k36 W A2 m l → Calls Tryd.prog 22 #[.agg #[.int .u64 nx, .slice A2 m c2]] W fun e w' => ∃ (A' : Option Addr) (c' : Nat), e = .returned (.slice A' 0 c') ∧ Kd.R (Kd.int .i64) 3 w' W.heap.size (fun _ => True) (.slice A' 0 c') ([] : List Int) ∧ Below W.heap.size W w') := by
  rw [hm]
  exact Lib.hid (fun W A2 c2 h2 h => (waiting_w nx A2 c2 l hl h2 W h).mono (fun e w' hh => by obtain ⟨A', n', c', h1, h2, h3, h4⟩ := hh; rw [wait_no hok] at h2 h3; rw [List.length_nil] at h2; subst h2; exact ⟨A', c', h1, h3, h4⟩))
 have HVA : Hid (∀ (W : World) (A2 : Option Addr) (c2 : Nat), m ≤ c2 → Kd.C k36 W A2 m l → Calls Tryd.prog 20 #[.agg #[.int .u64 nx, .slice A2 m c2], .int .u64 q0] W fun e w' => e = .returned (.bool false) ∧ Below W.heap.size W w') := by
  rw [hm]
  exact Lib.hid (fun W A2 c2 h2 h => by rw [← valid_no hok]; exact valid_w nx A2 c2 l q0 hl h2 W h)
 have HM := Lib.hid hm
 have HP := Lib.hid hp
 have HL := Lib.hid hl
 have h100 : ¬ (100 : Int) < (m : Int) := by omega
 have h101 : ¬ (100 : Int) < (n : Int) := by omega
 have HF1 : FT w (((w.alloc (.cells #[.int .u64 nx, .slice A m c] 25)).alloc (.cells #[.int .u64 ny, .slice B n d] 25)).alloc (.cells #[.int .u64 q0, .int .u64 q1] 64)) (.cells #[.int .u64 nx, .slice A m c] 25) (.cells #[.int .u64 ny, .slice B n d] 25) (.cells #[.int .u64 q0, .int .u64 q1] 64) A m l B n k := by
  rw [← hm] at hr
  rw [← hn] at hs
  have e1 := al_keep (o := .cells #[.int .u64 q0, .int .u64 q1] 64) (al_keep (o := .cells #[.int .u64 ny, .slice B n d] 25) (al_new w (.cells #[.int .u64 nx, .slice A m c] 25)))
  have e2 := al_keep (o := .cells #[.int .u64 q0, .int .u64 q1] 64) (al_new (w.alloc (.cells #[.int .u64 nx, .slice A m c] 25)) (.cells #[.int .u64 ny, .slice B n d] 25))
  have e3 := al_new ((w.alloc (.cells #[.int .u64 nx, .slice A m c] 25)).alloc (.cells #[.int .u64 ny, .slice B n d] 25)) (.cells #[.int .u64 q0, .int .u64 q1] 64)
  simp only [World.size_alloc] at e2 e3
  exact ⟨bel_al (bel_al (bel_al (Below.refl _ _) _) _) _, e1, e2, e3, Kd.C_alloc (Kd.C_alloc (Kd.C_alloc hr _) _) _, Kd.C_alloc (Kd.C_alloc (Kd.C_alloc hs _) _) _⟩
 have HF1 := Lib.hid HF1
 have HT1 := Lib.hid (hT.below HF1.out.hb)
 rw [← hm, ← hn]
 clear hr hs hT hm hn hl hk hc hd hrr hp hok
 go_enter Tryd.func7, Tryd.ntmps7
 obtain ⟨sb, HSB1, HSB2⟩ := HSB.out
 replace HSB1 := Lib.hid HSB1
 replace HSB2 := Lib.hid HSB2
 clear HSB
 go_wp2_with (first | (go_at_call 8; (with_reducible refine (wakes_w _ HT1.out).mono ?_); rintro e w2 ⟨rfl, hb⟩; have HF2 := Lib.hid (HF1.out.below hb); clear hb; have y0 := blk_cell HF2.out.hx 0; have y1 := blk_cell HF2.out.hx 1; have o0 := blk_cell HF2.out.ho 0; have o1 := blk_cell HF2.out.ho 1) | (go_at_call 23; (with_reducible refine (HRC.out _ HF2.out.hc).mono ?_); rintro e w3 ⟨rfl, hb⟩; have HF3 := Lib.hid (HF2.out.below hb); clear hb y0 y1 o0 o1; have y0 := blk_cell HF3.out.hx 0; have y1 := blk_cell HF3.out.hx 1) | (go_at_call 9; (with_reducible refine (HCP.out _ HF3.out.hc).mono ?_); rintro e w4 ⟨v4, rfl, hR4, hb⟩; obtain ⟨A4, c4, rfl⟩ := Kd.R_slice hR4; rw [← HM.out] at hR4 ⊢; have HK4 := Lib.hid (Kd.R_reads' hR4); rw [← HM.out] at HK4; have HF4 := Lib.hid (HF3.out.below hb); clear hb hR4 y0 y1; skip) | (go_at_call 21; (with_reducible refine (HCK.out _ A4 c4 HK4.out.2.1 HK4.out.2.2).mono ?_); rintro e w5 ⟨rfl, hb⟩; have HF5 := Lib.hid (HF4.out.below hb); clear hb HK4; have y0 := blk_cell HF5.out.hx 0; have y1 := blk_cell HF5.out.hx 1))
 clear y0 y1
 refine start_ (n := 27) (S := fun w' => FT w w' (.cells #[.int .u64 nx, .slice A m c] 25) (.cells #[.int .u64 ny, .slice B n d] 25) (.cells #[.int .u64 q0, .int .u64 q1] 64) A m l B n k) (ds := []) NWxb0 (by kernel_rfl) rfl rfl (HF5.out.below (below_drew (Below.refl _ _))) (fun hHeld => ?_); refine with_tabW tl7.tab7 tl7.bits7 (fun HT_ HW_ => ?_)
 refine pure_ (i := 0) (N := some 42) (v := ?_) (a' := ?_) NWxb1 rfl rfl (any_of HT_.out (by kernel_rfl)) (fun _ _ _ h => h) (Or.inl ⟨by rfl, ?_⟩) ?_ ?_
 rotate_left
 ·intro w'
  go_simp
  with_reducible rfl
 rotate_left
 ·(try simp only [Act.put, List.setIfInBounds_toArray, List.set_cons_zero, List.set_cons_succ])
  rfl
 refine pure_ (i := 1) (N := some 43) (v := ?_) (a' := ?_) NWxb2 rfl rfl (any_of HT_.out (by kernel_rfl)) (fun _ _ _ h => h) (Or.inl ⟨by rfl, ?_⟩) ?_ ?_
 rotate_left
 ·intro w'
  go_simp
  with_reducible rfl
 rotate_left
 ·(try simp only [Act.put, List.setIfInBounds_toArray, List.set_cons_zero, List.set_cons_succ])
  rfl
 refine pure_ (i := 2) (N := some 44) (v := ?_) (a' := ?_) NWxb3 rfl rfl (any_of HT_.out (by kernel_rfl)) (fun _ _ _ h => h) (Or.inl ⟨by rfl, ?_⟩) ?_ ?_
 rotate_left
 ·intro w'
  go_simp
  with_reducible rfl
 rotate_left
 ·(try simp only [Act.put, List.setIfInBounds_toArray, List.set_cons_zero, List.set_cons_succ])
  rfl
 refine pure_ (i := 3) (N := some 45) (v := ?_) (a' := ?_) NWxb4 rfl rfl (any_of HT_.out (by kernel_rfl)) (fun _ _ _ h => h) (Or.inl ⟨by rfl, ?_⟩) ?_ ?_
 rotate_left
 ·intro w'
  go_simp
  with_reducible rfl
 rotate_left
 ·(try simp only [Act.put, List.setIfInBounds_toArray, List.set_cons_zero, List.set_cons_succ])
  rfl
 refine pure_ (i := 4) (N := some 46) (v := ?_) (a' := ?_) NWxb5 rfl rfl (any_of HT_.out (by kernel_rfl)) (fun _ _ _ h => h) (Or.inl ⟨by rfl, ?_⟩) ?_ ?_
 rotate_left
 ·intro w'
  go_simp
  with_reducible rfl
 rotate_left
 ·(try simp only [Act.put, List.setIfInBounds_toArray, List.set_cons_zero, List.set_cons_succ])
  rfl
 refine pure_ (i := 5) (N := some 47) (v := ?_) (a' := ?_) NWxb6 rfl rfl (any_of HT_.out (by kernel_rfl)) (fun _ _ _ h => h) (Or.inl ⟨by rfl, ?_⟩) ?_ ?_
 rotate_left
 ·intro w'
  go_simp
  with_reducible rfl
 rotate_left
 ·(try simp only [Act.put, List.setIfInBounds_toArray, List.set_cons_zero, List.set_cons_succ])
  rfl
 refine pure_ (i := 6) (N := some 48) (v := ?_) (a' := ?_) NWxb7 rfl rfl (any_of HT_.out (by kernel_rfl)) (fun _ _ _ h => h) (Or.inl ⟨by rfl, ?_⟩) ?_ ?_
 rotate_left
 ·intro w'
  go_simp
  with_reducible rfl
 rotate_left
 ·(try simp only [Act.put, List.setIfInBounds_toArray, List.set_cons_zero, List.set_cons_succ])
  rfl
 refine pure_ (i := 7) (N := some 49) (v := ?_) (a' := ?_) NWxb8 rfl rfl (any_of HT_.out (by kernel_rfl)) (fun _ _ _ h => h) (Or.inl ⟨by rfl, ?_⟩) ?_ ?_
 rotate_left
 ·intro w'
  go_simp
  with_reducible rfl
 rotate_left
 ·(try simp only [Act.put, List.setIfInBounds_toArray, List.set_cons_zero, List.set_cons_succ])
  rfl
 refine pure_ (i := 8) (N := some 50) (v := ?_) (a' := ?_) NWxb9 rfl rfl (any_of HT_.out (by kernel_rfl)) (fun _ _ _ h => h) (Or.inl ⟨by rfl, ?_⟩) ?_ ?_
 rotate_left
 ·intro w'
  go_simp
  with_reducible rfl
 rotate_left
 ·(try simp only [Act.put, List.setIfInBounds_toArray, List.set_cons_zero, List.set_cons_succ])
  rfl
 refine pure_ (i := 9) (N := some 51) (v := ?_) (a' := ?_) NWxb10 rfl rfl (any_of HT_.out (by kernel_rfl)) (fun _ _ _ h => h) (Or.inl ⟨by rfl, ?_⟩) ?_ ?_
 rotate_left
 ·intro w'
  go_simp
  with_reducible rfl
 rotate_left
 ·(try simp only [Act.put, List.setIfInBounds_toArray, List.set_cons_zero, List.set_cons_succ])
  rfl
 refine pure_ (i := 10) (N := some 52) (v := ?_) (a' := ?_) NWxb11 rfl rfl (any_of HT_.out (by kernel_rfl)) (fun _ _ _ h => h) (Or.inl ⟨by rfl, ?_⟩) ?_ ?_
 rotate_left
 ·intro w'
  go_simp
  with_reducible rfl
 rotate_left
 ·(try simp only [Act.put, List.setIfInBounds_toArray, List.set_cons_zero, List.set_cons_succ])
  rfl
 refine pure_ (i := 11) (N := some 53) (v := ?_) (a' := ?_) NWxb12 rfl rfl (any_of HT_.out (by kernel_rfl)) (fun _ _ _ h => h) (Or.inl ⟨by rfl, ?_⟩) ?_ ?_
 rotate_left
 ·intro w'
  go_simp
  with_reducible rfl
 rotate_left
 ·(try simp only [Act.put, List.setIfInBounds_toArray, List.set_cons_zero, List.set_cons_succ])
  rfl
 refine pure_ (i := 12) (N := some 54) (v := ?_) (a' := ?_) NWxb13 rfl rfl (any_of HT_.out (by kernel_rfl)) (fun _ _ _ h => h) (Or.inl ⟨by rfl, ?_⟩) ?_ ?_
 rotate_left
 ·intro w'
  go_simp
  with_reducible rfl
 rotate_left
 ·(try simp only [Act.put, List.setIfInBounds_toArray, List.set_cons_zero, List.set_cons_succ])
  rfl
 refine take_ (i := 13) (N := some 55) (v := ?_) (a' := ?_) NWxb14 rfl rfl (take_ofW HT_.out HW_.out (by kernel_rfl)) (fun _ _ _ h => h) (Or.inl ⟨by rfl, ?_⟩) hHeld ?_ ?_
 rotate_left
 ·intro w' hS_
  have hx_0 : w'.cell? ⟨w.heap.size, 0, none⟩ = _ := blk_cell hS_.hx 0
  have hx_1 : w'.cell? ⟨w.heap.size, 1, none⟩ = _ := blk_cell hS_.hx 1
  go_simp
  with_reducible rfl
 rotate_left
 ·(try simp only [Act.put, List.setIfInBounds_toArray, List.set_cons_zero, List.set_cons_succ])
  rfl
 refine take_ (i := 14) (N := some 56) (v := ?_) (a' := ?_) NWxb15 rfl rfl (take_ofW HT_.out HW_.out (by kernel_rfl)) (fun _ _ _ h => h) (Or.inl ⟨by rfl, ?_⟩) hHeld ?_ ?_
 rotate_left
 ·intro w' hS_
  have hx_0 : w'.cell? ⟨w.heap.size + 1, 0, none⟩ = _ := blk_cell hS_.ho 0
  have hx_1 : w'.cell? ⟨w.heap.size + 1, 1, none⟩ = _ := blk_cell hS_.ho 1
  go_simp
  with_reducible rfl
 rotate_left
 ·(try simp only [Act.put, List.setIfInBounds_toArray, List.set_cons_zero, List.set_cons_succ])
  rfl
 refine take_ (i := 16) (N := some 58) (v := ?_) (a' := ?_) NWxb16 rfl rfl (take_ofW HT_.out HW_.out (by kernel_rfl)) (fun _ _ _ h => h) (Or.inl ⟨by rfl, ?_⟩) hHeld ?_ ?_
 rotate_left
 ·intro w' hS_
  have hx_0 : w'.cell? ⟨w.heap.size, 0, none⟩ = _ := blk_cell hS_.hx 0
  have hx_1 : w'.cell? ⟨w.heap.size, 1, none⟩ = _ := blk_cell hS_.hx 1
  go_simp
  with_reducible rfl
 rotate_left
 ·(try simp only [Act.put, List.setIfInBounds_toArray, List.set_cons_zero, List.set_cons_succ])
  rfl
 refine take_ (i := 17) (N := some 59) (v := ?_) (a' := ?_) NWxb17 rfl rfl (take_ofW HT_.out HW_.out (by kernel_rfl)) (fun _ _ _ h => h) (Or.inl ⟨by rfl, ?_⟩) hHeld ?_ ?_
 rotate_left
 ·intro w' hS_
  have hx_0 : w'.cell? ⟨w.heap.size + 1, 0, none⟩ = _ := blk_cell hS_.ho 0
  have hx_1 : w'.cell? ⟨w.heap.size + 1, 1, none⟩ = _ := blk_cell hS_.ho 1
  go_simp
  with_reducible rfl
 rotate_left
 ·(try simp only [Act.put, List.setIfInBounds_toArray, List.set_cons_zero, List.set_cons_succ])
  rfl
 refine one_ (i := 15) (N := some 57) NWxb18 rfl rfl (one_of HT_.out (by kernel_rfl)) (by decide) (fun K hK => ?_)
 refine goes_ Tryd.func18 (by kernel_rfl) rfl #[.agg #[.int .u64 nx, .slice A m c], .agg #[.int .u64 ny, .slice B n d]] (by rfl) rfl rfl (by (try simp only [List.map_toArray, List.map_cons, List.map_nil]); first | done | rfl) ?_
 refine (HSB1.out _ hHeld.hc hHeld.hd).mono ?_
 rintro e w7 ⟨rfl, hb⟩
 refine ⟨_, rfl, ?_⟩
 have HN := hHeld.below hb
 clear hb
 clear hHeld
 refine hK.out _ _ (HN) (fun hHeld => ?_)
 clear hK K
 refine norm_ (a' := ?_) ?_ ?_
 rotate_left
 ·show Act.put _ (some 57) _ = _
  (try simp only [Act.put, List.setIfInBounds_toArray, List.set_cons_zero, List.set_cons_succ])
  rfl
 refine one_ (i := 18) (N := some 60) NWxb19 rfl rfl (one_of HT_.out (by kernel_rfl)) (by decide) (fun K hK => ?_)
 refine goes_ Tryd.func14 (by kernel_rfl) rfl #[.agg #[.int .u64 nx, .slice A m c], .agg #[.int .u64 ny, .slice B n d]] (by rfl) rfl rfl (by (try simp only [List.map_toArray, List.map_cons, List.map_nil]); first | done | rfl) ?_
 refine (HSB2.out _ hHeld.hc hHeld.hd).mono ?_
 rintro e w7 ⟨rfl, hb⟩
 refine ⟨_, rfl, ?_⟩
 have HN := hHeld.below hb
 clear hb
 clear hHeld
 refine hK.out _ _ (HN) (fun hHeld => ?_)
 clear hK K
 refine norm_ (a' := ?_) ?_ ?_
 rotate_left
 ·show Act.put _ (some 60) _ = _
  (try simp only [Act.put, List.setIfInBounds_toArray, List.set_cons_zero, List.set_cons_succ])
  rfl
 refine pure_ (i := 19) (N := some 61) (v := ?_) (a' := ?_) NWxb20 rfl rfl (any_of HT_.out (by kernel_rfl)) (fun _ _ _ h => h) (Or.inl ⟨by rfl, ?_⟩) ?_ ?_
 rotate_left
 ·intro w'
  go_simp
  with_reducible rfl
 rotate_left
 ·(try simp only [Act.put, List.setIfInBounds_toArray, List.set_cons_zero, List.set_cons_succ])
  rfl
 refine pure_ (i := 20) (N := some 62) (v := ?_) (a' := ?_) NWxb21 rfl rfl (any_of HT_.out (by kernel_rfl)) (fun _ _ _ h => h) (Or.inl ⟨by rfl, ?_⟩) ?_ ?_
 rotate_left
 ·intro w'
  go_simp
  with_reducible rfl
 rotate_left
 ·(try simp only [Act.put, List.setIfInBounds_toArray, List.set_cons_zero, List.set_cons_succ])
  rfl
 refine pure_ (i := 21) (N := some 63) (v := ?_) (a' := ?_) NWxb22 rfl rfl (any_of HT_.out (by kernel_rfl)) (fun _ _ _ h => h) (Or.inl ⟨by rfl, ?_⟩) ?_ ?_
 rotate_left
 ·intro w'
  go_simp
  with_reducible rfl
 rotate_left
 ·(try simp only [Act.put, List.setIfInBounds_toArray, List.set_cons_zero, List.set_cons_succ])
  rfl
 refine pure_ (i := 23) (N := some 65) (v := ?_) (a' := ?_) NWxb23 rfl rfl (any_of HT_.out (by kernel_rfl)) (fun _ _ _ h => h) (Or.inl ⟨by rfl, ?_⟩) ?_ ?_
 rotate_left
 ·intro w'
  go_simp
  with_reducible rfl
 rotate_left
 ·(try simp only [Act.put, List.setIfInBounds_toArray, List.set_cons_zero, List.set_cons_succ])
  rfl
 refine one_ (i := 22) (N := some 64) NWxb24 rfl rfl (one_of HT_.out (by kernel_rfl)) (by decide) (fun K hK => ?_)
 refine goes_ Tryd.func19 (by kernel_rfl) rfl #[] (by rfl) rfl rfl (by (try simp only [List.map_toArray, List.map_cons, List.map_nil]); first | done | rfl) ?_
 refine (notify_New.calls 1 [] _ rfl).mono ?_
 rintro e w7 ⟨v7, rfl, hR7, hb⟩
 refine ⟨_, rfl, ?_⟩
 obtain ⟨A7, c7, rfl⟩ := Kd.R_slice hR7
 have HK7 := Lib.hid (Kd.R_reads' hR7)
 clear hR7
 have HN := hHeld.below hb
 clear hb
 clear hHeld
 refine hK.out _ _ (HN) (fun hHeld => ?_)
 clear hK K
 refine norm_ (a' := ?_) ?_ ?_
 rotate_left
 ·show Act.put _ (some 64) _ = _
  (try simp only [Act.put, List.setIfInBounds_toArray, List.set_cons_zero, List.set_cons_succ])
  rfl
 refine one_ (i := 24) (N := some 66) NWxb25 rfl rfl (one_of HT_.out (by kernel_rfl)) (by decide) (fun K hK => ?_)
 refine goes_ Tryd.func14 (by kernel_rfl) rfl #[.agg #[.int .u64 1, .slice A7 0 c7], .agg #[.int .u64 1, .slice none 0 0]] (by rfl) rfl rfl (by (try simp only [List.map_toArray, List.map_cons, List.map_nil]); first | done | rfl) ?_
 refine (wicketgateref25_Same.calls 2000 1 A7 c7 [] 1 none 0 [] true _ ⟨rfl, by simp, fun h => absurd h (Nat.lt_irrefl 0)⟩ (Nat.zero_le _) (Kd.C_nil _ _) (Nat.le_refl _) (rsame_self 2000 (Nat.le_refl _) 1 [] (Nat.zero_le _))).mono ?_
 rintro e w8 ⟨rfl, hb⟩
 refine ⟨_, rfl, ?_⟩
 have HN := hHeld.below hb
 clear hb
 clear hHeld
 refine hK.out _ _ (HN) (fun hHeld => ?_)
 clear hK K
 refine norm_ (a' := ?_) ?_ ?_
 rotate_left
 ·show Act.put _ (some 66) _ = _
  (try simp only [Act.put, List.setIfInBounds_toArray, List.set_cons_zero, List.set_cons_succ])
  rfl
 refine pure_ (i := 25) (N := some 67) (v := ?_) (a' := ?_) NWxb26 rfl rfl (any_of HT_.out (by kernel_rfl)) (fun _ _ _ h => h) (Or.inl ⟨by rfl, ?_⟩) ?_ ?_
 rotate_left
 ·intro w'
  go_simp
  with_reducible rfl
 rotate_left
 ·(try simp only [Act.put, List.setIfInBounds_toArray, List.set_cons_zero, List.set_cons_succ])
  rfl
 refine pure_ (i := 26) (N := some 68) (v := ?_) (a' := ?_) NWxb27 rfl rfl (any_of HT_.out (by kernel_rfl)) (fun _ _ _ h => h) (Or.inl ⟨by rfl, ?_⟩) ?_ ?_
 rotate_left
 ·intro w'
  go_simp
  with_reducible rfl
 rotate_left
 ·(try simp only [Act.put, List.setIfInBounds_toArray, List.set_cons_zero, List.set_cons_succ])
  rfl
 refine done_ (done_of HT_.out (by kernel_rfl)) ?_
 clear HT_ HW_
 have HF6 := Lib.hid hHeld
 clear hHeld
 have y0 := blk_cell HF6.out.hx 0
 have y1 := blk_cell HF6.out.hx 1
 have q0_ := blk_cell HF6.out.hq 0
 have q1_ := blk_cell HF6.out.hq 1
 have HTT := Lib.hid ht.symm
 clear ht
 go_wp2_with (first | (go_at_call 9; (with_reducible refine (HCP.out _ HF6.out.hc).mono ?_); rintro e w9 ⟨v9, rfl, hR9, hb⟩; obtain ⟨A9, c9, rfl⟩ := Kd.R_slice hR9; rw [← HM.out] at hR9 ⊢; have HK9 := Lib.hid (Kd.R_reads' hR9); rw [← HM.out] at HK9; have HF9 := Lib.hid (HF6.out.below hb); clear hb hR9 y0 y1; clear q0_ q1_) | (go_at_call 17; (with_reducible refine (HGN.out _ A9 c9 _ HTT.out HK9.out.2.1 HK9.out.2.2).mono ?_); rintro e w10 ⟨v10, rfl, hR10, hb⟩; obtain ⟨A10, c10, rfl⟩ := Kd.R_slice hR10; rw [← HP.out] at hR10 ⊢; have HK10 := Lib.hid (Kd.R_reads' hR10); rw [← HP.out] at HK10; have HF10 := Lib.hid ((HF9.out.below hb).alloc (.cells #[.int .u64 r.1, .slice A10 p c10] 25)); have HD10 := Lib.hid (al_new w10 (.cells #[.int .u64 r.1, .slice A10 p c10] 25)); have HC10 := Lib.hid (Kd.C_alloc HK10.out.2.2 (.cells #[.int .u64 r.1, .slice A10 p c10] 25)); clear hb hR10; have y0 := blk_cell HF10.out.hx 0; have y1 := blk_cell HF10.out.hx 1) | (go_at_call 24; (with_reducible refine (HRG.out _ _ HTT.out HF10.out.hc).mono ?_); rintro e w11 ⟨A11, c11, rfl, hcc, hC11, hb⟩; have HF11 := Lib.hid ((HF10.out.below hb).alloc (.cells #[.int .u64 r.1, .slice A11 p c11] 25)); have HD10b := Lib.hid (al_keep (o := (.cells #[.int .u64 r.1, .slice A11 p c11] 25)) ((hb.block _ (blk_lt HD10.out)).trans HD10.out)); have HD11 := Lib.hid (al_new w11 (.cells #[.int .u64 r.1, .slice A11 p c11] 25)); have HC10b := Lib.hid (Kd.C_alloc (Kd.C_below HC10.out hb) (.cells #[.int .u64 r.1, .slice A11 p c11] 25)); have HC11 := Lib.hid (Kd.C_alloc hC11 (.cells #[.int .u64 r.1, .slice A11 p c11] 25)); have HCC := Lib.hid hcc; clear hb hC11 hcc y0 y1; have u0 := blk_cell HD10b.out 0; have u1 := blk_cell HD10b.out 1; have ul := blk_lt HD10b.out; have v0 := blk_cell HD11.out 0; have v1 := blk_cell HD11.out 1; have vl := blk_lt HD11.out) | (go_at_call 14; (with_reducible refine (HSA.out _ A10 c10 A11 c11 HC10b.out HK10.out.2.1 HC11.out HCC.out).mono ?_); rintro e w12 ⟨rfl, hb⟩; have HF12 := Lib.hid (HF11.out.below hb); clear hb u0 u1 ul v0 v1 vl HD10b HD11 HC10b HC11 HCC HD10 HC10 HK10 HK9 HSA HGN HRG; have y0 := blk_cell HF12.out.hx 0; have y1 := blk_cell HF12.out.hx 1))
 go_loopw [17, 18] (fun v i wr => ∃ (k1 : Nat) (j : Int) (A5 : Option Addr) (n5 c5 : Nat), v = .slice A5 n5 c5 ∧ i = .int .i64 j ∧ Hid (j = (k1 : Int) + 1) ∧ 1 ≤ j ∧ j ≤ 21 ∧ Hid (n5 = (tidOut l k1).length) ∧ Hid (Below w12.heap.size w12 wr) ∧ Hid (Kd.R (Kd.int .i64) 3 wr w12.heap.size (fun _ => True) (.slice A5 n5 c5) (tidOut l k1))) (fun _ i _ => (21 - intOf i).toNat)
 case atStart => exact ⟨0, 1, none, 0, 0, rfl, rfl, Lib.hid rfl, by omega, by omega, Lib.hid rfl, Lib.hid (Below.refl _ _), Lib.hid (Kd.R_nil _ _ _ _ _)⟩
 case round =>
  obtain ⟨k1, j, A5, n5, c5, rfl, rfl, HJ, hj0, hj1, HN5, KB, KR⟩ := hrel
  have HF13 := Lib.hid (HF12.out.below KB.out)
  clear y0 y1
  have y0 := blk_cell HF13.out.hx 0; have y1 := blk_cell HF13.out.hx 1
  by_cases hlt : j ≤ 20
  ·go_wp2_with fail
   go_loopw [17, 109] (fun v i wi => ∃ (k2 : Nat) (j2 : Int) (A5 : Option Addr) (n5 c5 : Nat), v = .slice A5 n5 c5 ∧ i = .int .i64 j2 ∧ Hid (j2 = (k2 : Int)) ∧ 0 ≤ j2 ∧ j2 ≤ (m : Int) ∧ Hid (n5 = (tidOut l k1 ++ tidIn (l.take k2) j).length) ∧ Hid (Below w12.heap.size w12 wi) ∧ Hid (Kd.R (Kd.int .i64) 3 wi w12.heap.size (fun _ => True) (.slice A5 n5 c5) (tidOut l k1 ++ tidIn (l.take k2) j))) (fun _ i _ => (m - intOf i).toNat)
   case atStart => exact ⟨0, 0, A5, n5, c5, rfl, rfl, Lib.hid rfl, by omega, by omega, Lib.hid (by rw [HN5.out]; simp [tidIn]), KB, Lib.hid (by rw [List.take_zero, show tidIn [] j = [] from rfl, List.append_nil]; exact KR.out)⟩
   case round =>
    clear KR HN5
    obtain ⟨k2, j2, A5, n5, c5, rfl, rfl, HJ2, hk0, hk1, HN5, KB2, KR⟩ := hrel
    by_cases hlt2 : j2 < (m : Int)
    ·obtain ⟨ad, hA, hx0, hx1, hx2, hx3, hx4, hx5, hx6, hx7, hx8, hx9, hx10, hx11⟩ := at_T36 (HF12.out.below KB2.out).hc j2 hk0 hlt2
     subst hA
     obtain ⟨x, hx⟩ : ∃ x, x = rd_T36 l j2 := ⟨_, rfl⟩
     rw [← hx] at hx0 hx1 hx2 hx3 hx4 hx5 hx6 hx7 hx8 hx9 hx10 hx11
     have HXK := Lib.hid hx
     clear hx
     have hbl := World.block_lt_of_cell? _ _ hx0
     obtain ⟨zs, hzs⟩ : ∃ zs, zs = tidOut l k1 ++ tidIn (l.take k2) j := ⟨_, rfl⟩
     rw [← hzs] at KR
     have HZ := Lib.hid hzs
     have HZL := Lib.hid (show zs.length ≤ 100000 by
      rw [hzs, List.length_append]
      have e1 := tidOut_len l k1
      have e2 := tidIn_len (l.take k2) j
      rw [List.length_take] at e2
      have := HM.out; have := HL.out; have := HJ.out
      have e3 : k1 * l.length ≤ 20 * 100 := Nat.mul_le_mul (by omega) HL.out
      omega)
     have hql : k2 < l.length := by have := HJ2.out; have := HM.out; omega
     have HST := Lib.hid (tidIn_step l j k2 hql)
     rw [show rd_T36 l (k2 : Int) = x by rw [HXK.out, HJ2.out]] at HST
     clear hzs hql
     have hwj : wrap64 (j2 + 1) = j2 + 1 := by unfold wrap64; omega
     by_cases hck : x.f1 = j
     ·have hcb : (x.f1 == j) = true := by simpa using hck
      rw [if_pos hck, hck] at HST
      rw [hck] at hx1
      have HB6 := Lib.hid (bel_al KB2.out (.cells #[.int .u64 x.f0, .int .i64 j, .int .u32 x.f2.f0, .int .u32 x.f2.f1, .int .u64 x.f2.f2, .int .u64 x.f2.f3.f0, .int .u64 x.f2.f3.f1, .int .u64 x.f2.f3.f2, .int .u64 x.f2.f3.f3, .int .u64 x.f2.f3.f4, .int .u64 x.f2.f3.f5, .bool x.f3] 36))
      have HR6 := Lib.hid (Kd.R_alloc KR.out (.cells #[.int .u64 x.f0, .int .i64 j, .int .u32 x.f2.f0, .int .u32 x.f2.f1, .int .u64 x.f2.f2, .int .u64 x.f2.f3.f0, .int .u64 x.f2.f3.f1, .int .u64 x.f2.f3.f2, .int .u64 x.f2.f3.f3, .int .u64 x.f2.f3.f4, .int .u64 x.f2.f3.f5, .bool x.f3] 36))
      go_wp2_with (first | ((with_reducible refine gate_builtin (b := .append) (xs := #[.tmp 117, .tmp 119]) rfl ?_); at_builtin; refine Kd.R_append (Kd.int .i64) (w0 := w12) w12.heap.size rfl (.tmp 117) (.tmp 119) 61 3 (.int .i64 0) 8 rfl Tryd.underlying61 (by kernel_rfl) rfl (by decide) (by omega) (.slice A5 n5 c5) zs j [.int .i64 j] (fun _ => True) (fun _ => False) rfl (by first | (go_simp; done) | (go_simp; rfl)) ?aP (fun _ hk => hk.elim) ?aF ?aO ?aB ?aS ?aL ?_; (case aP => rfl); (case aF => exact (fun _ _ => trivial)); (case aO => exact HR6.out); (case aB => exact HB6.out); (case aS => exact HB6.out.size); (case aL => have := HZL.out; omega); intro v8 w8 ho hb hg hat; obtain ⟨A8, c8, rfl⟩ := Kd.R_slice ho; obtain ⟨n8, hn8⟩ : ∃ n, n = (zs ++ [j]).length := ⟨_, rfl⟩; rw [← hn8] at ho ⊢; have HN8 := Lib.hid hn8; clear hn8; have HR8 := Lib.hid ho; have HB8 := Lib.hid hb; clear ho hb hg hat))
      refine ⟨⟨k2 + 1, j2 + 1, A8, n8, c8, rfl, rfl, Lib.hid (by have := HJ2.out; omega), by omega, by omega, Lib.hid ?_, HB8, Lib.hid ?_⟩, by simp [intOf]; omega⟩
      ·rw [HN8.out, HST.out, HZ.out, List.append_assoc]
      ·rw [HST.out, ← List.append_assoc, ← HZ.out]; exact HR8.out
     ·have hcb : (x.f1 == j) = false := by simpa using hck
      rw [if_neg hck, List.append_nil] at HST
      clear hck
      go_wp2_with fail
      refine ⟨⟨k2 + 1, j2 + 1, A5, n5, c5, rfl, rfl, Lib.hid (by have := HJ2.out; omega), by omega, by omega, Lib.hid ?_, Lib.hid (bel_al KB2.out _), Lib.hid ?_⟩, by simp [intOf]; omega⟩
      ·rw [HST.out]; exact HN5.out
      ·rw [HST.out, ← HZ.out]; exact Kd.R_alloc KR.out _
    ·have hkm : k2 = l.length := by have := HJ2.out; have := HM.out; omega
     have hto : tidOut l k1 ++ tidIn (l.take k2) j = tidOut l (k1 + 1) := by rw [hkm, List.take_length, tidOut, HJ.out]; rfl
     rw [hto] at HN5 KR
     clear hkm hto
     have hwj : wrap64 (j + 1) = j + 1 := by unfold wrap64; omega
     go_wp2_with fail
     exact ⟨⟨k1 + 1, j + 1, A5, n5, c5, rfl, rfl, Lib.hid (by have := HJ.out; omega), by omega, by omega, HN5, KB2, KR⟩, by simp [intOf]; omega⟩
  ·obtain rfl : k1 = 20 := by have := HJ.out; omega
   go_wp2_with fail
   clear KR HN5
   go_loopw [16, 125] (fun v i wx => ∃ (k2 : Nat) (j2 : Int) (b : Bool), v = .bool b ∧ i = .int .i64 j2 ∧ Hid (j2 = (k2 : Int)) ∧ 0 ≤ j2 ∧ j2 ≤ (m : Int) ∧ Hid (b = validA (l.take k2) q0) ∧ Hid (FT w wx (.cells #[.int .u64 nx, .slice A m c] 25) (.cells #[.int .u64 ny, .slice B n d] 25) (.cells #[.int .u64 q0, .int .u64 q1] 64) A m l B n k) ∧ Hid (Below wr.heap.size wr wx)) (fun _ i _ => (m - intOf i).toNat)
   case atStart => exact ⟨0, 0, false, rfl, rfl, Lib.hid rfl, by omega, by omega, Lib.hid rfl, HF13, Lib.hid (Below.refl _ _)⟩
   case round =>
    obtain ⟨k2, j2, b, rfl, rfl, HJ2, hk0, hk1, HV2, HFX, KX⟩ := hrel
    clear y0 y1
    by_cases hlt2 : j2 < (m : Int)
    ·obtain ⟨ad, hA, hx0, hx1, hx2, hx3, hx4, hx5, hx6, hx7, hx8, hx9, hx10, hx11⟩ := at_T36 HFX.out.hc j2 hk0 hlt2
     subst hA
     obtain ⟨x, hx⟩ : ∃ x, x = rd_T36 l j2 := ⟨_, rfl⟩
     rw [← hx] at hx0 hx1 hx2 hx3 hx4 hx5 hx6 hx7 hx8 hx9 hx10 hx11
     have HST := Lib.hid (validA_step l q0 k2 (by have := HJ2.out; have := HM.out; omega))
     rw [show rd_T36 l (k2 : Int) = x by rw [hx, HJ2.out], ← HV2.out] at HST
     have hbl := World.block_lt_of_cell? _ _ hx0
     have q0_ := blk_cell HFX.out.hq 0
     have ql := blk_lt HFX.out.hq
     have hwj : wrap64 (j2 + 1) = j2 + 1 := by have := HM.out; have := HL.out; unfold wrap64; omega
     clear hx
     cases b with
     | true =>
      go_wp2_with fail
      exact ⟨⟨k2 + 1, j2 + 1, true, rfl, rfl, Lib.hid (by have := HJ2.out; omega), by omega, by omega, Lib.hid (by rw [HST.out]; rfl), Lib.hid (HFX.out.alloc _), Lib.hid (bel_al KX.out _)⟩, by simp [intOf]; omega⟩
     | false =>
      by_cases hck : x.f0 = q0
      ·have hcb : (x.f0 == q0) = true := by simpa using hck
       rw [hcb] at HST
       rw [hck] at hx0
       clear hck hcb
       go_wp2_with fail
       exact ⟨⟨k2 + 1, j2 + 1, x.f3, rfl, rfl, Lib.hid (by have := HJ2.out; omega), by omega, by omega, Lib.hid (by rw [HST.out]; rfl), Lib.hid (HFX.out.alloc _), Lib.hid (bel_al KX.out _)⟩, by simp [intOf]; omega⟩
      ·have hcb : (x.f0 == q0) = false := by simpa using hck
       rw [hcb] at HST
       clear hck
       go_wp2_with fail
       exact ⟨⟨k2 + 1, j2 + 1, false, rfl, rfl, Lib.hid (by have := HJ2.out; omega), by omega, by omega, Lib.hid (by rw [HST.out]; rfl), Lib.hid (HFX.out.alloc _), Lib.hid (bel_al KX.out _)⟩, by simp [intOf]; omega⟩
    ·obtain rfl : b = validA l q0 := by rw [HV2.out, show k2 = l.length by have := HJ2.out; have := HM.out; omega, List.take_length]
     clear HV2
     have y0 := blk_cell HFX.out.hx 0
     have y1 := blk_cell HFX.out.hx 1
     go_wp2_with (first | (go_at_call 9; (with_reducible refine (HCP.out _ HFX.out.hc).mono ?_); rintro e w15 ⟨v15, rfl, hR15, hb⟩; obtain ⟨A15, c15, rfl⟩ := Kd.R_slice hR15; rw [← HM.out] at hR15 ⊢; have HK15 := Lib.hid (Kd.R_reads' hR15); rw [← HM.out] at HK15; have HF15 := Lib.hid (HFX.out.below hb); clear hb hR15 y0 y1) | (go_at_call 22; (with_reducible refine (HWT.out _ A15 c15 HK15.out.2.1 HK15.out.2.2).mono ?_); rintro e w16 ⟨A16, c16, rfl, hR16, hb⟩; have HF16 := Lib.hid (HF15.out.below hb); clear hb hR16 HK15))
     refine start_ (n := 12) (S := fun w' => (FT w w' (.cells #[.int .u64 nx, .slice A m c] 25) (.cells #[.int .u64 ny, .slice B n d] 25) (.cells #[.int .u64 q0, .int .u64 q1] 64) A m l B n k) ∧ Below w16.heap.size w16 w') (ds := []) #[false, false, false, false, false, false, false, false, false, false, false, false] (by kernel_rfl) rfl rfl (And.intro (HF16.out.below (below_drew (Below.refl _ _))) (below_drew (Below.refl _ _))) (fun hHeld => ?_); refine with_tabW tl32.tab32 tl32.bits32 (fun HT_ HW_ => ?_)
     refine pure_ (i := 0) (N := some 147) (v := ?_) (a' := ?_) #[true, false, false, false, false, false, false, false, false, false, false, false] rfl rfl (any_of HT_.out (by kernel_rfl)) (fun _ _ _ h => h) (Or.inl ⟨by rfl, ?_⟩) ?_ ?_
     rotate_left
     ·intro w'
      go_simp
      with_reducible rfl
     rotate_left
     ·(try simp only [Act.put, List.setIfInBounds_toArray, List.set_cons_zero, List.set_cons_succ])
      rfl
     refine pure_ (i := 1) (N := some 148) (v := ?_) (a' := ?_) #[true, true, false, false, false, false, false, false, false, false, false, false] rfl rfl (any_of HT_.out (by kernel_rfl)) (fun _ _ _ h => h) (Or.inl ⟨by rfl, ?_⟩) ?_ ?_
     rotate_left
     ·intro w'
      go_simp
      with_reducible rfl
     rotate_left
     ·(try simp only [Act.put, List.setIfInBounds_toArray, List.set_cons_zero, List.set_cons_succ])
      rfl
     refine pure_ (i := 2) (N := some 149) (v := ?_) (a' := ?_) #[true, true, true, false, false, false, false, false, false, false, false, false] rfl rfl (any_of HT_.out (by kernel_rfl)) (fun _ _ _ h => h) (Or.inl ⟨by rfl, ?_⟩) ?_ ?_
     rotate_left
     ·intro w'
      go_simp
      with_reducible rfl
     rotate_left
     ·(try simp only [Act.put, List.setIfInBounds_toArray, List.set_cons_zero, List.set_cons_succ])
      rfl
     refine pure_ (i := 3) (N := some 150) (v := ?_) (a' := ?_) #[true, true, true, true, false, false, false, false, false, false, false, false] rfl rfl (any_of HT_.out (by kernel_rfl)) (fun _ _ _ h => h) (Or.inl ⟨by rfl, ?_⟩) ?_ ?_
     rotate_left
     ·intro w'
      go_simp
      with_reducible rfl
     rotate_left
     ·(try simp only [Act.put, List.setIfInBounds_toArray, List.set_cons_zero, List.set_cons_succ])
      rfl
     refine pure_ (i := 6) (N := some 153) (v := ?_) (a' := ?_) #[true, true, true, true, false, false, true, false, false, false, false, false] rfl rfl (any_of HT_.out (by kernel_rfl)) (fun _ _ _ h => h) (Or.inl ⟨by rfl, ?_⟩) ?_ ?_
     rotate_left
     ·intro w'
      go_simp
      with_reducible rfl
     rotate_left
     ·(try simp only [Act.put, List.setIfInBounds_toArray, List.set_cons_zero, List.set_cons_succ])
      rfl
     refine take_ (i := 4) (N := some 151) (v := ?_) (a' := ?_) #[true, true, true, true, true, false, true, false, false, false, false, false] rfl rfl (take_ofW HT_.out HW_.out (by kernel_rfl)) (fun _ _ _ h => h) (Or.inl ⟨by rfl, ?_⟩) hHeld ?_ ?_
     rotate_left
     ·intro w' hS_
      have hx_0 : w'.cell? ⟨w.heap.size, 0, none⟩ = _ := blk_cell hS_.1.hx 0
      have hx_1 : w'.cell? ⟨w.heap.size, 1, none⟩ = _ := blk_cell hS_.1.hx 1
      go_simp
      with_reducible rfl
     rotate_left
     ·(try simp only [Act.put, List.setIfInBounds_toArray, List.set_cons_zero, List.set_cons_succ])
      rfl
     refine take_ (i := 7) (N := some 154) (v := ?_) (a' := ?_) #[true, true, true, true, true, false, true, true, false, false, false, false] rfl rfl (take_ofW HT_.out HW_.out (by kernel_rfl)) (fun _ _ _ h => h) (Or.inl ⟨by rfl, ?_⟩) hHeld ?_ ?_
     rotate_left
     ·intro w' hS_
      have hx_0 : w'.cell? ⟨w.heap.size + 1 + 1, 0, none⟩ = _ := blk_cell hS_.1.hq 0
      go_simp
      with_reducible rfl
     rotate_left
     ·(try simp only [Act.put, List.setIfInBounds_toArray, List.set_cons_zero, List.set_cons_succ])
      rfl
     refine one_ (i := 5) (N := some 152) #[true, true, true, true, true, true, true, true, false, false, false, false] rfl rfl (one_of HT_.out (by kernel_rfl)) (by decide) (fun K hK => ?_)
     refine goes_ Tryd.func9 (by kernel_rfl) rfl #[.agg #[.int .u64 nx, .slice A m c]] (by rfl) rfl rfl (by (try simp only [List.map_toArray, List.map_cons, List.map_nil]); first | done | rfl) ?_
     refine (HCP.out _ hHeld.1.hc).mono ?_
     rintro e w17 ⟨v17, rfl, hR17, hb⟩
     refine ⟨_, rfl, ?_⟩
     obtain ⟨A17, c17, rfl⟩ := Kd.R_slice hR17
     rw [← HM.out] at hR17 ⊢
     have HK17 := Lib.hid (Kd.R_reads' hR17)
     rw [← HM.out] at HK17
     clear hR17
     have HN := And.intro (hHeld.1.below hb) (hHeld.2.trans (hb.mono hHeld.2.size))
     clear hb
     clear hHeld
     refine hK.out _ _ (HN) (fun hHeld => ?_)
     clear hK K
     refine norm_ (a' := ?_) ?_ ?_
     rotate_left
     ·show Act.put _ (some 152) _ = _
      (try simp only [Act.put, List.setIfInBounds_toArray, List.set_cons_zero, List.set_cons_succ])
      rfl
     refine one_ (i := 8) (N := some 155) #[true, true, true, true, true, true, true, true, true, false, false, false] rfl rfl (one_of HT_.out (by kernel_rfl)) (by decide) (fun K hK => ?_)
     refine goes_ Tryd.func20 (by kernel_rfl) rfl #[.agg #[.int .u64 nx, .slice A17 m c17], .int .u64 q0] (by rfl) rfl rfl (by (try simp only [List.map_toArray, List.map_cons, List.map_nil]); first | done | rfl) ?_
     refine (HVA.out _ A17 c17 HK17.out.2.1 HK17.out.2.2).mono ?_
     rintro e w18 ⟨rfl, hb⟩
     refine ⟨_, rfl, ?_⟩
     have HN := And.intro (hHeld.1.below hb) (hHeld.2.trans (hb.mono hHeld.2.size))
     clear hb
     clear hHeld
     refine hK.out _ _ (HN) (fun hHeld => ?_)
     clear hK K
     refine norm_ (a' := ?_) ?_ ?_
     rotate_left
     ·show Act.put _ (some 155) _ = _
      (try simp only [Act.put, List.setIfInBounds_toArray, List.set_cons_zero, List.set_cons_succ])
      rfl
     refine pure_ (i := 9) (N := some 156) (v := ?_) (a' := ?_) #[true, true, true, true, true, true, true, true, true, true, false, false] rfl rfl (any_of HT_.out (by kernel_rfl)) (fun _ _ _ h => h) (Or.inl ⟨by rfl, ?_⟩) ?_ ?_
     rotate_left
     ·intro w'
      go_simp
      with_reducible rfl
     rotate_left
     ·(try simp only [Act.put, List.setIfInBounds_toArray, List.set_cons_zero, List.set_cons_succ])
      rfl
     refine pure_ (i := 10) (N := some 157) (v := ?_) (a' := ?_) #[true, true, true, true, true, true, true, true, true, true, true, false] rfl rfl (any_of HT_.out (by kernel_rfl)) (fun _ _ _ h => h) (Or.inl ⟨by rfl, ?_⟩) ?_ ?_
     rotate_left
     ·intro w'
      go_simp
      with_reducible rfl
     rotate_left
     ·(try simp only [Act.put, List.setIfInBounds_toArray, List.set_cons_zero, List.set_cons_succ])
      rfl
     refine pure_ (i := 11) (N := some 6) (v := ?_) (a' := ?_) #[true, true, true, true, true, true, true, true, true, true, true, true] rfl rfl (any_of HT_.out (by kernel_rfl)) (fun _ _ _ h => h) (Or.inl ⟨by rfl, ?_⟩) ?_ ?_
     rotate_left
     ·intro w'
      go_simp
      with_reducible rfl
     rotate_left
     ·(try simp only [Act.put, List.setIfInBounds_toArray, List.set_cons_zero, List.set_cons_succ])
      rfl
     refine done_ (done_of HT_.out (by kernel_rfl)) ?_
     clear HT_ HW_
     have HF18 := Lib.hid hHeld.1
     clear hHeld
     go_wp2_with fail
     go_ret
     exact ⟨rfl, HF18.out.hb⟩
end Go.Proofs.YtcbiehinhmkjmaaDoor.NB

namespace Go.Proofs.YtcbiehinhmkjmaaDoor.NB
open Go.RowKit Go.Proofs.YtcbiehinhmkjmaaDoorW.PrintWords Go.Proofs.YtcbiehinhmkjmaaDoorW.PrintLast Go.Proofs.YtcbiehinhmkjmaaDoorW.PrintMore
open Go.Proofs.YtcbiehinhmkjmaaDoor.PB
set_option linter.unusedVariables false
set_option linter.unusedSimpArgs false
open Go.Proofs.YtcbiehinhmkjmaaDoor.PE.L (Tab)
set_option maxRecDepth 100000 in
set_option maxHeartbeats 4000000 in
theorem tells_long (nx : Int) (A : Option Addr) (c : Nat) (l : List S36) (ny : Int) (B : Option Addr) (d : Nat) (k : List S36) (q0 q1 : Int) (hlk : 100 < l.length ∨ 100 < k.length) (w : World) (hr : Kd.C k36 w A l.length l) (hs : Kd.C k36 w B k.length k) (hT : Tab w) :
  Calls Tryd.prog 7 #[.agg #[.int .u64 nx, .slice A l.length c], .agg #[.int .u64 ny, .slice B k.length d], .agg #[.int .u64 q0, .int .u64 q1]] w fun e w' => e = .returned (.bool true) ∧ Below w.heap.size w w' := by
 obtain ⟨m, hm⟩ : ∃ m, m = l.length := ⟨_, rfl⟩
 obtain ⟨n, hn⟩ : ∃ n, n = k.length := ⟨_, rfl⟩
 have HF1 : FT w (((w.alloc (.cells #[.int .u64 nx, .slice A m c] 25)).alloc (.cells #[.int .u64 ny, .slice B n d] 25)).alloc (.cells #[.int .u64 q0, .int .u64 q1] 64)) (.cells #[.int .u64 nx, .slice A m c] 25) (.cells #[.int .u64 ny, .slice B n d] 25) (.cells #[.int .u64 q0, .int .u64 q1] 64) A m l B n k := by
  rw [← hm] at hr
  rw [← hn] at hs
  have e1 := al_keep (o := .cells #[.int .u64 q0, .int .u64 q1] 64) (al_keep (o := .cells #[.int .u64 ny, .slice B n d] 25) (al_new w (.cells #[.int .u64 nx, .slice A m c] 25)))
  have e2 := al_keep (o := .cells #[.int .u64 q0, .int .u64 q1] 64) (al_new (w.alloc (.cells #[.int .u64 nx, .slice A m c] 25)) (.cells #[.int .u64 ny, .slice B n d] 25))
  have e3 := al_new ((w.alloc (.cells #[.int .u64 nx, .slice A m c] 25)).alloc (.cells #[.int .u64 ny, .slice B n d] 25)) (.cells #[.int .u64 q0, .int .u64 q1] 64)
  simp only [World.size_alloc] at e2 e3
  exact ⟨bel_al (bel_al (bel_al (Below.refl _ _) _) _) _, e1, e2, e3, Kd.C_alloc (Kd.C_alloc (Kd.C_alloc hr _) _) _, Kd.C_alloc (Kd.C_alloc (Kd.C_alloc hs _) _) _⟩
 have HF1 := Lib.hid HF1
 have HT1 := Lib.hid (hT.below HF1.out.hb)
 rw [← hm, ← hn] at hlk ⊢
 clear hr hs hT hm hn
 by_cases h1 : (100 : Int) < (m : Int)
 ·clear hlk
  go_enter Tryd.func7, Tryd.ntmps7
  go_wp2_with (first | (go_at_call 8; (with_reducible refine (wakes_w _ HT1.out).mono ?_); rintro e w2 ⟨rfl, hb⟩; have HF2 := Lib.hid (HF1.out.below hb); clear hb; have y0 := blk_cell HF2.out.hx 0; have y1 := blk_cell HF2.out.hx 1; have o0 := blk_cell HF2.out.ho 0; have o1 := blk_cell HF2.out.ho 1))
  go_ret
  exact ⟨rfl, HF2.out.hb⟩
 ·have h2 : (100 : Int) < (n : Int) := by omega
  clear hlk
  go_enter Tryd.func7, Tryd.ntmps7
  go_wp2_with (first | (go_at_call 8; (with_reducible refine (wakes_w _ HT1.out).mono ?_); rintro e w2 ⟨rfl, hb⟩; have HF2 := Lib.hid (HF1.out.below hb); clear hb; have y0 := blk_cell HF2.out.hx 0; have y1 := blk_cell HF2.out.hx 1; have o0 := blk_cell HF2.out.ho 0; have o1 := blk_cell HF2.out.ho 1))
  go_ret
  exact ⟨rfl, HF2.out.hb⟩
theorem tells_w (nx : Int) (A : Option Addr) (c : Nat) (l : List S36) (ny : Int) (B : Option Addr) (d : Nat) (k : List S36) (q0 q1 : Int) (hc : l.length ≤ c) (hd : k.length ≤ d) (w : World) (hr : Kd.C k36 w A l.length l) (hs : Kd.C k36 w B k.length k) (hT : Tab w) :
  Calls Tryd.prog 7 #[.agg #[.int .u64 nx, .slice A l.length c], .agg #[.int .u64 ny, .slice B k.length d], .agg #[.int .u64 q0, .int .u64 q1]] w fun e w' => e = .returned (.bool true) ∧ Below w.heap.size w w' := by
 by_cases hl : l.length ≤ 100
 ·by_cases hk : k.length ≤ 100
  ·by_cases hok : Dok nx l
   ·exact tells_ok nx A c l ny B d k q0 q1 hok hl hk hc hd w hr hs hT
   ·exact tells_no nx A c l ny B d k q0 q1 hok hl hk hc hd w hr hs hT
  ·exact tells_long nx A c l ny B d k q0 q1 (Or.inr (Nat.lt_of_not_le hk)) w hr hs hT
 ·exact tells_long nx A c l ny B d k q0 q1 (Or.inl (Nat.lt_of_not_le hl)) w hr hs hT
end Go.Proofs.YtcbiehinhmkjmaaDoor.NB
