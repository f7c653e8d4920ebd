import Derived.Test.YtcbiehinhmkjmaaDoorNM
import Derived.Shelf.Sort.Plain
import Derived.Sort.OwnSortedInts
import Derived.Shelf.Small.Bits
namespace Go.Proofs.YtcbiehinhmkjmaaDoor.NB
open Go.RowKit Go.Proofs.YtcbiehinhmkjmaaDoorW.PrintWords Go.Proofs.YtcbiehinhmkjmaaDoorW.PrintLast Go.Proofs.YtcbiehinhmkjmaaDoorW.PrintMore
open Go.Proofs.YtcbiehinhmkjmaaDoor.PB
set_option linter.unusedVariables false
set_option linter.unusedSimpArgs false
/-- The numbers of the shelf's functions in this program. -/
def rho : Go.Shelf.Ren := ⟨fun x => if x = 125 then 53 else if x = 128 then 63 else if x = 129 then 64 else if x = 189 then 49 else if x = 215 then 70 else if x = 216 then 60 else if x = 257 then 52 else if x = 294 then 54 else if x = 295 then 55 else if x = 296 then 56 else if x = 297 then 57 else if x = 298 then 58 else if x = 299 then 59 else if x = 300 then 61 else if x = 301 then 62 else if x = 328 then 65 else if x = 329 then 66 else if x = 330 then 67 else if x = 331 then 68 else if x = 332 then 69 else if x = 343 then 71 else x, fun x => if x = 28 then 61 else if x = 46 then 92 else if x = 51 then 26 else if x = 53 then 22 else if x = 131 then 58 else if x = 182 then 103 else if x = 183 then 104 else if x = 218 then 112 else if x = 222 then 116 else if x = 228 then 118 else if x = 229 then 119 else x, fun x => x⟩
theorem lays189 : Lays.n189 Tryd.prog rho where
  mixed := by kernel_rfl
  f125 := by kernel_rfl
  f128 := by kernel_rfl
  f129 := by kernel_rfl
  f189 := by kernel_rfl
  f215 := by kernel_rfl
  f216 := by kernel_rfl
  f257 := by kernel_rfl
  f294 := by kernel_rfl
  f295 := by kernel_rfl
  f296 := by kernel_rfl
  f297 := by kernel_rfl
  f298 := by kernel_rfl
  f299 := by kernel_rfl
  f300 := by kernel_rfl
  f301 := by kernel_rfl
  f328 := by kernel_rfl
  f329 := by kernel_rfl
  f330 := by kernel_rfl
  f331 := by kernel_rfl
  f332 := by kernel_rfl
  f343 := by kernel_rfl
  t0 := by kernel_rfl
  a0 := fun _ => by kernel_rfl
  z0 := fun _ => by kernel_rfl
  v0 := fun _ => by kernel_rfl
  t3 := by kernel_rfl
  a3 := fun _ => by kernel_rfl
  z3 := fun _ => by kernel_rfl
  v3 := fun _ => by kernel_rfl
  t4 := by kernel_rfl
  a4 := fun _ => by kernel_rfl
  z4 := fun _ => by kernel_rfl
  v4 := fun _ => by kernel_rfl
  t5 := by kernel_rfl
  a5 := fun _ => by kernel_rfl
  z5 := fun _ => by kernel_rfl
  v5 := fun _ => by kernel_rfl
  t9 := by kernel_rfl
  a9 := fun _ => by kernel_rfl
  z9 := fun _ => by kernel_rfl
  v9 := fun _ => by kernel_rfl
  t28 := by kernel_rfl
  a28 := fun _ => by kernel_rfl
  z28 := fun _ => by kernel_rfl
  v28 := fun _ => by kernel_rfl
  t46 := by kernel_rfl
  a46 := fun _ => by kernel_rfl
  z46 := fun _ => by kernel_rfl
  v46 := fun _ => by kernel_rfl
  t51 := by kernel_rfl
  a51 := fun _ => by kernel_rfl
  z51 := fun _ => by kernel_rfl
  v51 := fun _ => by kernel_rfl
  t53 := by kernel_rfl
  a53 := fun _ => by kernel_rfl
  z53 := fun _ => by kernel_rfl
  v53 := fun _ => by kernel_rfl
  t131 := by kernel_rfl
  a131 := fun _ => by kernel_rfl
  z131 := fun _ => by kernel_rfl
  v131 := fun _ => by kernel_rfl
  t182 := by kernel_rfl
  a182 := fun _ => by kernel_rfl
  z182 := fun _ => by kernel_rfl
  v182 := fun _ => by kernel_rfl
  t183 := by kernel_rfl
  a183 := fun _ => by kernel_rfl
  z183 := fun _ => by kernel_rfl
  v183 := fun _ => by kernel_rfl
  t218 := by kernel_rfl
  a218 := fun _ => by kernel_rfl
  z218 := fun _ => by kernel_rfl
  v218 := fun _ => by kernel_rfl
  t222 := by kernel_rfl
  a222 := fun _ => by kernel_rfl
  z222 := fun _ => by kernel_rfl
  v222 := fun _ => by kernel_rfl
  t228 := by kernel_rfl
  a228 := fun _ => by kernel_rfl
  z228 := fun _ => by kernel_rfl
  v228 := fun _ => by kernel_rfl
  t229 := by kernel_rfl
  a229 := fun _ => by kernel_rfl
  z229 := fun _ => by kernel_rfl
  v229 := fun _ => by kernel_rfl

theorem lays125 : Lays.n125 Tryd.prog rho := { lays189 with }
theorem sort_nil54 (w : World) : Calls Tryd.prog 54 #[.slice none 0 0, .int .i64 0, .int .i64 0] w fun e w' => e = .returned (.tuple #[]) ∧ w' = w := by
  go_enter Tryd.func54, Tryd.ntmps54
  go_wp2_with fail
  go_loopw [6] (fun i wr => i = .int .i64 1 ∧ wr = w) (fun _ _ => 0)
  case atStart => exact ⟨rfl, rfl⟩
  case round =>
    obtain ⟨rfl, rfl⟩ := hrel
    go_wp2_with fail
    exact ⟨rfl, .tuple #[], (by simp [results, Tryd.results54, go_sem]), rfl, rfl⟩
theorem sort_nil52 (l : Int) (w : World) : Calls Tryd.prog 52 #[.slice none 0 0, .int .i64 0, .int .i64 0, .int .i64 l] w fun e w' => e = .returned (.tuple #[]) ∧ w' = w := by
  go_enter Tryd.func52, Tryd.ntmps52
  go_wp2_with fail
  go_loopw [1, 2, 3, 8, 9] (fun a b i p q wr => a = .int .i64 0 ∧ b = .int .i64 0 ∧ i = .int .i64 l ∧ p = .bool true ∧ q = .bool true ∧ wr = w) (fun _ _ _ _ _ _ => 0)
  case atStart => exact ⟨rfl, rfl, rfl, rfl, rfl, rfl⟩
  case round =>
    obtain ⟨rfl, rfl, rfl, rfl, rfl, rfl⟩ := hrel
    go_wp2_with (go_at_call 54; (with_reducible refine (sort_nil54 _).mono ?_); rintro e w6 ⟨rfl, rfl⟩)
    exact ⟨rfl, .tuple #[], (by simp [results, Tryd.results52, go_sem]), rfl, rfl⟩
theorem sort_nil (w : World) : Calls Tryd.prog 49 #[.slice none 0 0] w fun e w' => e = .returned (.tuple #[]) ∧ w' = w := by
  have HL : ∀ w, Calls Tryd.prog 53 #[.int .u64 0] w fun e w' => e = .returned (.int .i64 0) ∧ w' = w := fun w => (Any.bits_Len lays125 0 w (by omega) (by omega)).mono (by rintro e w' ⟨rfl, rfl⟩; exact ⟨by kernel_rfl, rfl⟩)
  go_enter Tryd.func49, Tryd.ntmps49
  go_wp2_with (first | (go_at_call 53; (with_reducible refine (HL _).mono ?_); rintro e w6 ⟨rfl, rfl⟩) | (go_at_call 52; (with_reducible refine (sort_nil52 _ _).mono ?_); rintro e w6 ⟨rfl, rfl⟩))
  exact ⟨rfl, .tuple #[], (by simp [results, Tryd.results49, go_sem]), rfl, rfl⟩
/-- The library's order of numbers. -/
def srt (l : List Int) : List Int := l.mergeSort fun x y => decide (x ≤ y)
/-- A row of ints of the call's own: nil, or its block. -/
theorem row_out {W : World} {n0 : Nat} {ok : Nat → Prop} {v : Value} {xs : List Int} (h : Kd.R (Kd.int .i64) 3 W n0 ok v xs) :
    (v = .slice none 0 0 ∧ xs = []) ∨ ∃ g cap cur, v = .slice (some ⟨g, 0, none⟩) xs.length cap ∧ n0 ≤ g ∧ ok g ∧ W.heap[g]? = some (.cells cur 3 (0, 0)) ∧ xs.length ≤ cap ∧ cap ≤ maxLen ∧ cur.size = cap ∧ ∀ j x, xs[j]? = some x → W.cell? ⟨g, j, none⟩ = some (.int .i64 x) := by
  obtain ⟨h0, inner, ho, hr⟩ := h
  obtain ⟨A0, c0, hv, hc, hC⟩ := Kd.R_reads (show Kd.R (Kd.int .i64) 3 W n0 ok v xs from ⟨h0, inner, ho, hr⟩)
  rcases ho.2 with ⟨hv', hn⟩ | ⟨g, cap, cur, hv', hg, hh, hn, hm, hs, ht⟩
  · exact .inl ⟨hv', List.eq_nil_of_length_eq_zero hn⟩
  · refine .inr ⟨g, cap, cur, hv', hg, h0 g (by rw [hv']; rfl), hh, hn, hm, by rw [hs]; exact Nat.mul_one _, ?_⟩
    intro j x hx
    have hlt : j < xs.length := (List.getElem?_eq_some_iff.1 hx).1
    obtain ⟨ad, rfl, hel⟩ := hC.2.2 (by omega)
    rw [hv'] at hv
    injection hv with e1 e2 e3
    injection e1 with e1
    subst e1
    obtain ⟨cs, h1, h2, h3⟩ := hel j _ hx
    obtain rfl := h2
    have := h3 0 _ rfl
    have e1 : (Kd.int IntKind.i64).sz = 1 := rfl
    rw [e1] at this
    rw [Addr.add_lit, Nat.zero_add, Nat.mul_one, Nat.add_zero] at this
    exact this
theorem row_in {W : World} {n0 : Nat} {ok : Nat → Prop} {xs : List Int} {g cap : Nat} {cur : Array Value} (hg : n0 ≤ g) (hok : ok g) (hh : W.heap[g]? = some (.cells cur 3 (0, 0))) (hn : xs.length ≤ cap) (hm : cap ≤ maxLen) (hs : cur.size = cap)
    (hc : ∀ j x, xs[j]? = some x → W.cell? ⟨g, j, none⟩ = some (.int .i64 x)) : Kd.R (Kd.int .i64) 3 W n0 ok (.slice (some ⟨g, 0, none⟩) xs.length cap) xs := by
  refine ⟨fun k hk => ?_, xs.map (Value.int .i64), ⟨by rw [List.length_map]; exact (Nat.mul_one _).symm, .inr ⟨g, cap, cur, rfl, hg, hh, hn, hm, by rw [hs]; exact (Nat.mul_one _).symm, ?_⟩⟩, ?_⟩
  · have : g = k := by simpa [Value.ownBlock] using hk
    exact this ▸ hok
  · apply List.ext_getElem?
    intro j
    have e : (Kd.int IntKind.i64).sz = 1 := rfl
    rw [e, Nat.mul_one]
    by_cases hj : j < xs.length
    · have h1 := hc j _ (List.getElem?_eq_getElem hj)
      rw [blk_cell hh] at h1
      rw [List.getElem?_take_of_lt hj, List.getElem?_map, List.getElem?_eq_getElem hj, Array.getElem?_toList, h1]
      rfl
    · rw [List.getElem?_eq_none (by simp; omega), List.getElem?_eq_none (by simp; omega)]
  · exact Kd.reps_scalar xs
theorem sort_w (W : World) (A : Option Addr) (n c : Nat) (zs : List Int) (B : Nat) (h : Kd.R (Kd.int .i64) 3 W B (fun _ => True) (.slice A n c) zs) (hl : zs.length ≤ 1000) :
    Calls Tryd.prog 49 #[.slice A n c] W fun e w' => e = .returned (.tuple #[]) ∧ Kd.R (Kd.int .i64) 3 w' B (fun _ => True) (.slice A n c) (srt zs) ∧ Below B W w' := by
  rcases row_out h with ⟨hv, rfl⟩ | ⟨g, cap, cur, hv, hg, hok, hh, hn, hm, hs, hc⟩
  · obtain ⟨rfl, rfl, rfl⟩ : A = none ∧ n = 0 ∧ c = 0 := by cases hv; exact ⟨rfl, rfl, rfl⟩
    refine (sort_nil W).mono ?_
    rintro e w' ⟨rfl, rfl⟩
    rw [show srt [] = [] by unfold srt; exact List.mergeSort_nil]
    exact ⟨rfl, h, Below.refl _ _⟩
  · obtain ⟨rfl, rfl, rfl⟩ : A = some ⟨g, 0, none⟩ ∧ n = zs.length ∧ c = cap := by cases hv; exact ⟨rfl, rfl, rfl⟩
    have hgl : g < W.heap.size := (Array.getElem?_eq_some_iff.1 hh).1
    have ht : cur.toList.take zs.length = zs.map (Value.int .i64) := by
      apply List.ext_getElem?
      intro j
      by_cases hj : j < zs.length
      · have h1 := hc j _ (List.getElem?_eq_getElem hj)
        rw [blk_cell hh] at h1
        rw [List.getElem?_take_of_lt hj, List.getElem?_map, List.getElem?_eq_getElem hj, Array.getElem?_toList, h1]
        rfl
      · rw [List.getElem?_eq_none (by simp; omega), List.getElem?_eq_none (by simp; omega)]
    refine (Any.slices_Sort_int lays189 g 0 c zs W (holds_of_blockI hh ht) hgl (by omega)).mono ?_
    rintro e w' ⟨rfl, k, os, hw⟩
    change w' = Sort.grow (Sort.putRow (Value.int .i64) (Sort.ahead W k) g 0 (srt zs).toArray) os at hw
    subst hw
    have hL : (srt zs).length = zs.length := by unfold srt; exact List.length_mergeSort zs
    have hh' := heap_sortedI (n := k) (os := os) (srt zs).toArray hh
    have ht' := take_putCellsI cur (srt zs) (by rw [hL]; omega)
    refine ⟨rfl, ?_, ?_⟩
    · rw [← hL]
      refine row_in hg trivial hh' (by rw [hL]; exact hn) hm (by simp [Sort.putCells, hs]) ?_
      intro j x hx
      have hj : j < (srt zs).length := (List.getElem?_eq_some_iff.1 hx).1
      rw [blk_cell hh', ← Array.getElem?_toList, ← List.getElem?_take_of_lt hj, ht', List.getElem?_map, hx]
      rfl
    · obtain ⟨_, _, _, g1, g2⟩ := grownBy_sortedI (w := W) (g := g) (n := k) (os := os) (srt zs).toArray
      exact ⟨rfl, rfl, rfl, g1, fun k hk => g2 k (by omega) (fun e => by injection e with e; omega)⟩
end Go.Proofs.YtcbiehinhmkjmaaDoor.NB
