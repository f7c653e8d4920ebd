import Derived.Test.YtcbiehinhmkjmaaDoorRows
import Derived.Test.YtcbiehinhmkjmaaDoorEB
import Derived.LaidMore
import Derived.LaidLaws
import Derived.LaidHandle
import Derived.ChangeOld
import Derived.WalkKit
import Derived.Stop.Joined
import Derived.LaidOnce
import Derived.OpenShut
namespace Go.Proofs.YtcbiehinhmkjmaaDoor.PE
open Go Go.RowKit
set_option linter.unusedVariables false
namespace L
abbrev laidL : List (String × DataW Unit) := [("wicketgate/effect.effects", Rows.laid_wicketgate_effect_effects)]
theorem door_met (os : Os) (args : Array Value) : laidMetH Tryd.prog laidL ((World.doorLaid Tryd.prog 14 os).forCall (fun _ _ => 0) ⟨#[], args, []⟩).memory :=
  laidMetH_of_parts3 (fuel := 8) (laidMet_nil _ _) (by kernel_rfl) (by kernel_rfl)
theorem one_cell {cs : List Value} {i : Nat} (h : i < cs.length) : ((cs.drop (i * 1)).take 1) = [cs[i]] := by
  rw [Nat.mul_one, List.drop_eq_getElem_cons h]
  rfl
set_option maxRecDepth 100000 in
theorem tab_of_laid {W : World} (h : laidMetH Tryd.prog laidL W) : Tab W := by
  obtain ⟨g, t, cs, fuel, p, hg, ht, hv, hd⟩ := h.funcs (n := "wicketgate/effect.effects") (List.mem_cons_self ..)
  obtain rfl := Option.some.inj ((show Tryd.prog.globalNamed "wicketgate/effect.effects" = some 0 by kernel_rfl).symm.trans hg)
  obtain rfl := Option.some.inj ((show (Tryd.prog.globals[0]?).map (·.type) = some 96 by kernel_rfl).symm.trans ht)
  have hd' : DataW.trod (funcToken Tryd.prog) Tryd.prog W 0 (fun _ => true) true fuel 96 cs.toList = some (.agg [.held [119, 105, 99, 107, 101, 116, 103, 97, 116, 101, 47, 101, 102, 102, 101, 99, 116, 46, 101, 102, 102, 101, 99, 116, 115, 36, 49], .held [119, 105, 99, 107, 101, 116, 103, 97, 116, 101, 47, 101, 102, 102, 101, 99, 116, 46, 101, 102, 102, 101, 99, 116, 115, 36, 50], .held [119, 105, 99, 107, 101, 116, 103, 97, 116, 101, 47, 101, 102, 102, 101, 99, 116, 46, 101, 102, 102, 101, 99, 116, 115, 36, 51], .held [119, 105, 99, 107, 101, 116, 103, 97, 116, 101, 47, 101, 102, 102, 101, 99, 116, 46, 101, 102, 102, 101, 99, 116, 115, 36, 52], .held [119, 105, 99, 107, 101, 116, 103, 97, 116, 101, 47, 101, 102, 102, 101, 99, 116, 46, 101, 102, 102, 101, 99, 116, 115, 36, 53], .held [119, 105, 99, 107, 101, 116, 103, 97, 116, 101, 47, 101, 102, 102, 101, 99, 116, 46, 101, 102, 102, 101, 99, 116, 115, 36, 54], .held [119, 105, 99, 107, 101, 116, 103, 97, 116, 101, 47, 101, 102, 102, 101, 99, 116, 46, 101, 102, 102, 101, 99, 116, 115, 36, 55], .held [119, 105, 99, 107, 101, 116, 103, 97, 116, 101, 47, 101, 102, 102, 101, 99, 116, 46, 101, 102, 102, 101, 99, 116, 115, 36, 56]], p) := hd
  obtain ⟨xs, m, rfl, hx, hl, hxl, hel⟩ := DataW.trod_array Tryd.underlying96 hd'
  have c46 : Tryd.prog.cellsOf 95 = 1 := by kernel_rfl
  have c47 : Tryd.prog.cellsOf 96 = 8 := by kernel_rfl
  rw [c47] at hl
  rw [c46] at hel
  simp only [Prod.mk.injEq, DataW.agg.injEq] at hx
  have hm := hx.1
  clear hx
  have key : ∀ (i : Nat) (hi : i < 8) (b : UInt8) (r : List UInt8) (f0 : FuncId), ([.held [119, 105, 99, 107, 101, 116, 103, 97, 116, 101, 47, 101, 102, 102, 101, 99, 116, 46, 101, 102, 102, 101, 99, 116, 115, 36, 49], .held [119, 105, 99, 107, 101, 116, 103, 97, 116, 101, 47, 101, 102, 102, 101, 99, 116, 46, 101, 102, 102, 101, 99, 116, 115, 36, 50], .held [119, 105, 99, 107, 101, 116, 103, 97, 116, 101, 47, 101, 102, 102, 101, 99, 116, 46, 101, 102, 102, 101, 99, 116, 115, 36, 51], .held [119, 105, 99, 107, 101, 116, 103, 97, 116, 101, 47, 101, 102, 102, 101, 99, 116, 46, 101, 102, 102, 101, 99, 116, 115, 36, 52], .held [119, 105, 99, 107, 101, 116, 103, 97, 116, 101, 47, 101, 102, 102, 101, 99, 116, 46, 101, 102, 102, 101, 99, 116, 115, 36, 53], .held [119, 105, 99, 107, 101, 116, 103, 97, 116, 101, 47, 101, 102, 102, 101, 99, 116, 46, 101, 102, 102, 101, 99, 116, 115, 36, 54], .held [119, 105, 99, 107, 101, 116, 103, 97, 116, 101, 47, 101, 102, 102, 101, 99, 116, 46, 101, 102, 102, 101, 99, 116, 115, 36, 55], .held [119, 105, 99, 107, 101, 116, 103, 97, 116, 101, 47, 101, 102, 102, 101, 99, 116, 46, 101, 102, 102, 101, 99, 116, 115, 36, 56]] : List (DataW (List UInt8)))[i]? = some (.held (b :: r)) →
      ((List.range Tryd.prog.funcs.size).filter fun f => (Tryd.prog.funcs[f]?).any (·.name.toUTF8.data.toList == b :: r)) = [f0] → cs.toList[i]? = some (.func (.func f0) #[] #[]) := by
    intro i hi b r f0 hb hone
    have hlt : i < cs.toList.length := by omega
    have h1 := hel i hi
    rw [one_cell hlt] at h1
    rw [hm, List.getElem?_map] at hb
    have hxi : i < xs.length := by omega
    rw [List.getElem?_eq_getElem hxi] at h1 hb
    simp only [Option.map_some, Option.some.injEq] at hb
    have h2 : DataW.trod (funcToken Tryd.prog) Tryd.prog W 0 (fun _ => true) true m 95 [cs.toList[i]] = some (.held (b :: r), (xs[i]).2) := by
      rw [h1, ← hb]
    have := func_of_trod (f0 := f0) Tryd.underlying95 hone h2
    rw [List.getElem?_eq_getElem hlt, this]
  have q0 := key 0 (by omega) _ _ 88 rfl (by kernel_rfl)
  have q1 := key 1 (by omega) _ _ 89 rfl (by kernel_rfl)
  have q2 := key 2 (by omega) _ _ 90 rfl (by kernel_rfl)
  have q3 := key 3 (by omega) _ _ 91 rfl (by kernel_rfl)
  have q4 := key 4 (by omega) _ _ 92 rfl (by kernel_rfl)
  have q5 := key 5 (by omega) _ _ 94 rfl (by kernel_rfl)
  have q6 := key 6 (by omega) _ _ 95 rfl (by kernel_rfl)
  have q7 := key 7 (by omega) _ _ 96 rfl (by kernel_rfl)
  have hc : cs = #[.func (.func 88) #[] #[], .func (.func 89) #[] #[], .func (.func 90) #[] #[], .func (.func 91) #[] #[], .func (.func 92) #[] #[], .func (.func 94) #[] #[], .func (.func 95) #[] #[], .func (.func 96) #[] #[]] := by
    apply Array.toList_inj.1
    apply List.ext_getElem?
    intro i
    obtain h8 | h8 := Nat.lt_or_ge i 8
    · obtain rfl | rfl | rfl | rfl | rfl | rfl | rfl | rfl : i = 0 ∨ i = 1 ∨ i = 2 ∨ i = 3 ∨ i = 4 ∨ i = 5 ∨ i = 6 ∨ i = 7 := by omega
      all_goals first | exact q0 | exact q1 | exact q2 | exact q3 | exact q4 | exact q5 | exact q6 | exact q7
    · rw [List.getElem?_eq_none (by omega), List.getElem?_eq_none (by simpa using h8)]
  subst hc
  have hcell := fun i => World.var?_cell hg hv i
  exact ⟨World.block_lt_of_cell? W ⟨0, 0, none⟩ (hcell 0), hcell⟩
end L
end Go.Proofs.YtcbiehinhmkjmaaDoor.PE
