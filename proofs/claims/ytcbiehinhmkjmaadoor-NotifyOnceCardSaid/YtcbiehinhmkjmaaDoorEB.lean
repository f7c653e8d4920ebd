import Derived.Test.YtcbiehinhmkjmaaDoorEA
import Derived.Deep.RegionHeld3
namespace Go.Proofs.YtcbiehinhmkjmaaDoor.PE
open Go.RowKit Go.Proofs.YtcbiehinhmkjmaaDoorW.PrintWords Go.Proofs.YtcbiehinhmkjmaaDoorW.PrintLast Go.Proofs.YtcbiehinhmkjmaaDoorW.PrintMore
attribute [local go_sem] max2_int min2_int max_two min_two
set_option linter.unusedVariables false
set_option linter.unusedSimpArgs false
namespace L
/-- The table of the actions' effects, as the program's start lays it. -/
def Tab (w : World) : Prop := 0 < w.heap.size ∧ ∀ i : Nat, w.cell? ⟨0, i, none⟩ = (#[.func (.func 88) #[] #[], .func (.func 89) #[] #[], .func (.func 90) #[] #[], .func (.func 91) #[] #[], .func (.func 92) #[] #[], .func (.func 94) #[] #[], .func (.func 95) #[] #[], .func (.func 96) #[] #[]] : Array Value)[i]?
theorem Tab.cell {w : World} (h : Tab w) (i : Nat) : w.cell? ⟨0, i, none⟩ = (#[.func (.func 88) #[] #[], .func (.func 89) #[] #[], .func (.func 90) #[] #[], .func (.func 91) #[] #[], .func (.func 92) #[] #[], .func (.func 94) #[] #[], .func (.func 95) #[] #[], .func (.func 96) #[] #[]] : Array Value)[i]? := h.2 i
theorem Tab.pos {w : World} (h : Tab w) : 0 < w.heap.size := h.1
theorem Tab.below {w w' : World} (h : Tab w) (hb : Below w.heap.size w w') : Tab w' :=
  ⟨Nat.lt_of_lt_of_le h.1 hb.size, fun i => (hb.cell (p := ⟨0, i, none⟩) h.1).trans (h.2 i)⟩
theorem Tab.alloc {w : World} (h : Tab w) (o : Obj) : Tab (w.alloc o) := h.below ((Below.refl _ _).alloc (Nat.le_refl _) o)
theorem Tab.drewN {w : World} (h : Tab w) (n : Nat) : Tab (w.drewN n) := h.below (pw_below_drewN (Below.refl _ _) n)
theorem Tab.drew {w : World} (h : Tab w) : Tab w.drew := h.below (below_drew (Below.refl _ _))
theorem Tab.set {w W : World} {g i : Nat} (h : Tab W) (hT : Aside0 (Tab w)) (hg : Aside0 (w.heap.size ≤ g)) (v : Value) : Tab (W.setCell ⟨g, i, none⟩ v) :=
  ⟨by simpa [World.setCell] using h.1, fun j => by
    have hp := hT.out.1
    have hq := hg.out
    have hb : Below g W (W.setCell ⟨g, i, none⟩ v) := (Below.refl _ _).setCell (p := ⟨g, i, none⟩) (Nat.le_refl _) v
    exact (hb.cell (p := ⟨0, j, none⟩) (show 0 < g by omega)).trans (h.2 j)⟩
theorem below_undrew {w w' : World} (h : Below w.drew.heap.size w.drew w') : Below w.heap.size w w' := ⟨h.os, h.tape, h.output, h.size, h.block⟩
def RetE2 (x : Ef) (er : Int) (w : World) (e : Ending) (w' : World) : Prop := e = .returned (.tuple #[.agg #[.int .i64 x.en, .bool x.ru, .int .i64 x.re, .bool x.si, .int .u16 x.co, .bool x.lo, .int .i64 x.as_], .int .i64 er]) ∧ Below w.heap.size w w'
end L
end Go.Proofs.YtcbiehinhmkjmaaDoor.PE
