-- printed by wip/tools/xprint.py (a program of this repo's over the kit's print)
import Derived.Test.YtbpgpbbpeppjmaaProg
import Derived.Below
import Derived.Deep.Draws
import Derived.Deep.AppendLies
import Derived.Maps.AppendAt
import Derived.OwnWalk
import Derived.Laws.BytesArg
import Derived.Laws.MakeOwn
import Derived.Laws.OwnMore
import Derived.Deep.OwnRows
import Derived.Tactics
import Derived.Lib.ConvBytes
import Derived.Laws.Slices
import Derived.WalkKit
import Derived.KernelRfl
import Derived.RowKit3
import Derived.Deep.LoopGhost
import Derived.Deep.QuietTactic
import Derived.BigQuiet
import Derived.WideLaws
import Derived.Deep.DeepCutAuto
import Derived.Deep.CutBlock
import Derived.Deep.RegionHeld3
import Derived.Laws.Rows
import Derived.Lib.AppendStr
import Derived.ArgAppend
import Derived.Laws.IdiomCopy
import Derived.OrdersHeld
import Derived.Laws.BitsLemmas
import Derived.RowKit
import Derived.WalkSpells
import Derived.Test.YtbpgpbbpeppjmaaSG
import Derived.Test.YtbpgpbbpeppjmaaWWords
import Derived.Test.YtbpgpbbpeppjmaaWLast
import Derived.Test.YtbpgpbbpeppjmaaWTab
import Derived.Test.YtbpgpbbpeppjmaaWFour
import Derived.Test.YtbpgpbbpeppjmaaWQPut
import Derived.Test.YtbpgpbbpeppjmaaWApart
import Derived.Test.YtbpgpbbpeppjmaaWArr
import Derived.Test.YtbpgpbbpeppjmaaWZeros
import Derived.Test.YtbpgpbbpeppjmaaWFoot
import Derived.Test.YtbpgpbbpeppjmaaWKept
import Derived.Test.YtbpgpbbpeppjmaaWShare
import Derived.Test.YtbpgpbbpeppjmaaWN
import Derived.Test.YtbpgpbbpeppjmaaWFootNe
import Derived.Test.YtbpgpbbpeppjmaaWAt
import Derived.Test.YtbpgpbbpeppjmaaWEqStruct
import Derived.Test.YtbpgpbbpeppjmaaWRepsOne
import Derived.Test.YtbpgpbbpeppjmaaWInv
import Derived.Test.YtbpgpbbpeppjmaaWInvWords
import Derived.Test.YtbpgpbbpeppjmaaWGuard
import Derived.Test.YtbpgpbbpeppjmaaWNEv
import Derived.Test.YtbpgpbbpeppjmaaWMore
namespace Go.Proofs.Ytbpgpbbpeppjmaa.PD
open Go.RowKit Go.Proofs.YtbpgpbbpeppjmaaW.PrintWords Go.Proofs.YtbpgpbbpeppjmaaW.PrintLast Go.Proofs.YtbpgpbbpeppjmaaW.PrintMore
attribute [local go_sem] max2_int min2_int max_two min_two max_three min_three max_four min_four   -- for this text's walks alone
set_option linter.unusedVariables false
set_option linter.unusedSimpArgs false



def errW : Option Int → Value
  | none => .nilIface
  | some c => .iface 0 (.int .i64 c)
theorem errW_none : errW none = .nilIface := rfl
theorem errW_some (c : Int) : errW (some c) = .iface 0 (.int .i64 c) := rfl

theorem info4 : (Try.prog.info? 4).map (fun i => (i.zero, i.size, i.bytes)) = some (some (.bool false), 1, 1) := by kernel_rfl
-- the values' own types

theorem reads_len_ {α : Type} {Rr : α → List Value → Prop} {sz : Nat} {W : World} {A : Option Addr} {m m' : Nat} {ys : List α} (h : m' = m) (h2 : ReadsRow Rr sz W A m' ys) : ReadsRow Rr sz W A m ys := h ▸ h2

theorem pbN_ : type_of% @pw_below_drewN := @pw_below_drewN
theorem bkN_ : type_of% @blk_drewN := @blk_drewN
theorem bkD_ : type_of% @blk_drew := @blk_drew
theorem bkA_ : type_of% @blk_alloc := @blk_alloc
theorem blA_ : type_of% @below_alloc := @below_alloc
theorem blD_ : type_of% @below_drew1 := @below_drew1
theorem bkF_ : type_of% @blk_frozen := @blk_frozen
theorem bkC_ : type_of% @blk_cell := @blk_cell
theorem blZ_ : type_of% @below_size := @below_size
theorem blP_ : type_of% @below_step := @below_step
theorem bkB_ : type_of% @blk_below := @blk_below
theorem blS_ : type_of% @below_set := @below_set
theorem Amk_ : type_of% @Aside0.mk := @Aside0.mk

theorem PT4_ {W : World} {g t : Nat} {z0 z1 z2 z3 x0 x1 x2 x3 : Value} (h : W.heap[g]? = some (.cells #[z0, z1, z2, z3] t (0, 0))) : (((((W.setCell ⟨g, 0, none⟩ x0).setCell ⟨g, 1, none⟩ x1).setCell ⟨g, 2, none⟩ x2).setCell ⟨g, 3, none⟩ x3)).heap[g]? = some (.cells #[x0, x1, x2, x3] t (0, 0)) := by
  replace h := blk_set h 0 x0
  replace h := blk_set h 1 x1
  replace h := blk_set h 2 x2
  replace h := blk_set h 3 x3
  simpa using h
theorem RF4_ {α : Type} {d : Kd α} {e base : Nat} {ok : Nat → Prop} {w : World} {v : Value} {xs : List α} {g : Nat} (h : d.R e w base ok v xs) (hok : ∀ k, ok k → k ≠ g) (x0 x1 x2 x3 : Value) : d.R e (((((w.setCell ⟨g, 0, none⟩ x0).setCell ⟨g, 1, none⟩ x1).setCell ⟨g, 2, none⟩ x2).setCell ⟨g, 3, none⟩ x3)) base ok v xs := Kd.R_far (p := ⟨g, 3, none⟩) (Kd.R_far (p := ⟨g, 2, none⟩) (Kd.R_far (p := ⟨g, 1, none⟩) (Kd.R_far (p := ⟨g, 0, none⟩) h hok x0) hok x1) hok x2) hok x3
theorem PT6_ {W : World} {g t : Nat} {z0 z1 z2 z3 z4 z5 x0 x1 x2 x3 x4 x5 : Value} (h : W.heap[g]? = some (.cells #[z0, z1, z2, z3, z4, z5] t (0, 0))) : (((((((W.setCell ⟨g, 0, none⟩ x0).setCell ⟨g, 1, none⟩ x1).setCell ⟨g, 2, none⟩ x2).setCell ⟨g, 3, none⟩ x3).setCell ⟨g, 4, none⟩ x4).setCell ⟨g, 5, none⟩ x5)).heap[g]? = some (.cells #[x0, x1, x2, x3, x4, x5] t (0, 0)) := by
  replace h := blk_set h 0 x0
  replace h := blk_set h 1 x1
  replace h := blk_set h 2 x2
  replace h := blk_set h 3 x3
  replace h := blk_set h 4 x4
  replace h := blk_set h 5 x5
  simpa using h
theorem RF6_ {α : Type} {d : Kd α} {e base : Nat} {ok : Nat → Prop} {w : World} {v : Value} {xs : List α} {g : Nat} (h : d.R e w base ok v xs) (hok : ∀ k, ok k → k ≠ g) (x0 x1 x2 x3 x4 x5 : Value) : d.R e (((((((w.setCell ⟨g, 0, none⟩ x0).setCell ⟨g, 1, none⟩ x1).setCell ⟨g, 2, none⟩ x2).setCell ⟨g, 3, none⟩ x3).setCell ⟨g, 4, none⟩ x4).setCell ⟨g, 5, none⟩ x5)) base ok v xs := Kd.R_far (p := ⟨g, 5, none⟩) (Kd.R_far (p := ⟨g, 4, none⟩) (Kd.R_far (p := ⟨g, 3, none⟩) (Kd.R_far (p := ⟨g, 2, none⟩) (Kd.R_far (p := ⟨g, 1, none⟩) (Kd.R_far (p := ⟨g, 0, none⟩) h hok x0) hok x1) hok x2) hok x3) hok x4) hok x5
theorem PT9_ {W : World} {g t : Nat} {z0 z1 z2 z3 z4 z5 z6 z7 z8 x0 x1 x2 x3 x4 x5 x6 x7 x8 : Value} (h : W.heap[g]? = some (.cells #[z0, z1, z2, z3, z4, z5, z6, z7, z8] t (0, 0))) : ((((((((((W.setCell ⟨g, 0, none⟩ x0).setCell ⟨g, 1, none⟩ x1).setCell ⟨g, 2, none⟩ x2).setCell ⟨g, 3, none⟩ x3).setCell ⟨g, 4, none⟩ x4).setCell ⟨g, 5, none⟩ x5).setCell ⟨g, 6, none⟩ x6).setCell ⟨g, 7, none⟩ x7).setCell ⟨g, 8, none⟩ x8)).heap[g]? = some (.cells #[x0, x1, x2, x3, x4, x5, x6, x7, x8] t (0, 0)) := by
  replace h := blk_set h 0 x0
  replace h := blk_set h 1 x1
  replace h := blk_set h 2 x2
  replace h := blk_set h 3 x3
  replace h := blk_set h 4 x4
  replace h := blk_set h 5 x5
  replace h := blk_set h 6 x6
  replace h := blk_set h 7 x7
  replace h := blk_set h 8 x8
  simpa using h
theorem RF9_ {α : Type} {d : Kd α} {e base : Nat} {ok : Nat → Prop} {w : World} {v : Value} {xs : List α} {g : Nat} (h : d.R e w base ok v xs) (hok : ∀ k, ok k → k ≠ g) (x0 x1 x2 x3 x4 x5 x6 x7 x8 : Value) : d.R e ((((((((((w.setCell ⟨g, 0, none⟩ x0).setCell ⟨g, 1, none⟩ x1).setCell ⟨g, 2, none⟩ x2).setCell ⟨g, 3, none⟩ x3).setCell ⟨g, 4, none⟩ x4).setCell ⟨g, 5, none⟩ x5).setCell ⟨g, 6, none⟩ x6).setCell ⟨g, 7, none⟩ x7).setCell ⟨g, 8, none⟩ x8)) base ok v xs := Kd.R_far (p := ⟨g, 8, none⟩) (Kd.R_far (p := ⟨g, 7, none⟩) (Kd.R_far (p := ⟨g, 6, none⟩) (Kd.R_far (p := ⟨g, 5, none⟩) (Kd.R_far (p := ⟨g, 4, none⟩) (Kd.R_far (p := ⟨g, 3, none⟩) (Kd.R_far (p := ⟨g, 2, none⟩) (Kd.R_far (p := ⟨g, 1, none⟩) (Kd.R_far (p := ⟨g, 0, none⟩) h hok x0) hok x1) hok x2) hok x3) hok x4) hok x5) hok x6) hok x7) hok x8

theorem RA_ : type_of% @Kd.R_alloc := @Kd.R_alloc
theorem RN_ : type_of% @Kd.R_drewN := @Kd.R_drewN
theorem RD_ : type_of% @Kd.R_drew := @Kd.R_drew
theorem RB_ : type_of% @Kd.R_below := @Kd.R_below
theorem RM_ : type_of% @Kd.R_mono := @Kd.R_mono
theorem RT_ : type_of% @Kd.R_types := @Kd.R_types
theorem RE_ : type_of% @Kd.R_reads' := @Kd.R_reads'

end Go.Proofs.Ytbpgpbbpeppjmaa.PD
