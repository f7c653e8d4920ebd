-- printed by wip/tools/xprint.py (a program of this repo's over the kit's print)
import Derived.Test.YtclkphiabgajpaaProg
import Derived.Below
import Derived.Deep.Draws
import Derived.Deep.AppendLies
import Derived.Maps.AppendAt
import Derived.OwnWalk
import Derived.Laws.BytesArg
import Derived.Laws.MakeOwn
import Derived.Laws.OwnMore
import Derived.Deep.OwnRows
import Derived.Tactics
import Derived.Lib.ConvBytes
import Derived.Laws.Slices
import Derived.WalkKit
import Derived.KernelRfl
import Derived.RowKit3
import Derived.Deep.LoopGhost
import Derived.Deep.QuietTactic
import Derived.BigQuiet
import Derived.WideLaws
import Derived.Deep.DeepCutAuto
import Derived.Deep.CutBlock
import Derived.Deep.RegionHeld3
import Derived.Laws.Rows
import Derived.Lib.AppendStr
import Derived.ArgAppend
import Derived.Laws.IdiomCopy
import Derived.OrdersHeld
import Derived.Laws.BitsLemmas
import Derived.RowKit
import Derived.WalkSpells
import Derived.Test.YtclkphiabgajpaaWWords
import Derived.Test.YtclkphiabgajpaaWLast
import Derived.Test.YtclkphiabgajpaaWTab
import Derived.Test.YtclkphiabgajpaaWFour
import Derived.Test.YtclkphiabgajpaaWQPut
import Derived.Test.YtclkphiabgajpaaWApart
import Derived.Test.YtclkphiabgajpaaWArr
import Derived.Test.YtclkphiabgajpaaWZeros
import Derived.Test.YtclkphiabgajpaaWFoot
import Derived.Test.YtclkphiabgajpaaWKept
import Derived.Test.YtclkphiabgajpaaWShare
import Derived.Test.YtclkphiabgajpaaWN
import Derived.Test.YtclkphiabgajpaaWFootNe
import Derived.Test.YtclkphiabgajpaaWAt
import Derived.Test.YtclkphiabgajpaaWEqStruct
import Derived.Test.YtclkphiabgajpaaWRepsOne
import Derived.Test.YtclkphiabgajpaaWInv
import Derived.Test.YtclkphiabgajpaaWInvWords
import Derived.Test.YtclkphiabgajpaaWGuard
import Derived.Test.YtclkphiabgajpaaWNEv
import Derived.Test.YtclkphiabgajpaaWMore
namespace Go.Proofs.Ytclkphiabgajpaa.PB
open Go.RowKit Go.Proofs.YtclkphiabgajpaaW.PrintWords Go.Proofs.YtclkphiabgajpaaW.PrintLast Go.Proofs.YtclkphiabgajpaaW.PrintMore
attribute [local go_sem] max2_int min2_int max_two min_two max_three min_three max_four min_four   -- for this text's walks alone
set_option linter.unusedVariables false
set_option linter.unusedSimpArgs false



def errW : Option Int → Value
  | none => .nilIface
  | some c => .iface 0 (.int .i64 c)
theorem errW_none : errW none = .nilIface := rfl
theorem errW_some (c : Int) : errW (some c) = .iface 0 (.int .i64 c) := rfl

theorem info3 : (Try.prog.info? 3).map (fun i => (i.zero, i.size, i.bytes)) = some (some (.int .i64 0), 1, 8) := by kernel_rfl
-- the values' own types

theorem reads_len_ {α : Type} {Rr : α → List Value → Prop} {sz : Nat} {W : World} {A : Option Addr} {m m' : Nat} {ys : List α} (h : m' = m) (h2 : ReadsRow Rr sz W A m' ys) : ReadsRow Rr sz W A m ys := h ▸ h2

end Go.Proofs.Ytclkphiabgajpaa.PB
