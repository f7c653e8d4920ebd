-- printed by wip/tools/xprint.py (a program of this repo's over the kit's print)
import Derived.Test.YtbpgpbbpeppjmaaProg
import Derived.Below
import Derived.Deep.Draws
import Derived.Deep.AppendLies
import Derived.Maps.AppendAt
import Derived.OwnWalk
import Derived.Laws.BytesArg
import Derived.Laws.MakeOwn
import Derived.Laws.OwnMore
import Derived.Deep.OwnRows
import Derived.Tactics
import Derived.Lib.ConvBytes
import Derived.Laws.Slices
import Derived.WalkKit
import Derived.KernelRfl
import Derived.RowKit3
import Derived.Deep.LoopGhost
import Derived.Deep.QuietTactic
import Derived.BigQuiet
import Derived.WideLaws
import Derived.Deep.DeepCutAuto
import Derived.Deep.CutBlock
import Derived.Deep.RegionHeld3
import Derived.Laws.Rows
import Derived.Lib.AppendStr
import Derived.ArgAppend
import Derived.Laws.IdiomCopy
import Derived.OrdersHeld
import Derived.Laws.BitsLemmas
import Derived.RowKit
import Derived.WalkSpells
import Derived.Test.YtbpgpbbpeppjmaaWWords
import Derived.Test.YtbpgpbbpeppjmaaWLast
import Derived.Test.YtbpgpbbpeppjmaaWTab
import Derived.Test.YtbpgpbbpeppjmaaWFour
import Derived.Test.YtbpgpbbpeppjmaaWQPut
import Derived.Test.YtbpgpbbpeppjmaaWApart
import Derived.Test.YtbpgpbbpeppjmaaWArr
import Derived.Test.YtbpgpbbpeppjmaaWZeros
import Derived.Test.YtbpgpbbpeppjmaaWFoot
import Derived.Test.YtbpgpbbpeppjmaaWKept
import Derived.Test.YtbpgpbbpeppjmaaWShare
import Derived.Test.YtbpgpbbpeppjmaaWN
import Derived.Test.YtbpgpbbpeppjmaaWFootNe
import Derived.Test.YtbpgpbbpeppjmaaWAt
import Derived.Test.YtbpgpbbpeppjmaaWEqStruct
import Derived.Test.YtbpgpbbpeppjmaaWRepsOne
import Derived.Test.YtbpgpbbpeppjmaaWInv
import Derived.Test.YtbpgpbbpeppjmaaWInvWords
import Derived.Test.YtbpgpbbpeppjmaaWGuard
import Derived.Test.YtbpgpbbpeppjmaaWNEv
import Derived.Test.YtbpgpbbpeppjmaaWMore
namespace Go.Proofs.Ytbpgpbbpeppjmaa.PB
open Go.RowKit Go.Proofs.YtbpgpbbpeppjmaaW.PrintWords Go.Proofs.YtbpgpbbpeppjmaaW.PrintLast Go.Proofs.YtbpgpbbpeppjmaaW.PrintMore
attribute [local go_sem] max2_int min2_int max_two min_two max_three min_three max_four min_four   -- for this text's walks alone
set_option linter.unusedVariables false
set_option linter.unusedSimpArgs false



def errW : Option Int → Value
  | none => .nilIface
  | some c => .iface 0 (.int .i64 c)
theorem errW_none : errW none = .nilIface := rfl
theorem errW_some (c : Int) : errW (some c) = .iface 0 (.int .i64 c) := rfl

theorem info4 : (Try.prog.info? 4).map (fun i => (i.zero, i.size, i.bytes)) = some (some (.bool false), 1, 1) := by kernel_rfl
-- the values' own types

theorem reads_len_ {α : Type} {Rr : α → List Value → Prop} {sz : Nat} {W : World} {A : Option Addr} {m m' : Nat} {ys : List α} (h : m' = m) (h2 : ReadsRow Rr sz W A m' ys) : ReadsRow Rr sz W A m ys := h ▸ h2

end Go.Proofs.Ytbpgpbbpeppjmaa.PB
