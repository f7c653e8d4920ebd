-- printed by wip/tools/xprint.py (a program of this repo's over the kit's print)
import Derived.Test.YtmhgckamkokedaaProg
import Derived.Below
import Derived.Deep.Draws
import Derived.Deep.AppendLies
import Derived.Maps.AppendAt
import Derived.OwnWalk
import Derived.Laws.BytesArg
import Derived.Laws.MakeOwn
import Derived.Laws.OwnMore
import Derived.Deep.OwnRows
import Derived.Tactics
import Derived.Lib.ConvBytes
import Derived.Laws.Slices
import Derived.WalkKit
import Derived.KernelRfl
import Derived.RowKit3
import Derived.Deep.LoopGhost
import Derived.Deep.QuietTactic
import Derived.BigQuiet
import Derived.WideLaws
import Derived.Deep.DeepCutAuto
import Derived.Deep.CutBlock
import Derived.Deep.RegionHeld3
import Derived.Laws.Rows
import Derived.Lib.AppendStr
import Derived.ArgAppend
import Derived.Laws.IdiomCopy
import Derived.OrdersHeld
import Derived.Laws.BitsLemmas
import Derived.RowKit
import Derived.Test.YtmhgckamkokedaaAC
import Derived.Test.YtmhgckamkokedaaWWords
import Derived.Test.YtmhgckamkokedaaWLast
import Derived.Test.YtmhgckamkokedaaWTab
import Derived.Test.YtmhgckamkokedaaWFour
import Derived.Test.YtmhgckamkokedaaWQPut
import Derived.Test.YtmhgckamkokedaaWApart
import Derived.Test.YtmhgckamkokedaaWArr
import Derived.Test.YtmhgckamkokedaaWZeros
import Derived.Test.YtmhgckamkokedaaWFoot
import Derived.Test.YtmhgckamkokedaaWKept
import Derived.Test.YtmhgckamkokedaaWShare
import Derived.Test.YtmhgckamkokedaaWN
import Derived.Test.YtmhgckamkokedaaWFootNe
import Derived.Test.YtmhgckamkokedaaWAt
import Derived.Test.YtmhgckamkokedaaWEqStruct
import Derived.Test.YtmhgckamkokedaaWRepsOne
import Derived.Test.YtmhgckamkokedaaWInv
import Derived.Test.YtmhgckamkokedaaWInvWords
import Derived.Test.YtmhgckamkokedaaWGuard
import Derived.Test.YtmhgckamkokedaaWNEv
import Derived.Test.YtmhgckamkokedaaWMore
namespace Go.Proofs.Ytmhgckamkokedaa.PC
open Go.RowKit Go.Proofs.YtmhgckamkokedaaW.PrintWords Go.Proofs.YtmhgckamkokedaaW.PrintLast Go.Proofs.YtmhgckamkokedaaW.PrintMore
attribute [local go_sem] max2_int min2_int max_two min_two max_three min_three max_four min_four   -- for this text's walks alone
set_option linter.unusedVariables false
set_option linter.unusedSimpArgs false



def errW : Option Int → Value
  | none => .nilIface
  | some c => .iface 0 (.int .i64 c)
theorem errW_none : errW none = .nilIface := rfl
theorem errW_some (c : Int) : errW (some c) = .iface 0 (.int .i64 c) := rfl

theorem info9 : (Try.prog.info? 9).map (fun i => (i.zero, i.size, i.bytes)) = some (some (.string ⟨#[]⟩), 1, 16) := by kernel_rfl
theorem info32 : (Try.prog.info? 32).map (fun i => (i.zero, i.size, i.bytes)) = some (some (.int .u32 0), 1, 4) := by kernel_rfl
-- the values' own types

theorem reads_len_ {α : Type} {Rr : α → List Value → Prop} {sz : Nat} {W : World} {A : Option Addr} {m m' : Nat} {ys : List α} (h : m' = m) (h2 : ReadsRow Rr sz W A m' ys) : ReadsRow Rr sz W A m ys := h ▸ h2

end Go.Proofs.Ytmhgckamkokedaa.PC
