-- printed by wip/tools/xprint.py (a program of this repo's over the kit's print)
import Derived.Test.YtbhkaohpfekbcaaDoorProg
import Derived.Below
import Derived.Deep.Draws
import Derived.Deep.AppendLies
import Derived.Maps.AppendAt
import Derived.OwnWalk
import Derived.Laws.BytesArg
import Derived.Laws.MakeOwn
import Derived.Laws.OwnMore
import Derived.Deep.OwnRows
import Derived.Tactics
import Derived.Lib.ConvBytes
import Derived.Laws.Slices
import Derived.WalkKit
import Derived.KernelRfl
import Derived.RowKit3
import Derived.Deep.LoopGhost
import Derived.Deep.QuietTactic
import Derived.BigQuiet
import Derived.WideLaws
import Derived.Deep.DeepCutAuto
import Derived.Deep.CutBlock
import Derived.Deep.RegionHeld3
import Derived.Laws.Rows
import Derived.Lib.AppendStr
import Derived.ArgAppend
import Derived.Laws.IdiomCopy
import Derived.OrdersHeld
import Derived.Laws.BitsLemmas
import Derived.RowKit
import Derived.Test.YtbhkaohpfekbcaaDoorEF
import Derived.Test.YtbhkaohpfekbcaaDoorWWords
import Derived.Test.YtbhkaohpfekbcaaDoorWLast
import Derived.Test.YtbhkaohpfekbcaaDoorWTab
import Derived.Test.YtbhkaohpfekbcaaDoorWFour
import Derived.Test.YtbhkaohpfekbcaaDoorWQPut
import Derived.Test.YtbhkaohpfekbcaaDoorWApart
import Derived.Test.YtbhkaohpfekbcaaDoorWArr
import Derived.Test.YtbhkaohpfekbcaaDoorWZeros
import Derived.Test.YtbhkaohpfekbcaaDoorWFoot
import Derived.Test.YtbhkaohpfekbcaaDoorWKept
import Derived.Test.YtbhkaohpfekbcaaDoorWShare
import Derived.Test.YtbhkaohpfekbcaaDoorWN
import Derived.Test.YtbhkaohpfekbcaaDoorWFootNe
import Derived.Test.YtbhkaohpfekbcaaDoorWAt
import Derived.Test.YtbhkaohpfekbcaaDoorWEqStruct
import Derived.Test.YtbhkaohpfekbcaaDoorWRepsOne
import Derived.Test.YtbhkaohpfekbcaaDoorWInv
import Derived.Test.YtbhkaohpfekbcaaDoorWInvWords
import Derived.Test.YtbhkaohpfekbcaaDoorWGuard
import Derived.Test.YtbhkaohpfekbcaaDoorWNEv
import Derived.Test.YtbhkaohpfekbcaaDoorWMore
namespace Go.Proofs.YtbhkaohpfekbcaaDoor.PFc
open Go.RowKit Go.Proofs.YtbhkaohpfekbcaaDoorW.PrintWords Go.Proofs.YtbhkaohpfekbcaaDoorW.PrintLast Go.Proofs.YtbhkaohpfekbcaaDoorW.PrintMore
attribute [local go_sem] max2_int min2_int max_two min_two max_three min_three max_four min_four   -- for this text's walks alone
set_option linter.unusedVariables false
set_option linter.unusedSimpArgs false



def errW : Option Int → Value
  | none => .nilIface
  | some c => .iface 0 (.int .i64 c)
theorem errW_none : errW none = .nilIface := rfl
theorem errW_some (c : Int) : errW (some c) = .iface 0 (.int .i64 c) := rfl

-- the values' own types

end Go.Proofs.YtbhkaohpfekbcaaDoor.PFc
