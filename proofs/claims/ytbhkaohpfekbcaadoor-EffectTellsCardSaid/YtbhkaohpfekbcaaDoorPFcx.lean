-- printed by wip/tools/xprint.py (a program of this repo's over the kit's print)
import Derived.Test.YtbhkaohpfekbcaaDoorPFcx0
import Derived.Test.YtbhkaohpfekbcaaDoorPFcx1
import Derived.Test.YtbhkaohpfekbcaaDoorPFcx2
namespace Go.Proofs.YtbhkaohpfekbcaaDoor.PFc
open Go.RowKit Go.Proofs.YtbhkaohpfekbcaaDoorW.PrintWords Go.Proofs.YtbhkaohpfekbcaaDoorW.PrintLast Go.Proofs.YtbhkaohpfekbcaaDoorW.PrintMore
attribute [local go_sem] max2_int min2_int max_two min_two max_three min_three max_four min_four   -- for this text's walks alone
set_option linter.unusedVariables false
set_option linter.unusedSimpArgs false

end Go.Proofs.YtbhkaohpfekbcaaDoor.PFc
