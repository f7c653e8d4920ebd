-- printed by wip/tools/xprint.py (a program of this repo's over the kit's print)
import Derived.Test.YtcpabgijmknldaaDoorPNx0
import Derived.Test.YtcpabgijmknldaaDoorPNx1
import Derived.Test.YtcpabgijmknldaaDoorPNx2
import Derived.Test.YtcpabgijmknldaaDoorPNx3
import Derived.Test.YtcpabgijmknldaaDoorPNx4
namespace Go.Proofs.YtcpabgijmknldaaDoor.PN
open Go.RowKit Go.Proofs.YtcpabgijmknldaaDoorW.PrintWords Go.Proofs.YtcpabgijmknldaaDoorW.PrintLast Go.Proofs.YtcpabgijmknldaaDoorW.PrintMore
attribute [local go_sem] max2_int min2_int max_two min_two max_three min_three max_four min_four   -- for this text's walks alone
set_option linter.unusedVariables false
set_option linter.unusedSimpArgs false

end Go.Proofs.YtcpabgijmknldaaDoor.PN
