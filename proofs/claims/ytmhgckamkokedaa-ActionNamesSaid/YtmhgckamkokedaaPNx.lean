-- printed by wip/tools/xprint.py (a program of this repo's over the kit's print)
import Derived.Test.YtmhgckamkokedaaPNx0
import Derived.Test.YtmhgckamkokedaaPNx1
import Derived.Test.YtmhgckamkokedaaPNx2
import Derived.Test.YtmhgckamkokedaaPNx3
namespace Go.Proofs.Ytmhgckamkokedaa.PN
open Go.RowKit Go.Proofs.YtmhgckamkokedaaW.PrintWords Go.Proofs.YtmhgckamkokedaaW.PrintLast Go.Proofs.YtmhgckamkokedaaW.PrintMore
attribute [local go_sem] max2_int min2_int max_two min_two max_three min_three max_four min_four   -- for this text's walks alone
set_option linter.unusedVariables false
set_option linter.unusedSimpArgs false

end Go.Proofs.Ytmhgckamkokedaa.PN
