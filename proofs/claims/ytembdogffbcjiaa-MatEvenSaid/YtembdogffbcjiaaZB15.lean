/- Lemmas that the row leans on; laid by a program of this project out of longer texts: what the row does not name is left out. -/
import Derived.Test.YtembdogffbcjiaaZB0
import Derived.Test.YtembdogffbcjiaaZB1
import Derived.Test.YtembdogffbcjiaaZB11
import Derived.Test.YtembdogffbcjiaaZB13
import Derived.Test.YtembdogffbcjiaaZB14
import Derived.Test.YtembdogffbcjiaaZSClo
namespace Go.Proofs.Ytembdogffbcjiaa.B
open Go.RowKit Go.Proofs.YtembdogffbcjiaaW.PrintWords Go.Proofs.YtembdogffbcjiaaW.PrintLast Go.Proofs.YtembdogffbcjiaaW.PrintMore
attribute [local go_sem] max2_int min2_int max_two min_two max_three min_three max_four min_four
set_option linter.unusedVariables false
set_option linter.unusedSimpArgs false
attribute [local go_sem high] eqA50
end Go.Proofs.Ytembdogffbcjiaa.B
