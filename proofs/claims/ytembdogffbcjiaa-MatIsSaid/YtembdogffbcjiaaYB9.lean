/- Lemmas of the row, laid by a program. -/
import Derived.Test.YtembdogffbcjiaaYB0
import Derived.Test.YtembdogffbcjiaaYB2
import Derived.Test.YtembdogffbcjiaaYB4
namespace Go.Proofs.Ytembdogffbcjiaa.B
open Go.RowKit Go.Proofs.YtembdogffbcjiaaW.PrintWords Go.Proofs.YtembdogffbcjiaaW.PrintLast Go.Proofs.YtembdogffbcjiaaW.PrintMore
attribute [local go_sem] max2_int min2_int max_two min_two max_three min_three max_four min_four
set_option linter.unusedVariables false
set_option linter.unusedSimpArgs false
def sum_values_1.f (a0:Int) (l1:List Int):Option (Int × Int):=if 0≤a0 then (if a0<(l1.length:Int) then ((fix_Clamp.f (rd l1 a0)).bind fun bt328=>((wide_Of.f bt328.1).bind fun bt330=>(some (bt330.1,bt330.2)))) else (none)) else (none)
end Go.Proofs.Ytembdogffbcjiaa.B
