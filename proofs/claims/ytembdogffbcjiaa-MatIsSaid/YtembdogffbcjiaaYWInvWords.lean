/- Lemmas of the row, laid by a program. -/
import Derived.Test.YtembdogffbcjiaaYWInv
import Derived.Test.YtembdogffbcjiaaYWFootNe
namespace Go.Proofs.YtembdogffbcjiaaW.PrintWords
open Go.RowKit
end Go.Proofs.YtembdogffbcjiaaW.PrintWords
namespace Go.Proofs.YtembdogffbcjiaaW.PrintLast
section
variable {ops:Array Oper} {a:Act} {o og:Oper} {g:Nat} {t:Tmp} {u:Bool}
end
end Go.Proofs.YtembdogffbcjiaaW.PrintLast
