/- Lemmas that the row leans on; laid by a program of this project out of longer texts: what the row does not name is left out. -/
import Derived.Test.YtembdogffbcjiaaZWInv
import Derived.Test.YtembdogffbcjiaaZWFootNe
namespace Go.Proofs.YtembdogffbcjiaaW.PrintWords
open Go.RowKit
end Go.Proofs.YtembdogffbcjiaaW.PrintWords
namespace Go.Proofs.YtembdogffbcjiaaW.PrintLast
section
variable {ops:Array Oper} {a:Act} {o og:Oper} {g:Nat} {t:Tmp} {u:Bool}
end
end Go.Proofs.YtembdogffbcjiaaW.PrintLast
