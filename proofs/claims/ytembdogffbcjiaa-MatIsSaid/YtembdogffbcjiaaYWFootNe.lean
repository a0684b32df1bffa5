/- Lemmas of the row, laid by a program. -/
import Derived.Test.YtembdogffbcjiaaYWN
namespace Go.Proofs.YtembdogffbcjiaaW.PrintWords
open Go.RowKit
namespace Kd
section
variable {α:Type} {d:Kd α} {W:World} {g n:Nat} {S ok:Nat→Prop} {A:Option Addr} {ad:Addr} {xs:List α}
end
end Kd
end Go.Proofs.YtembdogffbcjiaaW.PrintWords
