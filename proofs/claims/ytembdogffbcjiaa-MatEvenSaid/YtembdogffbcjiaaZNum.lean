/- Lemmas that the row leans on; laid by a program of this project out of longer texts: what the row does not name is left out. -/
import Derived.Laws.BitsLemmas
import Derived.OpenShut
namespace Go.Proofs.Ytembdogffbcjiaa.Num
open Go Go.RowKit
theorem w64 {n:Int} (h0:-9223372036854775808≤n) (h1:n≤9223372036854775807):wrap64 n=n:=by
 unfold wrap64
 omega
end Go.Proofs.Ytembdogffbcjiaa.Num
