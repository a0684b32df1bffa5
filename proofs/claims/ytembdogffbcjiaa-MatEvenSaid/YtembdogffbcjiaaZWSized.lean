/- Lemmas that the row leans on; laid by a program of this project out of longer texts: what the row does not name is left out. -/
import Derived.SizedLaws
import Derived.ChangeSlices
namespace Go.Proofs.YtembdogffbcjiaaW.PrintWords
open Go.ChangeShapes Go.WideShapes
end Go.Proofs.YtembdogffbcjiaaW.PrintWords
