/- Lemmas of the rows, laid by a program. -/
import Derived.Test.YtkeedfiffjpnfaaZM5
section
set_option linter.unusedVariables false
set_option linter.unusedSimpArgs false
namespace Go.Proofs.Ytkeedfiffjpnfaa.X
open Go Go.RowKit
set_option maxRecDepth 100000
set_option maxHeartbeats 4000000
set_option linter.unusedVariables false
set_option linter.unusedSimpArgs false
theorem next_14 (mark:Int) (sm:Bool) (l:ST) (n:NT) (tk:Int) (a1:ST) (q1:List ST) (a2:ST) (q2:List ST) (a3:ST) (q3:List ST):NextIs (mkM mark sm l n tk [] (a1 :: q1) (a2 :: q2) (a3 :: q3)):=by intro D Bf m;kernel_rfl
end Go.Proofs.Ytkeedfiffjpnfaa.X
end
