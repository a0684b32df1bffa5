/- Lemmas of the rows, laid by a program. -/
import Derived.Test.YtkeedfiffjpnfaaZM5
section
set_option linter.unusedVariables false
set_option linter.unusedSimpArgs false
namespace Go.Proofs.Ytkeedfiffjpnfaa.X
open Go Go.RowKit
set_option maxRecDepth 100000
set_option maxHeartbeats 4000000
set_option linter.unusedVariables false
set_option linter.unusedSimpArgs false
theorem next_0 (mark:Int) (sm:Bool) (l:ST) (n:NT) (tk:Int):NextIs (mkM mark sm l n tk [] [] [] []):=by intro D Bf m;kernel_rfl
theorem next_1 (mark:Int) (sm:Bool) (l:ST) (n:NT) (tk:Int) (a0:ST) (q0:List ST):NextIs (mkM mark sm l n tk (a0 :: q0) [] [] []):=by intro D Bf m;kernel_rfl
theorem next_2 (mark:Int) (sm:Bool) (l:ST) (n:NT) (tk:Int) (a1:ST) (q1:List ST):NextIs (mkM mark sm l n tk [] (a1 :: q1) [] []):=by intro D Bf m;kernel_rfl
theorem next_4 (mark:Int) (sm:Bool) (l:ST) (n:NT) (tk:Int) (a2:ST) (q2:List ST):NextIs (mkM mark sm l n tk [] [] (a2 :: q2) []):=by intro D Bf m;kernel_rfl
theorem next_8 (mark:Int) (sm:Bool) (l:ST) (n:NT) (tk:Int) (a3:ST) (q3:List ST):NextIs (mkM mark sm l n tk [] [] [] (a3 :: q3)):=by intro D Bf m;kernel_rfl
theorem next_3 (mark:Int) (sm:Bool) (l:ST) (n:NT) (tk:Int) (a0:ST) (q0:List ST) (a1:ST) (q1:List ST):NextIs (mkM mark sm l n tk (a0 :: q0) (a1 :: q1) [] []):=by intro D Bf m;kernel_rfl
theorem next_5 (mark:Int) (sm:Bool) (l:ST) (n:NT) (tk:Int) (a0:ST) (q0:List ST) (a2:ST) (q2:List ST):NextIs (mkM mark sm l n tk (a0 :: q0) [] (a2 :: q2) []):=by intro D Bf m;kernel_rfl
end Go.Proofs.Ytkeedfiffjpnfaa.X
end
