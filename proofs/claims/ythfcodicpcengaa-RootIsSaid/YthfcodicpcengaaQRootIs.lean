/- The plain law of RootIs: its Lean function, laid by the print, tells true for every 64-bit input. -/
import Derived.Test.YthfcodicpcengaaNum
import Derived.Test.YthfcodicpcengaaWide
import Derived.Test.YthfcodicpcengaaRwide
import Derived.Test.YthfcodicpcengaaLRootIs
namespace Go.Proofs.Ythfcodicpcengaa.Pure
open Go Go.RowKit Go.Proofs.Ythfcodicpcengaa.B Go.Proofs.Ythfcodicpcengaa.Num Go.Proofs.Ythfcodicpcengaa.Wide Go.Proofs.Ythfcodicpcengaa.Rwide Go.Proofs.YthfcodicpcengaaW.PrintWords Go.Proofs.YthfcodicpcengaaW.PrintLast Go.Proofs.YthfcodicpcengaaW.PrintMore
set_option linter.unusedVariables false

theorem RootIs (a b c d : Int) (w0 : (Lit.int .i64 a).wf = true) (w1 : (Lit.int .i64 b).wf = true) (w2 : (Lit.int .i64 c).wf = true) (w3 : (Lit.int .i64 d).wf = true) :
    ∃ n, outriggerlaw04_RootIs.f n a b c d = some true := by
  refine ⟨200, ?_⟩
  have aw : outriggerlaw04_awake.f 200 = some true := at_rounds outriggerlaw04_awake.mono (by decide) outriggerlaw04_awake.known
  unfold outriggerlaw04_RootIs.f
  refine bind_of aw (bind_of (root_is 120 a b) (bind_of (r04_is 120 a b) (bind_of (sqrt_is 120 c) (bind_of (rsqrt_is 120 c) (bind_of (hyp_is 120 c d) (bind_of (rhyp_is 120 c d) ?_))))))
  exact yes_of rfl (yes_of rfl (yes_of (by simp) (yes_of rfl (yes_of (by simp) (yes_of rfl (congrArg some (by simp)))))))

end Go.Proofs.Ythfcodicpcengaa.Pure
