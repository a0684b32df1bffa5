/- The plain law of WideIs: its Lean function, laid by the print, tells true for every 64-bit input. -/
import Derived.Test.YtannmhdoggefnaaWide
import Derived.Test.YtannmhdoggefnaaLWideIs
namespace Go.Proofs.Ytannmhdoggefnaa.Pure
open Go Go.RowKit Go.Proofs.Ytannmhdoggefnaa.B Go.Proofs.Ytannmhdoggefnaa.Num Go.Proofs.Ytannmhdoggefnaa.Wide Go.Proofs.YtannmhdoggefnaaW.PrintWords Go.Proofs.YtannmhdoggefnaaW.PrintLast Go.Proofs.YtannmhdoggefnaaW.PrintMore
set_option linter.unusedVariables false

theorem WideIs (a b c d m n : Int) (w0 : (Lit.int .i64 a).wf = true) (w1 : (Lit.int .i64 b).wf = true) (w2 : (Lit.int .i64 c).wf = true) (w3 : (Lit.int .i64 d).wf = true)
    (w4 : (Lit.int .i64 m).wf = true) (w5 : (Lit.int .i64 n).wf = true) : ∃ k, outriggerlaw02_WideIs.f k a b c d m n = some true := by
  refine ⟨300, ?_⟩
  obtain ⟨m0, m1⟩ := bounds_i64 w4
  have aw : outriggerlaw02_awake.f 300 = some true := at_rounds outriggerlaw02_awake.mono (by decide) outriggerlaw02_awake.known
  unfold outriggerlaw02_WideIs.f
  refine bind_of aw ?_
  refine bind_of (add_is a b c d) (bind_of (radd_is 299 a b c d) (bind_of (int_is 299 a b) (bind_of (rint_is 298 a b) ?_)))
  refine no_of (fun h => pair_ne.mp h rfl) (no_of (by simp) (yes_of rfl (no_of (by simp) ?_)))
  refine bind_of (wmul_is m n) (bind_of (rmul_is m n) ?_)
  refine no_of (fun h => pair_ne.mp h rfl) ?_
  refine bind_of (of_is m) (bind_of (rof_is 292 m0 m1) ?_)
  have e : ((!(hi m == hi m)) || (!(lo m == lo m))) = false := by simp
  simp only [e, outriggerlaw02_WideIs.j0, Bool.false_eq_true, if_false]
  refine yes_of (by trivial) (bind_of (sane_is a b) (bind_of (rsane_is a b) (yes_of (by simp) ?_)))
  refine bind_of (wneg_is a b) (bind_of (rneg_is a b) (yes_of (pair_eq.mpr rfl) ?_))
  refine bind_of (cmp_is 296 a b c d) (bind_of (rcmp_is 298 a b c d) (yes_of rfl ?_))
  exact bind_of (down_is a b n) (bind_of (rdown_is 97 a b n) (congrArg some (pair_eq.mpr rfl)))

end Go.Proofs.Ytannmhdoggefnaa.Pure
