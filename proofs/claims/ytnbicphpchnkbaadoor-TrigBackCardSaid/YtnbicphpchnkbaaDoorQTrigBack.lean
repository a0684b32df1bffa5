/- The plain law of TrigBack: its Lean function, laid by the print, tells true for every 64-bit input. -/
import Derived.Test.YtnbicphpchnkbaaDoorNum
import Derived.Test.YtnbicphpchnkbaaDoorTrig
import Derived.Test.YtnbicphpchnkbaaDoorTrigc
import Derived.Test.YtnbicphpchnkbaaDoorLTrigBack
namespace Go.Proofs.YtnbicphpchnkbaaDoor.Pure
open Go Go.RowKit Go.Proofs.YtnbicphpchnkbaaDoor.B Go.Proofs.YtnbicphpchnkbaaDoor.Num Go.Proofs.YtnbicphpchnkbaaDoor.Trig Go.Proofs.YtnbicphpchnkbaaDoor.Trigc Go.Proofs.YtnbicphpchnkbaaDoorW.PrintWords Go.Proofs.YtnbicphpchnkbaaDoorW.PrintLast Go.Proofs.YtnbicphpchnkbaaDoorW.PrintMore
set_option linter.unusedVariables false

theorem TrigBack (a : Int) (w0 : (Lit.int .i64 a).wf = true) : outriggerlaw05_TrigBack.f a = some true := by
  unfold outriggerlaw05_TrigBack.f
  have hu : 0 ≤ a % 4294967296 ∧ a % 4294967296 < 4294967296 := by omega
  refine bind_of outriggerlaw05_awake.known (bind_of (both_is a) ?_)
  have hp := both_pt hu.1 hu.2
  have hl := Circ.pt_le hp
  have hc := Circ.pt_circle hp
  have ha := angle_is a
  generalize a % 4294967296 = u at *
  generalize (pv (qv u) (cv u) (sv u)).1 = s at *
  generalize (pv (qv u) (cv u) (sv u)).2 = c at *
  obtain ⟨r, hr, hd⟩ := atan_back hp hu.1 hu.2 hl.1 hl.2 hc
  refine bind_of hr (bind_of ha (bind_of (angle_is _) (yes_of (by trivial) ?_)))
  by_cases h : wrap64 (r - u) % 4294967296 ≤ 8
  · exact yes_of h rfl
  · refine no_of h (congrArg some (decide_eq_true ?_))
    omega

end Go.Proofs.YtnbicphpchnkbaaDoor.Pure
