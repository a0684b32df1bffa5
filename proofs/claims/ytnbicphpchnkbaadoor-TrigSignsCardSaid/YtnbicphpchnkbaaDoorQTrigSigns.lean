/- The plain law of TrigSigns: its Lean function, laid by the print, tells true for every 64-bit input. -/
import Derived.Test.YtnbicphpchnkbaaDoorNum
import Derived.Test.YtnbicphpchnkbaaDoorTrig
import Derived.Test.YtnbicphpchnkbaaDoorTrigc
import Derived.Test.YtnbicphpchnkbaaDoorLTrigSigns
namespace Go.Proofs.YtnbicphpchnkbaaDoor.Pure
open Go Go.RowKit Go.Proofs.YtnbicphpchnkbaaDoor.B Go.Proofs.YtnbicphpchnkbaaDoor.Num Go.Proofs.YtnbicphpchnkbaaDoor.Trig Go.Proofs.YtnbicphpchnkbaaDoor.Trigc Go.Proofs.YtnbicphpchnkbaaDoorW.PrintWords Go.Proofs.YtnbicphpchnkbaaDoorW.PrintLast Go.Proofs.YtnbicphpchnkbaaDoorW.PrintMore
set_option linter.unusedVariables false

theorem TrigSigns (a : Int) (w0 : (Lit.int .i64 a).wf = true) : outriggerlaw05_TrigSigns.f a = some true := by
  unfold outriggerlaw05_TrigSigns.f
  refine bind_of outriggerlaw05_awake.known (bind_of (both_is a) (bind_of (angle_is a) (yes_of (by trivial) ?_)))
  have hu : 0 ≤ a % 4294967296 ∧ a % 4294967296 < 4294967296 := by omega
  generalize a % 4294967296 = u at *
  have hp := both_pt hu.1 hu.2
  have hl := Circ.pt_le hp
  have h1 := fun h : u ≤ 2147483648 => Circ.pt_first hp hu.1 h
  have h2 := fun h : 2147483648 ≤ u => Circ.pt_second hp h (by omega)
  generalize (pv (qv u) (cv u) (sv u)).1 = s at *
  generalize (pv (qv u) (cv u) (sv u)).2 = c at *
  clear hp
  by_cases h : u < 2147483648
  · have := h1 (by omega)
    refine yes_of h (yes_of (by omega) (yes_of (by omega) (yes_of (by omega) (yes_of (by omega) (congrArg some (decide_eq_true (by omega)))))))
  · have := h2 (by omega)
    refine no_of h (yes_of (by omega) (yes_of (by omega) (yes_of (by omega) (yes_of (by omega) (congrArg some (decide_eq_true (by omega)))))))

end Go.Proofs.YtnbicphpchnkbaaDoor.Pure
