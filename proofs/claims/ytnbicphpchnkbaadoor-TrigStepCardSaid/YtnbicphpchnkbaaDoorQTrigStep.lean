/- The plain law of TrigStep: its Lean function, laid by the print, tells true for every 64-bit input. -/
import Derived.Test.YtnbicphpchnkbaaDoorNum
import Derived.Test.YtnbicphpchnkbaaDoorTrig
import Derived.Test.YtnbicphpchnkbaaDoorTrigc
import Derived.Test.YtnbicphpchnkbaaDoorLTrigStep
namespace Go.Proofs.YtnbicphpchnkbaaDoor.Pure
open Go Go.RowKit Go.Proofs.YtnbicphpchnkbaaDoor.B Go.Proofs.YtnbicphpchnkbaaDoor.Num Go.Proofs.YtnbicphpchnkbaaDoor.Trig Go.Proofs.YtnbicphpchnkbaaDoor.Trigc Go.Proofs.YtnbicphpchnkbaaDoorW.PrintWords Go.Proofs.YtnbicphpchnkbaaDoorW.PrintLast Go.Proofs.YtnbicphpchnkbaaDoorW.PrintMore
set_option linter.unusedVariables false

theorem near_is {a b d : Int} (h0 : -9223372036854775808 ≤ a - b) (h1 : a - b ≤ d) (h2 : b - a ≤ d) (h3 : -9223372036854775808 ≤ b - a) (h4 : d ≤ 9223372036854775807) : outriggerlaw05_near.f a b d = some true := by
  unfold outriggerlaw05_near.f
  rw [w64 h0 (by omega), w64 h3 (by omega)]
  exact yes_of h1 (congrArg some (decide_eq_true h2))
theorem TrigStep (a k : Int) (w0 : (Lit.int .i64 a).wf = true) (w1 : (Lit.int .i64 k).wf = true) : outriggerlaw05_TrigStep.f a k = some true := by
  unfold outriggerlaw05_TrigStep.f
  have hb : 0 ≤ Go.bits .and .i64 k 15 ∧ Go.bits .and .i64 k 15 < 16 := by
    have h := band64 k 4 (by decide)
    have p : (2 : Int) ^ 4 = 16 := by decide
    rw [p] at h
    have h2 : Go.bits .and .i64 k 15 = k % 16 := h
    omega
  generalize Go.bits .and .i64 k 15 = d at *
  have hu : 0 ≤ a % 4294967296 ∧ a % 4294967296 < 4294967296 := by omega
  have e0 : a % 4294967296 % 4294967296 = a % 4294967296 := by omega
  have e1 : wrap64 (7 * d) = 7 * d := w64 (by omega) (by omega)
  have e2 : wrap64 (7 * d + 16) = 7 * d + 16 := w64 (by omega) (by omega)
  have e3 : wrap64 (a % 4294967296 + d) = a % 4294967296 + d := w64 (by omega) (by omega)
  rw [e1, e2]
  refine bind_of outriggerlaw05_awake.known (bind_of (angle_is a) (bind_of (both_is _) (bind_of (angle_is a) ?_)))
  rw [e3, e0]
  refine bind_of (both_is _) (yes_of (by trivial) ?_)
  generalize a % 4294967296 = u at *
  have hv : (u + d) % 4294967296 = u + d ∨ (u + d) % 4294967296 = u + d - 4294967296 := by omega
  have hv2 : 0 ≤ (u + d) % 4294967296 ∧ (u + d) % 4294967296 < 4294967296 := by omega
  generalize (u + d) % 4294967296 = v at *
  have hp := both_pt hu.1 hu.2
  have hq := both_pt hv2.1 hv2.2
  have hl := Circ.pt_le hp
  have hm := Circ.pt_le hq
  have h := Circ.pt_step1 hp hq hb.1 hv
  clear hp hq
  generalize (pv (qv u) (cv u) (sv u)).1 = s at *
  generalize (pv (qv u) (cv u) (sv u)).2 = c at *
  generalize (pv (qv v) (cv v) (sv v)).1 = s2 at *
  generalize (pv (qv v) (cv v) (sv v)).2 = c2 at *
  refine bind_of (near_is (by omega) (by omega) (by omega) (by omega) (by omega)) (yes_of rfl (bind_of (near_is (by omega) (by omega) (by omega) (by omega) (by omega)) rfl))

end Go.Proofs.YtnbicphpchnkbaaDoor.Pure
