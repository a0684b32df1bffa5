/- The plain law of TrigIs: its Lean function, laid by the print, tells true for every 64-bit input. -/
import Derived.Test.YtnbicphpchnkbaaDoorNum
import Derived.Test.YtnbicphpchnkbaaDoorTrig
import Derived.Test.YtnbicphpchnkbaaDoorTrigc
import Derived.Test.YtnbicphpchnkbaaDoorTrigr
import Derived.Test.YtnbicphpchnkbaaDoorLTrigIs
namespace Go.Proofs.YtnbicphpchnkbaaDoor.Pure
open Go Go.RowKit Go.Proofs.YtnbicphpchnkbaaDoor.B Go.Proofs.YtnbicphpchnkbaaDoor.Num Go.Proofs.YtnbicphpchnkbaaDoor.Trig Go.Proofs.YtnbicphpchnkbaaDoor.Trigc Go.Proofs.YtnbicphpchnkbaaDoor.Trigr Go.Proofs.YtnbicphpchnkbaaDoorW.PrintWords Go.Proofs.YtnbicphpchnkbaaDoorW.PrintLast Go.Proofs.YtnbicphpchnkbaaDoorW.PrintMore
set_option linter.unusedVariables false

theorem TrigIs (t y x : Int) (w0 : (Lit.int .i64 t).wf = true) (w1 : (Lit.int .i64 y).wf = true) (w2 : (Lit.int .i64 x).wf = true) : ∃ n, outriggerlaw05_TrigIs.f n t y x = some true := by
  refine ⟨200, ?_⟩
  have ht : -9223372036854775808 ≤ t ∧ t ≤ 9223372036854775807 := by
    have e0 : IntKind.i64.min = -9223372036854775808 := by decide
    have e1 : IntKind.i64.max = 9223372036854775807 := by decide
    simp [Lit.wf, e0, e1] at w0
    omega
  unfold outriggerlaw05_TrigIs.f
  obtain ⟨r, r1, r2⟩ := atan_both (k := 200) y x (by decide)
  refine bind_of outriggerlaw05_awake.known (bind_of (both_is t) (bind_of (rboth_is ht.1 ht.2 (by decide)) (yes_of rfl (bind_of (angle_is t) (bind_of (rangle_is ht.1 ht.2) (yes_of rfl (yes_of rfl (yes_of rfl (bind_of (sin_is t) (yes_of rfl (bind_of (cos_is t) (yes_of rfl (bind_of r1 (bind_of r2 ?_))))))))))))))
  simp

end Go.Proofs.YtnbicphpchnkbaaDoor.Pure
