/- The plain law of TrigCircle: its Lean function, laid by the print, tells true for every 64-bit input. -/
import Derived.Test.YtnbicphpchnkbaaDoorNum
import Derived.Test.YtnbicphpchnkbaaDoorTrig
import Derived.Test.YtnbicphpchnkbaaDoorTrigc
import Derived.Test.YtnbicphpchnkbaaDoorWidet
import Derived.Test.YtnbicphpchnkbaaDoorLTrigCircle
namespace Go.Proofs.YtnbicphpchnkbaaDoor.Pure
open Go Go.RowKit Go.Proofs.YtnbicphpchnkbaaDoor.B Go.Proofs.YtnbicphpchnkbaaDoor.Num Go.Proofs.YtnbicphpchnkbaaDoor.Trig Go.Proofs.YtnbicphpchnkbaaDoor.Trigc Go.Proofs.YtnbicphpchnkbaaDoorW.PrintWords Go.Proofs.YtnbicphpchnkbaaDoorW.PrintLast Go.Proofs.YtnbicphpchnkbaaDoorW.PrintMore
set_option linter.unusedVariables false

theorem TrigCircle (a : Int) (w0 : (Lit.int .i64 a).wf = true) : ∃ n, outriggerlaw05_TrigCircle.f n a = some true := by
  refine ⟨1, ?_⟩
  unfold outriggerlaw05_TrigCircle.f
  have hu : 0 ≤ a % 4294967296 ∧ a % 4294967296 < 4294967296 := by omega
  refine bind_of outriggerlaw05_awake.known (bind_of (both_is a) ?_)
  generalize a % 4294967296 = u at *
  have hp := both_pt hu.1 hu.2
  have hl := Circ.pt_le hp
  have h := Circ.pt_circle hp
  clear hp
  generalize (pv (qv u) (cv u) (sv u)).1 = s at *
  generalize (pv (qv u) (cv u) (sv u)).2 = c at *
  have es : Widet.cl s = s := by unfold Widet.cl; (repeat' split) <;> omega
  have ec : Widet.cl c = c := by unfold Widet.cl; (repeat' split) <;> omega
  have eo : Widet.cl (-4294967296) * Widet.cl 4294967296 = -18446744073709551616 := by decide
  have m1 := Widet.wmul_is s s
  have m2 := Widet.wmul_is c c
  have m3 := Widet.wmul_is (-4294967296) 4294967296
  have f1 := Widet.fits_mul s s
  have f2 := Widet.fits_mul c c
  rw [es] at m1 f1
  rw [ec] at m2 f2
  rw [eo] at m3
  have k1 := sq_nn s
  have k2 := sq_nn c
  generalize s * s = x at *
  generalize c * c = y at *
  have f3 : Widet.Fits (x + y) := by unfold Widet.Fits; omega
  have f4 : Widet.Fits (-18446744073709551616) := by decide
  have f5 : Widet.Fits (x + y + -18446744073709551616) := by unfold Widet.Fits; omega
  have a1 := Widet.add_p f1 f2
  have a2 := Widet.add_p f3 f4
  rw [Widet.addv_ok f3, decide_eq_true f3] at a1
  rw [Widet.addv_ok f5, decide_eq_true f5] at a2
  have i1 := Widet.int_p f5 0
  have ei : Widet.cl (x + y + -18446744073709551616) = x + y + -18446744073709551616 := by unfold Widet.cl; (repeat' split) <;> omega
  rw [ei] at i1
  refine bind_of m1 (bind_of m2 (bind_of a1 (bind_of m3 (bind_of a2 (bind_of i1 (yes_of rfl (yes_of rfl (yes_of rfl (yes_of ?_ (yes_of ?_ (congrArg some (decide_eq_true ?_))))))))))))
  · exact beq_self_eq_true _
  · show x + y + -18446744073709551616 ≤ 34359738368
    omega
  · show x + y + -18446744073709551616 ≥ -34359738368
    omega

end Go.Proofs.YtnbicphpchnkbaaDoor.Pure
