/- The plain law of WideProducts: its Lean function, laid by the print, tells true for every 64-bit input. -/
import Derived.Test.YtannmhdoggefnaaWide
import Derived.Test.YtannmhdoggefnaaLWideProducts
namespace Go.Proofs.Ytannmhdoggefnaa.Pure
open Go Go.RowKit Go.Proofs.Ytannmhdoggefnaa.B Go.Proofs.Ytannmhdoggefnaa.Num Go.Proofs.Ytannmhdoggefnaa.Wide Go.Proofs.YtannmhdoggefnaaW.PrintWords Go.Proofs.YtannmhdoggefnaaW.PrintLast Go.Proofs.YtannmhdoggefnaaW.PrintMore
set_option linter.unusedVariables false

theorem cl_in {n : Int} (h0 : -288230376151711744 ≤ n) (h1 : n ≤ 288230376151711744) : cl n = n := by
  unfold cl
  (repeat' split) <;> omega

theorem WideProducts (a b c : Int) (w0 : (Lit.int .i64 a).wf = true) (w1 : (Lit.int .i64 b).wf = true) (w2 : (Lit.int .i64 c).wf = true) :
    ∃ n, outriggerlaw02_WideProducts.f n a b c = some true := by
  refine ⟨64, ?_⟩
  have aw : outriggerlaw02_awake.f 64 = some true := at_rounds outriggerlaw02_awake.mono (by decide) outriggerlaw02_awake.known
  have a0 := cl_lo a
  have a1 := cl_hi a
  have b0 := cl_lo b
  have b1 := cl_hi b
  have c0 := cl_lo c
  have c1 := cl_hi c
  have fb := fits_mul a b
  have fc := fits_mul a c
  have mb := mul_fits a b
  have mc := mul_fits a c
  unfold outriggerlaw02_WideProducts.f
  refine bind_of aw ?_
  refine bind_of (wmul_is a b) ?_
  refine bind_of (wmul_is a c) ?_
  refine bind_of (fadd_is b c) ?_
  refine bind_of (add_p fb fc) ?_
  have fs : Fits (cl a * cl b + cl a * cl c) := by unfold Fits; omega
  rw [addv_ok fs]
  have e1 : cl 1 = 1 := by decide
  have f1 : Fits (cl a) := by unfold Fits; omega
  refine bind_of (x := (hi (cl a), lo (cl a))) (by rw [wmul_is, e1, Int.mul_one]) ?_
  refine bind_of (int_p f1 63) ?_
  refine bind_of (clamp_is a) ?_
  rw [if_pos rfl]
  refine bind_of (sane_p fb) ?_
  rw [if_pos rfl]
  refine bind_of (wmul_is b a) ?_
  rw [if_pos (pair_eq.mpr (Int.mul_comm _ _))]
  refine bind_of (fneg_is b) ?_
  refine bind_of (wmul_is a _) ?_
  refine bind_of (neg_p fb) ?_
  have e2 : cl (- cl b) = - cl b := cl_in (by omega) (by omega)
  have e3 : cl a * cl (- cl b) = negv (cl a * cl b) := by
    unfold negv
    rw [if_pos (by unfold Fits; omega), e2, Int.mul_neg]
  rw [if_pos (pair_eq.mpr e3)]
  have e4 : cl (cl a) = cl a := cl_in a0 a1
  rw [e4, if_pos (by simp), if_pos rfl]
  by_cases h : cbad b c (cl b + cl c) = true
  · rw [if_pos h]
  · rw [if_neg h, if_pos (decide_eq_true fs)]
    have hg : cl (cl b + cl c) = cl b + cl c ∧ cl b = b ∧ cl c = c := by simpa [cbad] using h
    refine bind_of (wmul_is a _) ?_
    have e5 : cl a * cl b + cl a * cl c = cl a * cl (cl (cl b + cl c)) := by rw [hg.1, hg.1, Int.mul_add]
    exact congrArg some (pair_eq.mpr e5)

end Go.Proofs.Ytannmhdoggefnaa.Pure
