/- The plain law of RootBack: its Lean function, laid by the print, tells true for every 64-bit input. -/
import Derived.Test.YthfcodicpcengaaNum
import Derived.Test.YthfcodicpcengaaWide
import Derived.Test.YthfcodicpcengaaLRootBack
namespace Go.Proofs.Ythfcodicpcengaa.Pure
open Go Go.RowKit Go.Proofs.Ythfcodicpcengaa.B Go.Proofs.Ythfcodicpcengaa.Num Go.Proofs.Ythfcodicpcengaa.Wide Go.Proofs.YthfcodicpcengaaW.PrintWords Go.Proofs.YthfcodicpcengaaW.PrintLast Go.Proofs.YthfcodicpcengaaW.PrintMore
set_option linter.unusedVariables false

theorem abs_p (a : Int) : fix_Abs.f a = some (ab a) := abs_is a
theorem ab_sq (a : Int) : ab a * ab a = cl a * cl a := by
  unfold ab mx
  split
  · rw [Int.neg_mul_neg]
  · rfl

theorem band57 (x : Int) : Go.bits .and .i64 x 144115188075855871 = x % 144115188075855872 := by
  have h := band64 x 57 (by decide)
  have e : (2 : Int) ^ 57 = 144115188075855872 := by decide
  rw [e] at h
  exact h

theorem RootBack (a k : Int) (w0 : (Lit.int .i64 a).wf = true) (w1 : (Lit.int .i64 k).wf = true) : ∃ n, outriggerlaw04_RootBack.f n a k = some true := by
  refine ⟨200, ?_⟩
  have aw : outriggerlaw04_awake.f 200 = some true := at_rounds outriggerlaw04_awake.mono (by decide) outriggerlaw04_awake.known
  have hx := ab_bd a
  have hs := sq_bd a
  have hf := fits_mul a a
  have hq := ab_sq a
  have hn := sq_succ (ab a)
  have r1 : Rt (cl a * cl a) (ab a) := ⟨hx.1, hx.2, by omega, Or.inr (by omega)⟩
  have b1 : rbad (cl a * cl a) false = false := rbad_ok (by omega)
  unfold outriggerlaw04_RootBack.f
  refine bind_of aw (bind_of (abs_p a) (bind_of (wmul_is a a) (bind_of (root_p 120 hf hs.1) ?_)))
  rw [rt_eq r1, b1]
  have go : ∀ more : Int, 0 ≤ more → more ≤ 2 * ab a → outriggerlaw04_RootBack.j0 200 a true (ab a) (ab a) false more = some true := by
    intro more m0 m1
    have fm : Fits more := by unfold Fits; omega
    have fs : Fits (cl a * cl a + more) := by unfold Fits; omega
    have ec : cl (ab a) = ab a := by unfold cl; (repeat' split) <;> omega
    have r2 : Rt (cl a * cl a + more) (ab a) := ⟨hx.1, hx.2, by omega, Or.inr (by omega)⟩
    have b2 : rbad (cl a * cl a + more) false = false := rbad_ok (by omega)
    simp only [outriggerlaw04_RootBack.j0]
    refine bind_of (x := (hi (cl a * cl a), lo (cl a * cl a))) (by rw [wmul_is, ec, hq]) ?_
    refine bind_of (of_is more) (bind_of (add_p hf fm) ?_)
    rw [addv_ok fs]
    refine bind_of (root_p 119 fs (by omega)) ?_
    rw [rt_eq r2, b2]
    have e0 : cl 0 = 0 := by decide
    refine bind_of (hyp_is 119 a 0) ?_
    rw [e0, Int.mul_zero, Int.add_zero, rt_eq r1, b1]
    refine bind_of (clamp_is a) ?_
    refine yes_of (by trivial) (yes_of (by trivial) (no_of (by simp) (yes_of (decide_eq_true fs) (yes_of rfl (no_of (by simp) (yes_of rfl ?_))))))
    simp
  by_cases c : ab a > 0
  · refine yes_of c ?_
    rw [w64 (n := 2 * ab a) (by omega) (by omega), w64 (by omega) (by omega)]
    refine no_of (by omega) ?_
    rw [band57, Int.tmod_eq_emod_of_nonneg (by omega)]
    refine go _ (Int.emod_nonneg _ (by omega)) ?_
    have := Int.emod_lt_of_pos (k % 144115188075855872) (show 0 < 2 * ab a + 1 by omega)
    omega
  · exact no_of c (go 0 (by omega) (by omega))

end Go.Proofs.Ythfcodicpcengaa.Pure
