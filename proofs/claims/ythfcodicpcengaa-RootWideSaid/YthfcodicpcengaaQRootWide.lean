/- The plain law of RootWide: its Lean function, laid by the print, tells true for every 64-bit input. -/
import Derived.Test.YthfcodicpcengaaNum
import Derived.Test.YthfcodicpcengaaWide
import Derived.Test.YthfcodicpcengaaLRootWide
namespace Go.Proofs.Ythfcodicpcengaa.Pure
open Go Go.RowKit Go.Proofs.Ythfcodicpcengaa.B Go.Proofs.Ythfcodicpcengaa.Num Go.Proofs.Ythfcodicpcengaa.Wide Go.Proofs.YthfcodicpcengaaW.PrintWords Go.Proofs.YthfcodicpcengaaW.PrintLast Go.Proofs.YthfcodicpcengaaW.PrintMore
set_option linter.unusedVariables false

theorem cl_in {n : Int} (h0 : -288230376151711744 ≤ n) (h1 : n ≤ 288230376151711744) : cl n = n := by
  unfold cl
  (repeat' split) <;> omega

theorem sq_small {x : Int} (h0 : -144115188075855872 ≤ x) (h1 : x ≤ 144115188075855872) : 0 ≤ x * x ∧ x * x ≤ 20769187434139310514121985316880384 := by
  by_cases c : 0 ≤ x
  · exact ⟨Int.mul_nonneg c c, Int.mul_le_mul h1 h1 c (by decide)⟩
  · have := Int.mul_nonneg (show 0 ≤ - x by omega) (show 0 ≤ - x by omega)
    have g := Int.mul_le_mul (show -x ≤ 144115188075855872 by omega) (show -x ≤ 144115188075855872 by omega) (by omega) (by decide)
    rw [Int.neg_mul_neg] at this g
    exact ⟨this, by omega⟩

theorem RootWide (a b : Int) (w0 : (Lit.int .i64 a).wf = true) (w1 : (Lit.int .i64 b).wf = true) : ∃ n, outriggerlaw04_RootWide.f n a b = some true := by
  refine ⟨200, ?_⟩
  have aw : outriggerlaw04_awake.f 200 = some true := at_rounds outriggerlaw04_awake.mono (by decide) outriggerlaw04_awake.known
  have stop : outriggerlaw04_RootWide.j0 200 a b true true = some true := rfl
  unfold outriggerlaw04_RootWide.f
  refine bind_of aw ?_
  by_cases c1 : a > 144115188075855872
  · exact yes_of c1 stop
  by_cases c2 : a < -144115188075855872
  · exact no_of c1 (yes_of c2 stop)
  by_cases c3 : b > 144115188075855872
  · exact no_of c1 (no_of c2 (yes_of c3 stop))
  refine no_of c1 (no_of c2 (no_of c3 ?_))
  by_cases c4 : b < -144115188075855872
  · rw [decide_eq_true c4]; exact stop
  rw [decide_eq_false c4]
  simp only [outriggerlaw04_RootWide.j0, Bool.false_eq_true, if_false]
  have e1 : cl a = a := cl_in (by omega) (by omega)
  have e2 : cl b = b := cl_in (by omega) (by omega)
  have sa := sq_small (x := a) (by omega) (by omega)
  have sb := sq_small (x := b) (by omega) (by omega)
  have f := hyp_fits a b
  refine bind_of (hyp_is 119 a b) (bind_of (wmul_is a a) (bind_of (wmul_is b b) (bind_of (add_p (fits_mul a a) (fits_mul b b)) ?_)))
  rw [addv_ok f, e1, e2] at *
  refine bind_of (root_p 119 f (by omega)) ?_
  rw [rbad_ok (by omega)]
  have r := rt_rt f (by omega)
  have s := rt_small f (by omega) (by omega)
  obtain ⟨r0, r1, r2, r3⟩ := r
  generalize rt (a * a + b * b) = h at *
  generalize a * a + b * b = v at *
  have e3 : cl h = h := cl_in (by omega) (by omega)
  have e4 : cl (h + 1) = h + 1 := cl_in (by omega) (by omega)
  have f1 := fits_mul h h
  have f2 := fits_mul (h + 1) (h + 1)
  rw [e3] at f1
  rw [e4] at f2
  refine yes_of (by trivial) (yes_of (decide_eq_true f) (no_of (by simp) (no_of (by simp) (yes_of rfl (yes_of r1 ?_)))))
  refine bind_of (wmul_is h h) ?_
  rw [e3]
  refine bind_of (cmp_p f1 f 196) (yes_of (by unfold cmpv; (repeat' split) <;> omega) ?_)
  rw [w64 (by simp only []; omega) (by simp only []; omega)]
  refine bind_of (wmul_is (h + 1) (h + 1)) ?_
  rw [e4]
  refine bind_of (cmp_p f f2 196) ?_
  rcases r3 with r3 | r3
  · omega
  · congr 1
    simp only [decide_eq_true_eq]
    unfold cmpv
    (repeat' split) <;> omega

end Go.Proofs.Ythfcodicpcengaa.Pure
