/- The plain law of RootOrder: its Lean function, laid by the print, tells true for every 64-bit input. -/
import Derived.Test.YthfcodicpcengaaNum
import Derived.Test.YthfcodicpcengaaWide
import Derived.Test.YthfcodicpcengaaLRootOrder
namespace Go.Proofs.Ythfcodicpcengaa.Pure
open Go Go.RowKit Go.Proofs.Ythfcodicpcengaa.B Go.Proofs.Ythfcodicpcengaa.Num Go.Proofs.Ythfcodicpcengaa.Wide Go.Proofs.YthfcodicpcengaaW.PrintWords Go.Proofs.YthfcodicpcengaaW.PrintLast Go.Proofs.YthfcodicpcengaaW.PrintMore
set_option linter.unusedVariables false

theorem abs_p (a : Int) : fix_Abs.f a = some (ab a) := abs_is a
theorem ab_sq (a : Int) : ab a * ab a = cl a * cl a := by
  unfold ab mx
  split
  · rw [Int.neg_mul_neg]
  · rfl
theorem cl_mono {a b : Int} (h : a ≤ b) : cl a ≤ cl b := by
  unfold cl
  (repeat' split) <;> omega
theorem cl_in {n : Int} (h0 : -288230376151711744 ≤ n) (h1 : n ≤ 288230376151711744) : cl n = n := by
  unfold cl
  (repeat' split) <;> omega

theorem rt_mono {v u r s : Int} (h : Rt v r) (g : Rt u s) (l : v ≤ u) : r ≤ s := by
  obtain ⟨h0, h1, h2, h3⟩ := h
  obtain ⟨g0, g1, g2, g3⟩ := g
  rcases g3 with g3 | g3
  · omega
  · have := sq_lt (v := u) (a := r) (b := s + 1) (by omega) (by omega) g3
    omega

theorem RootOrder (a b : Int) (w0 : (Lit.int .i64 a).wf = true) (w1 : (Lit.int .i64 b).wf = true) : ∃ n, outriggerlaw04_RootOrder.f n a b = some true := by
  refine ⟨200, ?_⟩
  have aw : outriggerlaw04_awake.f 200 = some true := at_rounds outriggerlaw04_awake.mono (by decide) outriggerlaw04_awake.known
  have a0 := cl_lo a
  have a1 := cl_hi a
  have b0 := cl_lo b
  have b1 := cl_hi b
  have hA := ab_bd a
  have hB := ab_bd b
  have qa := ab_sq a
  have qb := ab_sq b
  have sa := sq_bd a
  have sb := sq_bd b
  have f := hyp_fits a b
  have e1 : cl (- cl a) = - cl a := cl_in (by omega) (by omega)
  have e2 : cl (ab a) = ab a := cl_in (by omega) (by omega)
  have e3 : cl (ab b) = ab b := cl_in (by omega) (by omega)
  have e4 : cl b * cl b + - cl a * - cl a = cl a * cl a + cl b * cl b := by rw [Int.neg_mul_neg, Int.add_comm]
  have hlo := cl_lo (mn a b)
  have hhi := cl_hi (mx a b)
  have hlo2 := cl_lo (mx a b)
  have hhi2 := cl_hi (mn a b)
  have hm : cl (mn a b) ≤ cl (mx a b) := cl_mono (by unfold mn mx; (repeat' split) <;> omega)
  unfold outriggerlaw04_RootOrder.f
  refine bind_of aw (bind_of (sqrt_is 120 (mn a b)) (bind_of (sqrt_is 120 (mx a b)) (bind_of (hyp_is 120 a b) (bind_of (fneg_is a) ?_))))
  refine bind_of (hyp_is 120 b (- cl a)) ?_
  rw [e1, e4]
  refine bind_of (abs_p a) (bind_of (abs_p b) (bind_of (fadd_is (ab a) (ab b)) (bind_of (clamp_is a) (bind_of (clamp_is b) ?_))))
  rw [e2, e3]
  have r := rt_rt f (by omega)
  generalize hv : cl a * cl a + cl b * cl b = v at *
  generalize rt v = h at *
  obtain ⟨r0, r1, r2, r3⟩ := r
  have m1 : ab a ≤ h := by
    rcases r3 with r3 | r3
    · omega
    · have := sq_lt (v := v) (a := ab a) (b := h + 1) (by omega) (by omega) r3
      omega
  have m2 : ab b ≤ h := by
    rcases r3 with r3 | r3
    · omega
    · have := sq_lt (v := v) (a := ab b) (b := h + 1) (by omega) (by omega) r3
      omega
  have m3 : h ≤ ab a + ab b := by
    have hp : 0 ≤ ab a * ab b := Int.mul_nonneg hA.1 hB.1
    have e5 : (ab a + ab b + 1) * (ab a + ab b + 1) = ab a * ab a + ab b * ab b + 2 * (ab a * ab b) + 2 * (ab a + ab b) + 1 := by grind
    have := sq_lt (v := v) (a := h) (b := ab a + ab b + 1) (by omega) r2 (by omega)
    omega
  have m4 : h ≤ cl (ab a + ab b) := by unfold cl; (repeat' split) <;> omega
  have fin : ((fix_Abs.f a).bind fun t214 => ((fix_Abs.f b).bind fun t215 => (if h ≥ (mx t214 t215) then (some (decide (h ≤ cl (ab a + ab b)))) else (some false)))) = some true := by
    refine bind_of (abs_p a) (bind_of (abs_p b) (yes_of (by unfold mx; split <;> omega) (congrArg some (decide_eq_true m4))))
  refine yes_of (by trivial) (yes_of ?_ (yes_of rfl ?_))
  · simp only []
    by_cases c1 : cl (mn a b) < 0
    · rw [if_pos c1]
      by_cases c2 : cl (mx a b) < 0
      · rw [if_pos c2]
        omega
      · rw [if_neg c2]
        exact (rt_rt (by unfold Fits; omega) (by omega)).1
    · rw [if_neg c1, if_neg (by omega)]
      exact rt_mono (rt_rt (by unfold Fits; omega) (by omega)) (rt_rt (by unfold Fits; omega) (by omega)) (by omega)
  · by_cases c1 : (cl a != a) = true
    · by_cases c : (((cl a != a) || ((cl b != b) || rbad v false)) == ((cl b != b) || (((- cl a) != (- cl a)) || rbad v false))) = true
      · exact yes_of c fin
      · exact no_of c (yes_of c1 fin)
    · have c2 : (cl a != a) = false := by simpa using c1
      refine yes_of ?_ fin
      simp [c2]

end Go.Proofs.Ythfcodicpcengaa.Pure
