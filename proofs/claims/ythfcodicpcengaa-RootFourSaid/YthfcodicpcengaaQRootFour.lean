/- The plain law of RootFour: its Lean function, laid by the print, tells true for every 64-bit input. -/
import Derived.Test.YthfcodicpcengaaWide
import Derived.Test.YthfcodicpcengaaLRootFour
namespace Go.Proofs.Ythfcodicpcengaa.Pure
open Go Go.RowKit Go.Proofs.Ythfcodicpcengaa.B Go.Proofs.Ythfcodicpcengaa.Num Go.Proofs.Ythfcodicpcengaa.Wide Go.Proofs.YthfcodicpcengaaW.PrintWords Go.Proofs.YthfcodicpcengaaW.PrintLast Go.Proofs.YthfcodicpcengaaW.PrintMore
set_option linter.unusedVariables false

/-- Four times as much has twice the root, or one more. -/
theorem rt_four {v r s : Int} (h : Rt v r) (g : Rt (4 * v) s) (hs : s < 288230376151711744) : s = 2 * r ∨ s = 2 * r + 1 := by
  obtain ⟨h0, h1, h2, h3⟩ := h
  obtain ⟨g0, g1, g2, g3⟩ := g
  have e1 : (2 * r) * (2 * r) = 4 * (r * r) := by grind
  have e2 : (2 * (r + 1)) * (2 * (r + 1)) = 4 * ((r + 1) * (r + 1)) := by grind
  have a1 : 2 * r < s + 1 := by
    rcases g3 with g3 | g3
    · omega
    · exact sq_lt (v := 4 * v) (by omega) (by omega) g3
  rcases h3 with h3 | h3
  · omega
  · have a2 : s < 2 * (r + 1) := sq_lt (v := 4 * v) (by omega) g2 (by omega)
    omega

theorem cl_in {n : Int} (h0 : -288230376151711744 ≤ n) (h1 : n ≤ 288230376151711744) : cl n = n := by
  unfold cl
  (repeat' split) <;> omega

theorem sq_small {x : Int} (h0 : -72057594037927936 ≤ x) (h1 : x ≤ 72057594037927936) : 0 ≤ x * x ∧ x * x ≤ 5192296858534827628530496329220096 := by
  by_cases c : 0 ≤ x
  · exact ⟨Int.mul_nonneg c c, Int.mul_le_mul h1 h1 c (by decide)⟩
  · have := Int.mul_nonneg (show 0 ≤ - x by omega) (show 0 ≤ - x by omega)
    have g := Int.mul_le_mul (show -x ≤ 72057594037927936 by omega) (show -x ≤ 72057594037927936 by omega) (by omega) (by decide)
    rw [Int.neg_mul_neg] at this g
    exact ⟨this, by omega⟩

theorem RootFour (a b : Int) (w0 : (Lit.int .i64 a).wf = true) (w1 : (Lit.int .i64 b).wf = true) : ∃ n, outriggerlaw04_RootFour.f n a b = some true := by
  refine ⟨200, ?_⟩
  have aw : outriggerlaw04_awake.f 200 = some true := at_rounds outriggerlaw04_awake.mono (by decide) outriggerlaw04_awake.known
  have stop : outriggerlaw04_RootFour.j0 200 a b true true = some true := rfl
  unfold outriggerlaw04_RootFour.f
  refine bind_of aw ?_
  by_cases c1 : a < 0
  · exact yes_of c1 stop
  by_cases c2 : a > 72057594037927936
  · exact no_of c1 (yes_of c2 stop)
  by_cases c3 : b > 72057594037927936
  · exact no_of c1 (no_of c2 (yes_of c3 stop))
  refine no_of c1 (no_of c2 (no_of c3 ?_))
  by_cases c4 : b < -72057594037927936
  · rw [decide_eq_true c4]; exact stop
  rw [decide_eq_false c4]
  simp only [outriggerlaw04_RootFour.j0, Bool.false_eq_true, if_false]
  have e1 : cl a = a := cl_in (by omega) (by omega)
  have e2 : cl (4 * a) = 4 * a := cl_in (by omega) (by omega)
  have e3 : cl b = b := cl_in (by omega) (by omega)
  have e4 : cl (2 * a) = 2 * a := cl_in (by omega) (by omega)
  have e5 : cl (2 * b) = 2 * b := cl_in (by omega) (by omega)
  rw [w64 (n := 4 * a) (by omega) (by omega), w64 (n := 2 * a) (by omega) (by omega), w64 (n := 2 * b) (by omega) (by omega)]
  have sa := sq_small (x := a) (by omega) (by omega)
  have sb := sq_small (x := b) (by omega) (by omega)
  have q1 : 2 * a * (2 * a) + 2 * b * (2 * b) = 4 * (a * a + b * b) := by grind
  have f1 : Fits (a * 4294967296) := by unfold Fits; omega
  have f2 : Fits (4 * a * 4294967296) := by unfold Fits; omega
  have f3 : Fits (a * a + b * b) := by unfold Fits; omega
  have f4 : Fits (4 * (a * a + b * b)) := by unfold Fits; omega
  have r1 := rt_rt f1 (by omega)
  have r2 := rt_rt f2 (by omega)
  have r3 := rt_rt f3 (by omega)
  have r4 := rt_rt f4 (by omega)
  have s2 := rt_small f2 (by omega) (by omega)
  have s4 := rt_small f4 (by omega) (by omega)
  have t1 : rt (4 * a * 4294967296) = 2 * rt (a * 4294967296) ∨ rt (4 * a * 4294967296) = 2 * rt (a * 4294967296) + 1 := by
    refine rt_four r1 ?_ s2
    rw [← Int.mul_assoc]
    exact r2
  have t2 := rt_four r3 r4 s4
  refine bind_of (sqrt_is 119 a) (bind_of (sqrt_is 119 (4 * a)) (bind_of (hyp_is 119 a b) (bind_of (hyp_is 119 (2 * a) (2 * b)) ?_)))
  rw [e1, e2, e3, e4, e5, q1, if_neg (show ¬ a < 0 by omega), if_neg (show ¬ 4 * a < 0 by omega), rbad_ok (v := a * a + b * b) (by omega), rbad_ok (v := 4 * (a * a + b * b)) (by omega)]
  generalize rt (a * 4294967296) = x at *
  generalize rt (4 * a * 4294967296) = y at *
  generalize rt (a * a + b * b) = u at *
  generalize rt (4 * (a * a + b * b)) = v at *
  have b1 := r1.1
  have b2 := r1.2.1
  have b3 := r3.1
  have b4 := r3.2.1
  rw [w64 (n := 2 * x) (by omega) (by omega), w64 (n := 2 * u) (by omega) (by omega), w64 (n := 2 * x + 1) (by omega) (by omega), w64 (n := 2 * u + 1) (by omega) (by omega)]
  have fin : (if v = 2 * u then some true else some (v == 2 * u + 1)) = some true := by
    rcases t2 with t | t
    · rw [if_pos t]
    · rw [if_neg (by omega), t]
      simp
  refine yes_of (by trivial) (no_of (by simp; omega) (no_of (by simp; omega) (no_of (by simp) (no_of (by simp) ?_))))
  rcases t1 with t | t
  · exact yes_of t fin
  · exact no_of (by simp only []; omega) (yes_of t fin)

end Go.Proofs.Ythfcodicpcengaa.Pure
