/- The plain law of RootIn: its Lean function, laid by the print, tells true for every 64-bit input. -/
import Derived.Test.YthfcodicpcengaaNum
import Derived.Test.YthfcodicpcengaaWide
import Derived.Test.YthfcodicpcengaaLRootIn
namespace Go.Proofs.Ythfcodicpcengaa.Pure
open Go Go.RowKit Go.Proofs.Ythfcodicpcengaa.B Go.Proofs.Ythfcodicpcengaa.Num Go.Proofs.Ythfcodicpcengaa.Wide Go.Proofs.YthfcodicpcengaaW.PrintWords Go.Proofs.YthfcodicpcengaaW.PrintLast Go.Proofs.YthfcodicpcengaaW.PrintMore
set_option linter.unusedVariables false

theorem RootIn (a b : Int) (w0 : (Lit.int .i64 a).wf = true) (w1 : (Lit.int .i64 b).wf = true) : ∃ n, outriggerlaw04_RootIn.f n a b = some true := by
  refine ⟨200, ?_⟩
  have aw : outriggerlaw04_awake.f 200 = some true := at_rounds outriggerlaw04_awake.mono (by decide) outriggerlaw04_awake.known
  have hv := kn_fits a b
  have hb := hi_lo (kn a b)
  have hl := lo_bd (kn a b)
  unfold outriggerlaw04_RootIn.f
  refine bind_of aw (bind_of (root_is 120 a b) ?_)
  by_cases c : kn a b < 0
  · have s : Sane a b := by
      by_cases s : Sane a b
      · exact s
      · rw [kn_bad s] at c
        omega
    have ha : a < 0 := by
      rw [kn_of s] at c
      unfold Sane at s
      omega
    rw [if_pos c]
    refine no_of (by omega) ?_
    have e : decide ((0 : Int) > 288230376151711744) = false := by decide
    simp only [e, outriggerlaw04_RootIn.j0, Bool.false_eq_true, if_false]
    refine bind_of (sane_is a b) (yes_of (decide_eq_true s) ?_)
    rw [decide_eq_true ha]
    rfl
  · rw [if_neg c]
    have hr := rt_rt hv (by omega)
    obtain ⟨r0, r1, r2, r3⟩ := hr
    refine no_of (by simp only []; omega) ?_
    have e : decide (rt (kn a b) > 288230376151711744) = false := decide_eq_false (by omega)
    simp only [e, outriggerlaw04_RootIn.j0, Bool.false_eq_true, if_false]
    refine bind_of (sane_is a b) ?_
    by_cases s : Sane a b
    · refine yes_of (decide_eq_true s) ?_
      have ha : ¬ a < 0 := by
        rw [kn_of s] at c
        unfold Sane at s
        omega
      rw [decide_eq_false ha, decide_eq_true s]
      simp only [outriggerlaw04_RootIn.j1, Bool.false_eq_true, if_false, Bool.not_true]
      have full : rt (kn a b) = 288230376151711744 → outriggerlaw04_RootIn.j2 198 true (rt (kn a b)) true a b = some true := by
        intro h
        simp only [outriggerlaw04_RootIn.j2, if_true]
        refine bind_of (sane_is a b) (yes_of (decide_eq_true s) ?_)
        rw [h]
        rfl
      by_cases f : rbad (kn a b) false = true
      · refine yes_of f (full ?_)
        unfold rbad at f
        split at f
        · exact absurd f (by decide)
        · omega
      · refine no_of f ?_
        by_cases g : rt (kn a b) = 288230376151711744
        · have : (rt (kn a b) == 288230376151711744) = true := by simpa using g
          rw [this]
          exact full g
        · have : (rt (kn a b) == 288230376151711744) = false := by simpa using g
          rw [this]
          simp only [outriggerlaw04_RootIn.j2, Bool.false_eq_true, if_false]
          have e1 : cl (rt (kn a b)) = rt (kn a b) := by unfold cl; (repeat' split) <;> omega
          have e2 : cl (rt (kn a b) + 1) = rt (kn a b) + 1 := by unfold cl; (repeat' split) <;> omega
          have f1 := fits_mul (rt (kn a b)) (rt (kn a b))
          have f2 := fits_mul (rt (kn a b) + 1) (rt (kn a b) + 1)
          rw [e1] at f1
          rw [e2] at f2
          refine yes_of (by trivial) (bind_of (wmul_is _ _) ?_)
          rw [e1]
          refine bind_of (x := cmpv (rt (kn a b) * rt (kn a b)) (kn a b)) ?_ ?_
          · have := cmp_is 194 (hi (rt (kn a b) * rt (kn a b))) (lo (rt (kn a b) * rt (kn a b))) a b
            rw [kn_pair f1] at this
            exact this
          · refine yes_of (by unfold cmpv; (repeat' split) <;> omega) ?_
            rw [w64 (by omega) (by omega)]
            refine bind_of (wmul_is _ _) ?_
            rw [e2]
            refine bind_of (x := cmpv ((rt (kn a b) + 1) * (rt (kn a b) + 1)) (kn a b)) ?_ ?_
            · have := cmp_is 194 (hi ((rt (kn a b) + 1) * (rt (kn a b) + 1))) (lo ((rt (kn a b) + 1) * (rt (kn a b) + 1))) a b
              rw [kn_pair f2] at this
              exact this
            · rcases r3 with r3 | r3
              · exact absurd r3 g
              · congr 1
                simp only [decide_eq_true_eq]
                unfold cmpv
                (repeat' split) <;> omega
    · refine no_of (by simpa using s) ?_
      have e0 := kn_bad s
      have er : rt (kn a b) = 0 := rt_eq (by rw [e0]; exact ⟨by omega, by omega, by omega, Or.inr (by omega)⟩)
      have f : rbad (kn a b) (!decide (Sane a b)) = true := by
        unfold rbad
        rw [er, if_pos (by omega), decide_eq_false s]
        rfl
      rw [f]
      simp only [outriggerlaw04_RootIn.j1, Bool.false_eq_true, if_false, if_true, outriggerlaw04_RootIn.j2]
      refine bind_of (sane_is a b) ?_
      exact no_of (by simpa using s) rfl

end Go.Proofs.Ythfcodicpcengaa.Pure
