/- The plain law of WideDown: its Lean function, laid by the print, tells true for every 64-bit input. -/
import Derived.Test.YtannmhdoggefnaaWide
import Derived.Test.YtannmhdoggefnaaLWideDown
namespace Go.Proofs.Ytannmhdoggefnaa.Pure
open Go Go.RowKit Go.Proofs.Ytannmhdoggefnaa.B Go.Proofs.Ytannmhdoggefnaa.Num Go.Proofs.Ytannmhdoggefnaa.Wide Go.Proofs.YtannmhdoggefnaaW.PrintWords Go.Proofs.YtannmhdoggefnaaW.PrintLast Go.Proofs.YtannmhdoggefnaaW.PrintMore
set_option linter.unusedVariables false

theorem WideDown (a b k m : Int) (w0 : (Lit.int .i64 a).wf = true) (w1 : (Lit.int .i64 b).wf = true) (w2 : (Lit.int .i64 k).wf = true) (w3 : (Lit.int .i64 m).wf = true) :
    ∃ n, outriggerlaw02_WideDown.f n a b k m = some true := by
  refine ⟨64, ?_⟩
  have aw : outriggerlaw02_awake.f 64 = some true := at_rounds outriggerlaw02_awake.mono (by decide) outriggerlaw02_awake.known
  have stop : outriggerlaw02_WideDown.j0 64 k m true true a b = some true := rfl
  unfold outriggerlaw02_WideDown.f
  refine bind_of aw ?_
  by_cases c1 : k < 0
  · rw [if_pos c1]; exact stop
  by_cases c2 : m < 0
  · rw [if_neg c1, if_pos c2]; exact stop
  by_cases c3 : k > 100
  · rw [if_neg c1, if_neg c2, if_pos c3]; exact stop
  by_cases c4 : m > 100
  · rw [if_neg c1, if_neg c2, if_neg c3, decide_eq_true c4]; exact stop
  rw [if_neg c1, if_neg c2, if_neg c3, decide_eq_false c4]
  simp only [outriggerlaw02_WideDown.j0, Bool.false_eq_true, if_false]
  have hx := kn_fits a b
  refine bind_of (down_is a b k) ?_
  refine bind_of (down_p (fits_div hx _) m) ?_
  refine bind_of (down_is a b _) ?_
  have e1 : kn a b / 2 ^ sh k / 2 ^ sh m = kn a b / 2 ^ sh (wrap64 (k + m)) := by
    rw [w64 (by omega) (by omega), div_pow_add]
    have h1 := sh_of (k := k) (by omega) (by omega)
    have h2 := sh_of (k := m) (by omega) (by omega)
    have h3 := sh_of (k := k + m) (by omega) (by omega)
    rw [show sh k + sh m = sh (k + m) by omega]
  rw [if_neg (fun h => pair_ne.mp h e1)]
  refine bind_of (sane_is a b) ?_
  by_cases hs : Sane a b
  · rw [if_pos (decide_eq_true hs)]
    have g1 : sh 1 = 1 := by have := sh_of (k := 1) (by omega) (by omega); omega
    have hh : Fits (kn a b / 2) := by
      have := fits_div hx 1
      exact this
    refine bind_of (x := (hi (kn a b / 2), lo (kn a b / 2))) (by rw [down_is, g1]; rfl) ?_
    have f1 : Fits (kn a b / 2 + kn a b / 2) := by unfold Fits at *; omega
    refine bind_of (add_p hh hh) ?_
    rw [addv_ok f1]
    refine bind_of (of_is _) ?_
    have e2 : Go.bits .and .i64 b 1 = kn a b % 2 := by
      rw [band1, kn_of hs]
      omega
    rw [e2]
    have f2 : Fits (kn a b % 2) := by unfold Fits; omega
    refine bind_of (add_p f1 f2) ?_
    have e3 : kn a b / 2 + kn a b / 2 + kn a b % 2 = kn a b := by omega
    rw [addv_ok (by rw [e3]; exact hx), e3]
    refine yes_of (by trivial) (yes_of (decide_eq_true f1) (yes_of (decide_eq_true hx) ?_))
    refine yes_of (by rw [(pair_of hs).1, (pair_of hs).2]; simp) ?_
    exact bind_of (sane_p hh) rfl
  · refine no_of (by simpa using hs) (yes_of (by trivial) ?_)
    refine bind_of (down_is a b k) ?_
    rw [kn_bad hs, Int.zero_ediv]
    rfl

end Go.Proofs.Ytannmhdoggefnaa.Pure
