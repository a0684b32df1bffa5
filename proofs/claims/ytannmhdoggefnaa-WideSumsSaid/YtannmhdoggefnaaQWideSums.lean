/- The plain law of WideSums: its Lean function, laid by the print, tells true for every 64-bit input. -/
import Derived.Test.YtannmhdoggefnaaWide
import Derived.Test.YtannmhdoggefnaaLWideSums0
namespace Go.Proofs.Ytannmhdoggefnaa.Pure
open Go Go.RowKit Go.Proofs.Ytannmhdoggefnaa.B Go.Proofs.Ytannmhdoggefnaa.Num Go.Proofs.Ytannmhdoggefnaa.Wide Go.Proofs.YtannmhdoggefnaaW.PrintWords Go.Proofs.YtannmhdoggefnaaW.PrintLast Go.Proofs.YtannmhdoggefnaaW.PrintMore
set_option linter.unusedVariables false

theorem WideSums (a b c d e f : Int) (w0 : (Lit.int .i64 a).wf = true) (w1 : (Lit.int .i64 b).wf = true) (w2 : (Lit.int .i64 c).wf = true) (w3 : (Lit.int .i64 d).wf = true)
    (w4 : (Lit.int .i64 e).wf = true) (w5 : (Lit.int .i64 f).wf = true) : ∃ n, outriggerlaw02_WideSums.f n a b c d e f = some true := by
  refine ⟨64, ?_⟩
  have aw : outriggerlaw02_awake.f 64 = some true := at_rounds outriggerlaw02_awake.mono (by decide) outriggerlaw02_awake.known
  have hx := kn_fits a b
  have hy := kn_fits c d
  have hz := kn_fits e f
  have hs := addv_fits (kn a b) (kn c d)
  have hv := addv_fits (kn c d) (kn e f)
  unfold outriggerlaw02_WideSums.f
  refine bind_of aw ?_
  refine bind_of (add_is a b c d) ?_
  refine bind_of (add_is c d a b) ?_
  refine bind_of (x := (hi (addv (addv (kn a b) (kn c d)) (kn e f)), lo (addv (addv (kn a b) (kn c d)) (kn e f)), decide (Fits (addv (kn a b) (kn c d) + kn e f)))) (by rw [add_is, kn_pair hs]) ?_
  refine bind_of (add_is c d e f) ?_
  refine bind_of (x := (hi (addv (kn a b) (addv (kn c d) (kn e f))), lo (addv (kn a b) (addv (kn c d) (kn e f))), decide (Fits (kn a b + addv (kn c d) (kn e f))))) (by rw [add_is, kn_pair hv]) ?_
  have ec : addv (kn c d) (kn a b) = addv (kn a b) (kn c d) := by unfold addv; rw [Int.add_comm]
  have ed : Fits (kn c d + kn a b) = Fits (kn a b + kn c d) := by rw [Int.add_comm]
  refine no_of (fun h => pair_ne.mp h ec.symm) (no_of (by simp only [ed]; simp) ?_)
  refine bind_of (sane_p hs) ?_
  have stop : ∀ (p q r s t u v w x y : Int), outriggerlaw02_WideSums.j1 63 true true p q r s t u v w x y = some true := fun _ _ _ _ _ _ _ _ _ _ => rfl
  simp only [outriggerlaw02_WideSums.j0, Bool.not_true, Bool.false_eq_true, if_false]
  refine bind_of (sane_is a b) ?_
  by_cases sa : Sane a b
  case neg => exact no_of (by simpa using sa) (stop _ _ _ _ _ _ _ _ _ _)
  refine yes_of (decide_eq_true sa) (bind_of (sane_is c d) ?_)
  by_cases sc : Sane c d
  case neg => exact no_of (by simpa using sc) (stop _ _ _ _ _ _ _ _ _ _)
  refine yes_of (decide_eq_true sc) (bind_of (sane_is e f) ?_)
  by_cases se : Sane e f
  case neg => exact no_of (by simpa using se) (stop _ _ _ _ _ _ _ _ _ _)
  refine yes_of (decide_eq_true se) ?_
  by_cases f1 : Fits (kn a b + kn c d)
  case neg => exact no_of (by simpa using f1) (stop _ _ _ _ _ _ _ _ _ _)
  refine yes_of (decide_eq_true f1) ?_
  have e1 := addv_ok f1
  by_cases f2 : Fits (addv (kn a b) (kn c d) + kn e f)
  case neg => exact no_of (by simpa using f2) (stop _ _ _ _ _ _ _ _ _ _)
  refine yes_of (decide_eq_true f2) ?_
  have e2 := addv_ok f2
  by_cases f3 : Fits (kn c d + kn e f)
  case neg => exact no_of (by simpa using f3) (stop _ _ _ _ _ _ _ _ _ _)
  refine yes_of (decide_eq_true f3) ?_
  have e3 := addv_ok f3
  by_cases f4 : Fits (kn a b + addv (kn c d) (kn e f))
  case neg =>
    have : (!decide (Fits (kn a b + addv (kn c d) (kn e f)))) = true := by simpa using f4
    simp only [this]
    exact stop _ _ _ _ _ _ _ _ _ _
  have : (!decide (Fits (kn a b + addv (kn c d) (kn e f)))) = false := by simpa using f4
  simp only [this]
  have e4 := addv_ok f4
  simp only [outriggerlaw02_WideSums.j1, Bool.false_eq_true, if_false]
  refine bind_of (wneg_is c d) ?_
  refine bind_of (add_p hs (negv_fits _)) ?_
  refine yes_of (by trivial) (yes_of (pair_eq.mpr (by rw [e2, e4, e1, e3, Int.add_assoc])) ?_)
  have last : kn c d ≠ -10633823966279326983230456482242756608 → (if decide (Fits (addv (kn a b) (kn c d) + negv (kn c d))) = true then (some (hi (addv (addv (kn a b) (kn c d)) (negv (kn c d))) == a && (lo (addv (addv (kn a b) (kn c d)) (negv (kn c d))) == b))) else (some false)) = some true := by
    intro hne
    have g1 : Fits (- kn c d) := by unfold Fits at *; omega
    have g2 : negv (kn c d) = - kn c d := by unfold negv; rw [if_pos g1]
    have g3 : addv (kn a b) (kn c d) + negv (kn c d) = kn a b := by rw [e1, g2]; omega
    have g4 : addv (addv (kn a b) (kn c d)) (negv (kn c d)) = kn a b := by rw [addv_ok (by rw [g3]; exact hx), g3]
    rw [g3, g4, if_pos (decide_eq_true hx), (pair_of sa).1, (pair_of sa).2]
    simp
  have hk := kn_of sc
  unfold Sane at sc
  by_cases c1 : c = -2305843009213693952
  · by_cases c2 : d = 0
    · exact yes_of c1 (yes_of c2 rfl)
    · exact yes_of c1 (no_of c2 (last (by omega)))
  · exact no_of c1 (last (by omega))

end Go.Proofs.Ytannmhdoggefnaa.Pure
