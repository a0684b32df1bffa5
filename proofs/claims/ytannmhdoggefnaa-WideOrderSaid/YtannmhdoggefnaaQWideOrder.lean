/- The plain law of WideOrder: its Lean function, laid by the print, tells true for every 64-bit input. -/
import Derived.Test.YtannmhdoggefnaaWide
import Derived.Test.YtannmhdoggefnaaLWideOrder
namespace Go.Proofs.Ytannmhdoggefnaa.Pure
open Go Go.RowKit Go.Proofs.Ytannmhdoggefnaa.B Go.Proofs.Ytannmhdoggefnaa.Num Go.Proofs.Ytannmhdoggefnaa.Wide Go.Proofs.YtannmhdoggefnaaW.PrintWords Go.Proofs.YtannmhdoggefnaaW.PrintLast Go.Proofs.YtannmhdoggefnaaW.PrintMore
set_option linter.unusedVariables false

theorem WideOrder (a b c d e f x y : Int) (w0 : (Lit.int .i64 a).wf = true) (w1 : (Lit.int .i64 b).wf = true) (w2 : (Lit.int .i64 c).wf = true) (w3 : (Lit.int .i64 d).wf = true)
    (w4 : (Lit.int .i64 e).wf = true) (w5 : (Lit.int .i64 f).wf = true) (w6 : (Lit.int .i64 x).wf = true) (w7 : (Lit.int .i64 y).wf = true) :
    ∃ n, outriggerlaw02_WideOrder.f n a b c d e f x y = some true := by
  refine ⟨64, ?_⟩
  have aw : outriggerlaw02_awake.f 64 = some true := at_rounds outriggerlaw02_awake.mono (by decide) outriggerlaw02_awake.known
  have hp := kn_fits a b
  have hq := kn_fits c d
  have hr := kn_fits e f
  obtain ⟨x0, x1⟩ := bounds_i64 w6
  obtain ⟨y0, y1⟩ := bounds_i64 w7
  have hx := fits_cl x0 x1
  have hy := fits_cl y0 y1
  have last : ∀ (z : Bool), z = false → outriggerlaw02_WideOrder.j0 64 x y true (cmpv (kn a b) (kn c d)) z a b c d e f = some true := by
    rintro z rfl
    simp only [outriggerlaw02_WideOrder.j0, Bool.false_eq_true, if_false]
    refine bind_of (add_is a b e f) ?_
    refine bind_of (add_is c d e f) ?_
    refine bind_of (of_is x) ?_
    refine bind_of (of_is y) ?_
    refine bind_of (cmp_p hx hy 60) ?_
    refine yes_of (by trivial) ?_
    have t1 : ((decide (cmpv x y < 0)) == (decide (x < y))) = true := by
      rw [beq_iff_eq, Bool.eq_iff_iff]
      simp only [decide_eq_true_eq]
      unfold cmpv
      (repeat' split) <;> omega
    have t2 : ((cmpv x y == 0) == (x == y)) = true := by
      rw [beq_iff_eq, Bool.eq_iff_iff]
      simp only [beq_iff_eq]
      unfold cmpv
      (repeat' split) <;> omega
    have fin : (if ((decide (cmpv x y < 0)) == (decide (x < y))) = true then (some ((cmpv x y == 0) == (x == y))) else (some false)) = some true := by rw [if_pos t1, t2]
    by_cases g1 : Fits (kn a b + kn e f)
    · by_cases g2 : Fits (kn c d + kn e f)
      · rw [addv_ok g1, addv_ok g2]
        refine yes_of (decide_eq_true g1) (yes_of (decide_eq_true g2) ?_)
        refine bind_of (cmp_p g1 g2 60) ?_
        refine yes_of ?_ ?_
        rotate_left
        · exact fin
        · unfold cmpv
          (repeat' split) <;> omega
      · exact yes_of (decide_eq_true g1) (no_of (by simpa using g2) fin)
    · exact no_of (by simpa using g1) fin
  unfold outriggerlaw02_WideOrder.f
  refine bind_of aw ?_
  refine bind_of (cmp_is 61 a b c d) ?_
  refine bind_of (cmp_is 61 c d e f) ?_
  have b1 : -1 ≤ cmpv (kn a b) (kn c d) ∧ cmpv (kn a b) (kn c d) ≤ 1 := by unfold cmpv; (repeat' split) <;> omega
  rw [if_neg (by omega), if_neg (by omega)]
  refine bind_of (cmp_is 61 c d a b) ?_
  have e1 : cmpv (kn c d) (kn a b) = wrap64 (- cmpv (kn a b) (kn c d)) := by
    rw [w64 (by omega) (by omega)]
    unfold cmpv
    (repeat' split) <;> omega
  rw [if_pos e1]
  by_cases k1 : cmpv (kn a b) (kn c d) ≤ 0
  · by_cases k2 : cmpv (kn c d) (kn e f) ≤ 0
    · rw [if_pos k1, if_pos k2]
      refine bind_of (cmp_is 61 a b e f) ?_
      refine last _ (decide_eq_false ?_)
      unfold cmpv at *
      (repeat' split at k1) <;> (repeat' split at k2) <;> (repeat' split) <;> omega
    · rw [if_pos k1, if_neg k2]
      exact last _ rfl
  · rw [if_neg k1]
    exact last _ rfl

end Go.Proofs.Ytannmhdoggefnaa.Pure
