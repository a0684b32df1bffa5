/- The plain law of SampleOrder: its Lean function, laid by the print, tells true for every 64-bit input. -/
import Derived.Test.YtkciakkgefmfdaaNum
import Derived.Test.YtkciakkgefmfdaaSample
import Derived.Test.YtkciakkgefmfdaaLSampleOrder
namespace Go.Proofs.Ytkciakkgefmfdaa.Pure
open Go Go.RowKit Go.Proofs.Ytkciakkgefmfdaa.B Go.Proofs.Ytkciakkgefmfdaa.Num Go.Proofs.Ytkciakkgefmfdaa.Sample Go.Proofs.YtkciakkgefmfdaaW.PrintWords Go.Proofs.YtkciakkgefmfdaaW.PrintLast Go.Proofs.YtkciakkgefmfdaaW.PrintMore
set_option linter.unusedVariables false

theorem order_j0 (n : Nat) (p : Bool) (a b c d e x y z u v a' b' c' d' e' : Int) (hp : p = decide (Bef a b x y)) :
    outriggerlaw13_SampleOrder.j0 (n + 4) true p false a b c d e x y z u v a' b' c' d' e' = some true := by
  subst hp
  rw [outriggerlaw13_SampleOrder.j0]
  refine no_of (by decide) (yes_of rfl ?_)
  by_cases h : Bef a b x y
  · refine yes_of (decide_eq_true h) (bind_of (before_is (by omega) _ _ _ _ _ _ _ _ _ _) ?_)
    by_cases g : Bef x y a' b'
    · refine yes_of (decide_eq_true g) (bind_of (before_is (by omega) _ _ _ _ _ _ _ _ _ _) (congrArg some (decide_eq_true ?_)))
      unfold Bef at *
      omega
    · exact no_of (by simpa using g) rfl
  · exact no_of (by simpa using h) rfl
theorem SampleOrder (a b c d e x y z u v a' b' c' d' e' : Int) (w0 : (Lit.int .i64 a).wf = true) (w1 : (Lit.int .i64 b).wf = true) (w2 : (Lit.int .i64 c).wf = true) (w3 : (Lit.int .i64 d).wf = true) (w4 : (Lit.int .i64 e).wf = true)
    (w5 : (Lit.int .i64 x).wf = true) (w6 : (Lit.int .i64 y).wf = true) (w7 : (Lit.int .i64 z).wf = true) (w8 : (Lit.int .i64 u).wf = true) (w9 : (Lit.int .i64 v).wf = true) (w10 : (Lit.int .i64 a').wf = true) (w11 : (Lit.int .i64 b').wf = true) (w12 : (Lit.int .i64 c').wf = true) (w13 : (Lit.int .i64 d').wf = true) (w14 : (Lit.int .i64 e').wf = true) :
    ∃ n, outriggerlaw13_SampleOrder.f n a b c d e x y z u v a' b' c' d' e' = some true := by
  refine ⟨200, ?_⟩
  have aw : outriggerlaw13_awake.f 200 = some true := at_rounds outriggerlaw13_awake.mono (by decide) outriggerlaw13_awake.known
  unfold outriggerlaw13_SampleOrder.f
  refine bind_of aw (bind_of (before_is (by decide) _ _ _ _ _ _ _ _ _ _) (bind_of (before_is (by decide) _ _ _ _ _ _ _ _ _ _) (bind_of (before_is (by decide) _ _ _ _ _ _ _ _ _ _) ?_)))
  have h0 : ¬ Bef a b a b := by unfold Bef; omega
  have key : ∀ (p q : Bool), p = decide (Bef a b x y) → q = false → outriggerlaw13_SampleOrder.j0 200 true p q a b c d e x y z u v a' b' c' d' e' = some true := by
    intro p q hp hq
    subst hq
    exact order_j0 196 p a b c d e x y z u v a' b' c' d' e' hp
  refine no_of (by simpa using h0) ?_
  by_cases h : Bef a b x y
  · refine yes_of (decide_eq_true h) ?_
    have g : ¬ Bef x y a b := by unfold Bef at *; omega
    refine no_of (by simpa using g) ?_
    by_cases ha : a = x
    · refine yes_of ha (key _ _ rfl ?_)
      have : b ≠ y := by unfold Bef at h; omega
      have hb : (b != y) = true := by simpa using this
      rw [hb]
      rfl
    · exact no_of ha (key _ _ rfl rfl)
  · refine no_of (by simpa using h) ?_
    by_cases ha : a = x
    · refine yes_of ha (key _ _ rfl ?_)
      by_cases g : Bef x y a b
      · have hb : (b != y) = true := by
          have : b ≠ y := by unfold Bef at g; omega
          simpa using this
        rw [hb, decide_eq_true g]
        rfl
      · have hb : (b != y) = false := by
          have : b = y := by unfold Bef at g h; omega
          simp [this]
        rw [hb, decide_eq_false g]
        rfl
    · refine no_of ha (key _ _ rfl ?_)
      have g : Bef x y a b := by unfold Bef at h ⊢; omega
      rw [decide_eq_true g]
      rfl

end Go.Proofs.Ytkciakkgefmfdaa.Pure
