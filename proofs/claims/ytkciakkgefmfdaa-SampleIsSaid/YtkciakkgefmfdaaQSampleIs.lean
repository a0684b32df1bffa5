/- The plain law of SampleIs: its Lean function, laid by the print, tells true for every 64-bit input. -/
import Derived.Test.YtkciakkgefmfdaaNum
import Derived.Test.YtkciakkgefmfdaaSample
import Derived.Test.YtkciakkgefmfdaaLSampleIs
namespace Go.Proofs.Ytkciakkgefmfdaa.Pure
open Go Go.RowKit Go.Proofs.Ytkciakkgefmfdaa.B Go.Proofs.Ytkciakkgefmfdaa.Num Go.Proofs.Ytkciakkgefmfdaa.Sample Go.Proofs.YtkciakkgefmfdaaW.PrintWords Go.Proofs.YtkciakkgefmfdaaW.PrintLast Go.Proofs.YtkciakkgefmfdaaW.PrintMore
set_option linter.unusedVariables false

theorem wordsv_len (a b c d e : Int) : (wordsv a b c d e).length < 10 := by
  unfold wordsv wl
  split <;> simp
theorem SampleIs (a b c d e x y z u v : Int) (l : List Int) : ∃ n, outriggerlaw13_SampleIs.f n a b c d e x y z u v l = some true := by
  refine ⟨200, ?_⟩
  have aw : outriggerlaw13_awake.f 200 = some true := at_rounds outriggerlaw13_awake.mono (by decide) outriggerlaw13_awake.known
  unfold outriggerlaw13_SampleIs.f
  refine bind_of aw ?_
  by_cases h : (l.length : Int) > 100
  · exact yes_of h rfl
  · have hw := wordsv_len a b c d e
    refine no_of h (bind_of (read_is (by decide) l) (bind_of (rread_is (by decide) l) (yes_of rfl (yes_of (by simp) (yes_of rfl (bind_of (sum_is (by omega) (by omega)) (bind_of (rsum_is (by omega) (by omega)) (yes_of rfl (bind_of (sane_is _ _ _ _ _) (bind_of (rsane_is _ _ _ _ _) (yes_of (by simp) (bind_of (words_is (by decide) _ _ _ _ _) (bind_of (rwords_is (by decide) _ _ _ _ _) (bind_of (same_is (by omega) (by omega)) (yes_of (by simp) (bind_of (before_is (by decide) _ _ _ _ _ _ _ _ _ _) (bind_of (rbefore_is _ _ _ _ _ _ _ _ _ _) ?_)))))))))))))))))
    simp
theorem SampleIsR (a b c d e x y z u v : Int) (l : List Int) (w0 : (Lit.int .i64 a).wf = true) (w1 : (Lit.int .i64 b).wf = true) (w2 : (Lit.int .i64 c).wf = true) (w3 : (Lit.int .i64 d).wf = true) (w4 : (Lit.int .i64 e).wf = true) (w5 : (Lit.int .i64 x).wf = true) (w6 : (Lit.int .i64 y).wf = true) (w7 : (Lit.int .i64 z).wf = true) (w8 : (Lit.int .i64 u).wf = true) (w9 : (Lit.int .i64 v).wf = true) (hm : l.length ≤ maxLen) (hy : l.length * 8 ≤ 140737488351232) (hw : ∀ x ∈ l, (Lit.int .u64 x).wf = true) : ∃ n, outriggerlaw13_SampleIs.f n a b c d e x y z u v l = some true := SampleIs a b c d e x y z u v l

end Go.Proofs.Ytkciakkgefmfdaa.Pure
