/- The plain law of SampleSums: its Lean function, laid by the print, tells true for every 64-bit input. -/
import Derived.Test.YtkciakkgefmfdaaNum
import Derived.Test.YtkciakkgefmfdaaSample
import Derived.Test.YtkciakkgefmfdaaLSampleSums
namespace Go.Proofs.Ytkciakkgefmfdaa.Pure
open Go Go.RowKit Go.Proofs.Ytkciakkgefmfdaa.B Go.Proofs.Ytkciakkgefmfdaa.Num Go.Proofs.Ytkciakkgefmfdaa.Sample Go.Proofs.YtkciakkgefmfdaaW.PrintWords Go.Proofs.YtkciakkgefmfdaaW.PrintLast Go.Proofs.YtkciakkgefmfdaaW.PrintMore
set_option linter.unusedVariables false

theorem getD_in {l : List Int} (hl : ∀ x ∈ l, InW x) {i : Nat} (hi : i < l.length) : InW (l.getD i 0) := by
  rw [List.getD_eq_getElem?_getD, List.getElem?_eq_getElem hi]
  exact hl _ (List.getElem_mem hi)
theorem sums_j0 (n : Nat) (l : List Int) (i by' : Int) (hl : ∀ x ∈ l, InW x) (h1 : l.length ≤ 100) (h2 : l.length ≠ 0) (hb : InW by') (hb0 : by' ≠ 0) :
    outriggerlaw13_SampleSums.j0 (n + 200) l i by' true false = some true := by
  rw [outriggerlaw13_SampleSums.j0]
  have b16 : 0 ≤ Go.bits .and .i64 i 65535 := by
    have h := band64 i 16 (by decide)
    have p : (2 : Int) ^ 16 = 65536 := by decide
    rw [p] at h
    have h2 : Go.bits .and .i64 i 65535 = i % 65536 := h
    omega
  have hlast : wrap64 ((l.length : Int) - 1) = ((l.length - 1 : Nat) : Int) := by rw [w64 (by omega) (by omega)]; omega
  have hk : Int.tmod (Go.bits .and .i64 i 65535) (l.length : Int) = (((Go.bits .and .i64 i 65535).toNat % l.length : Nat) : Int) := by
    rw [Int.tmod_eq_emod_of_nonneg b16, Int.natCast_emod, Int.toNat_of_nonneg b16]
  rw [hlast, hk]
  have hj : (Go.bits .and .i64 i 65535).toNat % l.length < l.length := Nat.mod_lt _ (by omega)
  generalize (Go.bits .and .i64 i 65535).toNat % l.length = j at *
  have hv : rd l (j : Int) = l.getD j 0 := rfl
  have hi := getD_in hl hj
  have hne : xo (l.getD j 0) by' ≠ l.getD j 0 := fun e => hb0 (xo_same hi hb e)
  have hset := sum_one l 14695981039346656037 j (xo (l.getD j 0) by') first_in hj (xo_in _ _) hi hne
  have hm : l.take (l.length - 1) ++ [l.getD (l.length - 1) 0] = l := by
    have h3 := List.take_succ_eq_append_getElem (l := l) (i := l.length - 1) (by omega)
    rw [List.getD_eq_getElem?_getD, List.getElem?_eq_getElem (by omega)]
    rw [List.take_of_length_le (by omega)] at h3
    exact h3.symm
  have hs := sum_last (l.take (l.length - 1)) (l.getD (l.length - 1) 0)
  rw [hm] at hs
  refine no_of (by decide) (no_of (by omega) (bind_of rfl (yes_of (by simp; omega) (bind_of rfl ?_))))
  simp only [List.nil_append]
  refine yes_of (by omega) (yes_of (by omega) (yes_of (by omega) (yes_of (by omega) (bind_of (sum_is (by rw [List.length_take]; omega) (by rw [List.length_take]; omega)) (yes_of (by omega) (yes_of (by trivial) (bind_of (sum_is (by rw [List.length_set]; omega) (by rw [List.length_set]; omega)) (bind_of (sum_is (by omega) (by omega)) (no_of ?_ (bind_of (sum_is (by omega) (by omega)) ?_))))))))))
  · exact hset
  · refine congrArg some (beq_iff_eq.mpr ?_)
    exact hs
theorem SampleSums (l : List Int) (i by' : Int) (hl : ∀ x ∈ l, InW x) (hb : InW by') : ∃ n, outriggerlaw13_SampleSums.f n l i by' = some true := by
  refine ⟨200, ?_⟩
  have aw : outriggerlaw13_awake.f 200 = some true := at_rounds outriggerlaw13_awake.mono (by decide) outriggerlaw13_awake.known
  have done : outriggerlaw13_SampleSums.j0 200 l i by' true true = some true := by
    rw [outriggerlaw13_SampleSums.j0]
    exact yes_of rfl rfl
  unfold outriggerlaw13_SampleSums.f
  refine bind_of aw ?_
  by_cases h : (l.length : Int) > 100
  · exact yes_of h done
  refine no_of h ?_
  by_cases h0 : (l.length : Int) = 0
  · exact yes_of h0 done
  refine no_of h0 ?_
  by_cases hb0 : by' = 0
  · subst hb0
    exact done
  · have : (by' == 0) = false := by simpa using hb0
    rw [this]
    exact sums_j0 0 l i by' hl (by omega) (by omega) hb hb0
theorem SampleSumsR (l : List Int) (i by' : Int) (hm : l.length ≤ maxLen) (hy : l.length * 8 ≤ 140737488351232) (hw : ∀ x ∈ l, (Lit.int .u64 x).wf = true) (w1 : (Lit.int .i64 i).wf = true) (w2 : (Lit.int .u64 by').wf = true) : ∃ n, outriggerlaw13_SampleSums.f n l i by' = some true := SampleSums l i by' (fun x hx => in_wfu (hw x hx)) (in_wfu w2)

end Go.Proofs.Ytkciakkgefmfdaa.Pure
