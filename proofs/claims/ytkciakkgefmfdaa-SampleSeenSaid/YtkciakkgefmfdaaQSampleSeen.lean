/- The plain law of SampleSeen: its Lean function, laid by the print, tells true for every 64-bit input. -/
import Derived.Test.YtkciakkgefmfdaaNum
import Derived.Test.YtkciakkgefmfdaaSample
import Derived.Test.YtkciakkgefmfdaaLSampleSeen
namespace Go.Proofs.Ytkciakkgefmfdaa.Pure
open Go Go.RowKit Go.Proofs.Ytkciakkgefmfdaa.B Go.Proofs.Ytkciakkgefmfdaa.Num Go.Proofs.Ytkciakkgefmfdaa.Sample Go.Proofs.YtkciakkgefmfdaaW.PrintWords Go.Proofs.YtkciakkgefmfdaaW.PrintLast Go.Proofs.YtkciakkgefmfdaaW.PrintMore
set_option linter.unusedVariables false

theorem wl_len (a b c d e : Int) : (wl a b c d e).length = 5 := rfl
theorem wl_in (a b c d e : Int) : ∀ x ∈ wl a b c d e, InW x := by
  intro x hx
  simp [wl] at hx
  rcases hx with rfl | rfl | rfl | rfl | rfl <;> exact uw_in _
theorem getD_in {l : List Int} (hl : ∀ x ∈ l, InW x) {i : Nat} (hi : i < l.length) : InW (l.getD i 0) := by
  rw [List.getD_eq_getElem?_getD, List.getElem?_eq_getElem hi]
  exact hl _ (List.getElem_mem hi)
theorem sumv_in (l : List Int) : InW (sumv l) := fold_in l _ first_in
theorem seen_read {m : List Int} (h6 : m.length = 6) (hs : sumv (m.take 5) ≠ rd m 5) : (readv m).2.2.2.2.2 = 2 := by
  unfold readv
  rw [if_pos h6, if_neg hs]
theorem seen_one {l : List Int} (h5 : l.length = 5) (hl : ∀ x ∈ l, InW x) {j : Nat} (hj : j < 6) {by' : Int} (hb : InW by') (hb0 : by' ≠ 0) :
    (readv ((l ++ [sumv l]).set j (xo ((l ++ [sumv l]).getD j 0) by'))).2.2.2.2.2 = 2 := by
  refine seen_read (by rw [List.length_set]; simp [h5]) ?_
  by_cases h : j < 5
  · have e1 : (l ++ [sumv l]).getD j 0 = l.getD j 0 := by
      rw [List.getD_eq_getElem?_getD, List.getD_eq_getElem?_getD, List.getElem?_append_left (by omega)]
    rw [e1, List.set_append_left _ _ (by omega), List.take_left' (by rw [List.length_set, h5])]
    have e2 : rd (l.set j (xo (l.getD j 0) by') ++ [sumv l]) 5 = sumv l := by
      show (l.set j (xo (l.getD j 0) by') ++ [sumv l]).getD 5 0 = sumv l
      rw [List.getD_eq_getElem?_getD, List.getElem?_append_right (by rw [List.length_set]; omega), List.length_set, h5]
      rfl
    rw [e2]
    have hi := getD_in hl (i := j) (by omega)
    exact sum_one l _ j _ first_in (by omega) (xo_in _ _) hi (fun e => hb0 (xo_same hi hb e))
  · obtain rfl : j = 5 := by omega
    have e1 : (l ++ [sumv l]).getD 5 0 = sumv l := by
      rw [List.getD_eq_getElem?_getD, List.getElem?_append_right (by omega), h5]
      rfl
    rw [e1, List.set_append_right _ _ (by omega), h5]
    have e3 : [sumv l].set (5 - 5) (xo (sumv l) by') = [xo (sumv l) by'] := rfl
    rw [e3, List.take_left' h5]
    have e2 : rd (l ++ [xo (sumv l) by']) 5 = xo (sumv l) by' := by
      show (l ++ [xo (sumv l) by']).getD 5 0 = _
      rw [List.getD_eq_getElem?_getD, List.getElem?_append_right (by omega), h5]
      rfl
    rw [e2]
    intro e
    exact hb0 (xo_same (sumv_in l) hb e.symm)
theorem SampleSeen (a b c d e i by' : Int) (hb : InW by') : ∃ n, outriggerlaw13_SampleSeen.f n a b c d e i by' = some true := by
  refine ⟨200, ?_⟩
  have aw : outriggerlaw13_awake.f 200 = some true := at_rounds outriggerlaw13_awake.mono (by decide) outriggerlaw13_awake.known
  unfold outriggerlaw13_SampleSeen.f
  have hlen : (wordsv a b c d e).length < 10 := by
    unfold wordsv wl
    split <;> simp
  refine bind_of aw (bind_of rfl (bind_of (words_is (by decide) _ _ _ _ _) (yes_of (by simp; omega) (bind_of rfl ?_))))
  simp only [List.nil_append]
  by_cases hb0 : by' = 0
  · refine yes_of hb0 ?_
    rw [outriggerlaw13_SampleSeen.j0]
    exact yes_of rfl (yes_of rfl (yes_of hb0 rfl))
  refine no_of hb0 ?_
  by_cases hp : SaneP a b c d e
  · have hw : wordsv a b c d e = wl a b c d e ++ [sumv (wl a b c d e)] := by
      unfold wordsv
      rw [if_pos hp]
    rw [hw]
    have h6 : (((wl a b c d e ++ [sumv (wl a b c d e)]).length : Int) != 6) = false := rfl
    rw [h6, outriggerlaw13_SampleSeen.j0]
    have b16 : 0 ≤ Go.bits .and .i64 i 65535 := by
      have h := band64 i 16 (by decide)
      have p : (2 : Int) ^ 16 = 65536 := by decide
      rw [p] at h
      have h2 : Go.bits .and .i64 i 65535 = i % 65536 := h
      omega
    have hk : Int.tmod (Go.bits .and .i64 i 65535) 6 = (((Go.bits .and .i64 i 65535).toNat % 6 : Nat) : Int) := by
      rw [Int.tmod_eq_emod_of_nonneg b16]
      omega
    rw [hk]
    have hj : (Go.bits .and .i64 i 65535).toNat % 6 < 6 := Nat.mod_lt _ (by omega)
    generalize (Go.bits .and .i64 i 65535).toNat % 6 = j at *
    have hs := seen_one (wl_len a b c d e) (wl_in a b c d e) hj hb hb0
    have hl6 : ((wl a b c d e ++ [sumv (wl a b c d e)]).length : Int) = 6 := rfl
    refine no_of (by decide) (yes_of (by omega) (yes_of (by rw [hl6]; omega) (bind_of (read_is (by decide) _) (yes_of rfl (congrArg some (beq_iff_eq.mpr ?_))))))
    exact hs
  · have hw : wordsv a b c d e = [] := by
      unfold wordsv
      rw [if_neg hp]
    rw [hw, outriggerlaw13_SampleSeen.j0]
    refine yes_of rfl (yes_of rfl (no_of hb0 (bind_of (sane_is _ _ _ _ _) ?_)))
    rw [decide_eq_false hp]
    rfl
theorem SampleSeenR (a b c d e i by' : Int) (w0 : (Lit.int .i64 a).wf = true) (w1 : (Lit.int .i64 b).wf = true) (w2 : (Lit.int .i64 c).wf = true) (w3 : (Lit.int .i64 d).wf = true) (w4 : (Lit.int .i64 e).wf = true) (w5 : (Lit.int .i64 i).wf = true) (w6 : (Lit.int .u64 by').wf = true) : ∃ n, outriggerlaw13_SampleSeen.f n a b c d e i by' = some true := SampleSeen a b c d e i by' (in_wfu w6)

end Go.Proofs.Ytkciakkgefmfdaa.Pure
