/- The plain law of SampleBack: its Lean function, laid by the print, tells true for every 64-bit input. -/
import Derived.Test.YtkciakkgefmfdaaNum
import Derived.Test.YtkciakkgefmfdaaSample
import Derived.Test.YtkciakkgefmfdaaLSampleBack
namespace Go.Proofs.Ytkciakkgefmfdaa.Pure
open Go Go.RowKit Go.Proofs.Ytkciakkgefmfdaa.B Go.Proofs.Ytkciakkgefmfdaa.Num Go.Proofs.Ytkciakkgefmfdaa.Sample Go.Proofs.YtkciakkgefmfdaaW.PrintWords Go.Proofs.YtkciakkgefmfdaaW.PrintLast Go.Proofs.YtkciakkgefmfdaaW.PrintMore
set_option linter.unusedVariables false

theorem wl_len (a b c d e : Int) : (wl a b c d e).length = 5 := rfl
theorem list6 {l : List Int} (h : l.length = 6) : l = [rd l 0, rd l 1, rd l 2, rd l 3, rd l 4, rd l 5] := by
  rcases l with _ | ⟨a, _ | ⟨b, _ | ⟨c, _ | ⟨d, _ | ⟨e, _ | ⟨f, _ | ⟨g, l⟩⟩⟩⟩⟩⟩⟩ <;> simp at h
  rfl
theorem rd_in {l : List Int} (hl : ∀ x ∈ l, InW x) {i : Nat} (hi : i < l.length) : InW (rd l (i : Int)) := by
  have : rd l (i : Int) = l[i] := by
    rw [rd_nat, List.getD_eq_getElem?_getD, List.getElem?_eq_getElem hi]
    rfl
  rw [this]
  exact hl _ (List.getElem_mem hi)
/-- What is read of words has them for words. -/
theorem back_words {l : List Int} (hl : ∀ x ∈ l, InW x) (h6 : l.length = 6) (hs : sumv (l.take 5) = rd l 5) (hp : SaneP (wrap64 (rd l 0)) (wrap64 (rd l 1)) (wrap64 (rd l 2)) (wrap64 (rd l 3)) (wrap64 (rd l 4))) :
    wordsv (wrap64 (rd l 0)) (wrap64 (rd l 1)) (wrap64 (rd l 2)) (wrap64 (rd l 3)) (wrap64 (rd l 4)) = l := by
  have e := list6 h6
  have i0 := rd_in hl (i := 0) (by omega)
  have i1 := rd_in hl (i := 1) (by omega)
  have i2 := rd_in hl (i := 2) (by omega)
  have i3 := rd_in hl (i := 3) (by omega)
  have i4 := rd_in hl (i := 4) (by omega)
  unfold wordsv wl
  rw [if_pos hp]
  have e0 : uw (wrap64 (rd l 0)) = rd l 0 := uw_wrap i0
  have e1 : uw (wrap64 (rd l 1)) = rd l 1 := uw_wrap i1
  have e2 : uw (wrap64 (rd l 2)) = rd l 2 := uw_wrap i2
  have e3 : uw (wrap64 (rd l 3)) = rd l 3 := uw_wrap i3
  have e4 : uw (wrap64 (rd l 4)) = rd l 4 := uw_wrap i4
  rw [e0, e1, e2, e3, e4]
  have ht : l.take 5 = [rd l 0, rd l 1, rd l 2, rd l 3, rd l 4] := by
    conv => lhs; rw [e]
    rfl
  rw [ht] at hs
  rw [hs]
  exact e.symm
/-- What is laid is read. -/
theorem back_read {a b c d e : Int} (ha : InI a) (hb : InI b) (hc : InI c) (hd : InI d) (he : InI e) (hp : SaneP a b c d e) : readv (wordsv a b c d e) = (a, b, c, d, e, 0) := by
  unfold wordsv
  rw [if_pos hp]
  unfold readv
  have ht : ∀ S, (wl a b c d e ++ [S]).take 5 = wl a b c d e := fun _ => rfl
  have hl6 : ∀ S, (wl a b c d e ++ [S]).length = 6 := fun _ => rfl
  have r5 : ∀ S, rd (wl a b c d e ++ [S]) 5 = S := fun _ => rfl
  have e0 : ∀ S, rd (wl a b c d e ++ [S]) 0 = uw a := fun _ => rfl
  have e1 : ∀ S, rd (wl a b c d e ++ [S]) 1 = uw b := fun _ => rfl
  have e2 : ∀ S, rd (wl a b c d e ++ [S]) 2 = uw c := fun _ => rfl
  have e3 : ∀ S, rd (wl a b c d e ++ [S]) 3 = uw d := fun _ => rfl
  have e4 : ∀ S, rd (wl a b c d e ++ [S]) 4 = uw e := fun _ => rfl
  unfold six
  rw [ht, e0, e1, e2, e3, e4, r5, if_pos (hl6 _)]
  generalize sumv (wl a b c d e) = S
  rw [if_pos (Eq.refl S), wrap_uw ha, wrap_uw hb, wrap_uw hc, wrap_uw hd, wrap_uw he, if_pos hp]
theorem in_wf {a : Int} (h : (Lit.int .i64 a).wf = true) : InI a := by
  have e0 : IntKind.i64.min = -9223372036854775808 := by decide
  have e1 : IntKind.i64.max = 9223372036854775807 := by decide
  simp [Lit.wf, e0, e1] at h
  exact h
theorem back_j0 (n : Nat) (a b c d e x1 x2 x3 x4 x5 x6 : Int) (hr : readv (wordsv a b c d e) = (x1, x2, x3, x4, x5, x6)) (ha : InI a) (hb : InI b) (hc : InI c) (hd : InI d) (he : InI e) :
    outriggerlaw13_SampleBack.j0 (n + 1) true (wordsv a b c d e) x6 false a b c d e x1 x2 x3 x4 x5 = some true := by
  rw [outriggerlaw13_SampleBack.j0]
  refine no_of (by decide) (bind_of (sane_is _ _ _ _ _) ?_)
  by_cases hp : SaneP a b c d e
  · rw [back_read ha hb hc hd he hp] at hr
    simp only [Prod.mk.injEq] at hr
    obtain ⟨rfl, rfl, rfl, rfl, rfl, rfl⟩ := hr
    refine yes_of (decide_eq_true hp) (yes_of rfl (yes_of ?_ (yes_of rfl ?_)))
    · unfold wordsv
      rw [if_pos hp]
      rfl
    · simp
  · unfold wordsv at hr ⊢
    rw [if_neg hp] at hr ⊢
    have h0 : readv [] = (0, 0, 0, 0, 0, 5) := rfl
    rw [h0] at hr
    simp only [Prod.mk.injEq] at hr
    obtain ⟨rfl, rfl, rfl, rfl, rfl, rfl⟩ := hr
    exact no_of (by simpa using hp) (yes_of rfl (yes_of rfl rfl))
theorem SampleBack (a b c d e : Int) (l : List Int) (w0 : (Lit.int .i64 a).wf = true) (w1 : (Lit.int .i64 b).wf = true) (w2 : (Lit.int .i64 c).wf = true) (w3 : (Lit.int .i64 d).wf = true) (w4 : (Lit.int .i64 e).wf = true) (hl : ∀ x ∈ l, InW x) :
    ∃ n, outriggerlaw13_SampleBack.f n a b c d e l = some true := by
  refine ⟨200, ?_⟩
  have aw : outriggerlaw13_awake.f 200 = some true := at_rounds outriggerlaw13_awake.mono (by decide) outriggerlaw13_awake.known
  unfold outriggerlaw13_SampleBack.f
  refine bind_of aw ?_
  by_cases h : (l.length : Int) > 100
  · exact yes_of h rfl
  · obtain ⟨x1, x2, x3, x4, x5, x6, hr⟩ : ∃ x1 x2 x3 x4 x5 x6, readv (wordsv a b c d e) = (x1, x2, x3, x4, x5, x6) := ⟨_, _, _, _, _, _, rfl⟩
    have hj := fun m => back_j0 m a b c d e x1 x2 x3 x4 x5 x6 hr (in_wf w0) (in_wf w1) (in_wf w2) (in_wf w3) (in_wf w4)
    refine no_of h (bind_of (words_is (by decide) _ _ _ _ _) (bind_of ((read_is (by decide) _).trans (congrArg some hr)) (bind_of (read_is (by decide) l) ?_)))
    have cases4 : (l.length = 6 ∧ sumv (l.take 5) = rd l 5 ∧ SaneP (wrap64 (rd l 0)) (wrap64 (rd l 1)) (wrap64 (rd l 2)) (wrap64 (rd l 3)) (wrap64 (rd l 4)) ∧ readv l = six l) ∨ ∃ q, q ≠ 0 ∧ readv l = (0, 0, 0, 0, 0, q) := by
      unfold readv
      by_cases h6 : l.length = 6
      · rw [if_pos h6]
        by_cases hs : sumv (l.take 5) = rd l 5
        · rw [if_pos hs]
          by_cases hp : SaneP (wrap64 (rd l 0)) (wrap64 (rd l 1)) (wrap64 (rd l 2)) (wrap64 (rd l 3)) (wrap64 (rd l 4))
          · rw [if_pos hp]
            exact Or.inl ⟨h6, hs, hp, rfl⟩
          · rw [if_neg hp]
            exact Or.inr ⟨1, by decide, rfl⟩
        · rw [if_neg hs]
          exact Or.inr ⟨2, by decide, rfl⟩
      · rw [if_neg h6]
        exact Or.inr ⟨5, by decide, rfl⟩
    rcases cases4 with ⟨h6, hs, hp, hl6⟩ | ⟨q, hq, hz⟩
    · rw [hl6]
      unfold six
      refine yes_of rfl (bind_of (words_is (by decide) _ _ _ _ _) ?_)
      simp only []
      rw [back_words hl h6 hs hp]
      refine bind_of (same_is (by omega) (by omega)) (yes_of (by simp) ?_)
      exact hj 199
    · rw [hz]
      refine no_of hq ?_
      exact hj 199
theorem SampleBackR (a b c d e : Int) (l : List Int) (w0 : (Lit.int .i64 a).wf = true) (w1 : (Lit.int .i64 b).wf = true) (w2 : (Lit.int .i64 c).wf = true) (w3 : (Lit.int .i64 d).wf = true) (w4 : (Lit.int .i64 e).wf = true) (hm : l.length ≤ maxLen) (hy : l.length * 8 ≤ 140737488351232) (hw : ∀ x ∈ l, (Lit.int .u64 x).wf = true) : ∃ n, outriggerlaw13_SampleBack.f n a b c d e l = some true := SampleBack a b c d e l w0 w1 w2 w3 w4 (fun x hx => in_wfu (hw x hx))

end Go.Proofs.Ytkciakkgefmfdaa.Pure
