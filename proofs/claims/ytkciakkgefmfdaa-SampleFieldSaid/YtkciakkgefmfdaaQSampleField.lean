/- The plain law of SampleField: its Lean function, laid by the print, tells true for every 64-bit input. -/
import Derived.Test.YtkciakkgefmfdaaNum
import Derived.Test.YtkciakkgefmfdaaSample
import Derived.Test.YtkciakkgefmfdaaLSampleField
namespace Go.Proofs.Ytkciakkgefmfdaa.Pure
open Go Go.RowKit Go.Proofs.Ytkciakkgefmfdaa.B Go.Proofs.Ytkciakkgefmfdaa.Num Go.Proofs.Ytkciakkgefmfdaa.Sample Go.Proofs.YtkciakkgefmfdaaW.PrintWords Go.Proofs.YtkciakkgefmfdaaW.PrintLast Go.Proofs.YtkciakkgefmfdaaW.PrintMore
set_option linter.unusedVariables false

theorem field_loop (ws wt : List Int) (i t0 t1 t2 t3 t4 : Int) (hi : 0 ≤ i) (hi5 : i < 5) (h1 : ws.length = 6) (h2 : wt.length = 6) (H : ∀ j : Nat, j < 5 → ((rd ws (j : Int) == rd wt (j : Int)) != ((j : Int) != i)) = false) (h5 : rd ws 5 ≠ rd wt 5) (hq : rd wt i = uw (rd [t0, t1, t2, t3, t4] i))
    (d : Nat) : ∀ (k j : Nat), j + d = 5 → d < k → outriggerlaw13_SampleField.l0 k true i ws wt (j : Int) t0 t1 t2 t3 t4 = some true := by
  induction d with
  | zero =>
    intro k j hj hk
    obtain ⟨k, rfl⟩ : ∃ m, k = m + 1 := ⟨k - 1, by omega⟩
    obtain rfl : j = 5 := by omega
    rw [outriggerlaw13_SampleField.l0]
    refine no_of (by decide) (yes_of rfl (yes_of (by omega) (yes_of (by omega) (no_of h5 (yes_of hi (yes_of (by omega) (bind_of rfl (yes_of (by simp; omega) (congrArg some (beq_iff_eq.mpr hq))))))))))
  | succ d ih =>
    intro k j hj hk
    obtain ⟨k, rfl⟩ : ∃ m, k = m + 1 := ⟨k - 1, by omega⟩
    have e := ih k (j + 1) (by omega) (by omega)
    have wi : wrap64 ((j : Int) + 1) = ((j + 1 : Nat) : Int) := by rw [w64 (by omega) (by omega)]; omega
    rw [outriggerlaw13_SampleField.l0]
    refine yes_of (by omega) (yes_of (by omega) (yes_of (by omega) (yes_of (by omega) (no_of ?_ ?_))))
    · rw [H j (by omega)]
      decide
    · rw [wi]
      exact e
theorem wl_getD (a b c d e : Int) (j : Nat) (hj : j < 5) : (wl a b c d e).getD j 0 = uw ([a, b, c, d, e].getD j 0) := by
  rcases j with _ | _ | _ | _ | _ | j <;> first | rfl | omega
theorem wl_map (a b c d e : Int) : wl a b c d e = [a, b, c, d, e].map uw := rfl
theorem append_rd (l : List Int) (S : Int) (h5 : l.length = 5) (j : Nat) (hj : j < 5) : rd (l ++ [S]) (j : Int) = l.getD j 0 := by
  rw [rd_nat, List.getD_eq_getElem?_getD, List.getD_eq_getElem?_getD, List.getElem?_append_left (by omega)]
theorem append_rd5 (l : List Int) (S : Int) (h5 : l.length = 5) : rd (l ++ [S]) 5 = S := by
  show (l ++ [S]).getD 5 0 = S
  rw [List.getD_eq_getElem?_getD, List.getElem?_append_right (by omega), h5]
  rfl
/-- The same but for one number. -/
theorem field_main (n : Nat) (s : List Int) (j : Nat) (x : Int) (hs : s.length = 5) (hj : j < 5) (hr : ∀ y ∈ s, InI y) (hx : InI x) (hne : x ≠ s.getD j 0) (t0 t1 t2 t3 t4 : Int) (ht : s.set j x = [t0, t1, t2, t3, t4]) :
    outriggerlaw13_SampleField.l0 (n + 6) true (j : Int) (s.map uw ++ [sumv (s.map uw)]) ((s.set j x).map uw ++ [sumv ((s.set j x).map uw)]) 0 t0 t1 t2 t3 t4 = some true := by
  have l1 : (s.map uw).length = 5 := by simp [hs]
  have l2 : ((s.set j x).map uw).length = 5 := by simp [hs]
  have gd : ∀ (l : List Int) (i : Nat), l.length = 5 → i < 5 → (l.map uw).getD i 0 = uw (l.getD i 0) := by
    intro l i hl hi
    rw [List.getD_eq_getElem?_getD, List.getD_eq_getElem?_getD, List.getElem?_map, List.getElem?_eq_getElem (by omega)]
    rfl
  have hsj : InI (s.getD j 0) := by
    rw [List.getD_eq_getElem?_getD, List.getElem?_eq_getElem (by omega)]
    exact hr _ (List.getElem_mem (by omega))
  have key := field_loop (s.map uw ++ [sumv (s.map uw)]) ((s.set j x).map uw ++ [sumv ((s.set j x).map uw)]) (j : Int) t0 t1 t2 t3 t4 (by omega) (by omega) (by simp [hs]) (by simp [hs]) ?_ ?_ ?_ 5 (n + 6) 0 (by omega) (by omega)
  · exact key
  · intro i hi
    rw [append_rd _ _ l1 i hi, append_rd _ _ l2 i hi, gd _ _ hs hi, gd _ _ (by simp [hs]) hi]
    by_cases hij : i = j
    · subst hij
      have e1 : (s.set i x).getD i 0 = x := by
        rw [List.getD_eq_getElem?_getD, List.getElem?_set_self (by omega)]
        rfl
      rw [e1]
      have h1 : (uw (s.getD i 0) == uw x) = false := beq_eq_false_iff_ne.mpr fun e => hne (uw_inj hsj hx e).symm
      have h2 : ((i : Int) != (i : Int)) = false := by simp
      rw [h1, h2]
      rfl
    · have e1 : (s.set j x).getD i 0 = s.getD i 0 := by
        rw [List.getD_eq_getElem?_getD, List.getElem?_set_ne (by omega), ← List.getD_eq_getElem?_getD]
      rw [e1]
      have h1 : (uw (s.getD i 0) == uw (s.getD i 0)) = true := beq_self_eq_true _
      have h2 : ((i : Int) != (j : Int)) = true := bne_iff_ne.mpr (by omega)
      rw [h1, h2]
      rfl
  · rw [append_rd5 _ _ l1, append_rd5 _ _ l2]
    have hset : (s.set j x).map uw = (s.map uw).set j (uw x) := by rw [List.map_set]
    rw [hset]
    have hin : InW ((s.map uw).getD j 0) := by rw [gd _ _ hs hj]; exact uw_in _
    refine Ne.symm (sum_one _ _ j _ first_in (by omega) (uw_in _) hin ?_)
    rw [gd _ _ hs hj]
    exact fun e => hne (uw_inj hx hsj e)
  · rw [append_rd _ _ l2 j hj, gd _ _ (by simp [hs]) hj, ← ht]
    rfl
theorem field_j0 (n : Nat) (a b c d e t0 t1 t2 t3 t4 x : Int) (j : Nat) (hj : j < 5) (hr : ∀ y ∈ [a, b, c, d, e], InI y) (ht : [a, b, c, d, e].set j x = [t0, t1, t2, t3, t4]) (hx : InI x) :
    outriggerlaw13_SampleField.j0 (n + 20) true (j : Int) a b c d e t0 t1 t2 t3 t4 = some true := by
  have done : ∀ (m : Nat) (ws wt : List Int) (q : Bool), q = true → outriggerlaw13_SampleField.j1 (m + 1) true (j : Int) ws wt q t0 t1 t2 t3 t4 = some true := by
    intro m ws wt q hq
    rw [outriggerlaw13_SampleField.j1]
    exact yes_of hq rfl
  rw [outriggerlaw13_SampleField.j0]
  refine bind_of (words_is (by omega) _ _ _ _ _) (bind_of (words_is (by omega) _ _ _ _ _) (bind_of (sane_is _ _ _ _ _) ?_))
  by_cases hp : SaneP a b c d e
  · refine yes_of (decide_eq_true hp) (bind_of (sane_is _ _ _ _ _) ?_)
    by_cases hq : SaneP t0 t1 t2 t3 t4
    · refine yes_of (decide_eq_true hq) ?_
      by_cases he : [a, b, c, d, e] = [t0, t1, t2, t3, t4]
      · refine done (n + 18) _ _ _ ?_
        simp only [List.cons.injEq, and_true] at he
        obtain ⟨rfl, rfl, rfl, rfl, rfl⟩ := he
        simp
      · have hb : (a == t0 && (b == t1 && ((c == t2 && (d == t3 && (e == t4)))))) = false := by
          rw [Bool.eq_false_iff]
          intro h
          simp only [Bool.and_eq_true, beq_iff_eq] at h
          obtain ⟨rfl, rfl, rfl, rfl, rfl⟩ := h
          exact he rfl
        have hne : x ≠ [a, b, c, d, e].getD j 0 := by
          intro h
          apply he
          rw [← ht, h]
          rcases j with _ | _ | _ | _ | _ | j <;> first | rfl | omega
        have hm := field_main (n + 11) [a, b, c, d, e] j x rfl hj hr hx hne t0 t1 t2 t3 t4 ht
        have w1 : wordsv a b c d e = [a, b, c, d, e].map uw ++ [sumv ([a, b, c, d, e].map uw)] := by
          unfold wordsv
          rw [if_pos hp]
          rfl
        have w2 : wordsv t0 t1 t2 t3 t4 = ([a, b, c, d, e].set j x).map uw ++ [sumv (([a, b, c, d, e].set j x).map uw)] := by
          unfold wordsv
          rw [if_pos hq, ht]
          rfl
        rw [hb, w1, w2]
        rw [outriggerlaw13_SampleField.j1]
        have e6 : ((([a, b, c, d, e].set j x).map uw ++ [sumv (([a, b, c, d, e].set j x).map uw)]).length : Int) = 6 := by simp
        have e7 : (((([a, b, c, d, e].set j x).map uw ++ [sumv (([a, b, c, d, e].set j x).map uw)]).length : Int) != 6) = false := by rw [e6]; rfl
        refine no_of (by decide) (yes_of (by simp) ?_)
        rw [e7, outriggerlaw13_SampleField.j2]
        exact no_of (by decide) hm
    · exact no_of (by simpa using hq) (done (n + 18) _ _ _ rfl)
  · exact no_of (by simpa using hp) (done (n + 18) _ _ _ rfl)
theorem SampleFieldR (a b c d e k n : Int) (w0 : (Lit.int .i64 a).wf = true) (w1 : (Lit.int .i64 b).wf = true) (w2 : (Lit.int .i64 c).wf = true) (w3 : (Lit.int .i64 d).wf = true) (w4 : (Lit.int .i64 e).wf = true) (w5 : (Lit.int .i64 k).wf = true) (w6 : (Lit.int .i64 n).wf = true) :
    ∃ m, outriggerlaw13_SampleField.f m a b c d e k n = some true := by
  refine ⟨200, ?_⟩
  have aw : outriggerlaw13_awake.f 200 = some true := at_rounds outriggerlaw13_awake.mono (by decide) outriggerlaw13_awake.known
  have in_wf : ∀ {a : Int}, (Lit.int .i64 a).wf = true → InI a := by
    intro a h
    have e0 : IntKind.i64.min = -9223372036854775808 := by decide
    have e1 : IntKind.i64.max = 9223372036854775807 := by decide
    simp [Lit.wf, e0, e1] at h
    exact h
  have hr : ∀ y ∈ [a, b, c, d, e], InI y := by
    intro y hy
    simp at hy
    rcases hy with rfl | rfl | rfl | rfl | rfl
    · exact in_wf w0
    · exact in_wf w1
    · exact in_wf w2
    · exact in_wf w3
    · exact in_wf w4
  have hn := in_wf w6
  have b4 : InI (Go.bits .and .i64 n 3) := by
    have h := band64 n 2 (by decide)
    have p : (2 : Int) ^ 2 = 4 := by decide
    rw [p] at h
    have h2 : Go.bits .and .i64 n 3 = n % 4 := h
    rw [h2]
    unfold InI
    omega
  have hk := idx5 k
  unfold outriggerlaw13_SampleField.f
  refine bind_of aw ?_
  generalize Int.tmod (Go.bits .and .i64 k 65535) 5 = i at *
  by_cases h0 : i = 0
  · subst h0
    exact yes_of rfl (field_j0 180 a b c d e n b c d e n 0 (by decide) hr rfl hn)
  refine no_of h0 ?_
  by_cases h1 : i = 1
  · subst h1
    exact yes_of rfl (field_j0 180 a b c d e a _ c d e (Go.bits .and .i64 n 3) 1 (by decide) hr rfl b4)
  refine no_of h1 ?_
  by_cases h2 : i = 2
  · subst h2
    exact yes_of rfl (field_j0 180 a b c d e a b n d e n 2 (by decide) hr rfl hn)
  refine no_of h2 ?_
  by_cases h3 : i = 3
  · subst h3
    exact yes_of rfl (field_j0 180 a b c d e a b c n e n 3 (by decide) hr rfl hn)
  refine no_of h3 ?_
  obtain rfl : i = 4 := by omega
  exact field_j0 180 a b c d e a b c d n n 4 (by decide) hr rfl hn

end Go.Proofs.Ytkciakkgefmfdaa.Pure
