/- Lemmas that the row leans on; laid by a program of this project out of longer texts: what the row does not name is left out. -/
import Derived.Test.YtembdogffbcjiaaZNum
import Derived.Test.YtembdogffbcjiaaZWide
import Derived.Test.YtembdogffbcjiaaZSum
import Derived.Test.YtembdogffbcjiaaZRwide
import Derived.Test.YtembdogffbcjiaaZRsum
import Derived.Test.YtembdogffbcjiaaZMat
import Derived.Test.YtembdogffbcjiaaZLMatAdds
namespace Go.Proofs.Ytembdogffbcjiaa.Pure
open Go Go.RowKit Go.Proofs.Ytembdogffbcjiaa.B Go.Proofs.Ytembdogffbcjiaa.Num Go.Proofs.Ytembdogffbcjiaa.Wide Go.Proofs.Ytembdogffbcjiaa.Sum Go.Proofs.Ytembdogffbcjiaa.Rwide Go.Proofs.Ytembdogffbcjiaa.Rsum Go.Proofs.Ytembdogffbcjiaa.Mat Go.Proofs.YtembdogffbcjiaaW.PrintWords Go.Proofs.YtembdogffbcjiaaW.PrintLast Go.Proofs.YtembdogffbcjiaaW.PrintMore
set_option linter.unusedVariables false
theorem tot_add (l : List Nat) (f g : Nat → Int) : tot (l.map fun k => f k + g k) = tot (l.map f) + tot (l.map g) := by
 induction l with
 | nil => rfl
 | cons x l ih =>
  rw [List.map_cons, List.map_cons, List.map_cons, tot_cons, tot_cons, tot_cons, ih]
  omega
theorem PP_add (n : Nat) {f g s : Nat → Int} (v : Nat → Int) (h : ∀ t, t < n → cl (s t) = cl (f t) + cl (g t)) : PP n s v = PP n f v + PP n g v := by
 unfold PP
 rw [← tot_add]
 congr 1
 apply List.map_congr_left
 intro t ht
 rw [h t (List.mem_range.1 ht), Int.add_mul]
theorem db_ok {n : Nat} {f g : Nat → Int} (h : db n f g = false) : dv n f g = rv (PP n f g) := by
 unfold db at h
 simp only [Bool.or_eq_false_iff, Bool.not_eq_false', beq_iff_eq] at h
 exact h.1
theorem any_false {n : Nat} {b : Nat → Bool} (h : (List.range n).any b = false) (i : Nat) (hi : i < n) : b i = false := by
 rw [List.any_eq_false] at h
 simpa using h i (List.mem_range.2 hi)
theorem adds_near {a b : List (List Int)} (h : both a b = true) {v : List Int} (hc : addB a b = false) (hd : appB (addV a b) v = false) (he : appB a v = false) (hf : appB b v = false) (i : Nat) (hi : i < a.length) :
  -1 ≤ rd (appV (addV a b) v) (i : Int) - rd (appV a v) (i : Int) - rd (appV b v) (i : Int) ∧ rd (appV (addV a b) v) (i : Int) - rd (appV a v) (i : Int) - rd (appV b v) (i : Int) ≤ 1 := by
 obtain ⟨h1, h2, h3⟩ := both_of h
 have ls : (addV a b).length = a.length := mk_len _ _
 have e1 : rd (appV (addV a b) v) (i : Int) = dv a.length (at2 (addV a b) i) (fun t => rd v (t : Int)) := by
  unfold appV
  rw [rd_at (by simpa [ls] using hi)]
  simp [ls]
 have e2 : rd (appV a v) (i : Int) = dv a.length (at2 a i) (fun t => rd v (t : Int)) := by
  unfold appV
  rw [rd_at (by simpa using hi)]
  simp
 have e3 : rd (appV b v) (i : Int) = dv a.length (at2 b i) (fun t => rd v (t : Int)) := by
  unfold appV
  rw [rd_at (by simp; omega)]
  simp [h3]
 have f1 := any_false hd i (by omega)
 have f2 := any_false he i hi
 have f3 := any_false hf i (by omega)
 rw [ls] at f1
 rw [← h3] at f3
 rw [e1, e2, e3, db_ok f1, db_ok f2, db_ok f3]
 have hp := PP_add a.length (f := at2 a i) (g := at2 b i) (s := at2 (addV a b) i) (fun t => rd v (t : Int)) (fun t ht => by
  have hc := any2_false hc i t hi ht
  unfold cbad at hc
  simp only [Bool.or_eq_false_iff, bne_eq_false_iff_eq] at hc
  show cl (at2 (mk a.length fun i j => cl (cl (at2 a i j) + cl (at2 b i j))) i t) = _
  rw [mk_at hi ht, cl_cl]
  exact hc.1)
 rw [hp]
 generalize PP a.length (at2 a i) _ = y
 generalize PP a.length (at2 b i) _ = z
 unfold rv
 omega
theorem dv_bd (n : Nat) (f g : Nat → Int) : -288230376151711744 ≤ dv n f g ∧ dv n f g ≤ 288230376151711744 := ⟨cl_lo _, cl_hi _⟩
theorem appV_bd (a : List (List Int)) (v : List Int) (i : Nat) (hi : i < a.length) : -288230376151711744 ≤ rd (appV a v) (i : Int) ∧ rd (appV a v) (i : Int) ≤ 288230376151711744 := by
 unfold appV
 rw [rd_at (by simpa using hi)]
 simp only [List.getElem_map]
 exact dv_bd _ _ _
theorem appV_len (a : List (List Int)) (v : List Int) : (appV a v).length = a.length := by simp [appV]
theorem adds_l0 {a b : List (List Int)} (h : both a b = true) {v : List Int} (hc : addB a b = false) (hd : appB (addV a b) v = false) (he : appB a v = false) (hf : appB b v = false) : ∀ (d q i : Nat), i + d = a.length →
  outriggerlaw08_MatAdds.l0 (q + d + 1) a true (appV (addV a b) v) (appV a v) (appV b v) (i : Int) = some true
 | 0, q, i, hi => by
  have ls : (addV a b).length = a.length := mk_len _ _
  rw [outriggerlaw08_MatAdds.l0]
  refine no_of (by rw [appV_len]; omega) (yes_of rfl ?_)
  rw [appV_len, ls]
  simp
 | d + 1, q, i, hi => by
  have ls : (addV a b).length = a.length := mk_len _ _
  have h3 := (both_of h).2.2
  have h6 := both6 h
  have hn := adds_near h hc hd he hf i (by omega)
  have b1 := appV_bd (addV a b) v i (by omega)
  have b2 := appV_bd a v i (by omega)
  have b3 := appV_bd b v i (by omega)
  have l1 := appV_len (addV a b) v
  have l2 := appV_len a v
  have l3 := appV_len b v
  rw [show q + (d + 1) + 1 = (q + d + 1) + 1 from rfl, outriggerlaw08_MatAdds.l0]
  rw [w64 (n := rd (appV (addV a b) v) (i : Int) - rd (appV a v) (i : Int)) (by omega) (by omega), w64 (n := rd (appV (addV a b) v) (i : Int) - rd (appV a v) (i : Int) - rd (appV b v) (i : Int)) (by omega) (by omega)]
  refine yes_of (by omega) (no_of (by omega) (no_of (by omega) (yes_of (by omega) (yes_of (by omega) (yes_of (by omega) (no_of (by omega) (no_of (by omega) ?_)))))))
  rw [w1 i (by omega)]
  exact adds_l0 h hc hd he hf d q (i + 1) (by omega)
theorem adds_main (a b : List (List Int)) (v : List Int) (ha : a.length ≤ 20) (hb : b.length ≤ 20) (q : Nat) : outriggerlaw08_MatAdds.j0 (q + 1002) a b v true false = some true := by
 rw [show q + 1002 = (q + 1001) + 1 from rfl, outriggerlaw08_MatAdds.j0]
 have bad : ∀ x y z : List Int, outriggerlaw08_MatAdds.j1 (q + 1001) a true x y z true = some true := by
  intro x y z
  rw [show q + 1001 = (q + 1000) + 1 from rfl, outriggerlaw08_MatAdds.j1]
  exact yes_of rfl rfl
 by_cases h : both a b = true
 ·obtain ⟨h1, h2, h3⟩ := both_of h
  have h6 := both6 h
  have ls : (addV a b).length = a.length := mk_len _ _
  have ho : okm (addV a b) = true := mk_okm (okm_of h1).1 h6
  have m1 := madd_is a b ha hb (q + 941)
  rw [if_pos h] at m1
  refine no_of (by simp) (bind_of m1 (bind_of (mapply_is (addV a b) (by omega) v (q + 901)) (bind_of (mapply_is a ha v (q + 901)) (bind_of (mapply_is b hb v (q + 901)) ?_))))
  by_cases hc : addB a b = true
  ·exact yes_of hc (bad _ _ _)
  ·refine no_of hc ?_
   by_cases hv : v.length = a.length
   ·rw [if_pos (show okm (addV a b) = true ∧ v.length = (addV a b).length from ⟨ho, by omega⟩), if_pos (show okm a = true ∧ v.length = a.length from ⟨h1, hv⟩), if_pos (show okm b = true ∧ v.length = b.length from ⟨h2, by omega⟩)]
    by_cases hd : appB (addV a b) v = true
    ·exact yes_of hd (bad _ _ _)
    ·refine no_of hd ?_
     by_cases he : appB a v = true
     ·exact yes_of he (bad _ _ _)
     ·refine no_of he ?_
      cases hf : appB b v
      ·dsimp only
       rw [show q + 1001 = (q + 1000) + 1 from rfl, outriggerlaw08_MatAdds.j1]
       refine no_of (by simp) ?_
       have e := adds_l0 h (by simpa using hc) (by simpa using hd) (by simpa using he) hf a.length (q + 999 - a.length) 0 (by omega)
       rw [show q + 999 - a.length + a.length + 1 = q + 1000 by omega] at e
       exact e
      ·exact bad _ _ _
   ·rw [if_neg (show ¬ (okm (addV a b) = true ∧ v.length = (addV a b).length) from fun c => hv (by omega))]
    exact yes_of rfl (bad _ _ _)
 ·have m1 := madd_is a b ha hb (q + 941)
  rw [if_neg h] at m1
  exact no_of (by simp) (bind_of m1 (bind_of (mapply_is [] (by simp) v (q + 901)) (bind_of (mapply_is a ha v (q + 901)) (bind_of (mapply_is b hb v (q + 901)) (yes_of rfl (bad _ _ _))))))
theorem MatAdds (a b : List (List Int)) (v : List Int) (ha : a.length ≤ maxLen) (hb : b.length ≤ maxLen) : ∃ k, outriggerlaw08_MatAdds.f k a b v = some true := by
 obtain ⟨q, hq⟩ : ∃ q, q = a.length + b.length := ⟨_, rfl⟩
 refine ⟨q + 1002, ?_⟩
 have aw : outriggerlaw08_awake.f (q + 1002) = some true := at_rounds outriggerlaw08_awake.mono (by omega) outriggerlaw08_awake.known
 have fa := few_is a ha (q + 1001 - a.length)
 have fb := few_is b hb (q + 1001 - b.length)
 rw [show q + 1001 - a.length + a.length + 1 = q + 1002 by omega] at fa
 rw [show q + 1001 - b.length + b.length + 1 = q + 1002 by omega] at fb
 have key2 : ∀ z, z = true → outriggerlaw08_MatAdds.j0 (q + 1002) a b v true z = some true := by
  rintro z rfl
  rw [show q + 1002 = (q + 1001) + 1 from rfl, outriggerlaw08_MatAdds.j0]
  exact yes_of rfl rfl
 unfold outriggerlaw08_MatAdds.f
 refine bind_of aw (bind_of fa ?_)
 by_cases h1 : few a = true
 ·refine yes_of h1 (bind_of fb ?_)
  by_cases h2 : few b = true
  ·refine yes_of h2 ?_
   cases hz : decide ((v.length : Int) > 20)
   ·exact adds_main a b v (few_len h1) (few_len h2) q
   ·exact key2 _ rfl
  ·exact no_of h2 (key2 _ rfl)
 ·exact no_of h1 (key2 _ rfl)
theorem MatAddsR (a b : List (List Int)) (v : List Int) (ha : a.length ≤ maxLen) (hb : b.length ≤ maxLen) (h1 : v.length ≤ maxLen) (h2 : v.length * 8 ≤ 140737488351232) (h3 : ∀ x ∈ v, (Lit.int .i64 x).wf = true) : ∃ k, outriggerlaw08_MatAdds.f k a b v = some true := MatAdds a b v ha hb
end Go.Proofs.Ytembdogffbcjiaa.Pure
