/- Lemmas that the row leans on; laid by a program of this project out of longer texts: what the row does not name is left out. -/
import Derived.Test.YtembdogffbcjiaaZNum
import Derived.Test.YtembdogffbcjiaaZWide
import Derived.Test.YtembdogffbcjiaaZSum
import Derived.Test.YtembdogffbcjiaaZRwide
import Derived.Test.YtembdogffbcjiaaZRsum
import Derived.Test.YtembdogffbcjiaaZMat
import Derived.Test.YtembdogffbcjiaaZLMatOne
namespace Go.Proofs.Ytembdogffbcjiaa.Pure
open Go Go.RowKit Go.Proofs.Ytembdogffbcjiaa.B Go.Proofs.Ytembdogffbcjiaa.Num Go.Proofs.Ytembdogffbcjiaa.Wide Go.Proofs.Ytembdogffbcjiaa.Sum Go.Proofs.Ytembdogffbcjiaa.Rwide Go.Proofs.Ytembdogffbcjiaa.Rsum Go.Proofs.Ytembdogffbcjiaa.Mat Go.Proofs.YtembdogffbcjiaaW.PrintWords Go.Proofs.YtembdogffbcjiaaW.PrintLast Go.Proofs.YtembdogffbcjiaaW.PrintMore
set_option linter.unusedVariables false
theorem tot_single (n i : Nat) (c : Nat → Int) : tot ((List.range n).map fun k => if i = k then c k else 0) = if i < n then c i else 0 := by
 induction n with
 | zero => rfl
 | succ n ih =>
  rw [List.range_succ, List.map_append, tot_append, ih]
  show _ + ((if i = n then c n else 0) + 0) = _
  by_cases h : i = n
  ·subst h
   rw [if_neg (Nat.lt_irrefl i), if_pos rfl, if_pos (Nat.lt_succ_self i)]
   omega
  ·rw [if_neg h]
   by_cases h2 : i < n
   ·rw [if_pos h2, if_pos (by omega)]; omega
   ·rw [if_neg h2, if_neg (by omega)]; omega
theorem cl_one : cl 4294967296 = 4294967296 := by decide
theorem cl_zero : cl 0 = 0 := by decide
theorem PP_left (n i : Nat) (hi : i < n) (g : Nat → Int) : PP n (fun k => if i = k then 4294967296 else 0) g = 4294967296 * cl (g i) := by
 unfold PP
 have e : ((List.range n).map fun k => cl (if i = k then 4294967296 else 0) * cl (g k)) = (List.range n).map fun k => if i = k then 4294967296 * cl (g k) else 0 := by
  apply List.map_congr_left
  intro k _
  by_cases h : i = k
  ·rw [if_pos h, if_pos h, cl_one]
  ·rw [if_neg h, if_neg h, cl_zero, Int.zero_mul]
 rw [e, tot_single n i (fun k => 4294967296 * cl (g k)), if_pos hi]
theorem PP_comm (n : Nat) (f g : Nat → Int) : PP n f g = PP n g f := by
 unfold PP
 congr 1
 apply List.map_congr_left
 intro t _
 rw [Int.mul_comm]
theorem PP_congr {n : Nat} {f g f' g' : Nat → Int} (h : ∀ t, t < n → f t = f' t) (h2 : ∀ t, t < n → g t = g' t) : PP n f g = PP n f' g' := by
 unfold PP
 congr 1
 apply List.map_congr_left
 intro t ht
 rw [h t (List.mem_range.1 ht), h2 t (List.mem_range.1 ht)]
theorem rv_one (x : Int) : rv (4294967296 * x) = x := by unfold rv; omega
theorem one_at (n : Nat) {i j : Nat} (hi : i < n) (hj : j < n) : at2 (oneV n) i j = if i = j then 4294967296 else 0 := mk_at hi hj
theorem one_left {a : List (List Int)} (h : okm a = true) : mulV (oneV a.length) a = T (T a) := by
 rw [T2 h]
 unfold mulV
 rw [show (oneV a.length).length = a.length from mk_len _ _]
 apply mk_congr
 intro i j hi hj
 unfold dv
 rw [PP_congr (f' := fun k => if i = k then 4294967296 else 0) (g' := fun t => at2 a t j) (fun t ht => one_at _ hi ht) (fun t _ => rfl), PP_left _ _ hi, rv_one, cl_cl]
theorem one_right {a : List (List Int)} (h : okm a = true) : mulV a (oneV a.length) = T (T a) := by
 rw [T2 h]
 unfold mulV
 apply mk_congr
 intro i j hi hj
 unfold dv
 rw [PP_comm, PP_congr (f' := fun k => if j = k then 4294967296 else 0) (g' := at2 a i) (fun t ht => by
  rw [one_at _ ht hj]
  by_cases e : t = j
  ·rw [if_pos e, if_pos e.symm]
  ·rw [if_neg e, if_neg (fun h => e h.symm)]) (fun t _ => rfl), PP_left _ _ hj, rv_one, cl_cl]
theorem one_app {n : Nat} (hn : 0 < n) (v : List Int) (hv : v.length = n) (hc : ∀ x ∈ v, cl x = x) : appV (oneV n) v = v ∧ appB (oneV n) v = false := by
 have hl : (oneV n).length = n := mk_len _ _
 have key : ∀ i, i < n → PP n (at2 (oneV n) i) (fun t => rd v (t : Int)) = 4294967296 * rd v (i : Int) := by
  intro i hi
  rw [PP_congr (f' := fun k => if i = k then 4294967296 else 0) (g' := fun t => rd v (t : Int)) (fun t ht => one_at _ hi ht) (fun t _ => rfl), PP_left _ _ hi]
  show 4294967296 * cl (rd v (i : Int)) = _
  rw [rd_at (by omega), hc _ (List.getElem_mem (by omega))]
 have kc : ∀ i, i < n → cl (rd v (i : Int)) = rd v (i : Int) := by
  intro i hi
  rw [rd_at (by omega)]
  exact hc _ (List.getElem_mem (by omega))
 constructor
 ·refine Eq.trans ?_ (list_mk v n hv).symm
  unfold appV
  rw [hl]
  apply List.map_congr_left
  intro i hi
  have hi := List.mem_range.1 hi
  show cl (rv (PP n (at2 (oneV n) i) (fun t => rd v (t : Int)))) = _
  rw [key i hi, rv_one, kc i hi]
 ·unfold appB
  rw [hl]
  refine any_none _ fun i hi => ?_
  unfold db
  rw [key i hi, rv_one, kc i hi, any_none _ (fun t ht => by rw [one_at _ hi ht]; split <;> decide), any_none _ (fun t ht => by show (cl (rd v (t : Int)) != rd v (t : Int)) = false; rw [kc t ht]; exact bne_self_eq_false _)]
  simp
theorem one_j2 {a : List (List Int)} (h : okm a = true) (ha : a.length ≤ 20) (l : List Int) (hl : l.length ≤ a.length) (hc : ∀ x ∈ l, cl x = x) (q : Nat) :
  outriggerlaw08_MatOne.j2 (q + 1000) a true (oneV a.length) (T (T a)) (T (T a)) (T (T a)) l = some true := by
 have n0 := (okm_of h).1
 have n6 := (okm_of h).2.1
 have hol : (oneV a.length).length = a.length := mk_len _ _
 have ho : okm (oneV a.length) = true := mk_okm n0 n6
 have s1 : outriggerref08_Same.f (q + 939 + 60) (T (T a)) (T (T a)) = some true := if_same (fun h => ok6 h) _ _
 rw [show q + 1000 = (q + 999) + 1 from rfl, outriggerlaw08_MatOne.j2]
 refine bind_of (mapply_is _ (by rw [hol]; exact ha) l (q + 899)) (yes_of rfl (bind_of s1 (yes_of rfl (bind_of s1 (yes_of rfl ?_)))))
 by_cases e : l.length = a.length
 ·obtain ⟨w1, w2⟩ := one_app n0 l e hc
  rw [if_pos (show okm (oneV a.length) = true ∧ l.length = (oneV a.length).length from ⟨ho, by omega⟩), w1, w2]
  exact no_of (by omega) (yes_of (by omega) (no_of (by simp) (bind_of (ints_refl l (by omega) (q + 969)) rfl)))
 ·rw [if_neg (show ¬ (okm (oneV a.length) = true ∧ l.length = (oneV a.length).length) from fun c => e (by omega))]
  exact yes_of (by omega) (yes_of rfl (yes_of rfl rfl))
theorem one_l0 {a : List (List Int)} (h : okm a = true) (ha : a.length ≤ 20) (v : List Int) : ∀ (d q i : Nat), i + d = min a.length v.length →
  outriggerlaw08_MatOne.l0 (q + 1001 + d) a v true (oneV a.length) (T (T a)) (T (T a)) (T (T a)) ((v.take i).map cl) (i : Int) = some true
 | 0, q, i, he => by
  have hj := one_j2 h ha ((v.take i).map cl) (by simp; omega) (by intro x hx; obtain ⟨y, _, rfl⟩ := List.mem_map.1 hx; exact cl_cl y) q
  rw [show q + 1001 + 0 = (q + 1000) + 1 from rfl, outriggerlaw08_MatOne.l0]
  by_cases h1 : (i : Int) < (a.length : Int)
  ·exact yes_of h1 (no_of (by omega) hj)
  ·exact no_of h1 hj
 | d + 1, q, i, he => by
  have hi : i < v.length := by omega
  rw [show q + 1001 + (d + 1) = (q + 1001 + d) + 1 from rfl, outriggerlaw08_MatOne.l0, w1 i (by omega)]
  have t := total_is ((v.take (i + 1)).drop i) (q + 921 + d)
  rw [show q + 921 + d + 80 = q + 1001 + d by omega] at t
  have e : (v.take (i + 1)).drop i = [v[i]] := by
   rw [List.take_add_one, List.drop_append_of_le_length (by simp; omega), List.getElem?_eq_getElem hi]
   simp
  rw [e] at t
  refine yes_of (by omega) (yes_of (by omega) (yes_of (by omega) (yes_of (by omega) (yes_of (by omega) ?_))))
  simp only [Int.toNat_natCast]
  rw [e]
  refine bind_of t (yes_of (by simp; omega) ?_)
  have e2 : (v.take i).map cl ++ [cl (tot (cls ([v[i]].take 64)))] = (v.take (i + 1)).map cl := by
   have e3 : v.take (i + 1) = v.take i ++ [v[i]] := by rw [List.take_add_one, List.getElem?_eq_getElem hi]; rfl
   rw [e3, List.map_append]
   show _ ++ [cl (cl v[i] + 0)] = _ ++ [cl v[i]]
   rw [Int.add_zero, cl_cl]
  dsimp only
  rw [e2]
  exact one_l0 h ha v d q (i + 1) (by omega)
theorem MatOne (a : List (List Int)) (v : List Int) (ha : a.length ≤ maxLen) : ∃ k, outriggerlaw08_MatOne.f k a v = some true := by
 obtain ⟨q, hq⟩ : ∃ q, q = a.length := ⟨_, rfl⟩
 refine ⟨q + 1102, ?_⟩
 have aw : outriggerlaw08_awake.f (q + 1102) = some true := at_rounds outriggerlaw08_awake.mono (by omega) outriggerlaw08_awake.known
 have fa := few_is a ha (q + 1101 - a.length)
 rw [show q + 1101 - a.length + a.length + 1 = q + 1102 by omega] at fa
 unfold outriggerlaw08_MatOne.f
 refine bind_of aw (bind_of fa ?_)
 by_cases h1 : few a = true
 ·have la := few_len h1
  refine yes_of h1 (bind_of (msane_is a la (q + 1072)) ?_)
  rw [show q + 1102 = (q + 1101) + 1 from rfl, outriggerlaw08_MatOne.j0]
  by_cases h : okm a = true
  ·rw [h]
   have n0 := (okm_of h).1
   have n6 := (okm_of h).2.1
   have hol : (oneV a.length).length = a.length := mk_len _ _
   have ho : okm (oneV a.length) = true := mk_okm n0 n6
   have b1 : both (oneV a.length) a = true := by unfold both; rw [ho, h, hol]; simp
   have b2 : both a (oneV a.length) = true := by unfold both; rw [ho, h, hol]; simp
   have o1 := mone_is (a.length : Int) (q + 1041)
   rw [if_pos (by omega), Int.toNat_natCast] at o1
   have m1 := mmul_is (oneV a.length) a (by omega) la (q + 1021)
   rw [if_pos b1, one_left h] at m1
   have m2 := mmul_is a (oneV a.length) la (by omega) (q + 1021)
   rw [if_pos b2, one_right h] at m2
   refine no_of (by simp) (bind_of o1 (bind_of (T_is a la (q + 1041)) (bind_of (T_is (T a) (T_len la) (q + 1041)) (bind_of m1 (bind_of m2 ?_)))))
   have e := one_l0 h la v (min a.length v.length) (q + 100 - min a.length v.length) 0 (by omega)
   rw [show q + 100 - min a.length v.length + 1001 + min a.length v.length = q + 1101 by omega, List.take_zero, List.map_nil] at e
   exact e
  ·rw [show okm a = false by simpa using h]
   exact yes_of rfl rfl
 ·rw [show few a = false by simpa using h1, show q + 1102 = (q + 1101) + 1 from rfl]
  refine no_of (by simp) ?_
  rw [outriggerlaw08_MatOne.j0]
  exact yes_of rfl rfl
theorem MatOneR (a : List (List Int)) (v : List Int) (ha : a.length ≤ maxLen) (h1 : v.length ≤ maxLen) (h2 : v.length * 8 ≤ 140737488351232) (h3 : ∀ x ∈ v, (Lit.int .i64 x).wf = true) : ∃ k, outriggerlaw08_MatOne.f k a v = some true := MatOne a v ha
end Go.Proofs.Ytembdogffbcjiaa.Pure
