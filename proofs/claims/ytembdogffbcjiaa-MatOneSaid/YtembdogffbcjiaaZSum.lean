/- Lemmas that the row leans on; laid by a program of this project out of longer texts: what the row does not name is left out. -/
import Derived.Test.YtembdogffbcjiaaZNum
import Derived.Test.YtembdogffbcjiaaZWide
import Derived.Test.YtembdogffbcjiaaZB2
import Derived.Test.YtembdogffbcjiaaZB3
import Derived.Test.YtembdogffbcjiaaZB4
import Derived.Test.YtembdogffbcjiaaZB5
import Derived.Test.YtembdogffbcjiaaZB6
import Derived.Test.YtembdogffbcjiaaZB7
import Derived.Test.YtembdogffbcjiaaZB8
import Derived.Test.YtembdogffbcjiaaZB9
import Derived.Test.YtembdogffbcjiaaZB10
import Derived.Test.YtembdogffbcjiaaZB11
import Derived.Test.YtembdogffbcjiaaZB12
import Derived.Test.YtembdogffbcjiaaZB13
import Derived.Test.YtembdogffbcjiaaZB14
import Derived.Test.YtembdogffbcjiaaZB15
import Derived.Test.YtembdogffbcjiaaZB16
import Derived.Test.YtembdogffbcjiaaZB17
namespace Go.Proofs.Ytembdogffbcjiaa.Sum
open Go Go.RowKit Go.Proofs.Ytembdogffbcjiaa.B Go.Proofs.Ytembdogffbcjiaa.Num Go.Proofs.Ytembdogffbcjiaa.Wide Go.Proofs.YtembdogffbcjiaaW.PrintWords Go.Proofs.YtembdogffbcjiaaW.PrintLast Go.Proofs.YtembdogffbcjiaaW.PrintMore
def tot (l : List Int) : Int := l.foldr (· + ·) 0
theorem tot_cons (x : Int) (l : List Int) : tot (x :: l) = x + tot l := rfl
theorem tot_append (l m : List Int) : tot (l ++ m) = tot l + tot m := by
 induction l with
 | nil => simp [tot]
 | cons x l ih => rw [List.cons_append, tot_cons, tot_cons, ih]; omega
theorem tot_bd {b : Int} (l : List Int) (h : ∀ x ∈ l, -b ≤ x ∧ x ≤ b) : -(b * l.length) ≤ tot l ∧ tot l ≤ b * l.length := by
 induction l with
 | nil => simp [tot]
 | cons x l ih =>
  have h1 := ih fun y hy => h y (List.mem_cons_of_mem _ hy)
  have h2 := h x (List.mem_cons_self ..)
  rw [tot_cons, List.length_cons, Int.natCast_add, Int.mul_add]
  constructor <;> (simp; omega)
def cls (l : List Int) : List Int := l.map cl
def chg (l : List Int) : Bool := l.any fun x => cl x != x
def prods (l m : List Int) : List Int := (l.zip m).map fun p => cl p.1 * cl p.2
theorem cls_bd (l : List Int) : ∀ x ∈ cls l, -288230376151711744 ≤ x ∧ x ≤ 288230376151711744 := by
 intro x hx
 obtain ⟨y, _, rfl⟩ := List.mem_map.1 hx
 exact ⟨cl_lo y, cl_hi y⟩
theorem prods_bd (l m : List Int) : ∀ x ∈ prods l m, -83076749736557242056487941267521536 ≤ x ∧ x ≤ 83076749736557242056487941267521536 := by
 intro x hx
 obtain ⟨y, _, rfl⟩ := List.mem_map.1 hx
 exact mul_fits y.1 y.2
theorem tot_cls_bd (l : List Int) (h : l.length ≤ 64) : -18446744073709551616 ≤ tot (cls l) ∧ tot (cls l) ≤ 18446744073709551616 := by
 have h1 := tot_bd (cls l) (cls_bd l)
 have h2 : (cls l).length = l.length := by simp [cls]
 rw [h2] at h1
 omega
theorem tot_prods_bd (l m : List Int) (h : l.length ≤ 64) : -5316911983139663491615228241121378304 ≤ tot (prods l m) ∧ tot (prods l m) ≤ 5316911983139663491615228241121378304 := by
 have h1 := tot_bd (prods l m) (prods_bd l m)
 have h2 : (prods l m).length ≤ l.length := by simp [prods]; omega
 omega
theorem rd_drop (l : List Int) (i : Nat) (h : i < l.length) : l.drop i = rd l (i : Int) :: l.drop (i + 1) := by
 rw [List.drop_eq_getElem_cons h]
 congr 1
 show l[i] = l.getD i 0
 rw [List.getD_eq_getElem?_getD, List.getElem?_eq_getElem h]; rfl
theorem w1 (i : Nat) (h : i ≤ 1000) : wrap64 ((i : Int) + 1) = ((i + 1 : Nat) : Int) := by
 rw [w64 (by omega) (by omega)]; rfl
theorem addf_p {x y : Int} (hx : Fits x) (hy : Fits y) (h : Fits (x + y)) : wide_Add.f (hi x) (lo x) (hi y) (lo y) = some (hi (x + y), lo (x + y), true) := by
 rw [add_p hx hy, addv_ok h, decide_eq_true h]
theorem values1_is (l : List Int) (i : Nat) (h : i < l.length) : sum_values_1.f (i : Int) l = some (hi (cl (rd l (i : Int))), lo (cl (rd l (i : Int)))) := by
 unfold sum_values_1.f
 rw [if_pos (by omega), if_pos (by omega), clamp_is]
 exact bind_of rfl (bind_of (of_is _) rfl)
theorem products1_is (l m : List Int) (i : Nat) (h : i < l.length) (g : i < m.length) : sum_products_1.f (i : Int) l m = some (hi (cl (rd l (i : Int)) * cl (rd m (i : Int))), lo (cl (rd l (i : Int)) * cl (rd m (i : Int)))) := by
 unfold sum_products_1.f
 rw [if_pos (by omega), if_pos (by omega), if_pos (by omega), wmul_is]
 exact bind_of rfl rfl
theorem changed1_is (l : List Int) (i : Nat) (h : i < l.length) : sum_changed_1.f (i : Int) l = some (cl (rd l (i : Int)) != rd l (i : Int)) := by
 unfold sum_changed_1.f
 rw [if_pos (by omega), if_pos (by omega), clamp_is]
 exact bind_of rfl rfl
theorem values_loop (l : List Int) (hl : l.length ≤ 64) : ∀ (d k i : Nat) (s : Int), i + d = l.length → d < k → -(288230376151711744 * i) ≤ s → s ≤ 288230376151711744 * i →
  sum_values.l0 k l (l.length : Int) (i : Int) (hi s) (lo s) = some (hi (s + tot (cls (l.drop i))), lo (s + tot (cls (l.drop i))))
 | 0, 0, _, _, _, hk, _, _ => by omega
 | 0, k + 1, i, s, he, _, _, _ => by
  simp only [sum_values.l0]
  rw [if_neg (by omega), List.drop_of_length_le (by omega)]
  simp [cls, tot]
 | d + 1, 0, _, _, _, hk, _, _ => by omega
 | d + 1, k + 1, i, s, he, hk, h0, h1 => by
  simp only [sum_values.l0]
  have hi' : i < l.length := by omega
  have hc0 := cl_lo (rd l (i : Int))
  have hc1 := cl_hi (rd l (i : Int))
  rw [if_pos (by omega), values1_is l i hi']
  refine bind_of rfl ?_
  rw [addf_p (by unfold Fits; omega) (by unfold Fits; omega) (by unfold Fits; omega)]
  refine bind_of rfl ?_
  rw [w1 i (by omega)]
  refine (values_loop l hl d k (i + 1) (s + cl (rd l (i : Int))) (by omega) (by omega) (by omega) (by omega)).trans ?_
  rw [rd_drop l i hi']
  simp only [cls, List.map_cons, tot_cons, Int.add_assoc]
theorem values_is (l : List Int) (hl : l.length ≤ 64) (k : Nat) : sum_values.f (k + 70) l = some (hi (tot (cls l)), lo (tot (cls l))) := by
 unfold sum_values.f
 refine (values_loop l hl l.length (k + 70) 0 0 (by omega) (by omega) (by omega) (by omega)).trans ?_
 rw [List.drop_zero, Int.zero_add]
theorem products_loop (l m : List Int) (hl : l.length ≤ 64) (hm : l.length ≤ m.length) : ∀ (d k i : Nat) (s : Int), i + d = l.length → d < k → -(83076749736557242056487941267521536 * i) ≤ s → s ≤ 83076749736557242056487941267521536 * i →
  sum_products.l0 k l m (l.length : Int) (i : Int) (hi s) (lo s) = some (hi (s + tot (prods (l.drop i) (m.drop i))), lo (s + tot (prods (l.drop i) (m.drop i))))
 | 0, 0, _, _, _, hk, _, _ => by omega
 | 0, k + 1, i, s, he, _, _, _ => by
  simp only [sum_products.l0]
  rw [if_neg (by omega), List.drop_of_length_le (by omega)]
  simp [prods, tot]
 | d + 1, 0, _, _, _, hk, _, _ => by omega
 | d + 1, k + 1, i, s, he, hk, h0, h1 => by
  simp only [sum_products.l0]
  have hi' : i < l.length := by omega
  have hc := mul_fits (rd l (i : Int)) (rd m (i : Int))
  rw [if_pos (by omega), products1_is l m i hi' (by omega)]
  refine bind_of rfl ?_
  rw [addf_p (by unfold Fits; omega) (by unfold Fits; omega) (by unfold Fits; omega)]
  refine bind_of rfl ?_
  rw [w1 i (by omega)]
  refine (products_loop l m hl hm d k (i + 1) (s + cl (rd l (i : Int)) * cl (rd m (i : Int))) (by omega) (by omega) (by omega) (by omega)).trans ?_
  rw [rd_drop l i hi', rd_drop m i (by omega)]
  simp only [prods, List.zip_cons_cons, List.map_cons, tot_cons, Int.add_assoc]
theorem products_is (l m : List Int) (hl : l.length ≤ 64) (hm : l.length ≤ m.length) (k : Nat) : sum_products.f (k + 70) l m = some (hi (tot (prods l m)), lo (tot (prods l m))) := by
 unfold sum_products.f
 refine (products_loop l m hl hm l.length (k + 70) 0 0 (by omega) (by omega) (by omega) (by omega)).trans ?_
 rw [List.drop_zero, List.drop_zero, Int.zero_add]
theorem changed_loop (l : List Int) (hl : l.length ≤ 64) : ∀ (d k i : Nat), i + d = l.length → d < k → sum_changed.l0 k l (l.length : Int) (i : Int) = some (chg (l.drop i))
 | 0, 0, _, _, hk => by omega
 | 0, k + 1, i, he, _ => by
  simp only [sum_changed.l0]
  rw [if_neg (by omega), List.drop_of_length_le (by omega)]
  rfl
 | d + 1, 0, _, _, hk => by omega
 | d + 1, k + 1, i, he, hk => by
  simp only [sum_changed.l0]
  have hi' : i < l.length := by omega
  rw [if_pos (by omega), changed1_is l i hi']
  refine bind_of rfl ?_
  rw [rd_drop l i hi', chg, List.any_cons]
  by_cases hc : (cl (rd l (i : Int)) != rd l (i : Int)) = true
  ·rw [if_pos hc, hc, Bool.true_or]
  ·rw [if_neg hc, w1 i (by omega), changed_loop l hl d k (i + 1) (by omega) (by omega), Bool.eq_false_iff.mpr hc, Bool.false_or]
   rfl
theorem changed_is (l : List Int) (hl : l.length ≤ 64) (k : Nat) : sum_changed.f (k + 70) l = some (chg l) := by
 unfold sum_changed.f
 refine (changed_loop l hl l.length (k + 70) 0 (by omega) (by omega)).trans ?_
 rw [List.drop_zero]
theorem mn_take (l : List Int) : 0 ≤ mn (l.length : Int) 64 ∧ mn (l.length : Int) 64 ≤ (l.length : Int) ∧ l.take (mn (l.length : Int) 64).toNat = l.take 64 := by
 unfold mn
 split
 ·exact ⟨by omega, by omega, rfl⟩
 ·refine ⟨by omega, by omega, ?_⟩
  rw [Int.toNat_natCast, List.take_length, List.take_of_length_le (by omega)]
theorem total_is (l : List Int) (k : Nat) : sum_Total.f (k + 80) l = some (cl (tot (cls (l.take 64))), !(cl (tot (cls (l.take 64))) == tot (cls (l.take 64))) || chg (l.take 64)) := by
 obtain ⟨h0, h1, h2⟩ := mn_take l
 have hl : (l.take 64).length ≤ 64 := by rw [List.length_take]; omega
 have hb := tot_cls_bd _ hl
 unfold sum_Total.f
 rw [if_pos h0, if_pos h1, h2, values_is _ hl (k + 10)]
 refine bind_of rfl ?_
 rw [int_is (k + 79), kn_pair (by unfold Fits; omega)]
 refine bind_of rfl ?_
 cases hc : (cl (tot (cls (l.take 64))) == tot (cls (l.take 64)))
 ·rw [if_neg (by simp)]; rfl
 ·rw [if_pos rfl, changed_is _ hl (k + 10)]
  exact bind_of rfl rfl
def rv (n : Int) : Int := (n + 2147483648) / 4294967296
theorem round_p (k : Nat) {n : Int} (h0 : -5316911983139663491615228241121378304 ≤ n) (h1 : n ≤ 5316911983139663491615228241121378304) : scale_Round.f (k + 1) (hi n) (lo n) = some (cl (rv n), !(cl (rv n) == rv n)) := by
 have hn : Fits n := by unfold Fits; omega
 have hs : Fits (n + 2147483648) := by unfold Fits; omega
 have hv : Fits ((n + 2147483648) / 2 ^ sh 32) := fits_div hs _
 have h32 : (2 : Int) ^ sh 32 = 4294967296 := by decide
 unfold scale_Round.f
 refine bind_of (of_is _) ?_
 rw [add_p hn (by unfold Fits; omega), addv_ok hs, decide_eq_true hs]
 refine bind_of rfl ?_
 rw [if_pos rfl]
 refine bind_of (down_p hs 32) ?_
 rw [int_p hv]
 refine bind_of rfl ?_
 rw [h32]
 show (if (cl (rv n) == rv n) = true then _ else _) = _
 cases hc : (cl (rv n) == rv n)
 ·rw [if_neg (by simp)]; rfl
 ·rw [if_pos rfl]
  exact bind_of (sane_p hn) rfl
def P2 (l m : List Int) : Nat := min (min l.length m.length) 64
theorem mn_P2 (l m : List Int) : 0 ≤ mn (mn (l.length : Int) (m.length : Int)) 64 ∧ mn (mn (l.length : Int) (m.length : Int)) 64 ≤ (l.length : Int) ∧ mn (mn (l.length : Int) (m.length : Int)) 64 ≤ (m.length : Int) ∧ (mn (mn (l.length : Int) (m.length : Int)) 64).toNat = P2 l m := by
 unfold mn P2
 (repeat' split) <;> refine ⟨?_, ?_, ?_, ?_⟩ <;> omega
theorem dot_is (l m : List Int) (k : Nat) : sum_Dot.f (k + 80) l m = some (cl (rv (tot (prods (l.take (P2 l m)) (m.take (P2 l m))))), !(cl (rv (tot (prods (l.take (P2 l m)) (m.take (P2 l m))))) == rv (tot (prods (l.take (P2 l m)) (m.take (P2 l m))))) || (chg (l.take (P2 l m)) || chg (m.take (P2 l m)))) := by
 obtain ⟨h0, h1, h2, h3⟩ := mn_P2 l m
 have hl : (l.take (P2 l m)).length = P2 l m := by rw [List.length_take]; unfold P2; omega
 have hm : (m.take (P2 l m)).length = P2 l m := by rw [List.length_take]; unfold P2; omega
 have hp : P2 l m ≤ 64 := by unfold P2; omega
 unfold sum_Dot.f
 rw [if_pos h0, if_pos h1, if_pos h2, h3]
 generalize P2 l m = p at *
 generalize l.take p = x at *
 generalize m.take p = y at *
 have hb := tot_prods_bd x y (by omega)
 rw [products_is x y (by omega) (by omega) (k + 10)]
 refine bind_of rfl ?_
 rw [round_p (k + 79) hb.1 hb.2]
 refine bind_of rfl ?_
 cases hc : (cl (rv (tot (prods x y))) == rv (tot (prods x y)))
 ·exact yes_of rfl rfl
 ·refine no_of (by simp) ?_
  rw [changed_is x (by omega) (k + 10)]
  refine bind_of rfl ?_
  cases hd : chg x
  ·refine no_of (by simp) ?_
   rw [changed_is y (by omega) (k + 10)]
   exact bind_of rfl rfl
  ·exact yes_of rfl rfl
theorem P2_same {l m : List Int} (h : l.length = m.length) (hl : l.length ≤ 64) : P2 l m = l.length := by unfold P2; omega
theorem dot_same {l m : List Int} (h : l.length = m.length) (hl : l.length ≤ 64) (k : Nat) : sum_Dot.f (k + 80) l m = some (cl (rv (tot (prods l m))), !(cl (rv (tot (prods l m))) == rv (tot (prods l m))) || (chg l || chg m)) := by
 rw [dot_is, P2_same h hl, List.take_length, h, List.take_length]
end Go.Proofs.Ytembdogffbcjiaa.Sum
