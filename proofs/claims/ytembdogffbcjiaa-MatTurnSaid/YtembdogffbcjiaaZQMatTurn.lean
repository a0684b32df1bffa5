/- Lemmas that the row leans on; laid by a program of this project out of longer texts: what the row does not name is left out. -/
import Derived.Test.YtembdogffbcjiaaZNum
import Derived.Test.YtembdogffbcjiaaZWide
import Derived.Test.YtembdogffbcjiaaZSum
import Derived.Test.YtembdogffbcjiaaZRwide
import Derived.Test.YtembdogffbcjiaaZRsum
import Derived.Test.YtembdogffbcjiaaZMat
import Derived.Test.YtembdogffbcjiaaZLMatTurn
namespace Go.Proofs.Ytembdogffbcjiaa.Pure
open Go Go.RowKit Go.Proofs.Ytembdogffbcjiaa.B Go.Proofs.Ytembdogffbcjiaa.Num Go.Proofs.Ytembdogffbcjiaa.Wide Go.Proofs.Ytembdogffbcjiaa.Sum Go.Proofs.Ytembdogffbcjiaa.Rwide Go.Proofs.Ytembdogffbcjiaa.Rsum Go.Proofs.Ytembdogffbcjiaa.Mat Go.Proofs.YtembdogffbcjiaaW.PrintWords Go.Proofs.YtembdogffbcjiaaW.PrintLast Go.Proofs.YtembdogffbcjiaaW.PrintMore
set_option linter.unusedVariables false
theorem turn_tail (a : List (List Int)) (ha : a.length ≤ 20) (q : Nat) : outriggerlaw08_MatTurn.j1 (q + 1000) a true false = some true := by
 rw [show q + 1000 = (q + 999) + 1 from rfl, outriggerlaw08_MatTurn.j1]
 refine no_of (by simp) (yes_of rfl (bind_of (msane_is a ha (q + 969)) ?_))
 by_cases h : okm a = true
 ·exact yes_of h rfl
 ·refine no_of h (bind_of (T_is a ha (q + 939)) ?_)
  rw [T_neg h]
  rfl
theorem turn_main (a b : List (List Int)) (ha : a.length ≤ 20) (hb : b.length ≤ 20) (q : Nat) : outriggerlaw08_MatTurn.j0 (q + 1002) a b true false = some true := by
 have ta := T_len ha
 have tb := T_len hb
 rw [show q + 1002 = (q + 1001) + 1 from rfl, outriggerlaw08_MatTurn.j0]
 refine no_of (by simp) (bind_of (madd_is a b ha hb (q + 941)) (bind_of (T_is a ha (q + 941)) (bind_of (T_is b hb (q + 941)) (bind_of (madd_is (T a) (T b) ta tb (q + 941)) (bind_of (mmul_is a b ha hb (q + 921)) (bind_of (T_is b hb (q + 941)) (bind_of (T_is a ha (q + 941)) (bind_of (mmul_is (T b) (T a) tb ta (q + 921)) (bind_of (T_is a ha (q + 941)) (bind_of (T_is (T a) ta (q + 941)) (bind_of (T_is (T (T a)) (T_len ta) (q + 941)) (bind_of (T_is a ha (q + 941)) ?_))))))))))))
 rw [T3]
 have s1 : outriggerref08_Same.f (q + 941 + 60) (T a) (T a) = some true := if_same (fun h => ok6 h) _ _
 refine bind_of s1 (yes_of rfl ?_)
 rw [both_T, both_T, both_comm b a]
 have tl := turn_tail a ha (q + 1)
 by_cases h : both a b = true
 ·obtain ⟨h1, h2, h3⟩ := both_of h
  have n6 := both6 h
  rw [if_pos h, if_pos h, if_pos h, if_pos h]
  have l1 : (addV a b).length ≤ 20 := by rw [addV, mk_len]; omega
  have l2 : (mulV a b).length ≤ 20 := by rw [mulV, mk_len]; omega
  have t1 := T_is (addV a b) l1 (q + 941)
  have t2 := T_is (mulV a b) l2 (q + 941)
  rw [T_add h] at t1
  rw [T_mul h] at t2
  have s2 : outriggerref08_Same.f (q + 941 + 60) (addV (T a) (T b)) (addV (T a) (T b)) = some true := same_mk (by rw [len_T h1]; exact n6) _ _
  have s3 : outriggerref08_Same.f (q + 941 + 60) (mulV (T b) (T a)) (mulV (T b) (T a)) = some true := same_mk (by rw [len_T h2]; omega) _ _
  have fin : (if mulB (T b) (T a) = true then outriggerlaw08_MatTurn.j1 (q + 1001) a true (!mulB a b) else outriggerlaw08_MatTurn.j1 (q + 1001) a true false) = some true := by
   by_cases hc : mulB (T b) (T a) = true
   ·have he : mulB a b = true := by
     cases e : mulB a b
     ·rw [mulB_T h e] at hc; cases hc
     ·rfl
    rw [he]
    exact yes_of hc tl
   ·exact no_of hc tl
  refine bind_of t1 (bind_of s2 (yes_of rfl ?_))
  by_cases hd : addB (T a) (T b) = true
  ·have he : addB a b = true := by
    cases e : addB a b
    ·rw [addB_T h e] at hd; cases hd
    ·rfl
   exact yes_of hd (yes_of he (bind_of t2 (bind_of s3 (yes_of rfl fin))))
  ·exact no_of hd (bind_of t2 (bind_of s3 (yes_of rfl fin)))
 ·rw [if_neg h, if_neg h, if_neg h, if_neg h]
  have t1 := T_is [] (by simp) (q + 941)
  have t0 : T [] = [] := rfl
  rw [t0] at t1
  exact bind_of t1 (bind_of (same_nil (q + 941)) (yes_of rfl (yes_of rfl (yes_of rfl (bind_of t1 (bind_of (same_nil (q + 941)) (yes_of rfl (yes_of rfl tl))))))))
theorem MatTurn (a b : List (List Int)) (ha : a.length ≤ maxLen) (hb : b.length ≤ maxLen) : ∃ k, outriggerlaw08_MatTurn.f k a b = some true := by
 obtain ⟨q, hq⟩ : ∃ q, q = a.length + b.length := ⟨_, rfl⟩
 refine ⟨q + 1002, ?_⟩
 have aw : outriggerlaw08_awake.f (q + 1002) = some true := at_rounds outriggerlaw08_awake.mono (by omega) outriggerlaw08_awake.known
 have fa := few_is a ha (q + 1001 - a.length)
 have fb := few_is b hb (q + 1001 - b.length)
 rw [show q + 1001 - a.length + a.length + 1 = q + 1002 by omega] at fa
 rw [show q + 1001 - b.length + b.length + 1 = q + 1002 by omega] at fb
 have key2 : ∀ z, z = true → outriggerlaw08_MatTurn.j0 (q + 1002) a b true z = some true := by
  rintro z rfl
  rw [show q + 1002 = (q + 1001) + 1 from rfl, outriggerlaw08_MatTurn.j0]
  exact yes_of rfl rfl
 unfold outriggerlaw08_MatTurn.f
 refine bind_of aw (bind_of fa ?_)
 by_cases h1 : few a = true
 ·refine yes_of h1 (bind_of fb ?_)
  by_cases h2 : few b = true
  ·rw [h2]
   exact turn_main a b (few_len h1) (few_len h2) q
  ·exact key2 _ (by simpa using h2)
 ·exact no_of h1 (key2 _ rfl)
theorem MatTurnR (a b : List (List Int)) (ha : a.length ≤ maxLen) (hb : b.length ≤ maxLen) : ∃ k, outriggerlaw08_MatTurn.f k a b = some true := MatTurn a b ha hb
end Go.Proofs.Ytembdogffbcjiaa.Pure
