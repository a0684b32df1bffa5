/- Lemmas that the row leans on; laid by a program of this project out of longer texts: what the row does not name is left out. -/
import Derived.Test.YtembdogffbcjiaaZNum
import Derived.Test.YtembdogffbcjiaaZWide
import Derived.Test.YtembdogffbcjiaaZSum
import Derived.Test.YtembdogffbcjiaaZRwide
import Derived.Test.YtembdogffbcjiaaZRsum
import Derived.Test.YtembdogffbcjiaaZMat
import Derived.Test.YtembdogffbcjiaaZLMatEven
namespace Go.Proofs.Ytembdogffbcjiaa.Pure
open Go Go.RowKit Go.Proofs.Ytembdogffbcjiaa.B Go.Proofs.Ytembdogffbcjiaa.Num Go.Proofs.Ytembdogffbcjiaa.Wide Go.Proofs.Ytembdogffbcjiaa.Sum Go.Proofs.Ytembdogffbcjiaa.Rwide Go.Proofs.Ytembdogffbcjiaa.Rsum Go.Proofs.Ytembdogffbcjiaa.Mat Go.Proofs.YtembdogffbcjiaaW.PrintWords Go.Proofs.YtembdogffbcjiaaW.PrintLast Go.Proofs.YtembdogffbcjiaaW.PrintMore
set_option linter.unusedVariables false
theorem evV_comm (x y:Int):evV x y=evV y x:=by unfold evV;rw [Int.add_comm]
theorem evV_mid (x y:Int):mn (cl y) (cl x)≤evV x y∧evV x y≤mx (cl y) (cl x):=by
 unfold evV mean mn mx
 constructor<;>split<;>omega
theorem evV_cl (x y:Int):cl (evV x y)=evV x y:=by
 have h:=evV_mid x y
 have a0:=cl_lo x
 have a1:=cl_hi x
 have b0:=cl_lo y
 have b1:=cl_hi y
 unfold mn mx at h
 generalize evV x y=z at *
 unfold cl at *
 (repeat' split)<;>(repeat' split at h)<;>omega
theorem evV_self (x:Int):evV x x=cl x:=by
 unfold evV mean
 omega
def EE (a:List (List Int)):List (List Int):=if okm a=true then evenV a else []
theorem EE_is (a:List (List Int)) (ha:a.length≤20) (k:Nat):mat_Even.f (k+150) a=some (EE a):=meven_is a ha k
theorem EE_pos {a:List (List Int)} (h:okm a=true):EE a=evenV a:=if_pos h
theorem EE_neg {a:List (List Int)} (h:¬okm a=true):EE a=[]:=if_neg h
theorem EE_len {a:List (List Int)} (h:okm a=true):(EE a).length=a.length:=by rw [EE_pos h];exact mk_len _ _
theorem EE_okm {a:List (List Int)} (h:okm a=true):okm (EE a)=true:=by rw [EE_pos h];exact mk_okm (okm_of h).1 (okm_of h).2.1
theorem EE_at {a:List (List Int)} (h:okm a=true) {i j:Nat} (hi:i<a.length) (hj:j<a.length):at2 (EE a) i j=evV (at2 a i j) (at2 a j i):=by
 rw [EE_pos h]
 exact mk_at hi hj
theorem T_EE (a:List (List Int)):T (EE a)=EE a:=by
 by_cases h:okm a=true
 ·refine(T_eq (EE_okm h)).trans (Eq.trans ?_ (EE_pos h).symm)
  rw [EE_len h]
  apply mk_congr
  intro i j hi hj
  rw [EE_at h hj hi,evV_cl,evV_comm]
 ·rw [EE_neg h];rfl
theorem EE_EE (a:List (List Int)):EE (EE a)=EE a:=by
 by_cases h:okm a=true
 ·refine(EE_pos (EE_okm h)).trans (Eq.trans ?_ (EE_pos h).symm)
  unfold evenV
  rw [EE_len h]
  apply mk_congr
  intro i j hi hj
  rw [EE_at h hi hj,EE_at h hj hi,evV_comm (at2 a j i),evV_self,evV_cl]
 ·rw [EE_neg h];rfl
theorem EE_same (a:List (List Int)) (k:Nat):outriggerref08_Same.f (k+60) (EE a) (EE a)=some true:=if_same (fun h=>ok6 h) _ _
theorem even_l1 {a:List (List Int)} (h:okm a=true) {i:Nat} (hi:i<a.length):∀ (d q j:Nat),j+d=a.length →
  outriggerlaw08_MatEven.l1 (q+d+1) a true (EE a) (T a) (i:Int) (j:Int)=outriggerlaw08_MatEven.l0 q a true (EE a) (T a) ((i+1:Nat):Int)
 | 0,q,j,he=>by
  have h6:=(okm_of h).2.1
  rw [outriggerlaw08_MatEven.l1]
  refine no_of (by rw [EE_len h];omega) ?_
  rw [w1 i (by omega)]
 | d+1,q,j,he=>by
  have hj:j<a.length:=by omega
  have h6:=(okm_of h).2.1
  have ht:okm (T a)=true:=by rw [okm_T];exact h
  have e1:=EE_len h
  have e2:=len_T h
  have r1:=row_len ht (show i<(T a).length by omega)
  have r2:=row_len ht (show j<(T a).length by omega)
  have r3:=row_len (EE_okm h) (show i<(EE a).length by omega)
  have m:=evV_mid (at2 a i j) (at2 a j i)
  have x1:rd (rd_L1 (EE a) (i:Int)) (j:Int)=evV (at2 a i j) (at2 a j i):=EE_at h hi hj
  have x2:rd (rd_L1 (T a) (i:Int)) (j:Int)=cl (at2 a j i):=at_T h hi hj
  have x3:rd (rd_L1 (T a) (j:Int)) (i:Int)=cl (at2 a i j):=at_T h hj hi
  rw [show q+(d+1)+1=(q+d+1)+1 from rfl,outriggerlaw08_MatEven.l1,x1,x2,x3]
  refine yes_of (by omega) (yes_of (by omega) (yes_of (by omega) (yes_of (by omega) (yes_of (by omega) (yes_of (by omega) (yes_of (by omega) (yes_of (by omega) (yes_of (by omega) (no_of (by omega) (no_of (by omega) ?_))))))))))
  rw [w1 j (by omega)]
  exact even_l1 h hi d q (j+1) (by omega)
theorem even_l0 {a:List (List Int)} (h:okm a=true) (ha:a.length≤20):∀ (d q i:Nat),i+d=a.length →
  outriggerlaw08_MatEven.l0 (q+30+d*(a.length+2)+1) a true (EE a) (T a) (i:Int)=some true
 | 0,q,i,he=>by
  rw [show q+30+0*(a.length+2)+1=(q+30)+1 by omega,outriggerlaw08_MatEven.l0]
  refine no_of (by rw [EE_len h];omega) (yes_of rfl (bind_of (msane_is a ha q) (yes_of h rfl)))
 | d+1,q,i,he=>by
  have hi:i<a.length:=by omega
  rw [show q+30+(d+1)*(a.length+2)+1=((q+30+d*(a.length+2)+1)+a.length+1)+1 by rw [Nat.succ_mul];omega,outriggerlaw08_MatEven.l0]
  refine yes_of (by rw [EE_len h];omega) ((even_l1 h hi a.length (q+30+d*(a.length+2)+1) 0 (by omega)).trans ?_)
  exact even_l0 h ha d q (i+1) (by omega)
theorem MatEven (a:List (List Int)) (ha:a.length≤maxLen):∃ k,outriggerlaw08_MatEven.f k a=some true:=by
 obtain⟨q,hq⟩:∃ q,q=a.length:=⟨_,rfl⟩
 refine⟨q+1002,?_⟩
 have aw:outriggerlaw08_awake.f (q+1002)=some true:=at_rounds outriggerlaw08_awake.mono (by omega) outriggerlaw08_awake.known
 have fa:=few_is a ha (q+1001-a.length)
 rw [show q+1001-a.length+a.length+1=q+1002 by omega] at fa
 unfold outriggerlaw08_MatEven.f
 refine bind_of aw (bind_of fa ?_)
 by_cases h1:few a=true
 ·have la:=few_len h1
  have le:(EE a).length≤20:=by
   by_cases h:okm a=true
   ·rw [EE_len h];exact la
   ·rw [EE_neg h];simp
  have t1:=T_is (EE a) le (q+942)
  rw [T_EE] at t1
  have e1:=EE_is (EE a) le (q+852)
  rw [EE_EE] at e1
  refine yes_of h1 (bind_of (EE_is a la (q+852)) (bind_of (T_is a la (q+942)) (bind_of t1 (bind_of (EE_same a (q+942)) (yes_of rfl (bind_of e1 (bind_of (EE_same a (q+942)) (yes_of rfl ?_))))))))
  rw [show q+1002=(q+1001)+1 from rfl,outriggerlaw08_MatEven.j0]
  by_cases h:okm a=true
  ·refine no_of (by rw [EE_len h,len_T h];simp) ?_
   have h2:=nn_le (okm_of h).2.1
   have e:=even_l0 h la a.length (q+970-a.length*(a.length+2)) 0 (by omega)
   rw [show q+970-a.length*(a.length+2)+30+a.length*(a.length+2)+1=q+1001 by omega] at e
   exact e
  ·rw [EE_neg h,T_neg h]
   refine no_of (by simp) ?_
   rw [show q+1001=(q+970+30)+1 from rfl,outriggerlaw08_MatEven.l0]
   exact no_of (by simp) (yes_of rfl (bind_of (msane_is a la (q+970)) (no_of h (yes_of rfl rfl))))
 ·exact no_of h1 rfl
theorem MatEvenR (a:List (List Int)) (ha:a.length≤maxLen):∃ k,outriggerlaw08_MatEven.f k a=some true:=MatEven a ha
end Go.Proofs.Ytembdogffbcjiaa.Pure
