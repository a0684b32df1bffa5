/- Lemmas of the row, laid by a program. -/
import Derived.Test.YtembdogffbcjiaaYNum
import Derived.Test.YtembdogffbcjiaaYWide
import Derived.Test.YtembdogffbcjiaaYB2
import Derived.Test.YtembdogffbcjiaaYB3
import Derived.Test.YtembdogffbcjiaaYB4
import Derived.Test.YtembdogffbcjiaaYB5
import Derived.Test.YtembdogffbcjiaaYB6
import Derived.Test.YtembdogffbcjiaaYB7
import Derived.Test.YtembdogffbcjiaaYB8
import Derived.Test.YtembdogffbcjiaaYB9
import Derived.Test.YtembdogffbcjiaaYB10
import Derived.Test.YtembdogffbcjiaaYB11
import Derived.Test.YtembdogffbcjiaaYB12
import Derived.Test.YtembdogffbcjiaaYB13
import Derived.Test.YtembdogffbcjiaaYB14
import Derived.Test.YtembdogffbcjiaaYB15
import Derived.Test.YtembdogffbcjiaaYB16
import Derived.Test.YtembdogffbcjiaaYB17
namespace Go.Proofs.Ytembdogffbcjiaa.Rwide
open Go Go.RowKit Go.Proofs.Ytembdogffbcjiaa.B Go.Proofs.Ytembdogffbcjiaa.Num Go.Proofs.Ytembdogffbcjiaa.Wide Go.Proofs.YtembdogffbcjiaaW.PrintWords Go.Proofs.YtembdogffbcjiaaW.PrintLast Go.Proofs.YtembdogffbcjiaaW.PrintMore
theorem rsane_is (a b:Int):outriggerref02_Sane.f a b=some (decide (Sane a b)):=by
 unfold outriggerref02_Sane.f
 by_cases h1:b ≥ 0
 ·by_cases h2:b<4611686018427387904
  ·by_cases h3:a ≥ -2305843009213693952
   ·rw [if_pos h1,if_pos h2,if_pos h3]
    have:(a<2305843009213693952)↔Sane a b:=by unfold Sane;omega
    exact congrArg some (by rw [Bool.eq_iff_iff];simpa using this)
   ·rw [if_pos h1,if_pos h2,if_neg h3]
    have:¬Sane a b:=by unfold Sane;omega
    simp [this]
  ·rw [if_pos h1,if_neg h2]
   have:¬Sane a b:=by unfold Sane;omega
   simp [this]
 ·rw [if_neg h1]
  have:¬Sane a b:=by unfold Sane;omega
  simp [this]
theorem ras_is (a b:Int):outriggerref02_As.f a b=some (hi (kn a b),lo (kn a b)):=by
 unfold outriggerref02_As.f
 refine bind_of (rsane_is a b) ?_
 by_cases h:Sane a b
 ·rw [if_pos (decide_eq_true h),(pair_of h).1,(pair_of h).2]
 ·rw [if_neg (by simpa using h),kn_bad h,hi_zero,lo_zero]
theorem radd_is (k:Nat) (a b c d:Int):outriggerref02_Add.f (k+1) a b c d=some (hi (addv (kn a b) (kn c d)),lo (addv (kn a b) (kn c d)),decide (Fits (kn a b+kn c d))):=by
 have hx:=kn_fits a b
 have hy:=kn_fits c d
 unfold outriggerref02_Add.f
 refine bind_of (ras_is a b) ?_
 refine bind_of (ras_is c d) ?_
 generalize kn a b=x at *
 generalize kn c d=y at *
 have hx1:=hi_bd hx
 have hy1:=hi_bd hy
 have hx2:=lo_bd x
 have hy2:=lo_bd y
 have hx3:=hi_lo x
 have hy3:=hi_lo y
 have w1:wrap64 (lo x+lo y)=lo x+lo y:=w64 (by omega) (by omega)
 have w2:wrap64 (hi x+hi y)=hi x+hi y:=w64 (by omega) (by omega)
 have w3:wrap64 (hi x+hi y+1)=hi x+hi y+1:=w64 (by omega) (by omega)
 have w4:wrap64 (lo x+lo y-4611686018427387904)=lo x+lo y-4611686018427387904:=w64 (by omega) (by omega)
 simp only [w1,w2]
 have fin:∀ p q:Int,p=hi (x+y)→q=lo (x+y)→((outriggerref02_Sane.f p q).bind fun t=>(if t=true then some (p,q,true) else some (0,0,false)))=some (hi (addv x y),lo (addv x y),decide (Fits (x+y))):=by
  rintro p q rfl rfl
  refine bind_of (rsane_is _ _) ?_
  by_cases h:Fits (x+y)
  ·rw [if_pos (decide_eq_true (sane_pair h)),addv_ok h,decide_eq_true h]
  ·have hs:¬Sane (hi (x+y)) (lo (x+y)):=by
    intro hs
    apply h
    unfold Sane at hs
    unfold Fits
    have:=hi_lo (x+y)
    omega
   have ea:addv x y=0:=by unfold addv;rw [if_neg h]
   rw [if_neg (by simpa using hs),ea,decide_eq_false h,hi_zero,lo_zero]
 rw [if_neg (by omega)]
 by_cases c:lo x+lo y ≥ 4611686018427387904
 ·simp only [decide_eq_true c,outriggerref02_Add.j0,if_true,w3,w4]
  exact fin _ _ (by unfold hi lo at *;omega) (by unfold lo at *;omega)
 ·simp only [decide_eq_false c,outriggerref02_Add.j0,Bool.false_eq_true,if_false]
  exact fin _ _ (by unfold hi lo at *;omega) (by unfold lo at *;omega)
theorem rint_is (k:Nat) (a b:Int):outriggerref02_Int.f (k+2) a b=some (cl (kn a b),(cl (kn a b) == kn a b)):=by
 have hx:=kn_fits a b
 unfold outriggerref02_Int.f
 refine bind_of (ras_is a b) ?_
 generalize kn a b=x at *
 have h1:=lo_bd x
 have h2:=hi_lo x
 have hb:=hi_bd hx
 have stop:hi x<0→(cl x == x)=false→outriggerref02_Int.j1 (k+1) false (hi x) (lo x)=some (cl x,(cl x == x)):=by
  intro g e
  rw [e]
  have e1:cl x=-288230376151711744:=by
   have:cl x≠x:=by simpa using e
   unfold cl at *
   (repeat' split at this)<;>(repeat' split)<;>omega
  simp only [outriggerref02_Int.j1,Bool.false_eq_true,if_false]
  rw [if_pos g,e1]
 have stop2:0≤hi x→(cl x == x)=false→outriggerref02_Int.j1 (k+1) false (hi x) (lo x)=some (cl x,(cl x == x)):=by
  intro g e
  rw [e]
  have e1:cl x=288230376151711744:=by
   have:cl x≠x:=by simpa using e
   unfold cl at *
   (repeat' split at this)<;>(repeat' split)<;>omega
  simp only [outriggerref02_Int.j1,Bool.false_eq_true,if_false]
  rw [if_neg (by omega),e1]
 by_cases c0:hi x=0
 ·refine yes_of c0 ?_
  by_cases c1:lo x≤288230376151711744
  ·simp only [decide_eq_true c1,outriggerref02_Int.j0,if_true]
   have e1:cl x=x:=by unfold cl;(repeat' split)<;>omega
   rw [e1,show lo x=x by omega]
   simp
  ·simp only [decide_eq_false c1,outriggerref02_Int.j0,Bool.false_eq_true,if_false]
   refine no_of (by omega) (stop2 (by omega) ?_)
   simp only [beq_eq_false_iff_ne]
   unfold cl
   (repeat' split)<;>omega
 ·refine no_of c0 ?_
  simp only [outriggerref02_Int.j0,Bool.false_eq_true,if_false]
  by_cases c1:hi x=-1
  ·refine yes_of c1 ?_
   by_cases c2:lo x ≥ 4323455642275676160
   ·simp only [decide_eq_true c2,outriggerref02_Int.j1,if_true]
    have e1:cl x=x:=by unfold cl;(repeat' split)<;>omega
    rw [e1,w64 (by omega) (by omega),show lo x-4611686018427387904=x by omega]
    simp
   ·rw [decide_eq_false c2]
    refine stop (by omega) ?_
    simp only [beq_eq_false_iff_ne]
    unfold cl
    (repeat' split)<;>omega
  ·refine no_of c1 ?_
   by_cases c2:hi x<0
   ·refine stop c2 ?_
    simp only [beq_eq_false_iff_ne]
    unfold cl
    (repeat' split)<;>omega
   ·refine stop2 (by omega) ?_
    simp only [beq_eq_false_iff_ne]
    unfold cl
    (repeat' split)<;>omega
theorem rturn_is {a b:Int} (h0:0≤b) (h1:b≤4611686018427387903) (h2:-4611686018427387904≤a) (h3:a≤4611686018427387904) :
  outriggerref02_turn.f a b=some (hi (-(a*4611686018427387904+b)),lo (-(a*4611686018427387904+b))):=by
 unfold outriggerref02_turn.f
 by_cases h:b=0
 ·rw [if_pos h,w64 (by omega) (by omega)]
  subst h
  have e1:hi (-(a*4611686018427387904+0))=-a:=by unfold hi;omega
  have e2:lo (-(a*4611686018427387904+0))=0:=by unfold lo;omega
  rw [e1,e2]
 ·rw [if_neg h,w64 (n:=-a) (by omega) (by omega),w64 (by omega) (by omega),w64 (by omega) (by omega)]
  have e1:hi (-(a*4611686018427387904+b))=-a-1:=by unfold hi;omega
  have e2:lo (-(a*4611686018427387904+b))=4611686018427387904-b:=by unfold lo;omega
  rw [e1,e2]
theorem rclamp_is (a:Int):outriggerref01_Clamp.f a=some (cl a,(cl a != a)):=by
 unfold outriggerref01_Clamp.f cl
 by_cases h1:a > 288230376151711744
 ·rw [if_pos h1,if_neg (by omega),if_pos h1]
  simp
  omega
 ·by_cases h2:a < -288230376151711744
  ·rw [if_neg h1,if_pos h2,if_pos h2]
   simp
   omega
  ·rw [if_neg h1,if_neg h2,if_neg h2,if_neg h1]
   simp
theorem rabs_is (a:Int):outriggerref01_Abs.f a=some (ab a):=by
 have a0:=cl_lo a
 have a1:=cl_hi a
 have e:outriggerref01_As.f a=some (cl a):=by
  unfold outriggerref01_As.f
  exact bind_of (rclamp_is a) rfl
 unfold outriggerref01_Abs.f
 refine bind_of e (bind_of e ?_)
 rw [w64 (n:=- cl a) (by omega) (by omega)]
 rfl
theorem rmul_is (a b:Int):outriggerref02_Mul.f a b=some (hi (cl a*cl b),lo (cl a*cl b)):=by
 have ha:=ab_bd a
 have hb:=ab_bd b
 have hab:=ab_mul a b
 unfold outriggerref02_Mul.f
 refine bind_of (rabs_is a) (bind_of (rabs_is b) ?_)
 generalize ab a=x at *
 generalize ab b=y at *
 generalize cl a*cl b=z at *
 simp only [Int.tdiv_eq_ediv_of_nonneg ha.1,Int.tmod_eq_emod_of_nonneg ha.1,Int.tdiv_eq_ediv_of_nonneg hb.1,Int.tmod_eq_emod_of_nonneg hb.1]
 have ex:x=x/2147483648*2147483648+x%2147483648:=by omega
 have ey:y=y/2147483648*2147483648+y%2147483648:=by omega
 have bx1:0≤x/2147483648:=by omega
 have bx2:x/2147483648≤134217728:=by omega
 have bx3:0≤x%2147483648:=by omega
 have bx4:x%2147483648≤2147483647:=by omega
 have by1:0≤y/2147483648:=by omega
 have by2:y/2147483648≤134217728:=by omega
 have by3:0≤y%2147483648:=by omega
 have by4:y%2147483648≤2147483647:=by omega
 generalize x/2147483648=p at *
 generalize x%2147483648=q at *
 generalize y/2147483648=r at *
 generalize y%2147483648=s at *
 have b1:0≤p*r:=Int.mul_nonneg bx1 by1
 have b2:p*r≤134217728*134217728:=Int.mul_le_mul bx2 by2 by1 (by decide)
 have b3:0≤p*s:=Int.mul_nonneg bx1 by3
 have b4:p*s≤134217728*2147483647:=Int.mul_le_mul bx2 by4 by3 (by decide)
 have b5:0≤q*r:=Int.mul_nonneg bx3 by1
 have b6:q*r≤2147483647*134217728:=Int.mul_le_mul bx4 by2 by1 (by decide)
 have b7:0≤q*s:=Int.mul_nonneg bx3 by3
 have b8:q*s≤2147483647*2147483647:=Int.mul_le_mul bx4 by4 by3 (by decide)
 have hp:x*y=p*r*4611686018427387904+(p*s+q*r)*2147483648+q*s:=by
  rw [ex,ey]
  grind
 rw [hp] at hab
 clear hp ex ey
 rw [w64 (n:=p) (by omega) (by omega),w64 (n:=r) (by omega) (by omega)]
 generalize p*r=a1 at *
 generalize p*s=a2 at *
 generalize q*r=a3 at *
 generalize q*s=a4 at *
 rw [w64 (n:=a2) (by omega) (by omega),w64 (n:=a3) (by omega) (by omega),w64 (n:=a4) (by omega) (by omega),w64 (n:=a1) (by omega) (by omega),w64 (n:=a2+a3) (by omega) (by omega)]
 rw [Int.tdiv_eq_ediv_of_nonneg (show 0≤a2+a3 by omega),Int.tmod_eq_emod_of_nonneg (show 0≤a2+a3 by omega)]
 rw [w64 (n:=(a2+a3)/2147483648) (by omega) (by omega),w64 (n:=(a2+a3)%2147483648*2147483648) (by omega) (by omega)]
 rw [w64 (n:=a4+(a2+a3)%2147483648*2147483648) (by omega) (by omega),w64 (n:=a1+(a2+a3)/2147483648) (by omega) (by omega)]
 rw [w64 (n:=a1+(a2+a3)/2147483648+1) (by omega) (by omega)]
 have fin:∀ u v:Int,u*4611686018427387904+v=a1*4611686018427387904+(a2+a3)*2147483648+a4→0≤v→v≤4611686018427387903→-4611686018427387904≤u→u≤4611686018427387904 →
   (if (decide (a<0) != decide (b<0))=true then ((outriggerref02_turn.f u v).bind fun bt=>some (bt.1,bt.2)) else some (u,v))=some (hi z,lo z):=by
  intro u v huv v0 v1 u0 u1
  by_cases h:(decide (a<0) != decide (b<0))=true
  ·rw [if_pos h] at hab
   refine yes_of h (bind_of (rturn_is v0 v1 u0 u1) ?_)
   rw [huv,hab]
   simp
  ·rw [if_neg h] at hab
   refine no_of h ?_
   rw [←hab,←huv]
   have e1:hi (u*4611686018427387904+v)=u:=by unfold hi;omega
   have e2:lo (u*4611686018427387904+v)=v:=by unfold lo;omega
   rw [e1,e2]
 by_cases c:a4+(a2+a3)%2147483648*2147483648 ≥ 4611686018427387904
 ·rw [if_pos c,w64 (n:=a4+(a2+a3)%2147483648*2147483648-4611686018427387904) (by omega) (by omega)]
  exact fin _ _ (by omega) (by omega) (by omega) (by omega) (by omega)
 ·rw [if_neg c]
  exact fin _ _ (by omega) (by omega) (by omega) (by omega) (by omega)
theorem rof_is (k:Nat) {n:Int} (h0:-9223372036854775808≤n) (h1:n≤9223372036854775807):outriggerref02_Of.f (k+8) n=some (hi n,lo n):=by
 have up:∀ (j:Nat) (h l:Int),0≤l→l≤9223372036854775807→-10≤h→h≤10→outriggerref02_Of.l1 (j+3) h l=some (h+hi l,lo l):=by
  intro j h l l0 l1 g0 g1
  simp only [outriggerref02_Of.l1]
  by_cases c:l ≥ 4611686018427387904
  ·rw [if_pos c,w64 (n:=h+1) (by omega) (by omega),w64 (n:=l-4611686018427387904) (by omega) (by omega),if_neg (by omega)]
   unfold hi lo
   congr 2<;>omega
  ·rw [if_neg c]
   unfold hi lo
   congr 2<;>omega
 unfold outriggerref02_Of.f
 simp only [outriggerref02_Of.l0]
 by_cases c1:n<0
 ·rw [if_pos c1,w64 (n:=0-1) (by omega) (by omega),w64 (n:=n+4611686018427387904) (by omega) (by omega)]
  by_cases c2:n+4611686018427387904<0
  ·rw [if_pos c2,w64 (n:=0-1-1) (by omega) (by omega),w64 (n:=n+4611686018427387904+4611686018427387904) (by omega) (by omega),if_neg (by omega)]
   rw [up (k+2) _ _ (by omega) (by omega) (by omega) (by omega)]
   unfold hi lo
   congr 2<;>omega
  ·rw [if_neg c2,up (k+3) _ _ (by omega) (by omega) (by omega) (by omega)]
   unfold hi lo
   congr 2<;>omega
 ·rw [if_neg c1,up (k+4) _ _ (by omega) (by omega) (by omega) (by omega)]
  congr 2
  omega
theorem rcmp_is (k:Nat) (a b c d:Int):outriggerref02_Compare.f (k+1) a b c d=some (cmpv (kn a b) (kn c d)):=by
 unfold outriggerref02_Compare.f
 refine bind_of (ras_is a b) (bind_of (ras_is c d) ?_)
 generalize kn a b=x at *
 generalize kn c d=y at *
 have h1:=lo_bd x
 have h2:=lo_bd y
 have h3:=hi_lo x
 have h4:=hi_lo y
 have fin:∀ z:Bool,z=decide (x<y)→outriggerref02_Compare.j0 (k+1) z (hi x) (lo x) (hi y) (lo y)=some (cmpv x y):=by
  rintro z rfl
  simp only [outriggerref02_Compare.j0,decide_eq_true_eq]
  unfold cmpv
  by_cases c1:x<y
  ·rw [if_pos c1,if_pos c1]
  ·rw [if_neg c1,if_neg c1]
   by_cases c2:y<x
   ·rw [if_pos c2]
    exact no_of (fun h=>by have:=pair_eq.mp h;omega) rfl
   ·rw [if_neg c2]
    exact yes_of (pair_eq.mpr (by omega)) rfl
 by_cases c1:hi x<hi y
 ·exact yes_of c1 (fin _ (by symm;simp;omega))
 ·refine no_of c1 ?_
  by_cases c2:hi x=hi y
  ·refine yes_of c2 (fin _ ?_)
   rw [Bool.eq_iff_iff]
   simp only [decide_eq_true_eq]
   omega
  ·exact no_of c2 (fin _ (by symm;simp;omega))
theorem rdown_loop (n:Int) (d:Nat):∀ (k:Nat) (i:Int) (x:Int),Fits x→0≤i→i≤200→((mn n 200-i).toNat=d)→d<k →
  outriggerref02_Down.l0 k n i (hi x) (lo x)=some (hi (x/2^d),lo (x/2^d)):=by
 have hm:mn n 200≤200:=by unfold mn;split<;>omega
 induction d with
 | zero =>
  intro k i x hx h0 h1 hd hk
  obtain⟨k,rfl⟩:∃ m,k=m+1:=⟨k-1,by omega⟩
  simp only [outriggerref02_Down.l0]
  rw [if_neg (by omega)]
  simp
 | succ d ih =>
  intro k i x hx h0 h1 hd hk
  obtain⟨k,rfl⟩:∃ m,k=m+1:=⟨k-1,by omega⟩
  simp only [outriggerref02_Down.l0]
  have b1:=lo_bd x
  have b2:=hi_lo x
  have b3:=hi_bd hx
  have e1:hi x/2=hi (x/2):=by unfold hi lo at *;omega
  have e2:wrap64 (wrap64 (Int.tdiv (lo x) 2)+wrap64 (Go.bits .and .i64 (hi x) 1*2305843009213693952))=lo (x/2):=by
   rw [band1,Int.tdiv_eq_ediv_of_nonneg b1.1,w64 (n:=lo x/2) (by omega) (by omega),w64 (n:=hi x%2*2305843009213693952) (by omega) (by omega),w64 (by omega) (by omega)]
   unfold hi lo at *
   omega
  have hf:Fits (x/2):=by unfold Fits at *;omega
  rw [if_pos (by omega),e1,e2,w64 (n:=i+1) (by omega) (by omega),ih k (i+1) (x/2) hf (by omega) (by omega) (by omega) (by omega)]
  have e3:x/2/2^d=x/2^(d+1):=by
   have:=div_pow_add x 1 d
   rw [Nat.add_comm] at this
   exact this
  rw [e3]
theorem rdown_is (k:Nat) (a b n:Int):outriggerref02_Down.f (k+202) a b n=some (hi (kn a b/2^sh n),lo (kn a b/2^sh n)):=by
 unfold outriggerref02_Down.f
 refine bind_of (ras_is a b) ?_
 refine rdown_loop n (sh n) _ 0 _ (kn_fits a b) (by omega) (by omega) ?_ ?_
 ·unfold sh mx mn
  (repeat' split)<;>omega
 ·have:=(sh_eq n).2
  omega
end Go.Proofs.Ytembdogffbcjiaa.Rwide
