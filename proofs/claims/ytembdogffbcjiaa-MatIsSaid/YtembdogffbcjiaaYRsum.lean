/- Lemmas of the row, laid by a program. -/
import Derived.Test.YtembdogffbcjiaaYNum
import Derived.Test.YtembdogffbcjiaaYWide
import Derived.Test.YtembdogffbcjiaaYSum
import Derived.Test.YtembdogffbcjiaaYRwide
import Derived.Test.YtembdogffbcjiaaYB2
import Derived.Test.YtembdogffbcjiaaYB3
import Derived.Test.YtembdogffbcjiaaYB4
import Derived.Test.YtembdogffbcjiaaYB5
import Derived.Test.YtembdogffbcjiaaYB6
import Derived.Test.YtembdogffbcjiaaYB7
import Derived.Test.YtembdogffbcjiaaYB8
import Derived.Test.YtembdogffbcjiaaYB9
import Derived.Test.YtembdogffbcjiaaYB10
import Derived.Test.YtembdogffbcjiaaYB11
import Derived.Test.YtembdogffbcjiaaYB12
import Derived.Test.YtembdogffbcjiaaYB13
import Derived.Test.YtembdogffbcjiaaYB14
import Derived.Test.YtembdogffbcjiaaYB15
import Derived.Test.YtembdogffbcjiaaYB16
import Derived.Test.YtembdogffbcjiaaYB17
namespace Go.Proofs.Ytembdogffbcjiaa.Rsum
open Go Go.RowKit Go.Proofs.Ytembdogffbcjiaa.B Go.Proofs.Ytembdogffbcjiaa.Rwide Go.Proofs.Ytembdogffbcjiaa.Num Go.Proofs.Ytembdogffbcjiaa.Wide Go.Proofs.Ytembdogffbcjiaa.Sum Go.Proofs.YtembdogffbcjiaaW.PrintWords Go.Proofs.YtembdogffbcjiaaW.PrintLast Go.Proofs.YtembdogffbcjiaaW.PrintMore
theorem cut_loop (l:List Int):∀ (d k i:Nat) (c:Bool),i+d=min l.length 64→d<k→outriggerref06_cut.l0 k l (cls (l.take i)) c (i:Int)=some (cls (l.take 64),c || chg ((l.take 64).drop i))
 | 0,0,_,_,_,hk=>by omega
 | 0,k+1,i,c,he,_=>by
  have ht:l.take i=l.take 64:=by
   by_cases h:l.length≤64
   ·rw [List.take_of_length_le (by omega),List.take_of_length_le h]
   ·rw [show i=64 by omega]
  have hd:(l.take 64).drop i=[]:=List.drop_of_length_le (by rw [List.length_take];omega)
  rw [outriggerref06_cut.l0,ht,hd]
  have e:(some (cls (l.take 64),c || chg []):Option (List Int × Bool))=some (cls (l.take 64),c):=by simp [chg]
  rw [e]
  by_cases h:(i:Int)<(l.length:Int)
  ·exact yes_of h (no_of (by omega) rfl)
  ·exact no_of h rfl
 | d+1,0,_,_,_,hk=>by omega
 | d+1,k+1,i,c,he,hk=>by
  have hi':i<l.length:=by omega
  rw [outriggerref06_cut.l0]
  refine yes_of (by omega) (yes_of (by omega) (yes_of (by omega) (bind_of (rclamp_is _) (yes_of ?_ (bind_of rfl ?_)))))
  ·simp [cls];omega
  dsimp only
  have e:cls (l.take i)++[cl (rd l (i:Int))]=cls (l.take (i+1)):=by
   rw [List.take_add_one,List.getElem?_eq_getElem hi']
   show _=(l.take i++[l[i]]).map cl
   rw [List.map_append]
   show _++[cl (l.getD i 0)]=_
   rw [List.getD_eq_getElem?_getD,List.getElem?_eq_getElem hi'];rfl
  have e2:(l.take 64).drop i=rd l (i:Int) :: (l.take 64).drop (i+1):=by
   rw [List.drop_eq_getElem_cons (by rw [List.length_take];omega),List.getElem_take]
   show l[i] :: _=l.getD i 0 :: _
   rw [List.getD_eq_getElem?_getD,List.getElem?_eq_getElem hi'];rfl
  have e3:chg ((l.take 64).drop i)=((cl (rd l (i:Int)) != rd l (i:Int)) || chg ((l.take 64).drop (i+1))):=by rw [e2];rfl
  rw [e,w1 i (by omega),e3]
  cases c
  ·refine no_of (by simp) ((cut_loop l d k (i+1) _ (by omega) (by omega)).trans ?_)
   rw [Bool.false_or]
  ·refine yes_of rfl ((cut_loop l d k (i+1) _ (by omega) (by omega)).trans ?_)
   simp
theorem rcut_is (l:List Int) (k:Nat):outriggerref06_cut.f (k+70) l=some (cls (l.take 64),chg (l.take 64)):=by
 unfold outriggerref06_cut.f
 refine(cut_loop l (min l.length 64) (k+70) 0 false (by omega) (by omega)).trans ?_
 rw [List.drop_zero,Bool.false_or]
theorem raddf_p (k:Nat) {x y:Int} (hx:Fits x) (hy:Fits y) (h:Fits (x+y)):outriggerref02_Add.f (k+1) (hi x) (lo x) (hi y) (lo y)=some (hi (x+y),lo (x+y),true):=by
 rw [radd_is,kn_pair hx,kn_pair hy,addv_ok h,decide_eq_true h]
theorem rsearch (x:List Int) (c:Bool) (hx:x.length≤64) (hp:0<x.length) {N M:Int} (hN:Fits N) (hM:M=N/(2*(x.length:Int))):∀ (j k:Nat) (p q:Int),p≤M→M≤q→q-p<2^j→-288230376151711744≤p→q≤288230376151711744 →
  outriggerref06_Mean.l1 (k+10+j) x c p q (hi N) (lo N)=some (M,c)
 | 0,k,p,q,h0,h1,h2,h3,h4=>by
  have e:p=M:=by simp at h2;omega
  subst e
  rw [Nat.add_zero,outriggerref06_Mean.l1]
  exact no_of (by simp at h2;omega) rfl
 | j+1,k,p,q,h0,h1,h2,h3,h4=>by
  rw [show k+10+(j+1)=(k+10+j)+1 from rfl,outriggerref06_Mean.l1]
  by_cases hlt:p<q
  ·rw [Int.pow_succ] at h2
   have et:(q-p).tdiv 2=(q-p)/2:=Int.tdiv_eq_ediv_of_nonneg (by omega)
   rw [w64 (n:=q-p) (by omega) (by omega),et,w64 (n:=(q-p)/2) (by omega) (by omega),w64 (n:=q-(q-p)/2) (by omega) (by omega),w64 (n:=q-(q-p)/2-1) (by omega) (by omega),w64 (n:=2*(x.length:Int)) (by omega) (by omega)]
   have hD:0<2*(x.length:Int):=by omega
   have hle:=Int.le_ediv_iff_mul_le hD (a:=q-(q-p)/2) (b:=N)
   rw [←hM] at hle
   generalize hm:q-(q-p)/2=m at *
   have c1:cl (2*(x.length:Int))=2*(x.length:Int):=by unfold cl;(repeat' split)<;>omega
   have c2:cl m=m:=by unfold cl;(repeat' split)<;>omega
   have hf:=fits_mul (2*(x.length:Int)) m
   refine yes_of hlt (bind_of (rmul_is _ _) (bind_of (show outriggerref02_Compare.f (k+10+j) _ _ _ _=_ by rw [show k+10+j=(k+9+j)+1 by omega];exact rcmp_is _ _ _ _ _) ?_))
   rw [kn_pair hf,kn_pair hN,c1,c2]
   by_cases hc:m≤M
   ·have h5:2*(x.length:Int)*m≤N:=by have:=hle.1 hc;rw [Int.mul_comm];exact this
    refine yes_of (by unfold cmpv;(repeat' split)<;>omega) (rsearch x c hx hp hN hM j k m q hc h1 (by omega) (by omega) h4)
   ·have h5:¬2*(x.length:Int)*m≤N:=by intro h;exact hc (hle.2 (by rw [Int.mul_comm] at h;exact h))
    refine no_of (by unfold cmpv;(repeat' split)<;>omega) (rsearch x c hx hp hN hM j k p (m-1) h0 (by omega) (by omega) h3 (by omega))
  ·have e:p=M:=by omega
   subst e
   exact no_of hlt rfl
theorem rmean_loop (x:List Int) (hx:x.length≤64) (hp:0<x.length) (hb:∀ y ∈ x,-288230376151711744≤y∧y≤288230376151711744) (c:Bool):∀ (d k i:Nat) (s:Int),i+d=x.length→-(288230376151711744*i)≤s→s≤288230376151711744*i →
  outriggerref06_Mean.l0 (k+100+d) x c (i:Int) (hi s) (lo s)=some (mean (s+tot (x.drop i)) x.length,c)
 | 0,k,i,s,he,h0,h1=>by
  rw [List.drop_of_length_le (by omega),tot_nil,Int.add_zero,Nat.add_zero,outriggerref06_Mean.l0]
  have he':i=x.length:=by omega
  subst he'
  have hM:-288230376151711744≤mean s x.length∧mean s x.length≤288230376151711744:=by
   have a:=(Int.le_ediv_iff_mul_le (show 0<2*(x.length:Int) by omega) (a:=-288230376151711744) (b:=2*s+(x.length:Int))).2 (by omega)
   have b:=(Int.ediv_lt_iff_lt_mul (show 0<2*(x.length:Int) by omega) (a:=2*s+(x.length:Int)) (b:=288230376151711744+1)).2 (by omega)
   unfold mean
   omega
  refine no_of (by omega) (bind_of (raddf_p (k+98) (x:=s) (y:=s) (by unfold Fits;omega) (by unfold Fits;omega) (by unfold Fits;omega)) (bind_of (rof_is (k+91) (n:=(x.length:Int)) (by omega) (by omega)) (bind_of (raddf_p (k+98) (x:=s+s) (y:=(x.length:Int)) (by unfold Fits;omega) (by unfold Fits;omega) (by unfold Fits;omega)) ?_)))
  refine rsearch x c hx hp (by unfold Fits;omega) (show mean s x.length=(s+s+(x.length:Int))/(2*(x.length:Int)) by unfold mean;rw [Int.two_mul s]) 60 (k+29) _ _ hM.1 hM.2 (by decide) (by omega) (by omega)
 | d+1,k,i,s,he,h0,h1=>by
  have hi':i<x.length:=by omega
  have hc:=hb (rd x (i:Int)) (by show x.getD i 0 ∈ x;rw [List.getD_eq_getElem?_getD,List.getElem?_eq_getElem hi'];exact List.getElem_mem hi')
  rw [show k+100+(d+1)=(k+100+d)+1 from rfl,outriggerref06_Mean.l0]
  refine yes_of (by omega) (yes_of (by omega) (bind_of (show outriggerref02_Of.f (k+100+d) _=_ by rw [show k+100+d=(k+92+d)+8 by omega];exact rof_is _ (by omega) (by omega)) ?_))
  refine bind_of (show outriggerref02_Add.f (k+100+d) _ _ _ _=_ by rw [show k+100+d=(k+99+d)+1 by omega];exact raddf_p _ (x:=s) (y:=rd x (i:Int)) (by unfold Fits;omega) (by unfold Fits;omega) (by unfold Fits;omega)) ?_
  rw [w1 i (by omega)]
  refine(rmean_loop x hx hp hb c d k (i+1) (s+rd x (i:Int)) (by omega) (by omega) (by omega)).trans ?_
  rw [rd_drop x i hi',tot_cons,Int.add_assoc]
theorem rmean_is (l:List Int) (k:Nat):outriggerref06_Mean.f (k+200) l=some (if l=[] then (0,false) else (mean (tot (cls (l.take 64))) ((l.take 64).length:Int),chg (l.take 64))):=by
 have hl:(cls (l.take 64)).length=(l.take 64).length:=by simp [cls]
 have hl2:(l.take 64).length≤64:=by rw [List.length_take];omega
 unfold outriggerref06_Mean.f
 refine bind_of (rcut_is l (k+130)) ?_
 by_cases h:l=[]
 ·subst h;rfl
 ·have hp:0<(l.take 64).length:=by
   cases l with
   | nil=>exact absurd rfl h
   | cons y l=>simp
  rw [if_neg h]
  refine no_of (by dsimp only;omega) ?_
  have e:=rmean_loop (cls (l.take 64)) (by omega) (by omega) (cls_bd _) (chg (l.take 64)) (cls (l.take 64)).length (k+100-(cls (l.take 64)).length) 0 0 (by omega) (by omega) (by omega)
  rw [show k+100-(cls (l.take 64)).length+100+(cls (l.take 64)).length=k+200 by omega,List.drop_zero,Int.zero_add,hl] at e
  exact e
theorem cl_cl (a:Int):cl (cl a)=cl a:=by
 have h0:=cl_lo a
 have h1:=cl_hi a
 generalize cl a=v at *
 unfold cl
 (repeat' split)<;>omega
theorem prods_cls:∀ l m:List Int,prods (cls l) (cls m)=prods l m
 | [],m=>by cases m<;>rfl
 | _ :: _,[]=>rfl
 | x :: l,y :: m=>by
  have:=prods_cls l m
  show(cl (cl x)*cl (cl y)) :: prods (cls l) (cls m)=(cl x*cl y) :: prods l m
  rw [this,cl_cl,cl_cl]
theorem rwide_loop (x y:List Int) (hx:x.length≤64) (hy:x.length=y.length):∀ (d k i:Nat) (s:Int),i+d=x.length→-(83076749736557242056487941267521536*i)≤s→s≤83076749736557242056487941267521536*i →
  outriggerref06_wide.l0 (k+10+2*d) x y (i:Int) (hi s) (lo s)=some (hi (s+tot (prods (x.drop i) (y.drop i))),lo (s+tot (prods (x.drop i) (y.drop i))))
 | 0,k,i,s,he,h0,h1=>by
  rw [List.drop_of_length_le (by omega),show k+10+2*0=(k+8)+1+1 from rfl,outriggerref06_wide.l0]
  refine no_of (by omega) ?_
  rw [outriggerref06_wide.j1]
  refine no_of (by simp) ?_
  simp [prods,tot]
 | d+1,k,i,s,he,h0,h1=>by
  have hi':i<x.length:=by omega
  have hc:=mul_fits (rd x (i:Int)) (rd y (i:Int))
  rw [show k+10+2*(d+1)=(k+10+2*d)+1+1 by omega,outriggerref06_wide.l0]
  refine yes_of (by omega) ?_
  rw [decide_eq_true (show(i:Int)<(y.length:Int) by omega),outriggerref06_wide.j1]
  refine yes_of rfl (yes_of (by omega) (yes_of (by omega) (yes_of (by omega) (bind_of (rmul_is _ _) ?_))))
  refine bind_of (show outriggerref02_Add.f (k+10+2*d) _ _ _ _=_ by rw [show k+10+2*d=(k+9+2*d)+1 by omega];exact raddf_p _ (x:=s) (by unfold Fits;omega) (by unfold Fits;omega) (by unfold Fits;omega)) ?_
  rw [w1 i (by omega)]
  refine(rwide_loop x y hx hy d k (i+1) (s+cl (rd x (i:Int))*cl (rd y (i:Int))) (by omega) (by omega) (by omega)).trans ?_
  rw [rd_drop x i hi',rd_drop y i (by omega)]
  simp only [prods,List.zip_cons_cons,List.map_cons,tot_cons,Int.add_assoc]
theorem rwide_is (l m:List Int) (hl:l.length≤64) (h:l.length=m.length) (k:Nat):outriggerref06_wide.f (k+150) (cls l) (cls m)=some (hi (tot (prods l m)),lo (tot (prods l m))):=by
 have e1:(cls l).length=l.length:=by simp [cls]
 have e2:(cls m).length=m.length:=by simp [cls]
 unfold outriggerref06_wide.f
 have e:=rwide_loop (cls l) (cls m) (by omega) (by omega) (cls l).length (k+140-2*(cls l).length) 0 0 (by omega) (by omega) (by omega)
 rw [show k+140-2*(cls l).length+10+2*(cls l).length=k+150 by omega,List.drop_zero,List.drop_zero,Int.zero_add,prods_cls] at e
 exact e
theorem rround_p (k:Nat) {n:Int} (h0:-5316911983139663491615228241121378304≤n) (h1:n≤5316911983139663491615228241121378304):outriggerref03_Round.f (k+210) (hi n) (lo n)=some (cl (rv n),!(cl (rv n) == rv n)):=by
 have hn:Fits n:=by unfold Fits;omega
 have hs:Fits (n+2147483648):=by unfold Fits;omega
 have hv:Fits ((n+2147483648)/2^sh 32):=fits_div hs _
 have h32:(2:Int)^sh 32=4294967296:=by decide
 unfold outriggerref03_Round.f
 refine bind_of (raddf_p (k+209) (x:=n) (y:=2147483648) hn (by unfold Fits;omega) hs) ?_
 refine bind_of (rdown_is (k+8) _ _ 32) ?_
 rw [kn_pair hs]
 refine bind_of (rint_is (k+208) _ _) ?_
 rw [kn_pair hv,h32]
 refine yes_of rfl ?_
 show(if (cl (rv n) == rv n)=true then _ else _)=_
 cases hc:(cl (rv n) == rv n)
 ·exact no_of (by simp) rfl
 ·refine yes_of rfl (bind_of (rsane_is _ _) ?_)
  rw [decide_eq_true (sane_pair hn)]
  rfl
theorem rdot_is (l m:List Int) (k:Nat):outriggerref06_Dot.f (k+220) l m=some (cl (rv (tot (prods (l.take (P2 l m)) (m.take (P2 l m))))),chg (l.take (P2 l m)) || (chg (m.take (P2 l m)) || !(cl (rv (tot (prods (l.take (P2 l m)) (m.take (P2 l m))))) == rv (tot (prods (l.take (P2 l m)) (m.take (P2 l m))))))):=by
 obtain⟨p,hp,hp1,hp2⟩:∃ p:Nat,mn (l.length:Int) (m.length:Int)=(p:Int)∧p≤l.length∧p≤m.length:=⟨min l.length m.length,by unfold mn;split<;>omega,by omega,by omega⟩
 have hpp:p=l.length∨p=m.length:=by unfold mn at hp;split at hp<;>omega
 have hP:min 64 p=P2 l m:=by unfold P2;omega
 have hl:(l.take (P2 l m)).length=P2 l m:=by rw [List.length_take];unfold P2;omega
 have hm:(m.take (P2 l m)).length=P2 l m:=by rw [List.length_take];unfold P2;omega
 have h64:P2 l m≤64:=by unfold P2;omega
 unfold outriggerref06_Dot.f
 rw [hp]
 simp only [Int.toNat_natCast]
 have c1:=rcut_is (l.take p) (k+150)
 have c2:=rcut_is (m.take p) (k+150)
 rw [List.take_take,hP] at c1 c2
 generalize P2 l m=q at *
 generalize l.take q=x at *
 generalize m.take q=y at *
 have hb:=tot_prods_bd x y (by omega)
 refine yes_of (by omega) (yes_of (by omega) (bind_of c1 (yes_of (by omega) (bind_of c2 (bind_of (rwide_is x y (by omega) (by omega) (k+70)) (bind_of (rround_p (k+10) hb.1 hb.2) ?_))))))
 dsimp only
 cases hd:chg x
 ·refine no_of (by simp) ?_
  cases he:chg y
  ·exact no_of (by simp) (by simp)
  ·exact yes_of rfl (by simp)
 ·exact yes_of rfl (by simp)
end Go.Proofs.Ytembdogffbcjiaa.Rsum
