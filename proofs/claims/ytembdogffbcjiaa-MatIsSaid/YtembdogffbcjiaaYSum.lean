/- Lemmas of the row, laid by a program. -/
import Derived.Test.YtembdogffbcjiaaYNum
import Derived.Test.YtembdogffbcjiaaYWide
import Derived.Test.YtembdogffbcjiaaYB2
import Derived.Test.YtembdogffbcjiaaYB3
import Derived.Test.YtembdogffbcjiaaYB4
import Derived.Test.YtembdogffbcjiaaYB5
import Derived.Test.YtembdogffbcjiaaYB6
import Derived.Test.YtembdogffbcjiaaYB7
import Derived.Test.YtembdogffbcjiaaYB8
import Derived.Test.YtembdogffbcjiaaYB9
import Derived.Test.YtembdogffbcjiaaYB10
import Derived.Test.YtembdogffbcjiaaYB11
import Derived.Test.YtembdogffbcjiaaYB12
import Derived.Test.YtembdogffbcjiaaYB13
import Derived.Test.YtembdogffbcjiaaYB14
import Derived.Test.YtembdogffbcjiaaYB15
import Derived.Test.YtembdogffbcjiaaYB16
import Derived.Test.YtembdogffbcjiaaYB17
namespace Go.Proofs.Ytembdogffbcjiaa.Sum
open Go Go.RowKit Go.Proofs.Ytembdogffbcjiaa.B Go.Proofs.Ytembdogffbcjiaa.Num Go.Proofs.Ytembdogffbcjiaa.Wide Go.Proofs.YtembdogffbcjiaaW.PrintWords Go.Proofs.YtembdogffbcjiaaW.PrintLast Go.Proofs.YtembdogffbcjiaaW.PrintMore
def tot (l:List Int):Int:=l.foldr (·+·) 0
theorem tot_nil:tot []=0:=rfl
theorem tot_cons (x:Int) (l:List Int):tot (x :: l)=x+tot l:=rfl
theorem tot_bd {b:Int} (l:List Int) (h:∀ x ∈ l,-b≤x∧x≤b):-(b*l.length)≤tot l∧tot l≤b*l.length:=by
 induction l with
 | nil=>simp [tot]
 | cons x l ih =>
  have h1:=ih fun y hy=>h y (List.mem_cons_of_mem _ hy)
  have h2:=h x (List.mem_cons_self ..)
  rw [tot_cons,List.length_cons,Int.natCast_add,Int.mul_add]
  constructor<;>(simp;omega)
def cls (l:List Int):List Int:=l.map cl
def chg (l:List Int):Bool:=l.any fun x=>cl x != x
def prods (l m:List Int):List Int:=(l.zip m).map fun p=>cl p.1*cl p.2
theorem cls_bd (l:List Int):∀ x ∈ cls l,-288230376151711744≤x∧x≤288230376151711744:=by
 intro x hx
 obtain⟨y,_,rfl⟩:=List.mem_map.1 hx
 exact⟨cl_lo y,cl_hi y⟩
theorem prods_bd (l m:List Int):∀ x ∈ prods l m,-83076749736557242056487941267521536≤x∧x≤83076749736557242056487941267521536:=by
 intro x hx
 obtain⟨y,_,rfl⟩:=List.mem_map.1 hx
 exact mul_fits y.1 y.2
theorem tot_prods_bd (l m:List Int) (h:l.length≤64):-5316911983139663491615228241121378304≤tot (prods l m)∧tot (prods l m)≤5316911983139663491615228241121378304:=by
 have h1:=tot_bd (prods l m) (prods_bd l m)
 have h2:(prods l m).length≤l.length:=by simp [prods];omega
 omega
theorem rd_drop (l:List Int) (i:Nat) (h:i<l.length):l.drop i=rd l (i:Int) :: l.drop (i+1):=by
 rw [List.drop_eq_getElem_cons h]
 congr 1
 show l[i]=l.getD i 0
 rw [List.getD_eq_getElem?_getD,List.getElem?_eq_getElem h];rfl
theorem w1 (i:Nat) (h:i≤1000):wrap64 ((i:Int)+1)=((i+1:Nat):Int):=by
 rw [w64 (by omega) (by omega)];rfl
theorem addf_p {x y:Int} (hx:Fits x) (hy:Fits y) (h:Fits (x+y)):wide_Add.f (hi x) (lo x) (hi y) (lo y)=some (hi (x+y),lo (x+y),true):=by
 rw [add_p hx hy,addv_ok h,decide_eq_true h]
theorem products1_is (l m:List Int) (i:Nat) (h:i<l.length) (g:i<m.length):sum_products_1.f (i:Int) l m=some (hi (cl (rd l (i:Int))*cl (rd m (i:Int))),lo (cl (rd l (i:Int))*cl (rd m (i:Int)))):=by
 unfold sum_products_1.f
 rw [if_pos (by omega),if_pos (by omega),if_pos (by omega),wmul_is]
 exact bind_of rfl rfl
theorem changed1_is (l:List Int) (i:Nat) (h:i<l.length):sum_changed_1.f (i:Int) l=some (cl (rd l (i:Int)) != rd l (i:Int)):=by
 unfold sum_changed_1.f
 rw [if_pos (by omega),if_pos (by omega),clamp_is]
 exact bind_of rfl rfl
theorem products_loop (l m:List Int) (hl:l.length≤64) (hm:l.length≤m.length):∀ (d k i:Nat) (s:Int),i+d=l.length→d<k→-(83076749736557242056487941267521536*i)≤s→s≤83076749736557242056487941267521536*i →
  sum_products.l0 k l m (l.length:Int) (i:Int) (hi s) (lo s)=some (hi (s+tot (prods (l.drop i) (m.drop i))),lo (s+tot (prods (l.drop i) (m.drop i))))
 | 0,0,_,_,_,hk,_,_=>by omega
 | 0,k+1,i,s,he,_,_,_=>by
  simp only [sum_products.l0]
  rw [if_neg (by omega),List.drop_of_length_le (by omega)]
  simp [prods,tot]
 | d+1,0,_,_,_,hk,_,_=>by omega
 | d+1,k+1,i,s,he,hk,h0,h1=>by
  simp only [sum_products.l0]
  have hi':i<l.length:=by omega
  have hc:=mul_fits (rd l (i:Int)) (rd m (i:Int))
  rw [if_pos (by omega),products1_is l m i hi' (by omega)]
  refine bind_of rfl ?_
  rw [addf_p (by unfold Fits;omega) (by unfold Fits;omega) (by unfold Fits;omega)]
  refine bind_of rfl ?_
  rw [w1 i (by omega)]
  refine(products_loop l m hl hm d k (i+1) (s+cl (rd l (i:Int))*cl (rd m (i:Int))) (by omega) (by omega) (by omega) (by omega)).trans ?_
  rw [rd_drop l i hi',rd_drop m i (by omega)]
  simp only [prods,List.zip_cons_cons,List.map_cons,tot_cons,Int.add_assoc]
theorem products_is (l m:List Int) (hl:l.length≤64) (hm:l.length≤m.length) (k:Nat):sum_products.f (k+70) l m=some (hi (tot (prods l m)),lo (tot (prods l m))):=by
 unfold sum_products.f
 refine(products_loop l m hl hm l.length (k+70) 0 0 (by omega) (by omega) (by omega) (by omega)).trans ?_
 rw [List.drop_zero,List.drop_zero,Int.zero_add]
theorem changed_loop (l:List Int) (hl:l.length≤64):∀ (d k i:Nat),i+d=l.length→d<k→sum_changed.l0 k l (l.length:Int) (i:Int)=some (chg (l.drop i))
 | 0,0,_,_,hk=>by omega
 | 0,k+1,i,he,_=>by
  simp only [sum_changed.l0]
  rw [if_neg (by omega),List.drop_of_length_le (by omega)]
  rfl
 | d+1,0,_,_,hk=>by omega
 | d+1,k+1,i,he,hk=>by
  simp only [sum_changed.l0]
  have hi':i<l.length:=by omega
  rw [if_pos (by omega),changed1_is l i hi']
  refine bind_of rfl ?_
  rw [rd_drop l i hi',chg,List.any_cons]
  by_cases hc:(cl (rd l (i:Int)) != rd l (i:Int))=true
  ·rw [if_pos hc,hc,Bool.true_or]
  ·rw [if_neg hc,w1 i (by omega),changed_loop l hl d k (i+1) (by omega) (by omega),Bool.eq_false_iff.mpr hc,Bool.false_or]
   rfl
theorem changed_is (l:List Int) (hl:l.length≤64) (k:Nat):sum_changed.f (k+70) l=some (chg l):=by
 unfold sum_changed.f
 refine(changed_loop l hl l.length (k+70) 0 (by omega) (by omega)).trans ?_
 rw [List.drop_zero]
theorem mn_take (l:List Int):0≤mn (l.length:Int) 64∧mn (l.length:Int) 64≤(l.length:Int)∧l.take (mn (l.length:Int) 64).toNat=l.take 64:=by
 unfold mn
 split
 ·exact⟨by omega,by omega,rfl⟩
 ·refine⟨by omega,by omega,?_⟩
  rw [Int.toNat_natCast,List.take_length,List.take_of_length_le (by omega)]
def rv (n:Int):Int:=(n+2147483648)/4294967296
theorem round_p (k:Nat) {n:Int} (h0:-5316911983139663491615228241121378304≤n) (h1:n≤5316911983139663491615228241121378304):scale_Round.f (k+1) (hi n) (lo n)=some (cl (rv n),!(cl (rv n) == rv n)):=by
 have hn:Fits n:=by unfold Fits;omega
 have hs:Fits (n+2147483648):=by unfold Fits;omega
 have hv:Fits ((n+2147483648)/2^sh 32):=fits_div hs _
 have h32:(2:Int)^sh 32=4294967296:=by decide
 unfold scale_Round.f
 refine bind_of (of_is _) ?_
 rw [add_p hn (by unfold Fits;omega),addv_ok hs,decide_eq_true hs]
 refine bind_of rfl ?_
 rw [if_pos rfl]
 refine bind_of (down_p hs 32) ?_
 rw [int_p hv]
 refine bind_of rfl ?_
 rw [h32]
 show(if (cl (rv n) == rv n)=true then _ else _)=_
 cases hc:(cl (rv n) == rv n)
 ·rw [if_neg (by simp)];rfl
 ·rw [if_pos rfl]
  exact bind_of (sane_p hn) rfl
def P2 (l m:List Int):Nat:=min (min l.length m.length) 64
theorem mn_P2 (l m:List Int):0≤mn (mn (l.length:Int) (m.length:Int)) 64∧mn (mn (l.length:Int) (m.length:Int)) 64≤(l.length:Int)∧mn (mn (l.length:Int) (m.length:Int)) 64≤(m.length:Int)∧(mn (mn (l.length:Int) (m.length:Int)) 64).toNat=P2 l m:=by
 unfold mn P2
 (repeat' split)<;>refine⟨?_,?_,?_,?_⟩<;>omega
theorem dot_is (l m:List Int) (k:Nat):sum_Dot.f (k+80) l m=some (cl (rv (tot (prods (l.take (P2 l m)) (m.take (P2 l m))))),!(cl (rv (tot (prods (l.take (P2 l m)) (m.take (P2 l m))))) == rv (tot (prods (l.take (P2 l m)) (m.take (P2 l m))))) || (chg (l.take (P2 l m)) || chg (m.take (P2 l m)))):=by
 obtain⟨h0,h1,h2,h3⟩:=mn_P2 l m
 have hl:(l.take (P2 l m)).length=P2 l m:=by rw [List.length_take];unfold P2;omega
 have hm:(m.take (P2 l m)).length=P2 l m:=by rw [List.length_take];unfold P2;omega
 have hp:P2 l m≤64:=by unfold P2;omega
 unfold sum_Dot.f
 rw [if_pos h0,if_pos h1,if_pos h2,h3]
 generalize P2 l m=p at *
 generalize l.take p=x at *
 generalize m.take p=y at *
 have hb:=tot_prods_bd x y (by omega)
 rw [products_is x y (by omega) (by omega) (k+10)]
 refine bind_of rfl ?_
 rw [round_p (k+79) hb.1 hb.2]
 refine bind_of rfl ?_
 cases hc:(cl (rv (tot (prods x y))) == rv (tot (prods x y)))
 ·exact yes_of rfl rfl
 ·refine no_of (by simp) ?_
  rw [changed_is x (by omega) (k+10)]
  refine bind_of rfl ?_
  cases hd:chg x
  ·refine no_of (by simp) ?_
   rw [changed_is y (by omega) (k+10)]
   exact bind_of rfl rfl
  ·exact yes_of rfl rfl
theorem tdiv_split (c n:Int) (hn:0<n):c.tdiv n*n+c.tmod n=c∧-n<c.tmod n∧c.tmod n<n∧(c.tdiv n).natAbs≤c.natAbs∧(c.tdiv n*n).natAbs≤c.natAbs:=by
 refine⟨by rw [Int.mul_comm];exact Int.mul_tdiv_add_tmod c n,?_,Int.tmod_lt_of_pos c hn,?_,?_⟩
 ·have:=Int.lt_tmod_of_pos c hn
  omega
 ·rw [Int.natAbs_tdiv]
  exact Nat.div_le_self _ _
 ·rw [Int.natAbs_mul,Int.natAbs_tdiv]
  exact Nat.div_mul_le_self _ _
theorem floor_of {m d:Int} (hd:0<d):m/d=if m.tdiv d*d > m then m.tdiv d-1 else m.tdiv d:=by
 obtain⟨h1,h2,h3,_,_⟩:=tdiv_split m d hd
 split
 ·rename_i h
  have e:(m.tdiv d-1)*d=m.tdiv d*d-d:=by rw [Int.sub_mul];omega
  have e':(m.tdiv d-1+1)*d=m.tdiv d*d:=by rw [show m.tdiv d-1+1=m.tdiv d by omega]
  have a:=(Int.le_ediv_iff_mul_le hd (a:=m.tdiv d-1) (b:=m)).2 (by omega)
  have b:=(Int.ediv_lt_iff_lt_mul hd (a:=m) (b:=m.tdiv d-1+1)).2 (by omega)
  omega
 ·rename_i h
  have e:(m.tdiv d+1)*d=m.tdiv d*d+d:=by rw [Int.add_mul];omega
  have a:=(Int.le_ediv_iff_mul_le hd (a:=m.tdiv d) (b:=m)).2 (by omega)
  have b:=(Int.ediv_lt_iff_lt_mul hd (a:=m) (b:=m.tdiv d+1)).2 (by omega)
  omega
def mean (S n:Int):Int:=(2*S+n)/(2*n)
theorem small_of {a N i:Int} (hN:0<N) (hi:i≤N) (h0:-(288230376151711744*i)≤a*N) (h1:a*N≤288230376151711744*i):-288230376151711744≤a∧a≤288230376151711744 :=
 ⟨Int.le_of_mul_le_mul_right (a:=N) (by omega) hN,Int.le_of_mul_le_mul_right (a:=N) (by omega) hN⟩
theorem mean_loop (l:List Int) (hl:l.length≤64) (hp:0<l.length):∀ (d k i:Nat) (a b:Int),i+d=l.length→d+72<k→-(288230376151711744*i)≤a*l.length→a*l.length≤288230376151711744*i→-(64*i)≤b→b≤64*i →
  sum_Mean.l0 k l a b (l.length:Int) (i:Int)=some (mean (a*l.length+b+tot (cls (l.drop i))) l.length,chg l)
 | 0,0,_,_,_,_,hk,_,_,_,_=>by omega
 | 0,k+1,i,a,b,he,hk,h0,h1,h2,h3=>by
  have hN:(1:Int)≤l.length∧(l.length:Int)≤64:=by omega
  have hD:0<2*(l.length:Int):=by omega
  obtain⟨j,hj⟩:∃ j,k=j+70:=⟨k-70,by omega⟩
  have hch:sum_changed.f k l=some (chg l):=by rw [hj];exact changed_is l hl j
  simp only [sum_Mean.l0]
  have e1:wrap64 (2*(l.length:Int))=2*(l.length:Int):=w64 (by omega) (by omega)
  have e2:wrap64 (wrap64 (2*b)+(l.length:Int))=2*b+(l.length:Int):=by rw [w64 (by omega) (by omega:2*b≤_),w64 (by omega) (by omega)]
  have ha:=small_of (a:=a) (N:=(l.length:Int)) (by omega) (i:=(i:Int)) (by omega) h0 h1
  obtain⟨g1,g2,g3,g4,g5⟩:=tdiv_split (2*b+(l.length:Int)) (2*(l.length:Int)) hD
  have hf:=floor_of (m:=2*b+(l.length:Int)) hD
  rw [if_neg (by omega),e1,if_neg (by omega),e2,hch,w64 (n:=(2*b+(l.length:Int)).tdiv (2*(l.length:Int))) (by omega) (by omega),w64 (n:=(2*b+(l.length:Int)).tdiv (2*(l.length:Int))*(2*(l.length:Int))) (by omega) (by omega)]
  rw [List.drop_of_length_le (by omega)]
  have hm:mean (a*l.length+b+tot (cls [])) l.length=a+(2*b+(l.length:Int))/(2*(l.length:Int)):=by
   show(2*(a*(l.length:Int)+b+0)+(l.length:Int))/(2*(l.length:Int))=_
   rw [show 2*(a*(l.length:Int)+b+0)+(l.length:Int)=(2*b+(l.length:Int))+a*(2*(l.length:Int)) by grind,Int.add_mul_ediv_right _ _ (by omega)]
   omega
  rw [hm,hf]
  by_cases c:(2*b+(l.length:Int)).tdiv (2*(l.length:Int))*(2*(l.length:Int)) > 2*b+(l.length:Int)
  ·rw [if_pos c,if_pos c]
   refine bind_of rfl ?_
   rw [w64 (n:=(2*b+(l.length:Int)).tdiv (2*(l.length:Int))-1) (by omega) (by omega),w64 (by omega) (by omega)]
  ·rw [if_neg c,if_neg c]
   refine bind_of rfl ?_
   rw [w64 (by omega) (by omega)]
 | d+1,0,_,_,_,_,hk,_,_,_,_=>by omega
 | d+1,k+1,i,a,b,he,hk,h0,h1,h2,h3=>by
  have hi':i<l.length:=by omega
  have hc0:=cl_lo (rd l (i:Int))
  have hc1:=cl_hi (rd l (i:Int))
  have ha:=small_of (a:=a) (N:=(l.length:Int)) (by omega) (i:=(i:Int)) (by omega) h0 h1
  obtain⟨g1,g2,g3,g4,g5⟩:=tdiv_split (cl (rd l (i:Int))) (l.length:Int) (by omega)
  simp only [sum_Mean.l0]
  rw [if_pos (by omega),if_pos (by omega),if_pos (by omega),clamp_is]
  refine bind_of rfl ?_
  rw [if_neg (by omega),w1 i (by omega)]
  dsimp only
  rw [w64 (n:=(cl (rd l (i:Int))).tdiv (l.length:Int)) (by omega) (by omega),w64 (n:=(cl (rd l (i:Int))).tdiv (l.length:Int)*(l.length:Int)) (by omega) (by omega),
   w64 (n:=cl (rd l (i:Int))-(cl (rd l (i:Int))).tdiv (l.length:Int)*(l.length:Int)) (by omega) (by omega),w64 (n:=a+(cl (rd l (i:Int))).tdiv (l.length:Int)) (by omega) (by omega),
   w64 (n:=b+(cl (rd l (i:Int))-(cl (rd l (i:Int))).tdiv (l.length:Int)*(l.length:Int))) (by omega) (by omega)]
  have e9:=Int.add_mul a ((cl (rd l (i:Int))).tdiv (l.length:Int)) (l.length:Int)
  refine(mean_loop l hl hp d k (i+1) _ _ (by omega) (by omega) (by omega) (by omega) (by omega) (by omega)).trans ?_
  rw [rd_drop l i hi',show cls (rd l (i:Int) :: l.drop (i+1))=cl (rd l (i:Int)) :: cls (l.drop (i+1)) from rfl,tot_cons,Int.add_mul]
  congr 3
  omega
theorem mean_is (l:List Int) (k:Nat):sum_Mean.f (k+150) l=some (if l=[] then (0,false) else (mean (tot (cls (l.take 64))) ((l.take 64).length:Int),chg (l.take 64))):=by
 obtain⟨h0,h1,h2⟩:=mn_take l
 have hl:(l.take 64).length≤64:=by rw [List.length_take];omega
 unfold sum_Mean.f
 rw [if_pos h0,if_pos h1,h2]
 by_cases c:l=[]
 ·subst c;rfl
 ·have hp:0<(l.take 64).length:=by
   cases l with
   | nil=>exact absurd rfl c
   | cons x l=>simp
  rw [if_neg c,if_neg (by omega)]
  refine(mean_loop (l.take 64) hl hp (l.take 64).length (k+150) 0 0 0 (by omega) (by omega) (by omega) (by omega) (by omega) (by omega)).trans ?_
  rw [List.drop_zero,Int.zero_mul,Int.zero_add,Int.zero_add]
theorem P2_same {l m:List Int} (h:l.length=m.length) (hl:l.length≤64):P2 l m=l.length:=by unfold P2;omega
theorem dot_same {l m:List Int} (h:l.length=m.length) (hl:l.length≤64) (k:Nat):sum_Dot.f (k+80) l m=some (cl (rv (tot (prods l m))),!(cl (rv (tot (prods l m))) == rv (tot (prods l m))) || (chg l || chg m)):=by
 rw [dot_is,P2_same h hl,List.take_length,h,List.take_length]
end Go.Proofs.Ytembdogffbcjiaa.Sum
