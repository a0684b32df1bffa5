/- Lemmas that the row leans on; laid by a program of this project out of longer texts: what the row does not name is left out. -/
import Derived.Test.YtembdogffbcjiaaZNum
import Derived.Test.YtembdogffbcjiaaZWide
import Derived.Test.YtembdogffbcjiaaZB2
import Derived.Test.YtembdogffbcjiaaZB3
import Derived.Test.YtembdogffbcjiaaZB4
import Derived.Test.YtembdogffbcjiaaZB5
import Derived.Test.YtembdogffbcjiaaZB6
import Derived.Test.YtembdogffbcjiaaZB7
import Derived.Test.YtembdogffbcjiaaZB8
import Derived.Test.YtembdogffbcjiaaZB9
import Derived.Test.YtembdogffbcjiaaZB10
import Derived.Test.YtembdogffbcjiaaZB11
import Derived.Test.YtembdogffbcjiaaZB12
import Derived.Test.YtembdogffbcjiaaZB13
import Derived.Test.YtembdogffbcjiaaZB14
import Derived.Test.YtembdogffbcjiaaZB15
import Derived.Test.YtembdogffbcjiaaZB16
import Derived.Test.YtembdogffbcjiaaZB17
namespace Go.Proofs.Ytembdogffbcjiaa.Sum
open Go Go.RowKit Go.Proofs.Ytembdogffbcjiaa.B Go.Proofs.Ytembdogffbcjiaa.Num Go.Proofs.Ytembdogffbcjiaa.Wide Go.Proofs.YtembdogffbcjiaaW.PrintWords Go.Proofs.YtembdogffbcjiaaW.PrintLast Go.Proofs.YtembdogffbcjiaaW.PrintMore
def tot (l:List Int):Int:=l.foldr (·+·) 0
theorem tot_cons (x:Int) (l:List Int):tot (x :: l)=x+tot l:=rfl
def cls (l:List Int):List Int:=l.map cl
def chg (l:List Int):Bool:=l.any fun x=>cl x != x
theorem rd_drop (l:List Int) (i:Nat) (h:i<l.length):l.drop i=rd l (i:Int) :: l.drop (i+1):=by
 rw [List.drop_eq_getElem_cons h]
 congr 1
 show l[i]=l.getD i 0
 rw [List.getD_eq_getElem?_getD,List.getElem?_eq_getElem h];rfl
theorem w1 (i:Nat) (h:i≤1000):wrap64 ((i:Int)+1)=((i+1:Nat):Int):=by
 rw [w64 (by omega) (by omega)];rfl
theorem changed1_is (l:List Int) (i:Nat) (h:i<l.length):sum_changed_1.f (i:Int) l=some (cl (rd l (i:Int)) != rd l (i:Int)):=by
 unfold sum_changed_1.f
 rw [if_pos (by omega),if_pos (by omega),clamp_is]
 exact bind_of rfl rfl
theorem changed_loop (l:List Int) (hl:l.length≤64):∀ (d k i:Nat),i+d=l.length→d<k→sum_changed.l0 k l (l.length:Int) (i:Int)=some (chg (l.drop i))
 | 0,0,_,_,hk=>by omega
 | 0,k+1,i,he,_=>by
  simp only [sum_changed.l0]
  rw [if_neg (by omega),List.drop_of_length_le (by omega)]
  rfl
 | d+1,0,_,_,hk=>by omega
 | d+1,k+1,i,he,hk=>by
  simp only [sum_changed.l0]
  have hi':i<l.length:=by omega
  rw [if_pos (by omega),changed1_is l i hi']
  refine bind_of rfl ?_
  rw [rd_drop l i hi',chg,List.any_cons]
  by_cases hc:(cl (rd l (i:Int)) != rd l (i:Int))=true
  ·rw [if_pos hc,hc,Bool.true_or]
  ·rw [if_neg hc,w1 i (by omega),changed_loop l hl d k (i+1) (by omega) (by omega),Bool.eq_false_iff.mpr hc,Bool.false_or]
   rfl
theorem changed_is (l:List Int) (hl:l.length≤64) (k:Nat):sum_changed.f (k+70) l=some (chg l):=by
 unfold sum_changed.f
 refine(changed_loop l hl l.length (k+70) 0 (by omega) (by omega)).trans ?_
 rw [List.drop_zero]
theorem mn_take (l:List Int):0≤mn (l.length:Int) 64∧mn (l.length:Int) 64≤(l.length:Int)∧l.take (mn (l.length:Int) 64).toNat=l.take 64:=by
 unfold mn
 split
 ·exact⟨by omega,by omega,rfl⟩
 ·refine⟨by omega,by omega,?_⟩
  rw [Int.toNat_natCast,List.take_length,List.take_of_length_le (by omega)]
theorem tdiv_split (c n:Int) (hn:0<n):c.tdiv n*n+c.tmod n=c∧-n<c.tmod n∧c.tmod n<n∧(c.tdiv n).natAbs≤c.natAbs∧(c.tdiv n*n).natAbs≤c.natAbs:=by
 refine⟨by rw [Int.mul_comm];exact Int.mul_tdiv_add_tmod c n,?_,Int.tmod_lt_of_pos c hn,?_,?_⟩
 ·have:=Int.lt_tmod_of_pos c hn
  omega
 ·rw [Int.natAbs_tdiv]
  exact Nat.div_le_self _ _
 ·rw [Int.natAbs_mul,Int.natAbs_tdiv]
  exact Nat.div_mul_le_self _ _
theorem floor_of {m d:Int} (hd:0<d):m/d=if m.tdiv d*d > m then m.tdiv d-1 else m.tdiv d:=by
 obtain⟨h1,h2,h3,_,_⟩:=tdiv_split m d hd
 split
 ·rename_i h
  have e:(m.tdiv d-1)*d=m.tdiv d*d-d:=by rw [Int.sub_mul];omega
  have e':(m.tdiv d-1+1)*d=m.tdiv d*d:=by rw [show m.tdiv d-1+1=m.tdiv d by omega]
  have a:=(Int.le_ediv_iff_mul_le hd (a:=m.tdiv d-1) (b:=m)).2 (by omega)
  have b:=(Int.ediv_lt_iff_lt_mul hd (a:=m) (b:=m.tdiv d-1+1)).2 (by omega)
  omega
 ·rename_i h
  have e:(m.tdiv d+1)*d=m.tdiv d*d+d:=by rw [Int.add_mul];omega
  have a:=(Int.le_ediv_iff_mul_le hd (a:=m.tdiv d) (b:=m)).2 (by omega)
  have b:=(Int.ediv_lt_iff_lt_mul hd (a:=m) (b:=m.tdiv d+1)).2 (by omega)
  omega
def mean (S n:Int):Int:=(2*S+n)/(2*n)
theorem small_of {a N i:Int} (hN:0<N) (hi:i≤N) (h0:-(288230376151711744*i)≤a*N) (h1:a*N≤288230376151711744*i):-288230376151711744≤a∧a≤288230376151711744 :=
 ⟨Int.le_of_mul_le_mul_right (a:=N) (by omega) hN,Int.le_of_mul_le_mul_right (a:=N) (by omega) hN⟩
theorem mean_loop (l:List Int) (hl:l.length≤64) (hp:0<l.length):∀ (d k i:Nat) (a b:Int),i+d=l.length→d+72<k→-(288230376151711744*i)≤a*l.length→a*l.length≤288230376151711744*i→-(64*i)≤b→b≤64*i →
  sum_Mean.l0 k l a b (l.length:Int) (i:Int)=some (mean (a*l.length+b+tot (cls (l.drop i))) l.length,chg l)
 | 0,0,_,_,_,_,hk,_,_,_,_=>by omega
 | 0,k+1,i,a,b,he,hk,h0,h1,h2,h3=>by
  have hN:(1:Int)≤l.length∧(l.length:Int)≤64:=by omega
  have hD:0<2*(l.length:Int):=by omega
  obtain⟨j,hj⟩:∃ j,k=j+70:=⟨k-70,by omega⟩
  have hch:sum_changed.f k l=some (chg l):=by rw [hj];exact changed_is l hl j
  simp only [sum_Mean.l0]
  have e1:wrap64 (2*(l.length:Int))=2*(l.length:Int):=w64 (by omega) (by omega)
  have e2:wrap64 (wrap64 (2*b)+(l.length:Int))=2*b+(l.length:Int):=by rw [w64 (by omega) (by omega:2*b≤_),w64 (by omega) (by omega)]
  have ha:=small_of (a:=a) (N:=(l.length:Int)) (by omega) (i:=(i:Int)) (by omega) h0 h1
  obtain⟨g1,g2,g3,g4,g5⟩:=tdiv_split (2*b+(l.length:Int)) (2*(l.length:Int)) hD
  have hf:=floor_of (m:=2*b+(l.length:Int)) hD
  rw [if_neg (by omega),e1,if_neg (by omega),e2,hch,w64 (n:=(2*b+(l.length:Int)).tdiv (2*(l.length:Int))) (by omega) (by omega),w64 (n:=(2*b+(l.length:Int)).tdiv (2*(l.length:Int))*(2*(l.length:Int))) (by omega) (by omega)]
  rw [List.drop_of_length_le (by omega)]
  have hm:mean (a*l.length+b+tot (cls [])) l.length=a+(2*b+(l.length:Int))/(2*(l.length:Int)):=by
   show(2*(a*(l.length:Int)+b+0)+(l.length:Int))/(2*(l.length:Int))=_
   rw [show 2*(a*(l.length:Int)+b+0)+(l.length:Int)=(2*b+(l.length:Int))+a*(2*(l.length:Int)) by grind,Int.add_mul_ediv_right _ _ (by omega)]
   omega
  rw [hm,hf]
  by_cases c:(2*b+(l.length:Int)).tdiv (2*(l.length:Int))*(2*(l.length:Int)) > 2*b+(l.length:Int)
  ·rw [if_pos c,if_pos c]
   refine bind_of rfl ?_
   rw [w64 (n:=(2*b+(l.length:Int)).tdiv (2*(l.length:Int))-1) (by omega) (by omega),w64 (by omega) (by omega)]
  ·rw [if_neg c,if_neg c]
   refine bind_of rfl ?_
   rw [w64 (by omega) (by omega)]
 | d+1,0,_,_,_,_,hk,_,_,_,_=>by omega
 | d+1,k+1,i,a,b,he,hk,h0,h1,h2,h3=>by
  have hi':i<l.length:=by omega
  have hc0:=cl_lo (rd l (i:Int))
  have hc1:=cl_hi (rd l (i:Int))
  have ha:=small_of (a:=a) (N:=(l.length:Int)) (by omega) (i:=(i:Int)) (by omega) h0 h1
  obtain⟨g1,g2,g3,g4,g5⟩:=tdiv_split (cl (rd l (i:Int))) (l.length:Int) (by omega)
  simp only [sum_Mean.l0]
  rw [if_pos (by omega),if_pos (by omega),if_pos (by omega),clamp_is]
  refine bind_of rfl ?_
  rw [if_neg (by omega),w1 i (by omega)]
  dsimp only
  rw [w64 (n:=(cl (rd l (i:Int))).tdiv (l.length:Int)) (by omega) (by omega),w64 (n:=(cl (rd l (i:Int))).tdiv (l.length:Int)*(l.length:Int)) (by omega) (by omega),
   w64 (n:=cl (rd l (i:Int))-(cl (rd l (i:Int))).tdiv (l.length:Int)*(l.length:Int)) (by omega) (by omega),w64 (n:=a+(cl (rd l (i:Int))).tdiv (l.length:Int)) (by omega) (by omega),
   w64 (n:=b+(cl (rd l (i:Int))-(cl (rd l (i:Int))).tdiv (l.length:Int)*(l.length:Int))) (by omega) (by omega)]
  have e9:=Int.add_mul a ((cl (rd l (i:Int))).tdiv (l.length:Int)) (l.length:Int)
  refine(mean_loop l hl hp d k (i+1) _ _ (by omega) (by omega) (by omega) (by omega) (by omega) (by omega)).trans ?_
  rw [rd_drop l i hi',show cls (rd l (i:Int) :: l.drop (i+1))=cl (rd l (i:Int)) :: cls (l.drop (i+1)) from rfl,tot_cons,Int.add_mul]
  congr 3
  omega
theorem mean_is (l:List Int) (k:Nat):sum_Mean.f (k+150) l=some (if l=[] then (0,false) else (mean (tot (cls (l.take 64))) ((l.take 64).length:Int),chg (l.take 64))):=by
 obtain⟨h0,h1,h2⟩:=mn_take l
 have hl:(l.take 64).length≤64:=by rw [List.length_take];omega
 unfold sum_Mean.f
 rw [if_pos h0,if_pos h1,h2]
 by_cases c:l=[]
 ·subst c;rfl
 ·have hp:0<(l.take 64).length:=by
   cases l with
   | nil=>exact absurd rfl c
   | cons x l=>simp
  rw [if_neg c,if_neg (by omega)]
  refine(mean_loop (l.take 64) hl hp (l.take 64).length (k+150) 0 0 0 (by omega) (by omega) (by omega) (by omega) (by omega) (by omega)).trans ?_
  rw [List.drop_zero,Int.zero_mul,Int.zero_add,Int.zero_add]
end Go.Proofs.Ytembdogffbcjiaa.Sum
