/- Lemmas of the rows, laid by a program. -/
import Derived.Test.YtonfobdknnlbjaaYM8
import Derived.Test.YtonfobdknnlbjaaYM9
import Derived.Test.YtonfobdknnlbjaaYM1
import Derived.Test.YtonfobdknnlbjaaYM2
import Derived.Test.YtonfobdknnlbjaaYM3
import Derived.Test.YtonfobdknnlbjaaYM4
import Derived.Test.YtonfobdknnlbjaaYM5
import Derived.Test.YtonfobdknnlbjaaYM6
import Derived.Test.YtonfobdknnlbjaaYM7
import Derived.Test.YtonfobdknnlbjaaProg
import Derived.Laws.IdiomArrays
import Derived.Lib.SmallJoins
import Derived.Deep.Strs
import Derived.WideOpen
import Derived.ProofKit
import Derived.OpenShut
import Derived.KernelRfl
section
set_option linter.unusedVariables false
set_option linter.unusedSimpArgs false
namespace Go.Proofs.Ytonfobdknnlbjaa.Sum
open Go Go.RowKit Go.Proofs.Ytonfobdknnlbjaa.B Go.Proofs.Ytonfobdknnlbjaa.Num Go.Proofs.Ytonfobdknnlbjaa.Wide Go.Proofs.YtonfobdknnlbjaaW.PrintWords Go.Proofs.YtonfobdknnlbjaaW.PrintLast Go.Proofs.YtonfobdknnlbjaaW.PrintMore
def tot (l:List Int):Int:=l.foldr (·+·) 0
theorem tot_cons (x:Int) (l:List Int):tot (x :: l)=x+tot l:=rfl
theorem tot_bd {b:Int} (l:List Int) (h:∀ x ∈ l,-b≤x∧x≤b):-(b*l.length)≤tot l∧tot l≤b*l.length:=by
 induction l with
 | nil=>simp [tot]
 | cons x l ih =>
  have h1:=ih fun y hy=>h y (List.mem_cons_of_mem _ hy)
  have h2:=h x (List.mem_cons_self ..)
  rw [tot_cons,List.length_cons,Int.natCast_add,Int.mul_add]
  constructor<;>(simp;omega)
def cls (l:List Int):List Int:=l.map cl
def chg (l:List Int):Bool:=l.any fun x=>cl x != x
theorem cls_bd (l:List Int):∀ x ∈ cls l,-288230376151711744≤x∧x≤288230376151711744:=by
 intro x hx
 obtain⟨y,_,rfl⟩:=List.mem_map.1 hx
 exact⟨cl_lo y,cl_hi y⟩
theorem rd_drop (l:List Int) (i:Nat) (h:i<l.length):l.drop i=rd l (i:Int) :: l.drop (i+1):=by
 rw [List.drop_eq_getElem_cons h]
 congr 1
 show l[i]=l.getD i 0
 rw [List.getD_eq_getElem?_getD,List.getElem?_eq_getElem h];rfl
theorem w1 (i:Nat) (h:i≤1000):wrap64 ((i:Int)+1)=((i+1:Nat):Int):=by
 rw [w64 (by omega) (by omega)];rfl
theorem changed1_is (l:List Int) (i:Nat) (h:i<l.length):sum_changed_1.f (i:Int) l=some (cl (rd l (i:Int)) != rd l (i:Int)):=by
 unfold sum_changed_1.f
 rw [if_pos (by omega),if_pos (by omega),clamp_is]
 exact bind_of rfl rfl
theorem changed_loop (l:List Int) (hl:l.length≤64):∀ (d k i:Nat),i+d=l.length→d<k→sum_changed.l0 k l (l.length:Int) (i:Int)=some (chg (l.drop i))
 | 0,0,_,_,hk=>by omega
 | 0,k+1,i,he,_=>by
  simp only [sum_changed.l0]
  rw [if_neg (by omega),List.drop_of_length_le (by omega)]
  rfl
 | d+1,0,_,_,hk=>by omega
 | d+1,k+1,i,he,hk=>by
  simp only [sum_changed.l0]
  have hi':i<l.length:=by omega
  rw [if_pos (by omega),changed1_is l i hi']
  refine bind_of rfl ?_
  rw [rd_drop l i hi',chg,List.any_cons]
  by_cases hc:(cl (rd l (i:Int)) != rd l (i:Int))=true
  ·rw [if_pos hc,hc,Bool.true_or]
  ·rw [if_neg hc,w1 i (by omega),changed_loop l hl d k (i+1) (by omega) (by omega),Bool.eq_false_iff.mpr hc,Bool.false_or]
   rfl
theorem changed_is (l:List Int) (hl:l.length≤64) (k:Nat):sum_changed.f (k+70) l=some (chg l):=by
 unfold sum_changed.f
 refine(changed_loop l hl l.length (k+70) 0 (by omega) (by omega)).trans ?_
 rw [List.drop_zero]
theorem mn_take (l:List Int):0≤mn (l.length:Int) 64∧mn (l.length:Int) 64≤(l.length:Int)∧l.take (mn (l.length:Int) 64).toNat=l.take 64:=by
 unfold mn
 split
 ·exact⟨by omega,by omega,rfl⟩
 ·refine⟨by omega,by omega,?_⟩
  rw [Int.toNat_natCast,List.take_length,List.take_of_length_le (by omega)]
def rv (n:Int):Int:=(n+2147483648)/4294967296
theorem round_p (k:Nat) {n:Int} (h0:-5316911983139663491615228241121378304≤n) (h1:n≤5316911983139663491615228241121378304):scale_Round.f (k+1) (hi n) (lo n)=some (cl (rv n),!(cl (rv n) == rv n)):=by
 have hn:Fits n:=by unfold Fits;omega
 have hs:Fits (n+2147483648):=by unfold Fits;omega
 have hv:Fits ((n+2147483648)/2^sh 32):=fits_div hs _
 have h32:(2:Int)^sh 32=4294967296:=by decide
 unfold scale_Round.f
 refine bind_of (of_is _) ?_
 rw [add_p hn (by unfold Fits;omega),addv_ok hs,decide_eq_true hs]
 refine bind_of rfl ?_
 rw [if_pos rfl]
 refine bind_of (down_p hs 32) ?_
 rw [int_p hv]
 refine bind_of rfl ?_
 rw [h32]
 show(if (cl (rv n) == rv n)=true then _ else _)=_
 cases hc:(cl (rv n) == rv n)
 ·rw [if_neg (by simp)];rfl
 ·rw [if_pos rfl]
  exact bind_of (sane_p hn) rfl
theorem tdiv_split (c n:Int) (hn:0<n):c.tdiv n*n+c.tmod n=c∧-n<c.tmod n∧c.tmod n<n∧(c.tdiv n).natAbs≤c.natAbs∧(c.tdiv n*n).natAbs≤c.natAbs:=by
 refine⟨by rw [Int.mul_comm];exact Int.mul_tdiv_add_tmod c n,?_,Int.tmod_lt_of_pos c hn,?_,?_⟩
 ·have:=Int.lt_tmod_of_pos c hn
  omega
 ·rw [Int.natAbs_tdiv]
  exact Nat.div_le_self _ _
 ·rw [Int.natAbs_mul,Int.natAbs_tdiv]
  exact Nat.div_mul_le_self _ _
theorem floor_of {m d:Int} (hd:0<d):m/d=if m.tdiv d*d > m then m.tdiv d-1 else m.tdiv d:=by
 obtain⟨h1,h2,h3,_,_⟩:=tdiv_split m d hd
 split
 ·rename_i h
  have e:(m.tdiv d-1)*d=m.tdiv d*d-d:=by rw [Int.sub_mul];omega
  have e':(m.tdiv d-1+1)*d=m.tdiv d*d:=by rw [show m.tdiv d-1+1=m.tdiv d by omega]
  have a:=(Int.le_ediv_iff_mul_le hd (a:=m.tdiv d-1) (b:=m)).2 (by omega)
  have b:=(Int.ediv_lt_iff_lt_mul hd (a:=m) (b:=m.tdiv d-1+1)).2 (by omega)
  omega
 ·rename_i h
  have e:(m.tdiv d+1)*d=m.tdiv d*d+d:=by rw [Int.add_mul];omega
  have a:=(Int.le_ediv_iff_mul_le hd (a:=m.tdiv d) (b:=m)).2 (by omega)
  have b:=(Int.ediv_lt_iff_lt_mul hd (a:=m) (b:=m.tdiv d+1)).2 (by omega)
  omega
def mean (S n:Int):Int:=(2*S+n)/(2*n)
theorem small_of {a N i:Int} (hN:0<N) (hi:i≤N) (h0:-(288230376151711744*i)≤a*N) (h1:a*N≤288230376151711744*i):-288230376151711744≤a∧a≤288230376151711744 :=
 ⟨Int.le_of_mul_le_mul_right (a:=N) (by omega) hN,Int.le_of_mul_le_mul_right (a:=N) (by omega) hN⟩
theorem mean_loop (l:List Int) (hl:l.length≤64) (hp:0<l.length):∀ (d k i:Nat) (a b:Int),i+d=l.length→d+72<k→-(288230376151711744*i)≤a*l.length→a*l.length≤288230376151711744*i→-(64*i)≤b→b≤64*i →
  sum_Mean.l0 k l a b (l.length:Int) (i:Int)=some (mean (a*l.length+b+tot (cls (l.drop i))) l.length,chg l)
 | 0,0,_,_,_,_,hk,_,_,_,_=>by omega
 | 0,k+1,i,a,b,he,hk,h0,h1,h2,h3=>by
  have hN:(1:Int)≤l.length∧(l.length:Int)≤64:=by omega
  have hD:0<2*(l.length:Int):=by omega
  obtain⟨j,hj⟩:∃ j,k=j+70:=⟨k-70,by omega⟩
  have hch:sum_changed.f k l=some (chg l):=by rw [hj];exact changed_is l hl j
  simp only [sum_Mean.l0]
  have e1:wrap64 (2*(l.length:Int))=2*(l.length:Int):=w64 (by omega) (by omega)
  have e2:wrap64 (wrap64 (2*b)+(l.length:Int))=2*b+(l.length:Int):=by rw [w64 (by omega) (by omega:2*b≤_),w64 (by omega) (by omega)]
  have ha:=small_of (a:=a) (N:=(l.length:Int)) (by omega) (i:=(i:Int)) (by omega) h0 h1
  obtain⟨g1,g2,g3,g4,g5⟩:=tdiv_split (2*b+(l.length:Int)) (2*(l.length:Int)) hD
  have hf:=floor_of (m:=2*b+(l.length:Int)) hD
  rw [if_neg (by omega),e1,if_neg (by omega),e2,hch,w64 (n:=(2*b+(l.length:Int)).tdiv (2*(l.length:Int))) (by omega) (by omega),w64 (n:=(2*b+(l.length:Int)).tdiv (2*(l.length:Int))*(2*(l.length:Int))) (by omega) (by omega)]
  rw [List.drop_of_length_le (by omega)]
  have hm:mean (a*l.length+b+tot (cls [])) l.length=a+(2*b+(l.length:Int))/(2*(l.length:Int)):=by
   show(2*(a*(l.length:Int)+b+0)+(l.length:Int))/(2*(l.length:Int))=_
   rw [show 2*(a*(l.length:Int)+b+0)+(l.length:Int)=(2*b+(l.length:Int))+a*(2*(l.length:Int)) by grind,Int.add_mul_ediv_right _ _ (by omega)]
   omega
  rw [hm,hf]
  by_cases c:(2*b+(l.length:Int)).tdiv (2*(l.length:Int))*(2*(l.length:Int)) > 2*b+(l.length:Int)
  ·rw [if_pos c,if_pos c]
   refine bind_of rfl ?_
   rw [w64 (n:=(2*b+(l.length:Int)).tdiv (2*(l.length:Int))-1) (by omega) (by omega),w64 (by omega) (by omega)]
  ·rw [if_neg c,if_neg c]
   refine bind_of rfl ?_
   rw [w64 (by omega) (by omega)]
 | d+1,0,_,_,_,_,hk,_,_,_,_=>by omega
 | d+1,k+1,i,a,b,he,hk,h0,h1,h2,h3=>by
  have hi':i<l.length:=by omega
  have hc0:=cl_lo (rd l (i:Int))
  have hc1:=cl_hi (rd l (i:Int))
  have ha:=small_of (a:=a) (N:=(l.length:Int)) (by omega) (i:=(i:Int)) (by omega) h0 h1
  obtain⟨g1,g2,g3,g4,g5⟩:=tdiv_split (cl (rd l (i:Int))) (l.length:Int) (by omega)
  simp only [sum_Mean.l0]
  rw [if_pos (by omega),if_pos (by omega),if_pos (by omega),clamp_is]
  refine bind_of rfl ?_
  rw [if_neg (by omega),w1 i (by omega)]
  dsimp only
  rw [w64 (n:=(cl (rd l (i:Int))).tdiv (l.length:Int)) (by omega) (by omega),w64 (n:=(cl (rd l (i:Int))).tdiv (l.length:Int)*(l.length:Int)) (by omega) (by omega),
   w64 (n:=cl (rd l (i:Int))-(cl (rd l (i:Int))).tdiv (l.length:Int)*(l.length:Int)) (by omega) (by omega),w64 (n:=a+(cl (rd l (i:Int))).tdiv (l.length:Int)) (by omega) (by omega),
   w64 (n:=b+(cl (rd l (i:Int))-(cl (rd l (i:Int))).tdiv (l.length:Int)*(l.length:Int))) (by omega) (by omega)]
  have e9:=Int.add_mul a ((cl (rd l (i:Int))).tdiv (l.length:Int)) (l.length:Int)
  refine(mean_loop l hl hp d k (i+1) _ _ (by omega) (by omega) (by omega) (by omega) (by omega) (by omega)).trans ?_
  rw [rd_drop l i hi',show cls (rd l (i:Int) :: l.drop (i+1))=cl (rd l (i:Int)) :: cls (l.drop (i+1)) from rfl,tot_cons,Int.add_mul]
  congr 3
  omega
theorem mean_is (l:List Int) (k:Nat):sum_Mean.f (k+150) l=some (if l=[] then (0,false) else (mean (tot (cls (l.take 64))) ((l.take 64).length:Int),chg (l.take 64))):=by
 obtain⟨h0,h1,h2⟩:=mn_take l
 have hl:(l.take 64).length≤64:=by rw [List.length_take];omega
 unfold sum_Mean.f
 rw [if_pos h0,if_pos h1,h2]
 by_cases c:l=[]
 ·subst c;rfl
 ·have hp:0<(l.take 64).length:=by
   cases l with
   | nil=>exact absurd rfl c
   | cons x l=>simp
  rw [if_neg c,if_neg (by omega)]
  refine(mean_loop (l.take 64) hl hp (l.take 64).length (k+150) 0 0 0 (by omega) (by omega) (by omega) (by omega) (by omega) (by omega)).trans ?_
  rw [List.drop_zero,Int.zero_mul,Int.zero_add,Int.zero_add]
theorem schanged_is (a b:Int) (k:Nat):scale_changed.f (k+3) [a,b]=some ((cl a != a) || (cl b != b)):=by
 unfold scale_changed.f
 rw [scale_changed.l0]
 refine yes_of (by simp) (yes_of (by omega) (yes_of (by simp) (bind_of (clamp_is _) ?_)))
 show(if (cl a != a)=true then _ else _)=_
 cases h:(cl a != a)
 ·refine no_of (by simp) ?_
  rw [show wrap64 (0+1)=1 from w64 (by decide) (by decide),scale_changed.l0]
  refine yes_of (by simp) (yes_of (by omega) (yes_of (by simp) (bind_of (clamp_is _) ?_)))
  show(if (cl b != b)=true then _ else _)=_
  cases h2:(cl b != b)
  ·refine no_of (by simp) ?_
   rw [show wrap64 (1+1)=2 from w64 (by decide) (by decide),scale_changed.l0]
   exact no_of (by simp) rfl
  ·exact yes_of rfl rfl
 ·exact yes_of rfl rfl
theorem times_is (a b:Int) (k:Nat):scale_Times.f (k+3) a b=some (cl (rv (cl a*cl b)),!(cl (rv (cl a*cl b)) == rv (cl a*cl b)) || ((cl a != a) || (cl b != b))):=by
 have hb:=mul_fits a b
 unfold scale_Times.f
 refine bind_of (wmul_is a b) (bind_of (round_p (k+2) (by omega) (by omega)) ?_)
 cases hc:(cl (rv (cl a*cl b)) == rv (cl a*cl b))
 ·exact yes_of rfl rfl
 ·exact no_of (by simp) (bind_of (schanged_is a b k) rfl)
end Go.Proofs.Ytonfobdknnlbjaa.Sum
end
section
set_option linter.unusedVariables false
set_option linter.unusedSimpArgs false
namespace Go.Proofs.Ytonfobdknnlbjaa.Rwide
open Go Go.RowKit Go.Proofs.Ytonfobdknnlbjaa.B Go.Proofs.Ytonfobdknnlbjaa.Num Go.Proofs.Ytonfobdknnlbjaa.Wide Go.Proofs.YtonfobdknnlbjaaW.PrintWords Go.Proofs.YtonfobdknnlbjaaW.PrintLast Go.Proofs.YtonfobdknnlbjaaW.PrintMore
end Go.Proofs.Ytonfobdknnlbjaa.Rwide
end
section
set_option linter.unusedVariables false
set_option linter.unusedSimpArgs false
namespace Go.Proofs.Ytonfobdknnlbjaa.Rsum
open Go Go.RowKit Go.Proofs.Ytonfobdknnlbjaa.B Go.Proofs.Ytonfobdknnlbjaa.Rwide Go.Proofs.Ytonfobdknnlbjaa.Num Go.Proofs.Ytonfobdknnlbjaa.Wide Go.Proofs.Ytonfobdknnlbjaa.Sum Go.Proofs.YtonfobdknnlbjaaW.PrintWords Go.Proofs.YtonfobdknnlbjaaW.PrintLast Go.Proofs.YtonfobdknnlbjaaW.PrintMore
end Go.Proofs.Ytonfobdknnlbjaa.Rsum
end
section
set_option linter.unusedVariables false
set_option linter.unusedSimpArgs false
namespace Go.Proofs.Ytonfobdknnlbjaa.Over
open Go Go.RowKit Go.Proofs.Ytonfobdknnlbjaa.B Go.Proofs.Ytonfobdknnlbjaa.Num Go.Proofs.Ytonfobdknnlbjaa.Wide Go.Proofs.YtonfobdknnlbjaaW.PrintWords Go.Proofs.YtonfobdknnlbjaaW.PrintLast Go.Proofs.YtonfobdknnlbjaaW.PrintMore
theorem digit_step {yn1 yn0 u u1 q rh Q:Int} (h1:q*yn1+rh=u) (hy0:0≤yn0) (hy1:yn0<4294967296) (hr0:0≤rh) (hu1:0≤u1) (hu1b:u1<4294967296)
  (hQ0:Q*(yn1*4294967296+yn0)≤u*4294967296+u1) (hQ1:u*4294967296+u1<(Q+1)*(yn1*4294967296+yn0)) (hV:0<yn1*4294967296+yn0) :
  (q > Q↔q*yn0 > 4294967296*rh+u1):=by
 have e1:q*(yn1*4294967296+yn0)=(q*yn1)*4294967296+q*yn0:=by rw [Int.mul_add,Int.mul_assoc]
 constructor
 ·intro h
  have h2:(Q+1)*(yn1*4294967296+yn0)≤q*(yn1*4294967296+yn0):=Int.mul_le_mul_of_nonneg_right (by omega) (by omega)
  omega
 ·intro h
  have h2:u*4294967296+u1<q*(yn1*4294967296+yn0):=by omega
  have h3:Q*(yn1*4294967296+yn0)<q*(yn1*4294967296+yn0):=by omega
  exact Int.lt_of_mul_lt_mul_right h3 (by omega)
theorem digit_last {yn1 yn0 u u1 q rh Q:Int} (h1:q*yn1+rh=u) (hy0:0≤yn0) (hy1:yn0<4294967296) (hu1:0≤u1)
  (hQ1:u*4294967296+u1<(Q+1)*(yn1*4294967296+yn0)) (hV:0<yn1*4294967296+yn0) (hq:q≤4294967297) (hq0:1≤q) (hrh:4294967296≤rh+yn1):q-1≤Q:=by
 have e1:(q-1)*(yn1*4294967296+yn0)=(q*yn1-yn1)*4294967296+(q-1)*yn0:=by rw [Int.mul_add,←Int.mul_assoc,Int.sub_mul,Int.one_mul]
 have h2:(q-1)*yn0≤4294967296*yn0:=Int.mul_le_mul_of_nonneg_right (by omega) hy0
 have h3:(q-1)*(yn1*4294967296+yn0)<(Q+1)*(yn1*4294967296+yn0):=by omega
 have:=Int.lt_of_mul_lt_mul_right h3 (by omega)
 omega
theorem digit_start {yn1 yn0 u u1 Q:Int} (hn:2147483648≤yn1) (hn1:yn1<4294967296) (hy0:0≤yn0) (hy1:yn0<4294967296) (hu:0≤u) (huV:u<yn1*4294967296+yn0) (hu1:0≤u1) (hu1b:u1<4294967296)
  (hQ0:Q*(yn1*4294967296+yn0)≤u*4294967296+u1):Q≤u/yn1∧u/yn1≤4294967297∧Q≤4294967295:=by
 have hm:=Int.mul_ediv_add_emod u yn1
 have hlt:=Int.emod_lt_of_pos u (show 0<yn1 by omega)
 have hge:=Int.emod_nonneg u (show yn1≠0 by omega)
 refine⟨?_,?_,?_⟩
 ·by_cases h:Q≤u/yn1
  ·exact h
  ·exfalso
   by_cases hQ:0≤Q
   ·have e1:Q*(yn1*4294967296+yn0)=(Q*yn1)*4294967296+Q*yn0:=by rw [Int.mul_add,Int.mul_assoc]
    have h2:0≤Q*yn0:=Int.mul_nonneg hQ hy0
    have h3:(u/yn1+1)*yn1≤Q*yn1:=Int.mul_le_mul_of_nonneg_right (by omega) (by omega)
    rw [Int.add_mul,Int.one_mul,Int.mul_comm] at h3
    omega
   ·have:0≤u/yn1:=Int.ediv_nonneg hu (by omega)
    omega
 ·by_cases h:u/yn1≤4294967297
  ·exact h
  ·exfalso
   have h3:yn1*4294967298≤yn1*(u/yn1):=Int.mul_le_mul_of_nonneg_left (by omega) (by omega)
   omega
 ·by_cases h:Q≤4294967295
  ·exact h
  ·exfalso
   have h3:4294967296*(yn1*4294967296+yn0)≤Q*(yn1*4294967296+yn0):=Int.mul_le_mul_of_nonneg_right (by omega) (by omega)
   omega
theorem small_prod {q y:Int} (hq0:0≤q) (hq:q≤4294967297) (hy0:0≤y) (hy1:y<4294967296):0≤q*y∧q*y≤18446744069414584320+4294967295:=by
 have h1:=Int.mul_nonneg hq0 hy0
 have h2:q*y≤4294967297*y:=Int.mul_le_mul_of_nonneg_right hq hy0
 omega
theorem small_prod2 {q y:Int} (hq0:0≤q) (hq:q<4294967296) (hy0:0≤y) (hy1:y<4294967296):0≤q*y∧q*y≤18446744065119617025:=by
 have h1:=Int.mul_nonneg hq0 hy0
 have h2:q*y≤4294967295*y:=Int.mul_le_mul_of_nonneg_right (by omega) hy0
 omega
theorem div_l0 {V s yn1 yn0 u u1 u0 Q:Int} {res:Option (Int × Int)} (hn:2147483648≤yn1) (hn1:yn1<4294967296) (hy0:0≤yn0) (hy1:yn0<4294967296) (hu1:0≤u1) (hu1b:u1<4294967296)
  (hQ:0≤Q) (hQB:Q≤4294967295) (hQ0:Q*(yn1*4294967296+yn0)≤u*4294967296+u1) (hQ1:u*4294967296+u1<(Q+1)*(yn1*4294967296+yn0)) (m0:Nat)
  (hj:∀ m,m0≤m→bits_Div64.j2 m V s yn1 yn0 u u1 u0 Q=res):∀ (d k:Nat) (q rh:Int),q=Q+d→q≤4294967297→q*yn1+rh=u→0≤rh→rh<4294967296→m0+2*d+2≤k →
  bits_Div64.l0 k V s yn1 yn0 u u1 u0 q rh=res:=by
 intro d
 induction d with
 | zero =>
  intro k q rh hq hqb h1 hr0 hr1 hk
  obtain⟨k,rfl⟩:∃ m,k=m+2:=⟨k-2,by omega⟩
  have hs:=digit_step h1 hy0 hy1 hr0 hu1 hu1b hQ0 hQ1 (by omega)
  obtain⟨p0,p1⟩:=small_prod2 (q:=q) (y:=yn0) (by omega) (by omega) hy0 hy1
  rw [bits_Div64.l0]
  refine no_of (by omega) ?_
  rw [bits_Div64.j1]
  refine no_of ?_ ?_
  ·simp only [u64_wrap,decide_eq_true_eq]
   omega
  ·obtain rfl:q=Q:=by omega
   exact hj _ (by omega)
 | succ d ih =>
  intro k q rh hq hqb h1 hr0 hr1 hk
  obtain⟨k,rfl⟩:∃ m,k=m+2:=⟨k-2,by omega⟩
  have hs:=digit_step h1 hy0 hy1 hr0 hu1 hu1b hQ0 hQ1 (by omega)
  obtain⟨p0,p1⟩:=small_prod (q:=q) (y:=yn0) (by omega) hqb hy0 hy1
  have key:bits_Div64.j1 (k+1) V s yn1 yn0 u u1 u0 q rh true=res:=by
   rw [bits_Div64.j1]
   refine yes_of rfl ?_
   have e1:IntKind.u64.wrap (q-1)=q-1:=by rw [u64_wrap];omega
   have e2:IntKind.u64.wrap (rh+yn1)=rh+yn1:=by rw [u64_wrap];omega
   rw [e1,e2]
   by_cases hb:rh+yn1 ≥ 4294967296
   ·refine yes_of hb ?_
    have:=digit_last h1 hy0 hy1 hu1 hQ1 (by omega) hqb (by omega) (by omega)
    obtain rfl:q-1=Q:=by omega
    exact hj _ (by omega)
   ·refine no_of hb ?_
    exact ih k (q-1) (rh+yn1) (by omega) (by omega) (by rw [Int.sub_mul,Int.one_mul];omega) (by omega) (by omega) (by omega)
  rw [bits_Div64.l0]
  by_cases hB:q ≥ 4294967296
  ·exact yes_of hB key
  ·refine no_of hB ?_
   have e3:decide (IntKind.u64.wrap (q*yn0) > IntKind.u64.wrap (IntKind.u64.wrap (4294967296*rh)+u1))=true:=by
    obtain⟨p2,p3⟩:=small_prod2 (q:=q) (y:=yn0) (by omega) (by omega) hy0 hy1
    simp only [u64_wrap,decide_eq_true_eq]
    omega
   rw [e3]
   exact key
theorem div_l1 {V s yn1 yn0 u u1 Q1 Q:Int} {rem:Int} (hn:2147483648≤yn1) (hn1:yn1<4294967296) (hy0:0≤yn0) (hy1:yn0<4294967296) (hu1:0≤u1) (hu1b:u1<4294967296) (hVy:V=yn1*4294967296+yn0)
  (hs0:0≤s) (hQ:0≤Q) (hQB:Q≤4294967295) (hP:0≤Q1) (hPB:Q1≤4294967295) (hQ0:Q*(yn1*4294967296+yn0)≤u*4294967296+u1) (hQ1:u*4294967296+u1<(Q+1)*(yn1*4294967296+yn0))
  (hrem:rem=u*4294967296+u1-Q*V):∀ (d k:Nat) (q rh:Int),q=Q+d→q≤4294967297→q*yn1+rh=u→0≤rh→rh<4294967296→2*d+2≤k →
  bits_Div64.l1 k V s yn1 yn0 u1 Q1 rh u q=some (Q1*4294967296+Q,shr .u64 rem s):=by
 have hrem0:0≤rem∧rem<18446744073709551616:=by rw [hrem,hVy];rw [Int.add_mul,Int.one_mul] at hQ1;omega
 have fin:∀ q,q=Q→(some (IntKind.u64.wrap (IntKind.u64.wrap (Q1*4294967296)+q),shr .u64 (IntKind.u64.wrap (IntKind.u64.wrap (IntKind.u64.wrap (u*4294967296)+u1)-IntKind.u64.wrap (q*V))) s):Option (Int × Int))=some (Q1*4294967296+Q,shr .u64 rem s):=by
  rintro q rfl
  have e1:IntKind.u64.wrap (IntKind.u64.wrap (Q1*4294967296)+q)=Q1*4294967296+q:=by simp only [u64_wrap];omega
  have e2:IntKind.u64.wrap (IntKind.u64.wrap (IntKind.u64.wrap (u*4294967296)+u1)-IntKind.u64.wrap (q*V))=rem:=by simp only [u64_wrap];omega
  rw [e1,e2]
 intro d
 induction d with
 | zero =>
  intro k q rh hq hqb h1 hr0 hr1 hk
  obtain⟨k,rfl⟩:∃ m,k=m+2:=⟨k-2,by omega⟩
  have hs:=digit_step h1 hy0 hy1 hr0 hu1 hu1b hQ0 hQ1 (by omega)
  obtain⟨p0,p1⟩:=small_prod2 (q:=q) (y:=yn0) (by omega) (by omega) hy0 hy1
  rw [bits_Div64.l1]
  refine no_of (by omega) ?_
  rw [bits_Div64.j4]
  refine no_of ?_ (yes_of hs0 (fin q (by omega)))
  simp only [u64_wrap,decide_eq_true_eq]
  omega
 | succ d ih =>
  intro k q rh hq hqb h1 hr0 hr1 hk
  obtain⟨k,rfl⟩:∃ m,k=m+2:=⟨k-2,by omega⟩
  have hs:=digit_step h1 hy0 hy1 hr0 hu1 hu1b hQ0 hQ1 (by omega)
  have key:bits_Div64.j4 (k+1) V s yn1 yn0 u1 Q1 rh u q true=some (Q1*4294967296+Q,shr .u64 rem s):=by
   rw [bits_Div64.j4]
   refine yes_of rfl ?_
   have e1:IntKind.u64.wrap (q-1)=q-1:=by rw [u64_wrap];omega
   have e2:IntKind.u64.wrap (rh+yn1)=rh+yn1:=by rw [u64_wrap];omega
   rw [e1,e2]
   by_cases hb:rh+yn1 ≥ 4294967296
   ·refine yes_of hb (yes_of hs0 (fin _ ?_))
    have:=digit_last h1 hy0 hy1 hu1 hQ1 (by omega) hqb (by omega) (by omega)
    omega
   ·refine no_of hb ?_
    exact ih k (q-1) (rh+yn1) (by omega) (by omega) (by rw [Int.sub_mul,Int.one_mul];omega) (by omega) (by omega) (by omega)
  rw [bits_Div64.l1]
  by_cases hB:q ≥ 4294967296
  ·exact yes_of hB key
  ·refine no_of hB ?_
   have e3:decide (IntKind.u64.wrap (q*yn0) > IntKind.u64.wrap (IntKind.u64.wrap (4294967296*rh)+u1))=true:=by
    obtain⟨p2,p3⟩:=small_prod2 (q:=q) (y:=yn0) (by omega) (by omega) hy0 hy1
    simp only [u64_wrap,decide_eq_true_eq]
    omega
   rw [e3]
   exact key
theorem div_two {V s yn1 yn0 u u1 u0:Int} (hn:2147483648≤yn1) (hn1:yn1<4294967296) (hy0:0≤yn0) (hy1:yn0<4294967296) (hu:0≤u) (huV:u<V) (hu1:0≤u1) (hu1b:u1<4294967296) (hu0:0≤u0) (hu0b:u0<4294967296)
  (hVy:V=yn1*4294967296+yn0) (hs0:0≤s) (k:Nat) :
  ∃ q r:Int,bits_Div64.l0 (k+30) V s yn1 yn0 u u1 u0 (u/yn1) (u%yn1)=some (q,shr .u64 r s)∧(u*4294967296+u1)*4294967296+u0=q*V+r∧0≤r∧r<V∧0≤q:=by
 have hV:0<V:=by omega
 obtain⟨U,hU⟩:∃ U,u*4294967296+u1=U:=⟨_,rfl⟩
 have mQ:=Int.mul_ediv_add_emod U V
 have lQ:=Int.emod_lt_of_pos U hV
 have gQ:=Int.emod_nonneg U (show V≠0 by omega)
 have nQ:0≤U/V:=Int.ediv_nonneg (by omega) (by omega)
 obtain⟨Q,hQ⟩:∃ Q,U/V=Q:=⟨_,rfl⟩
 obtain⟨t,ht⟩:∃ t,U%V=t:=⟨_,rfl⟩
 rw [hQ,ht] at mQ
 rw [ht] at lQ gQ
 rw [hQ] at nQ
 rw [Int.mul_comm] at mQ
 have hQ0:Q*(yn1*4294967296+yn0)≤u*4294967296+u1:=by rw [←hVy,hU];omega
 have hQ1:u*4294967296+u1<(Q+1)*(yn1*4294967296+yn0):=by rw [←hVy,hU,Int.add_mul,Int.one_mul];omega
 obtain⟨s1,s2,s3⟩:=digit_start hn hn1 hy0 hy1 hu (by omega) hu1 hu1b hQ0
 have mu:=Int.mul_ediv_add_emod u yn1
 have lu:=Int.emod_lt_of_pos u (show 0<yn1 by omega)
 have gu:=Int.emod_nonneg u (show yn1≠0 by omega)
 obtain⟨U2,hU2⟩:∃ U2,t*4294967296+u0=U2:=⟨_,rfl⟩
 have mR:=Int.mul_ediv_add_emod U2 V
 have lR:=Int.emod_lt_of_pos U2 hV
 have gR:=Int.emod_nonneg U2 (show V≠0 by omega)
 have nR:0≤U2/V:=Int.ediv_nonneg (by omega) (by omega)
 obtain⟨R,hR⟩:∃ R,U2/V=R:=⟨_,rfl⟩
 obtain⟨z,hz⟩:∃ z,U2%V=z:=⟨_,rfl⟩
 rw [hR,hz] at mR
 rw [hz] at lR gR
 rw [hR] at nR
 rw [Int.mul_comm] at mR
 have hR0:R*(yn1*4294967296+yn0)≤t*4294967296+u0:=by rw [←hVy,hU2];omega
 have hR1:t*4294967296+u0<(R+1)*(yn1*4294967296+yn0):=by rw [←hVy,hU2,Int.add_mul,Int.one_mul];omega
 obtain⟨r1,r2,r3⟩:=digit_start hn hn1 hy0 hy1 gQ (by omega) hu0 hu0b hR0
 have mt:=Int.mul_ediv_add_emod t yn1
 have lt:=Int.emod_lt_of_pos t (show 0<yn1 by omega)
 have gt:=Int.emod_nonneg t (show yn1≠0 by omega)
 refine⟨Q*4294967296+R,z,?_,?_,gR,lR,by omega⟩
 ·
  have b1:u/yn1≤Q+2:=by
   by_cases h:u/yn1≤Q+2
   ·exact h
   ·exfalso
    have h3:yn1*(Q+3)≤yn1*(u/yn1):=Int.mul_le_mul_of_nonneg_left (by omega) (by omega)
    have h4:(Q+1)*yn0≤4294967296*yn0:=Int.mul_le_mul_of_nonneg_right (by omega) hy0
    have h5:(Q+1)*(yn1*4294967296+yn0)=(Q+1)*yn1*4294967296+(Q+1)*yn0:=by rw [Int.mul_add,Int.mul_assoc]
    have h6:yn1*(Q+3)=(Q+1)*yn1+2*yn1:=by grind
    omega
  have b2:t/yn1≤R+2:=by
   by_cases h:t/yn1≤R+2
   ·exact h
   ·exfalso
    have h3:yn1*(R+3)≤yn1*(t/yn1):=Int.mul_le_mul_of_nonneg_left (by omega) (by omega)
    have h4:(R+1)*yn0≤4294967296*yn0:=Int.mul_le_mul_of_nonneg_right (by omega) hy0
    have h5:(R+1)*(yn1*4294967296+yn0)=(R+1)*yn1*4294967296+(R+1)*yn0:=by rw [Int.mul_add,Int.mul_assoc]
    have h6:yn1*(R+3)=(R+1)*yn1+2*yn1:=by grind
    omega
  refine div_l0 hn hn1 hy0 hy1 hu1 hu1b nQ s3 hQ0 hQ1 10 ?_ (u/yn1-Q).toNat (k+30) _ _ (by omega) s2 (by rw [Int.mul_comm];exact mu) gu (by omega) (by omega)
  intro m hm
  obtain⟨m,rfl⟩:∃ n,m=n+1:=⟨m-1,by omega⟩
  rw [bits_Div64.j2]
  refine no_of (by omega) ?_
  have e1:IntKind.u64.wrap (IntKind.u64.wrap (IntKind.u64.wrap (u*4294967296)+u1)-IntKind.u64.wrap (Q*V))=t:=by simp only [u64_wrap];omega
  rw [e1]
  have e2:IntKind.u64.wrap (Int.tdiv t yn1)=t/yn1:=by
   rw [Int.tdiv_eq_ediv_of_nonneg gQ,u64_wrap]
   have:0≤t/yn1:=Int.ediv_nonneg gQ (by omega)
   omega
  rw [e2]
  have p0:0≤t/yn1:=Int.ediv_nonneg gQ (by omega)
  have e3:IntKind.u64.wrap (t-IntKind.u64.wrap (t/yn1*yn1))=t%yn1:=by
   rw [Int.mul_comm (t/yn1)]
   simp only [u64_wrap]
   omega
  rw [e3]
  exact div_l1 hn hn1 hy0 hy1 hu0 hu0b hVy hs0 nR r3 nQ s3 hR0 hR1 (rem:=z) (by rw [hU2];omega) (t/yn1-R).toNat m _ _ (by omega) r2 (by rw [Int.mul_comm];exact mt) gt (by omega) (by omega)
 ·rw [hU,←mQ,Int.add_mul]
  have:(Q*4294967296+R)*V=Q*V*4294967296+R*V:=by grind
  omega
theorem ex_yes {α:Type} {c:Prop} [Decidable c] {a b:α} {p:Nat→α} {q:Nat→Prop} (h:c) (g:∃ L,a=p L∧q L):∃ L,(if c then a else b)=p L∧q L:=by rw [if_pos h];exact g
theorem ex_no {α:Type} {c:Prop} [Decidable c] {a b:α} {p:Nat→α} {q:Nat→Prop} (h:¬c) (g:∃ L,b=p L∧q L):∃ L,(if c then a else b)=p L∧q L:=by rw [if_neg h];exact g
def len8:ByteArray:=(⟨#[0,1,2,2,3,3,3,3,4,4,4,4,4,4,4,4,5,5,5,5,5,5,5,5,5,5,5,5,5,5,5,5,6,6,6,6,6,6,6,6,6,6,6,6,6,6,6,6,6,6,6,6,6,6,6,6,6,6,6,6,6,6,6,6,7,7,7,7,7,7,7,7,7,7,7,7,7,7,7,7,7,7,7,7,7,7,7,7,7,7,7,7,7,7,7,7,7,7,7,7,7,7,7,7,7,7,7,7,7,7,7,7,7,7,7,7,7,7,7,7,7,7,7,7,7,7,7,7,8,8,8,8,8,8,8,8,8,8,8,8,8,8,8,8,8,8,8,8,8,8,8,8,8,8,8,8,8,8,8,8,8,8,8,8,8,8,8,8,8,8,8,8,8,8,8,8,8,8,8,8,8,8,8,8,8,8,8,8,8,8,8,8,8,8,8,8,8,8,8,8,8,8,8,8,8,8,8,8,8,8,8,8,8,8,8,8,8,8,8,8,8,8,8,8,8,8,8,8,8,8,8,8,8,8,8,8,8,8,8,8,8,8,8,8,8,8,8,8,8,8,8,8,8,8,8,8]⟩:ByteArray)
theorem len8_all:∀ i:Fin 256,0≤bt len8 (i.val:Int)∧bt len8 (i.val:Int)≤8∧(i.val:Int)<2^(bt len8 (i.val:Int)).toNat∧((0:Int)<i.val→(2:Int)^(bt len8 (i.val:Int)).toNat≤2*i.val):=by decide +kernel
theorem len8_is {i:Int} (h0:0≤i) (h1:i<256):∃ n:Nat,bt len8 i=n∧n≤8∧i<2^n∧(0<i→(2:Int)^n≤2*i):=by
 obtain⟨m,rfl⟩:∃ m:Nat,i=m:=⟨i.toNat,by omega⟩
 obtain⟨a,b,c,d⟩:=len8_all ⟨m,by omega⟩
 exact⟨(bt len8 (m:Int)).toNat,by simp only at a;omega,by simp only at b;omega,c,d⟩
set_option maxRecDepth 100000 in
theorem len_j0 {x n:Int} (h0:0<x) (h1:x<4294967296) (hn0:0≤n) (hn1:n≤32) (k:Nat):∃ L:Nat,bits_Len64.j0 (k+1) x n=some (n+L)∧L≤32∧x<2^L∧(2:Int)^L≤2*x:=by
 have part:∀ (y:Int) (j:Nat),0<y→y<256→j≤24→x/2^j=y→∃ L:Nat,bt len8 y=L∧L≤8∧L+j≤32∧x<2^(L+j)∧(2:Int)^(L+j)≤2*x:=by
  intro y j hy0 hy1 hj he
  obtain⟨L,e,hL,hlt,hle⟩:=len8_is (i:=y) (by omega) hy1
  have hp:(0:Int)<2^j:=Int.pow_pos (by decide)
  have hm:=Int.mul_ediv_add_emod x (2^j)
  have hr:=Int.emod_lt_of_pos x hp
  have hr0:=Int.emod_nonneg x (show(2:Int)^j≠0 by omega)
  rw [he] at hm
  refine⟨L,e,hL,by omega,?_,?_⟩
  ·rw [Int.pow_add,Int.mul_comm]
   have:(2:Int)^j*(y+1)≤2^j*2^L:=Int.mul_le_mul_of_nonneg_left (by omega) (by omega)
   rw [Int.mul_add,Int.mul_one] at this
   omega
  ·rw [Int.pow_add,Int.mul_comm]
   have:(2:Int)^j*2^L≤2^j*(2*y):=Int.mul_le_mul_of_nonneg_left (hle hy0) (by omega)
   have e2:(2:Int)^j*(2*y)=2*(2^j*y):=by rw [Int.mul_left_comm]
   omega
 rw [bits_Len64.j0]
 by_cases c1:x ≥ 65536
 ·refine ex_yes c1 ?_
  by_cases c2:x/65536 ≥ 256
  ·obtain⟨L,e,hL,hj,a,b⟩:=part (x/16777216) 24 (by omega) (by omega) (by omega) (by show x/(2:Int)^24=_;rfl)
   refine⟨L+24,?_,by omega,a,b⟩
   refine yes_of c2 (yes_of (by omega) (yes_of (by omega) ?_))
   show some (wrap64 (wrap64 (wrap64 (n+16)+8)+wrap64 (bt len8 (x/65536/256%256))))=_
   rw [show x/65536/256%256=x/16777216 by omega,e,w64 (n:=n+16) (by omega) (by omega),w64 (n:=n+16+8) (by omega) (by omega),w64 (n:=(L:Int)) (by omega) (by omega),w64 (by omega) (by omega)]
   congr 1;omega
  ·obtain⟨L,e,hL,hj,a,b⟩:=part (x/65536) 16 (by omega) (by omega) (by omega) (by show x/(2:Int)^16=_;rfl)
   refine⟨L+16,?_,by omega,a,b⟩
   refine no_of c2 (yes_of (by omega) (yes_of (by omega) ?_))
   show some (wrap64 (wrap64 (n+16)+wrap64 (bt len8 (x/65536%256))))=_
   rw [show x/65536%256=x/65536 by omega,e,w64 (n:=n+16) (by omega) (by omega),w64 (n:=(L:Int)) (by omega) (by omega),w64 (by omega) (by omega)]
   congr 1;omega
 ·refine ex_no c1 ?_
  by_cases c2:x ≥ 256
  ·obtain⟨L,e,hL,hj,a,b⟩:=part (x/256) 8 (by omega) (by omega) (by omega) (by show x/(2:Int)^8=_;rfl)
   refine⟨L+8,?_,by omega,a,b⟩
   refine yes_of c2 (yes_of (by omega) (yes_of (by omega) ?_))
   show some (wrap64 (wrap64 (n+8)+wrap64 (bt len8 (x/256%256))))=_
   rw [show x/256%256=x/256 by omega,e,w64 (n:=n+8) (by omega) (by omega),w64 (n:=(L:Int)) (by omega) (by omega),w64 (by omega) (by omega)]
   congr 1;omega
  ·obtain⟨L,e,hL,hj,a,b⟩:=part x 0 (by omega) (by omega) (by omega) (by simp)
   refine⟨L,?_,by omega,by simpa using a,by simpa using b⟩
   refine no_of c2 (yes_of (by omega) (yes_of (by omega) ?_))
   show some (wrap64 (n+wrap64 (bt len8 (x%256))))=_
   rw [show x%256=x by omega,e,w64 (n:=(L:Int)) (by omega) (by omega),w64 (by omega) (by omega)]
theorem len_is {y:Int} (h0:0<y) (h1:y<1152921504606846976) (k:Nat):∃ L:Nat,bits_Len64.f (k+1) y=some (L:Int)∧1≤L∧L≤60∧y<2^L∧(2:Int)^L≤2*y:=by
 unfold bits_Len64.f
 have fin:∀ L:Nat,y<2^L→(2:Int)^L≤2*y→1≤L∧L≤60:=by
  intro L a b
  constructor
  ·cases L with
   | zero=>simp at a;omega
   | succ L=>omega
  ·by_cases h:L≤60
   ·exact h
   ·exfalso
    have:(2:Int)^61≤2^L:=by exact_mod_cast (Nat.pow_le_pow_right (n:=2) (by decide) (show 61≤L by omega))
    have e:(2:Int)^61=2305843009213693952:=by decide
    omega
 by_cases c:y ≥ 4294967296
 ·obtain⟨L,e,hL,a,b⟩:=len_j0 (x:=y/4294967296) (n:=32) (by omega) (by omega) (by omega) (by omega) k
  have hm:=Int.mul_ediv_add_emod y 4294967296
  have e2:(2:Int)^(32+L)=4294967296*2^L:=by rw [Int.pow_add];rfl
  have a2:y<2^(32+L):=by rw [e2];omega
  have b2:(2:Int)^(32+L)≤2*y:=by rw [e2];omega
  obtain⟨f1,f2⟩:=fin _ a2 b2
  exact⟨32+L,yes_of c (by rw [e];rfl),f1,f2,a2,b2⟩
 ·obtain⟨L,e,hL,a,b⟩:=len_j0 (x:=y) (n:=0) (by omega) (by omega) (by omega) (by omega) k
  obtain⟨f1,f2⟩:=fin _ a b
  exact⟨L,no_of c (by rw [e];congr 1;omega),f1,f2,a,b⟩
theorem shl64 {x:Int} {n:Nat} (hn:n≤64):shl .u64 x (n:Int)=(x*2^n)%18446744073709551616:=by
 unfold shl
 rw [u64_wrap,Int.toNat_natCast,show IntKind.u64.bits=64 from rfl,Nat.min_eq_left hn]
theorem shr64 {x:Int} {n:Nat} (hn:n≤64):shr .u64 x (n:Int)=x/2^n:=by
 unfold shr
 rw [Int.toNat_natCast,show IntKind.u64.bits=64 from rfl,Nat.min_eq_left hn]
theorem div64_is {h l y:Int} (h0:0≤h) (hy:h<y) (hl0:0≤l) (hl1:l<18446744073709551616) (hyb:y<1152921504606846976) (k:Nat) :
  ∃ q r:Int,bits_Div64.f (k+30) h l y=some (q,r)∧h*18446744073709551616+l=q*y+r∧0≤r∧r<y∧0≤q:=by
 unfold bits_Div64.f
 by_cases c:h=0
 ·subst c
  have m:=Int.mul_ediv_add_emod l y
  have g:=Int.emod_lt_of_pos l (show 0<y by omega)
  have g0:=Int.emod_nonneg l (show y≠0 by omega)
  have nq:0≤l/y:=Int.ediv_nonneg hl0 (by omega)
  have lq:l/y≤l:=Int.ediv_le_self y hl0
  refine⟨l/y,l%y,no_of (by omega) (no_of (by omega) (yes_of rfl ?_)),by rw [Int.mul_comm (l/y)];omega,g0,g,nq⟩
  rw [Int.tdiv_eq_ediv_of_nonneg hl0,Int.tmod_eq_emod_of_nonneg hl0,u64_wrap]
  congr 2;omega
 ·obtain⟨L,e,hL1,hL2,a,b⟩:=len_is (y:=y) (by omega) hyb (k+29)
  obtain⟨s,hs⟩:∃ s:Nat,s+L=64:=⟨64-L,by omega⟩
  have lz:bits_LeadingZeros64.f (k+30) y=some (s:Int):=by
   unfold bits_LeadingZeros64.f
   refine bind_of e ?_
   rw [w64 (by omega) (by omega)]
   congr 1;omega
  have ws:IntKind.u64.wrap (s:Int)=s:=by rw [u64_wrap];omega
  have w2:IntKind.u64.wrap (64-(s:Int))=((64-s:Nat):Int):=by rw [u64_wrap];omega
  have pp:(2:Int)^s*2^L=18446744073709551616:=by rw [←Int.pow_add,hs];decide
  have hp:(0:Int)<2^s:=Int.pow_pos (by decide)
  have hpL:(0:Int)<2^L:=Int.pow_pos (by decide)
  have eL:64-s=L:=by omega
  obtain⟨p,ep⟩:∃ p:Int,(2:Int)^s=p:=⟨_,rfl⟩
  obtain⟨p2,ep2⟩:∃ p:Int,(2:Int)^L=p:=⟨_,rfl⟩
  have V1:y*p<18446744073709551616:=by
   have:y*p<p2*p:=Int.mul_lt_mul_of_pos_right (by omega) (by omega)
   have e3:p2*p=18446744073709551616:=by rw [Int.mul_comm,←ep,←ep2];exact pp
   omega
  have V0:9223372036854775808≤y*p:=by
   have:p2*p≤2*y*p:=Int.mul_le_mul_of_nonneg_right (by omega) (by omega)
   have e3:p2*p=18446744073709551616:=by rw [Int.mul_comm,←ep,←ep2];exact pp
   rw [Int.mul_assoc] at this
   omega
  have eV:shl .u64 y (s:Int)=y*p:=by rw [shl64 (by omega),ep];omega
  have hV2:h*p<y*p:=Int.mul_lt_mul_of_pos_right hy (by omega)
  have hV3:h*p+p≤y*p:=by
   have:(h+1)*p≤y*p:=Int.mul_le_mul_of_nonneg_right (by omega) (by omega)
   rw [Int.add_mul,Int.one_mul] at this;exact this
  have hh0:0≤h*p:=Int.mul_nonneg h0 (by omega)
  have eH:shl .u64 h (s:Int)=h*p:=by rw [shl64 (by omega),ep];omega
  have ml:=Int.mul_ediv_add_emod l p2
  have gl:=Int.emod_lt_of_pos l (show 0<p2 by omega)
  have gl0:=Int.emod_nonneg l (show p2≠0 by omega)
  have nl:0≤l/p2:=Int.ediv_nonneg hl0 (by omega)
  have l1:l/p2<p:=by
   refine Int.ediv_lt_of_lt_mul (by omega) ?_
   rw [←ep,←ep2,pp];exact hl1
  have eS:shr .u64 l ((64-s:Nat):Int)=l/p2:=by rw [shr64 (by omega),eL,ep2]
  have eU:Go.bits .or .u64 (h*p) (l/p2)=h*p+l/p2:=by
   rw [boru64 (h*p) (l/p2) s (by omega) (by rw [ep];exact Int.mul_emod_left h p) nl (by rw [ep];exact l1)]
   omega
  have e10:shl .u64 l (s:Int)=(l%p2)*p:=by
   rw [shl64 (by omega),ep]
   have e4:l*p=(l/p2)*18446744073709551616+(l%p2)*p:=by
    rw [←pp,ep,ep2]
    have:=congrArg (·*p) ml
    (try simp only at this)
    rw [←this]
    grind
   have e5:(l%p2)*p<p2*p:=Int.mul_lt_mul_of_pos_right gl (by omega)
   have e6:0≤(l%p2)*p:=Int.mul_nonneg gl0 (by omega)
   have e3:p2*p=18446744073709551616:=by rw [Int.mul_comm,←ep,←ep2];exact pp
   omega
  have e5:(l%p2)*p<p2*p:=Int.mul_lt_mul_of_pos_right gl (by omega)
  have e6:0≤(l%p2)*p:=Int.mul_nonneg gl0 (by omega)
  have e3:p2*p=18446744073709551616:=by rw [Int.mul_comm,←ep,←ep2];exact pp
  obtain⟨V,hV⟩:∃ V,y*p=V:=⟨_,rfl⟩
  obtain⟨u,hu⟩:∃ u,h*p+l/p2=u:=⟨_,rfl⟩
  obtain⟨t,ht⟩:∃ t,(l%p2)*p=t:=⟨_,rfl⟩
  obtain⟨q,r,d1,d2,d3,d4,d5⟩:=div_two (V:=V) (s:=(s:Int)) (yn1:=V/4294967296) (yn0:=V%4294967296) (u:=u) (u1:=t/4294967296) (u0:=t%4294967296) (by omega) (by omega) (by omega) (by omega) (by omega) (by omega) (by omega) (by omega) (by omega) (by omega) (by omega) (by omega) k
  have tot:(h*18446744073709551616+l)*p=q*V+r:=by
   rw [←d2]
   have e7:l*p=(l/p2)*18446744073709551616+t:=by
    rw [←ht,←e3]
    have:=congrArg (·*p) ml
    (try simp only at this)
    rw [←this]
    grind
   have e8:(h*18446744073709551616+l)*p=(h*p)*18446744073709551616+l*p:=by grind
   omega
  have er:r=(h*18446744073709551616+l-q*y)*p:=by
   rw [Int.sub_mul,tot,Int.mul_assoc,hV];omega
  obtain⟨z,hz⟩:∃ z,h*18446744073709551616+l-q*y=z:=⟨_,rfl⟩
  rw [hz] at er
  refine⟨q,z,?_,by omega,?_,?_,d5⟩
  ·refine no_of (by omega) (no_of (by omega) (no_of c (bind_of lz ?_)))
   rw [ws,w2,eV,eH,eS,e10,eU,hV,hu,ht]
   refine yes_of (by omega) (yes_of (by omega) (no_of (by omega) ?_))
   rw [bandu32 V,bandu32 t]
   have e9:IntKind.u64.wrap (Int.tdiv u (V/4294967296))=u/(V/4294967296):=by
    rw [Int.tdiv_eq_ediv_of_nonneg (by omega),u64_wrap]
    have n1:0≤u/(V/4294967296):=Int.ediv_nonneg (by omega) (by omega)
    have n2:u/(V/4294967296)≤u:=Int.ediv_le_self _ (by omega)
    omega
   have mu:=Int.mul_ediv_add_emod u (V/4294967296)
   have gu:=Int.emod_lt_of_pos u (show 0<V/4294967296 by omega)
   have gu0:=Int.emod_nonneg u (show V/4294967296≠0 by omega)
   have e11:IntKind.u64.wrap (u-IntKind.u64.wrap (u/(V/4294967296)*(V/4294967296)))=u%(V/4294967296):=by
    rw [Int.mul_comm (u/(V/4294967296))]
    simp only [u64_wrap]
    omega
   rw [e9,e11,d1]
   congr 2
   rw [shr64 (by omega),ep,er]
   exact Int.mul_ediv_cancel z (by omega)
  ·by_cases hz0:0≤z
   ·exact hz0
   ·exfalso
    have:z*p<0:=Int.mul_neg_of_neg_of_pos (by omega) (by omega)
    omega
  ·have:z*p<y*p:=by rw [←er,hV];exact d4
   exact Int.lt_of_mul_lt_mul_right this (by omega)
end Go.Proofs.Ytonfobdknnlbjaa.Over
end
section
set_option linter.unusedVariables false
set_option linter.unusedSimpArgs false
namespace Go.Proofs.Ytonfobdknnlbjaa.Quot
open Go Go.RowKit Go.Proofs.Ytonfobdknnlbjaa.B Go.Proofs.Ytonfobdknnlbjaa.Over Go.Proofs.Ytonfobdknnlbjaa.Num Go.Proofs.Ytonfobdknnlbjaa.Wide Go.Proofs.Ytonfobdknnlbjaa.Sum Go.Proofs.YtonfobdknnlbjaaW.PrintWords Go.Proofs.YtonfobdknnlbjaaW.PrintLast Go.Proofs.YtonfobdknnlbjaaW.PrintMore
def rdp (x y:Int):Int:=(2*(x*4294967296)+y)/(2*y)
def rd2 (x y:Int):Int:=if y<0 then rdp (-x) (-y) else rdp x y
def chb (a b:Int):Bool:=(cl a != a) || (cl b != b)
def ovv (a b:Int):Int × Bool :=
  if cl a=0 then (0,chb a b || decide (cl b=0)) else if cl b=0 then (if a<0 then -288230376151711744 else 288230376151711744,true)
  else (cl (rd2 (cl a) (cl b)),chb a b || (cl (rd2 (cl a) (cl b)) != rd2 (cl a) (cl b)))
theorem rdp_pos {x y q r:Int} (hy:0<y) (h:x*4294967296=q*y+r) (h0:0≤r) (h1:r<y):rdp x y=if 2*r ≥ y then q+1 else q:=by
 unfold rdp
 rw [h]
 have e:∀ z:Int,0≤z→z<2*y→∀ w:Int,(w*(2*y)+z)/(2*y)=w:=by
  intro z z0 z1 w
  rw [Int.add_comm,Int.add_mul_ediv_right _ _ (by omega),Int.ediv_eq_zero_of_lt z0 z1,Int.zero_add]
 split
 ·rw [show 2*(q*y+r)+y=(q+1)*(2*y)+(2*r-y) by grind]
  exact e _ (by omega) (by omega) _
 ·rw [show 2*(q*y+r)+y=q*(2*y)+(2*r+y) by grind]
  exact e _ (by omega) (by omega) _
theorem rdp_neg {x y q r:Int} (hy:0<y) (h:x*4294967296=q*y+r) (h0:0≤r) (h1:r<y):rdp (-x) y=if 2*r > y then -(q+1) else -q:=by
 unfold rdp
 have e:∀ z:Int,0≤z→z<2*y→∀ w:Int,(w*(2*y)+z)/(2*y)=w:=by
  intro z z0 z1 w
  rw [Int.add_comm,Int.add_mul_ediv_right _ _ (by omega),Int.ediv_eq_zero_of_lt z0 z1,Int.zero_add]
 rw [Int.neg_mul,h]
 split
 ·rw [show 2*-(q*y+r)+y=-(q+1)*(2*y)+(3*y-2*r) by grind]
  exact e _ (by omega) (by omega) _
 ·rw [show 2*-(q*y+r)+y=-q*(2*y)+(y-2*r) by grind]
  exact e _ (by omega) (by omega) _
def absi (n:Int):Int:=if n<0 then -n else n
theorem cl_sign (a:Int):(cl a<0↔a<0)∧(cl a=0↔a=0):=by unfold cl;split<;>(try split)<;>omega
theorem abs2_is (a:Int):fix_Abs.f a=some (absi (cl a)):=by
 rw [abs_is]
 unfold absi mx
 congr 1
 split<;>split<;>omega
theorem absi_bd (a:Int):0≤absi (cl a)∧absi (cl a)≤288230376151711744:=by
 have:=cl_lo a
 have:=cl_hi a
 unfold absi
 split<;>omega
theorem quot_is {x y:Int} (hx0:0≤x) (hx1:x≤288230376151711744) (hy0:0<y) (hy1:y≤288230376151711744) (k:Nat) :
  ∃ q r:Int,x*4294967296=q*y+r∧0≤r∧r<y∧0≤q∧((scale_quotient.f (k+30) x y=some (0,0,true)∧q > 576460752303423488)∨scale_quotient.f (k+30) x y=some (q,r,decide (q > 576460752303423488))):=by
 unfold scale_quotient.f
 by_cases c:x/4294967296 ≥ y
 ·have m:=Int.mul_ediv_add_emod (x*4294967296) y
  have g:=Int.emod_lt_of_pos (x*4294967296) hy0
  have g0:=Int.emod_nonneg (x*4294967296) (show y≠0 by omega)
  have big:18446744073709551616≤x*4294967296/y:=by
   refine(Int.le_ediv_iff_mul_le hy0).mpr ?_
   omega
  refine⟨x*4294967296/y,x*4294967296%y,by rw [Int.mul_comm (x*4294967296/y)];omega,g0,g,by omega,.inl ⟨yes_of c rfl,by omega⟩⟩
 ·obtain⟨q,r,d,e,r0,r1,q0⟩:=div64_is (h:=x/4294967296) (l:=IntKind.u64.wrap (x*4294967296)) (y:=y) (by omega) (by omega) (by rw [u64_wrap];omega) (by rw [u64_wrap];omega) (by omega) k
  refine⟨q,r,?_,r0,r1,q0,.inr (no_of c (bind_of d rfl))⟩
  rw [u64_wrap] at e
  rw [←e]
  omega
theorem over_is (a b:Int) (k:Nat):scale_Over.f (k+40) a b=some (ovv a b):=by
 have ca:=cl_sign a
 have cb:=cl_sign b
 have ba:=absi_bd a
 have bb:=absi_bd b
 unfold scale_Over.f
 refine bind_of (schanged_is a b (k+37)) (bind_of (abs2_is a) (bind_of (abs2_is b) ?_))
 have wa:IntKind.u64.wrap (absi (cl a))=absi (cl a):=by rw [u64_wrap];omega
 have wb:IntKind.u64.wrap (absi (cl b))=absi (cl b):=by rw [u64_wrap];omega
 rw [wa,wb]
 obtain⟨ng,hng⟩:∃ n:Bool,(decide (a<0) != decide (b<0))=n:=⟨_,rfl⟩
 rw [hng]
 have key:scale_Over.j0 (k+40) a (chb a b) ng (absi (cl a)) (absi (cl b)) (if ng=true then -288230376151711744 else 288230376151711744)=some (ovv a b):=by
  rw [scale_Over.j0]
  unfold ovv
  by_cases h0:cl a=0
  ·rw [if_pos h0]
   refine yes_of (by rw [h0];rfl) ?_
   cases hc:chb a b
   ·refine no_of (by decide) ?_
    congr 2
    rw [Bool.false_or,Bool.eq_iff_iff]
    simp only [beq_iff_eq,decide_eq_true_eq]
    unfold absi
    split<;>omega
   ·exact yes_of rfl (by simp)
  ·rw [if_neg h0]
   refine no_of (by unfold absi;split<;>omega) ?_
   by_cases h1:cl b=0
   ·rw [if_pos h1]
    refine yes_of (by rw [h1];rfl) ?_
    rw [scale_Over.j1]
    by_cases h2:a<0
    ·rw [if_pos h2]
     exact yes_of (decide_eq_true h2) rfl
    ·rw [if_neg h2]
     exact no_of (by simpa using h2) (yes_of (by rw [h1];rfl) rfl)
   ·rw [if_neg h1]
    refine no_of (by unfold absi;split<;>omega) ?_
    rw [scale_Over.j1]
    refine no_of (by decide) (no_of (by unfold absi;split<;>omega) ?_)
    have hY:0<absi (cl b):=by unfold absi;split<;>omega
    obtain⟨q,r,e,r0,r1,q0,hq⟩:=quot_is (x:=absi (cl a)) (y:=absi (cl b)) (by omega) (by omega) hY (by omega) (k+8)
    obtain⟨Y,hYe⟩:∃ Y,absi (cl b)=Y:=⟨_,rfl⟩
    rw [hYe] at hY e r1 hq bb ⊢
    have val:rd2 (cl a) (cl b)=if ng=true then (if 2*r > Y then -(q+1) else -q) else (if 2*r ≥ Y then q+1 else q):=by
     unfold rd2
     cases ng with
     | true =>
      rw [if_pos rfl]
      by_cases hb:cl b<0
      ·have ha:¬cl a<0:=by
        intro h
        rw [ca.1] at h
        rw [cb.1] at hb
        simp [h,hb] at hng
       rw [if_pos hb,show -cl b=Y by rw [←hYe];unfold absi;rw [if_pos hb]]
       refine rdp_neg hY ?_ r0 r1
       rw [←e]
       unfold absi
       rw [if_neg ha]
      ·have ha:cl a<0:=by
        by_cases h:cl a<0
        ·exact h
        ·rw [ca.1] at h
         rw [cb.1] at hb
         simp [h,hb] at hng
       rw [if_neg hb,show cl b=Y by rw [←hYe];unfold absi;rw [if_neg hb],show cl a=-(-cl a) by omega]
       refine rdp_neg hY ?_ r0 r1
       rw [←e]
       unfold absi
       rw [if_pos ha]
     | false =>
      rw [if_neg (show ¬(false=true) by decide)]
      by_cases hb:cl b<0
      ·have ha:cl a<0:=by
        by_cases h:cl a<0
        ·exact h
        ·rw [ca.1] at h
         rw [cb.1] at hb
         simp [h,hb] at hng
       rw [if_pos hb,show -cl b=Y by rw [←hYe];unfold absi;rw [if_pos hb]]
       refine rdp_pos hY ?_ r0 r1
       rw [←e]
       unfold absi
       rw [if_pos ha]
      ·have ha:¬cl a<0:=by
        intro h
        rw [ca.1] at h
        rw [cb.1] at hb
        simp [h,hb] at hng
       rw [if_neg hb,show cl b=Y by rw [←hYe];unfold absi;rw [if_neg hb]]
       refine rdp_pos hY ?_ r0 r1
       rw [←e]
       unfold absi
       rw [if_neg ha]
    obtain⟨v,hv⟩:∃ v,rd2 (cl a) (cl b)=v:=⟨_,rfl⟩
    rw [hv] at val ⊢
    have great:q > 576460752303423488→(some ((if ng=true then -288230376151711744 else 288230376151711744),true):Option (Int × Bool))=some (cl v,chb a b || (cl v != v)):=by
     intro hg
     have hcl:cl v=(if ng=true then -288230376151711744 else 288230376151711744):=by
      rw [val]
      unfold cl
      cases ng
      ·simp only [Bool.false_eq_true,if_false]
       split<;>(rw [if_neg (by omega),if_pos (by omega)])
      ·simp only [if_true]
       split<;>(rw [if_pos (by omega)])
     have hne:cl v≠v:=by
      rw [hcl,val]
      cases ng
      ·simp only [Bool.false_eq_true,if_false]
       split<;>omega
      ·simp only [if_true]
       split<;>omega
     rw [hcl,show((if ng=true then -288230376151711744 else 288230376151711744) != v)=true by rw [←hcl];exact bne_iff_ne.mpr hne,Bool.or_true]
    have last:∀ up:Bool,q≤576460752303423488→(if ng=true then (if up=true then -(q+1) else -q) else (if up=true then q+1 else q))=v→scale_Over.j2 (k+38) (chb a b) ng q up=some (cl v,chb a b || (cl v != v)):=by
     intro up hq1 hup
     rw [scale_Over.j2]
     have fin:(if chb a b=true then some (cl v,true) else some (cl v,cl v != v):Option (Int × Bool))=some (cl v,chb a b || (cl v != v)):=by
      cases chb a b<;>rfl
     have w1:IntKind.u64.wrap (q+1)=q+1:=by rw [u64_wrap];omega
     cases up<;>cases ng<;>simp only [Bool.false_eq_true,if_false,if_true] at hup ⊢
     ·rw [w64 (n:=q) (by omega) (by omega),hup]
      exact bind_of (clamp_is v) fin
     ·rw [w64 (n:=q) (by omega) (by omega),w64 (n:=-q) (by omega) (by omega),hup]
      exact bind_of (clamp_is v) fin
     ·rw [w1,w64 (n:=q+1) (by omega) (by omega),hup]
      exact bind_of (clamp_is v) fin
     ·rw [w1,w64 (n:=q+1) (by omega) (by omega),w64 (n:=-(q+1)) (by omega) (by omega),hup]
      exact bind_of (clamp_is v) fin
    rcases hq with ⟨hq,hg⟩|hq
    ·exact bind_of hq (yes_of rfl (great hg))
    ·refine bind_of hq ?_
     by_cases hg:q > 576460752303423488
     ·exact yes_of (decide_eq_true hg) (great hg)
     ·refine no_of (by simpa using hg) ?_
      have w2:IntKind.u64.wrap (2*r)=2*r:=by rw [u64_wrap];omega
      show(if IntKind.u64.wrap (2*r) > Y then _ else _)=_
      rw [w2]
      by_cases h2:2*r > Y
      ·refine yes_of h2 (last true (by omega) ?_)
       rw [val,if_pos h2,if_pos (show 2*r ≥ Y by omega)]
       cases ng<;>simp
      ·refine no_of h2 ?_
       by_cases h3:2*r=Y
       ·refine yes_of h3 (last (!ng) (by omega) ?_)
        rw [val,if_neg h2,if_pos (show 2*r ≥ Y by omega)]
        cases ng<;>simp
       ·refine no_of h3 (last false (by omega) ?_)
        rw [val,if_neg h2,if_neg (show ¬2*r ≥ Y by omega)]
        cases ng<;>simp
 cases ng with
 | true=>exact yes_of rfl key
 | false=>exact no_of (by decide) key
end Go.Proofs.Ytonfobdknnlbjaa.Quot
end
section
set_option linter.unusedVariables false
set_option linter.unusedSimpArgs false
namespace Go.Proofs.Ytonfobdknnlbjaa.Rquot
open Go Go.RowKit Go.Proofs.Ytonfobdknnlbjaa.B Go.Proofs.Ytonfobdknnlbjaa.Over Go.Proofs.Ytonfobdknnlbjaa.Quot Go.Proofs.Ytonfobdknnlbjaa.Rwide Go.Proofs.Ytonfobdknnlbjaa.Rsum Go.Proofs.Ytonfobdknnlbjaa.Num Go.Proofs.Ytonfobdknnlbjaa.Wide Go.Proofs.Ytonfobdknnlbjaa.Sum Go.Proofs.YtonfobdknnlbjaaW.PrintWords Go.Proofs.YtonfobdknnlbjaaW.PrintLast Go.Proofs.YtonfobdknnlbjaaW.PrintMore
end Go.Proofs.Ytonfobdknnlbjaa.Rquot
end
section
set_option linter.unusedVariables false
set_option linter.unusedSimpArgs false
namespace Go.Proofs.Ytonfobdknnlbjaa.Vecn
open Go Go.RowKit Go.Proofs.Ytonfobdknnlbjaa.B Go.Proofs.Ytonfobdknnlbjaa.Over Go.Proofs.Ytonfobdknnlbjaa.Quot Go.Proofs.Ytonfobdknnlbjaa.Rquot Go.Proofs.Ytonfobdknnlbjaa.Rwide Go.Proofs.Ytonfobdknnlbjaa.Rsum Go.Proofs.Ytonfobdknnlbjaa.Num Go.Proofs.Ytonfobdknnlbjaa.Wide Go.Proofs.Ytonfobdknnlbjaa.Sum Go.Proofs.YtonfobdknnlbjaaW.PrintWords Go.Proofs.YtonfobdknnlbjaaW.PrintLast Go.Proofs.YtonfobdknnlbjaaW.PrintMore
def tv (a b:Int):Int × Bool:=(cl (rv (cl a*cl b)),!(cl (rv (cl a*cl b)) == rv (cl a*cl b)) || ((cl a != a) || (cl b != b)))
theorem times2_is (a b:Int) (k:Nat):scale_Times.f (k+3) a b=some (tv a b):=times_is a b k
theorem each_is {F:Int→Option (Int × Bool)} {x y z:Int × Bool} (h0:F 0=some x) (h1:F 1=some y) (h2:F 2=some z):vec_each.f F=some (x.1,y.1,z.1,x.2 || (y.2 || z.2)):=by
 obtain⟨x,a⟩:=x
 obtain⟨y,b⟩:=y
 obtain⟨z,c⟩:=z
 unfold vec_each.f
 refine bind_of h0 (bind_of h1 ?_)
 show(if a=true then _ else _)=_
 cases a
 ·refine no_of (by decide) (bind_of h2 ?_)
  show(if b=true then _ else _)=_
  cases b<;>rfl
 ·exact yes_of rfl (bind_of h2 rfl)
def sv (a b:Int):Int × Bool:=(cl (cl a-cl b),cbad a b (cl a-cl b))
def av (a b:Int):Int × Bool:=(cl (cl a+cl b),cbad a b (cl a+cl b))
def three (x y z:Int × Bool):Int × Int × Int × Bool:=(x.1,y.1,z.1,x.2 || (y.2 || z.2))
theorem vsub_is (a b c d e f:Int):vec_Sub.f a b c d e f=some (three (sv a d) (sv b e) (sv c f)):=by
 unfold vec_Sub.f
 refine bind_of (each_is (x:=sv a d) (y:=sv b e) (z:=sv c f) ?_ ?_ ?_) rfl
 ·exact yes_of rfl (bind_of (fsub_is a d) rfl)
 ·exact no_of (by decide) (yes_of rfl (bind_of (fsub_is b e) rfl))
 ·exact no_of (by decide) (no_of (by decide) (yes_of rfl (bind_of (fsub_is c f) rfl)))
theorem vadd_is (a b c d e f:Int):vec_Add.f a b c d e f=some (three (av a d) (av b e) (av c f)):=by
 unfold vec_Add.f
 refine bind_of (each_is (x:=av a d) (y:=av b e) (z:=av c f) ?_ ?_ ?_) rfl
 ·exact yes_of rfl (bind_of (fadd_is a d) rfl)
 ·exact no_of (by decide) (yes_of rfl (bind_of (fadd_is b e) rfl))
 ·exact no_of (by decide) (no_of (by decide) (yes_of rfl (bind_of (fadd_is c f) rfl)))
theorem vscale_is (a b c s:Int) (k:Nat):vec_Scale.f (k+3) a b c s=some (three (tv a s) (tv b s) (tv c s)):=by
 unfold vec_Scale.f
 have h0:vec_Scale_1.f (k+3) 0 a b c s=some (tv a s):=yes_of rfl (bind_of (times2_is a s k) rfl)
 refine bind_of h0 (bind_of (each_is (x:=tv a s) (y:=tv b s) (z:=tv c s) h0 ?_ ?_) rfl)
 ·exact no_of (by decide) (yes_of rfl (bind_of (times2_is b s k) rfl))
 ·exact no_of (by decide) (no_of (by decide) (yes_of rfl (bind_of (times2_is c s k) rfl)))
def vb (n:Int):Bool:=!(cl n != n)
theorem value_is (n:Int):sense_value.f n=some (vb n):=bind_of (clamp_is n) rfl
theorem contains3 {F:Int→Option Bool} {p q r:Bool} {x y z:Int} (hx:F x=some p) (hy:F y=some q) (hz:F z=some r) (k:Nat):slices_ContainsFunc_int_int.f F (k+4) [x,y,z]=some (p || (q || r)):=by
 have w:∀ i:Int,0≤i→i≤5→wrap64 (i+1)=i+1:=fun i a b=>w64 (by omega) (by omega)
 unfold slices_ContainsFunc_int_int.f slices_IndexFunc_int_int.f
 show(slices_IndexFunc_int_int.l0 F (k+4) [x,y,z] 3 0).bind _=_
 rw [slices_IndexFunc_int_int.l0]
 cases p
 ·cases q
  ·cases r
   ·refine bind_of (x:=(-1:Int)) (yes_of (by first|decide|simp) (yes_of (by first|decide|simp) (yes_of (by first|decide|simp) (bind_of hx (no_of (by decide) ?_))))) rfl
    rw [w 0 (by decide) (by decide),slices_IndexFunc_int_int.l0]
    refine yes_of (by first|decide|simp) (yes_of (by first|decide|simp) (yes_of (by first|decide|simp) (bind_of hy (no_of (by decide) ?_))))
    rw [w _ (by decide) (by decide),slices_IndexFunc_int_int.l0]
    refine yes_of (by first|decide|simp) (yes_of (by first|decide|simp) (yes_of (by first|decide|simp) (bind_of hz (no_of (by decide) ?_))))
    rw [w _ (by decide) (by decide),slices_IndexFunc_int_int.l0]
    exact no_of (by first|decide|simp) rfl
   ·refine bind_of (x:=(2:Int)) (yes_of (by first|decide|simp) (yes_of (by first|decide|simp) (yes_of (by first|decide|simp) (bind_of hx (no_of (by decide) ?_))))) rfl
    rw [w 0 (by decide) (by decide),slices_IndexFunc_int_int.l0]
    refine yes_of (by first|decide|simp) (yes_of (by first|decide|simp) (yes_of (by first|decide|simp) (bind_of hy (no_of (by decide) ?_))))
    rw [w _ (by decide) (by decide),slices_IndexFunc_int_int.l0]
    exact yes_of (by first|decide|simp) (yes_of (by first|decide|simp) (yes_of (by first|decide|simp) (bind_of hz (yes_of rfl rfl))))
  ·refine bind_of (x:=(1:Int)) (yes_of (by first|decide|simp) (yes_of (by first|decide|simp) (yes_of (by first|decide|simp) (bind_of hx (no_of (by decide) ?_))))) rfl
   rw [w 0 (by decide) (by decide),slices_IndexFunc_int_int.l0]
   exact yes_of (by first|decide|simp) (yes_of (by first|decide|simp) (yes_of (by first|decide|simp) (bind_of hy (yes_of rfl rfl))))
 ·exact bind_of (x:=(0:Int)) (yes_of (by first|decide|simp) (yes_of (by first|decide|simp) (yes_of (by first|decide|simp) (bind_of hx (yes_of rfl rfl))))) rfl
theorem values_is3 (a b c:Int) (k:Nat):sense_values.f (k+4) a b c=some (vb a && (vb b && vb c)):=by
 unfold sense_values.f
 have h:∀ n,sense_values_1.f n=some (!vb n):=fun n=>bind_of (value_is n) rfl
 refine bind_of (contains3 (h a) (h b) (h c) k) ?_
 cases vb a<;>cases vb b<;>cases vb c<;>rfl
def sane5 (a b c d e:Int):Bool:=(vb a && (vb b && vb c)) && (vb d && (decide (d > 0) && (vb e && decide (e ≥ 0))))
theorem sane5_is (a b c d e:Int) (k:Nat):sense_Sane.f (k+4) a b c d e=some (sane5 a b c d e):=by
 unfold sense_Sane.f sane5
 refine bind_of (values_is3 a b c k) ?_
 cases (vb a && (vb b && vb c))
 ·exact no_of (by decide) rfl
 ·refine yes_of rfl (bind_of (value_is d) ?_)
  cases vb d
  ·exact no_of (by decide) rfl
  ·refine yes_of rfl ?_
   by_cases h:d > 0
   ·refine yes_of h (bind_of (value_is e) ?_)
    cases vb e
    ·exact no_of (by decide) (by simp)
    ·exact yes_of rfl (by simp [h])
   ·exact no_of h (by simp [h])
def farb (m n:Int):Bool:=decide (n > m) || decide (n<wrap64 (-m))
theorem far_is (a b c d e n:Int):sense_cal_far.f a b c d e n=some (farb e n):=by
 unfold sense_cal_far.f farb
 by_cases h:n > e
 ·exact yes_of h (by simp [h])
 ·exact no_of h (by simp [h])
def readw (sn:Bool) (e:Int) (sb:Bool) (r:Int × Int × Int × Bool):Int × Int × Int × Bool :=
  if (sn && !sb && !r.2.2.2)=true then (if (farb e r.1 || (farb e r.2.1 || farb e r.2.2.1))=true then (0,0,0,false) else (r.1,r.2.1,r.2.2.1,true)) else (0,0,0,false)
def subv (a b c x y z:Int):Int × Int × Int × Bool:=three (sv x a) (sv y b) (sv z c)
def scv (d:Int) (s:Int × Int × Int × Bool):Int × Int × Int × Bool:=three (tv s.1 d) (tv s.2.1 d) (tv s.2.2.1 d)
def readv (a b c d e x y z:Int):Int × Int × Int × Bool:=readw (sane5 a b c d e) e (subv a b c x y z).2.2.2 (scv d (subv a b c x y z))
theorem readw_eq (sn sb:Bool) (e:Int) (r:Int × Int × Int × Bool) {F:Int→Option Bool} (hF:∀ n,F n=some (farb e n)) (k:Nat) :
  (if (sn && !sb && !r.2.2.2)=true then (slices_ContainsFunc_int_int.f F (k+4) [r.1,r.2.1,r.2.2.1]).bind (fun c=>if c=true then some (0,0,0,false) else some (r.1,r.2.1,r.2.2.1,true)) else some (0,0,0,false))=some (readw sn e sb r):=by
 unfold readw
 by_cases h:(sn && !sb && !r.2.2.2)=true
 ·rw [if_pos h,if_pos h]
  refine bind_of (contains3 (hF _) (hF _) (hF _) k) ?_
  split<;>rfl
 ·rw [if_neg h,if_neg h]
theorem read_is (a b c d e x y z:Int) (k:Nat):sense_Read.f (k+4) a b c d e x y z=some (readv a b c d e x y z):=by
 unfold sense_Read.f readv
 exact bind_of (vsub_is x y z a b c) (bind_of (vscale_is _ _ _ d (k+1)) (bind_of (sane5_is a b c d e k) (readw_eq _ _ e _ (far_is a b c d e) k)))
def showw (sn b0 b1 b2:Bool) (o:Int × Int × Int × Bool):Int × Int × Int × Bool:=if (sn && !b0 && !b1 && !b2 && !o.2.2.2)=true then (o.1,o.2.1,o.2.2.1,true) else (0,0,0,false)
theorem showw_eq (sn b0 b1 b2:Bool) (o:Int × Int × Int × Bool):(if (sn && !b0 && !b1 && !b2 && !o.2.2.2)=true then some (o.1,o.2.1,o.2.2.1,true) else some (0,0,0,false))=some (showw sn b0 b1 b2 o):=by
 unfold showw
 split<;>rfl
def showv (a b c d e x y z:Int):Int × Int × Int × Bool:=showw (sane5 a b c d e) (ovv x d).2 (ovv y d).2 (ovv z d).2 (three (av (ovv x d).1 a) (av (ovv y d).1 b) (av (ovv z d).1 c))
theorem show_is (a b c d e x y z:Int) (k:Nat):sense_Show.f (k+40) a b c d e x y z=some (showv a b c d e x y z):=by
 unfold sense_Show.f showv
 have h:∀ n,sense_cal_show.f (k+40) a b c d e n=some (ovv n d):=fun n=>bind_of (over_is n d k) rfl
 exact bind_of (sane5_is a b c d e (k+36)) (bind_of (h x) (bind_of (h y) (bind_of (h z) (bind_of (vadd_is _ _ _ a b c) (showw_eq _ _ _ _ _)))))
theorem read_p (a b c d e x y z:Int) (k:Nat):sense_Read.f (k+4) a b c d e x y z=some ((readv a b c d e x y z).1,(readv a b c d e x y z).2.1,(readv a b c d e x y z).2.2.1,(readv a b c d e x y z).2.2.2):=read_is a b c d e x y z k
theorem show_p (a b c d e x y z:Int) (k:Nat):sense_Show.f (k+40) a b c d e x y z=some ((showv a b c d e x y z).1,(showv a b c d e x y z).2.1,(showv a b c d e x y z).2.2.1,(showv a b c d e x y z).2.2.2):=show_is a b c d e x y z k
theorem readw_yes {sn sb:Bool} {e:Int} {r:Int × Int × Int × Bool} (h1:sn=true) (h2:sb=false) (h3:r.2.2.2=false) (h4:farb e r.1=false) (h5:farb e r.2.1=false) (h6:farb e r.2.2.1=false):readw sn e sb r=(r.1,r.2.1,r.2.2.1,true):=by
 unfold readw
 rw [h1,h2,h3,h4,h5,h6]
 rfl
theorem sane5_says {a b c d e:Int} (h:sane5 a b c d e=true):cl a=a∧cl b=b∧cl c=c∧cl d=d∧0<d∧cl e=e∧0≤e:=by
 unfold sane5 vb at h
 simp at h
 obtain⟨⟨h1,h2,h3⟩,h4,h5,h6,h7⟩:=h
 exact⟨h1,h2,h3,h4,h5,h6,h7⟩
theorem sane5_mk {a b c d e:Int} (h1:cl a=a) (h2:cl b=b) (h3:cl c=c) (h4:cl d=d) (h5:0<d) (h6:cl e=e) (h7:0≤e):sane5 a b c d e=true:=by
 unfold sane5 vb
 simp [h1,h2,h3,h4,h5,h6,h7]
theorem cl_is {a:Int} (h:cl a=a):-288230376151711744≤a∧a≤288230376151711744:=by
 have:=cl_lo a
 have:=cl_hi a
 omega
theorem cl_of {a:Int} (h0:-288230376151711744≤a) (h1:a≤288230376151711744):cl a=a:=by unfold cl;rw [if_neg (by omega),if_neg (by omega)]
end Go.Proofs.Ytonfobdknnlbjaa.Vecn
end
section
set_option linter.unusedVariables false
set_option linter.unusedSimpArgs false
namespace Go.Proofs.Ytonfobdknnlbjaa.Learn
open Go Go.RowKit Go.Proofs.Ytonfobdknnlbjaa.B Go.Proofs.Ytonfobdknnlbjaa.Over Go.Proofs.Ytonfobdknnlbjaa.Quot Go.Proofs.Ytonfobdknnlbjaa.Rquot Go.Proofs.Ytonfobdknnlbjaa.Vecn Go.Proofs.Ytonfobdknnlbjaa.Rwide Go.Proofs.Ytonfobdknnlbjaa.Rsum Go.Proofs.Ytonfobdknnlbjaa.Num Go.Proofs.Ytonfobdknnlbjaa.Wide Go.Proofs.Ytonfobdknnlbjaa.Sum Go.Proofs.YtonfobdknnlbjaaW.PrintWords Go.Proofs.YtonfobdknnlbjaaW.PrintLast Go.Proofs.YtonfobdknnlbjaaW.PrintMore
def vb3 (x:S22):Bool:=vb x.f0 && (vb x.f1 && vb x.f2)
def mnv (l:List Int):Int:=(if l=[] then ((0:Int),false) else (mean (tot (cls (l.take 64))) ((l.take 64).length:Int),chg (l.take 64))).1
def learnv (a b c d e:Int) (l:List S22):Int × Int × Int × Int × Int :=
  if (sane5 a b c d e && (!l.isEmpty && l.all vb3))=true then (mnv (l.map (·.f0)),mnv (l.map (·.f1)),mnv (l.map (·.f2)),d,e) else (a,b,c,d,e)
theorem rd3_at (L:List S22) (i:Nat) (h:i<L.length):rd_T22 L (i:Int)=L[i]:=by
 show L.getD i z22=L[i]
 rw [List.getD_eq_getElem?_getD,List.getElem?_eq_getElem h];rfl
theorem take_map_snoc {β:Type} (L:List S22) (f:S22→β) (i:Nat) (h:i<L.length):(L.take i).map f++[f (rd_T22 L (i:Int))]=(L.take (i+1)).map f:=by
 rw [rd3_at L i h,List.take_succ_eq_append_getElem h,List.map_append];rfl
theorem contains3l {F:Int→Int→Int→Option Bool} {p:S22→Bool} (hF:∀ x:S22,F x.f0 x.f1 x.f2=some (p x)) (L:List S22) (hL:L.length≤100):∀ (d k i:Nat),i+d=L.length→d<k →
  ∃ r,slices_IndexFunc_3_int_3_int.l0 F k L (L.length:Int) (i:Int)=some r∧decide (r ≥ 0)=(L.drop i).any p:=by
 intro d
 induction d with
 | zero =>
  intro k i hi hk
  obtain⟨k,rfl⟩:∃ m,k=m+1:=⟨k-1,by omega⟩
  refine⟨-1,?_,?_⟩
  ·rw [slices_IndexFunc_3_int_3_int.l0]
   exact no_of (by omega) rfl
  ·rw [List.drop_of_length_le (by omega)]
   rfl
 | succ d ih =>
  intro k i hi hk
  obtain⟨k,rfl⟩:∃ m,k=m+1:=⟨k-1,by omega⟩
  have hlt:i<L.length:=by omega
  rw [List.drop_eq_getElem_cons hlt,List.any_cons]
  cases hp:p L[i]
  ·obtain⟨r,h1,h2⟩:=ih k (i+1) (by omega) (by omega)
   refine⟨r,?_,by rw [h2,Bool.false_or]⟩
   rw [slices_IndexFunc_3_int_3_int.l0]
   refine yes_of (by omega) (yes_of (by omega) (yes_of (by omega) ?_))
   rw [rd3_at L i hlt]
   refine bind_of (hF _) ?_
   rw [hp]
   refine no_of (by decide) ?_
   rw [w64 (by omega) (by omega)]
   exact h1
  ·refine⟨(i:Int),?_,by rw [Bool.true_or];exact decide_eq_true (by omega)⟩
   rw [slices_IndexFunc_3_int_3_int.l0]
   refine yes_of (by omega) (yes_of (by omega) (yes_of (by omega) ?_))
   rw [rd3_at L i hlt]
   refine bind_of (hF _) ?_
   rw [hp]
   exact yes_of rfl rfl
theorem contains3_is {F:Int→Int→Int→Option Bool} {p:S22→Bool} (hF:∀ x:S22,F x.f0 x.f1 x.f2=some (p x)) (L:List S22) (hL:L.length≤100) (k:Nat) (hk:101<k):slices_ContainsFunc_3_int_3_int.f F k L=some (L.any p):=by
 obtain⟨r,h1,h2⟩:=contains3l hF L hL L.length k 0 (by omega) (by omega)
 unfold slices_ContainsFunc_3_int_3_int.f slices_IndexFunc_3_int_3_int.f
 refine bind_of h1 ?_
 rw [h2,List.drop_zero]
theorem mean_v (l:List Int) (k:Nat):∃ b,sum_Mean.f (k+150) l=some (mnv l,b):=⟨_,mean_is l k⟩
theorem learn_l0 (L x1:List S22) (hL:L.length≤64) (a b c d e:Int):∀ (m K i:Nat),i+m=L.length→150≤K→sense_Learn.l0 (K+m+1) x1 ((L.take i).map (·.f0)) L (i:Int) (L.length:Int) a b c d e=sense_Learn.l1 K x1 [] x1 0 (x1.length:Int) (mnv (L.map (·.f0))) b c d e:=by
 intro m
 induction m with
 | zero =>
  intro K i hi hK
  rw [sense_Learn.l0,List.take_of_length_le (by omega)]
  obtain⟨q,hq⟩:=mean_v (L.map (·.f0)) (K-150)
  rw [show K-150+150=K by omega] at hq
  exact no_of (by omega) (bind_of hq rfl)
 | succ m ih =>
  intro K i hi hK
  have hlt:i<L.length:=by omega
  rw [show K+(m+1)+1=(K+m+1)+1 by omega,sense_Learn.l0]
  refine yes_of (by omega) (yes_of (by omega) (yes_of (by omega) (yes_of (by rw [List.length_map,List.length_take];omega) ?_)))
  rw [take_map_snoc L (·.f0) i hlt,w64 (by omega) (by omega)]
  exact ih K (i+1) (by omega) hK
theorem learn_l1 (L x1:List S22) (hL:L.length≤64) (a b c d e:Int):∀ (m K i:Nat),i+m=L.length→150≤K→sense_Learn.l1 (K+m+1) x1 ((L.take i).map (·.f1)) L (i:Int) (L.length:Int) a b c d e=sense_Learn.l2 K [] x1 0 (x1.length:Int) a (mnv (L.map (·.f1))) c d e:=by
 intro m
 induction m with
 | zero =>
  intro K i hi hK
  rw [sense_Learn.l1,List.take_of_length_le (by omega)]
  obtain⟨q,hq⟩:=mean_v (L.map (·.f1)) (K-150)
  rw [show K-150+150=K by omega] at hq
  exact no_of (by omega) (bind_of hq rfl)
 | succ m ih =>
  intro K i hi hK
  have hlt:i<L.length:=by omega
  rw [show K+(m+1)+1=(K+m+1)+1 by omega,sense_Learn.l1]
  refine yes_of (by omega) (yes_of (by omega) (yes_of (by omega) (yes_of (by rw [List.length_map,List.length_take];omega) ?_)))
  rw [take_map_snoc L (·.f1) i hlt,w64 (by omega) (by omega)]
  exact ih K (i+1) (by omega) hK
theorem learn_l2 (L:List S22) (hL:L.length≤64) (a b c d e:Int):∀ (m K i:Nat),i+m=L.length→150≤K→sense_Learn.l2 (K+m+1) ((L.take i).map (·.f2)) L (i:Int) (L.length:Int) a b c d e=some (a,b,mnv (L.map (·.f2)),d,e):=by
 intro m
 induction m with
 | zero =>
  intro K i hi hK
  rw [sense_Learn.l2,List.take_of_length_le (by omega)]
  obtain⟨q,hq⟩:=mean_v (L.map (·.f2)) (K-150)
  rw [show K-150+150=K by omega] at hq
  exact no_of (by omega) (bind_of hq rfl)
 | succ m ih =>
  intro K i hi hK
  have hlt:i<L.length:=by omega
  rw [show K+(m+1)+1=(K+m+1)+1 by omega,sense_Learn.l2]
  refine yes_of (by omega) (yes_of (by omega) (yes_of (by omega) (yes_of (by rw [List.length_map,List.length_take];omega) ?_)))
  rw [take_map_snoc L (·.f2) i hlt,w64 (by omega) (by omega)]
  exact ih K (i+1) (by omega) hK
theorem any_not (p:S22→Bool) (L:List S22):L.any (fun x=>!p x)=!L.all p:=by
 induction L with
 | nil=>rfl
 | cons x L ih=>rw [List.any_cons,List.all_cons,ih,Bool.not_and]
theorem learn_is (a b c d e:Int) (l:List S22):sense_Learn.f 400 a b c d e l=some (learnv a b c d e (l.take 64)):=by
 have hm:0≤mn (l.length:Int) 64∧mn (l.length:Int) 64≤(l.length:Int)∧l.take (mn (l.length:Int) 64).toNat=l.take 64:=by
  unfold mn
  split
  ·exact⟨by omega,by omega,rfl⟩
  ·refine⟨by omega,by omega,?_⟩
   rw [Int.toNat_natCast,List.take_length,List.take_of_length_le (by omega)]
 obtain⟨L,hL⟩:∃ L,l.take 64=L:=⟨_,rfl⟩
 have hl:L.length≤64:=by rw [←hL,List.length_take];omega
 unfold sense_Learn.f learnv
 refine yes_of hm.1 (yes_of hm.2.1 (bind_of (congrArg some (hm.2.2.trans hL)) ?_))
 rw [hL]
 refine bind_of (sane5_is a b c d e 396) ?_
 cases hs:sane5 a b c d e
 ·refine no_of (by decide) ?_
  rw [sense_Learn.j0]
  exact yes_of rfl rfl
 ·refine yes_of rfl ?_
  by_cases h0:(L.length:Int)=0
  ·refine yes_of h0 ?_
   have:L=[]:=List.length_eq_zero_iff.mp (by omega)
   rw [sense_Learn.j0,this]
   exact yes_of rfl rfl
  ·refine no_of h0 ?_
   have hne:L.isEmpty=false:=by
    cases L
    ·simp at h0
    ·rfl
   have hF:∀ x:S22,sense_Learn_1.f 400 x.f0 x.f1 x.f2=some (!vb3 x):=fun x=>bind_of (values_is3 x.f0 x.f1 x.f2 396) rfl
   refine bind_of (contains3_is hF L (by omega) 400 (by omega)) ?_
   rw [any_not vb3 L,sense_Learn.j0]
   cases ha:L.all vb3
   ·refine yes_of rfl ?_
    simp
   ·refine no_of (by decide) ?_
    rw [show(399:Nat)=(399-L.length-1)+L.length+1 by omega]
    refine(learn_l0 L L hl a b c d e L.length (399-L.length-1) 0 (by omega) (by omega)).trans ?_
    rw [show 399-L.length-1=(399-L.length-1-L.length-1)+L.length+1 by omega]
    refine(learn_l1 L L hl _ b c d e L.length (399-L.length-1-L.length-1) 0 (by omega) (by omega)).trans ?_
    rw [show 399-L.length-1-L.length-1=(399-L.length-1-L.length-1-L.length-1)+L.length+1 by omega]
    refine(learn_l2 L hl _ _ c d e L.length (399-L.length-1-L.length-1-L.length-1) 0 (by omega) (by omega)).trans ?_
    rw [hne]
    rfl
end Go.Proofs.Ytonfobdknnlbjaa.Learn
end
section
set_option linter.unusedVariables false
set_option linter.unusedSimpArgs false
namespace Go.Proofs.Ytonfobdknnlbjaa
open Go Go.ChangeShapes Go.WideShapes Go.ChangeAt Go.RowKit Go.Joins Go.Deep
theorem array5 {α:Type} {cs:Array α} (h:cs.size=5):∃ c0 c1 c2 c3 c4,cs=#[c0,c1,c2,c3,c4]:=by
 obtain⟨l⟩:=cs
 match l,h with
 | [c0,c1,c2,c3,c4],_=>exact⟨c0,c1,c2,c3,c4,rfl⟩
theorem cells3:Try.prog.cellsOf 3=1:=by kernel_rfl
theorem cells22:Try.prog.cellsOf 22=3:=by kernel_rfl
theorem cells24:Try.prog.cellsOf 24=5:=by kernel_rfl
theorem int_cell {H:Type} {enc:TypeId × Value→H} {w:World} {base:Nat} {sp:Nat→Bool} {held:Bool} {fuel:Nat} {c:Value} {y:DataW H × List MemPlace}
  (h:DataW.trod enc Try.prog w base sp held fuel 3 [c]=some y):∃ n,c=.int .i64 n∧(Lit.int .i64 n).wf=true:=by
 obtain⟨n,e,-,wf⟩:=DataW.trod_int Try.underlying3 h
 simp at e
 exact⟨n,e,wf⟩
theorem array3 {α:Type} {cs:Array α} (h:cs.size=3):∃ c0 c1 c2,cs=#[c0,c1,c2]:=by
 obtain⟨l⟩:=cs
 match l,h with
 | [c0,c1,c2],_=>exact⟨c0,c1,c2,rfl⟩
theorem open_cal {H:Type} {enc:TypeId × Value→H} {w:World} {base:Nat} {sp:Nat→Bool} {held:Bool} {r:Reach} {b0:Nat} {v:Value} {d:DataW H} {p:List MemPlace}
  (hv:Value.okWide Try.prog w r b0 24 v) (h:DataW.Trod enc Try.prog w base sp held 24 v d p) :
  ∃ a b c e f:Int,v=.agg #[.int .i64 a,.int .i64 b,.int .i64 c,.int .i64 e,.int .i64 f]∧(Lit.int .i64 a).wf=true∧(Lit.int .i64 b).wf=true∧(Lit.int .i64 c).wf=true∧(Lit.int .i64 e).wf=true∧(Lit.int .i64 f).wf=true:=by
 obtain⟨cs,rfl,hsz⟩:=okWide_struct Try.underlying24 hv
 obtain⟨c0,c1,c2,c3,c4,rfl⟩:=array5 (hsz.trans cells24)
 obtain⟨fuel,hf⟩:=h
 obtain⟨y0,y1,y2,n,_,_,h0,h1,h2⟩:=trod_struct3 Try.underlying24 hf
 simp [Value.cells,cells3,cells22] at h0 h1 h2
 obtain⟨z0,z1,z2,m,_,g0,g1,g2⟩:=trod_array3 Try.underlying22 cells3 h0
 obtain⟨a,rfl,wa⟩:=int_cell g0
 obtain⟨b,rfl,wb⟩:=int_cell g1
 obtain⟨c,rfl,wc⟩:=int_cell g2
 obtain⟨e,rfl,we⟩:=int_cell h1
 obtain⟨f,rfl,wf⟩:=int_cell h2
 exact⟨a,b,c,e,f,rfl,wa,wb,wc,we,wf⟩
theorem okWide_array {P:Program} {w:World} {r:Reach} {base:Nat} {t e:TypeId} {n:Nat} {v:Value} (ht:P.underlying t=some (.array n e)) (h:Value.okWide P w r base t v):∃ cs,v=.agg cs∧cs.size=P.cellsOf t:=by
 simp only [Value.okWide,ht] at h
 obtain⟨cs,h1,h2,_⟩:=h
 exact⟨cs,h1,h2⟩
theorem open_arr {H:Type} {enc:TypeId × Value→H} {w:World} {base:Nat} {sp:Nat→Bool} {held:Bool} {r:Reach} {b0:Nat} {v:Value} {d:DataW H} {p:List MemPlace}
  (hv:Value.okWide Try.prog w r b0 22 v) (h:DataW.Trod enc Try.prog w base sp held 22 v d p) :
  ∃ a b c:Int,v=.agg #[.int .i64 a,.int .i64 b,.int .i64 c]∧(Lit.int .i64 a).wf=true∧(Lit.int .i64 b).wf=true∧(Lit.int .i64 c).wf=true:=by
 obtain⟨cs,rfl,hsz⟩:=okWide_array Try.underlying22 hv
 obtain⟨c0,c1,c2,rfl⟩:=array3 (hsz.trans cells22)
 obtain⟨fuel,hf⟩:=h
 obtain⟨z0,z1,z2,m,_,g0,g1,g2⟩:=trod_array3 Try.underlying22 cells3 hf
 obtain⟨a,rfl,wa⟩:=int_cell g0
 obtain⟨b,rfl,wb⟩:=int_cell g1
 obtain⟨c,rfl,wc⟩:=int_cell g2
 exact⟨a,b,c,rfl,wa,wb,wc⟩
end Go.Proofs.Ytonfobdknnlbjaa
end
