/- Lemmas of the row, laid by a program. -/
import Derived.Test.YtembdogffbcjiaaYNum
import Derived.Test.YtembdogffbcjiaaYWide
import Derived.Test.YtembdogffbcjiaaYSum
import Derived.Test.YtembdogffbcjiaaYRwide
import Derived.Test.YtembdogffbcjiaaYRsum
import Derived.Test.YtembdogffbcjiaaYB2
import Derived.Test.YtembdogffbcjiaaYB3
import Derived.Test.YtembdogffbcjiaaYB4
import Derived.Test.YtembdogffbcjiaaYB5
import Derived.Test.YtembdogffbcjiaaYB6
import Derived.Test.YtembdogffbcjiaaYB7
import Derived.Test.YtembdogffbcjiaaYB8
import Derived.Test.YtembdogffbcjiaaYB9
import Derived.Test.YtembdogffbcjiaaYB10
import Derived.Test.YtembdogffbcjiaaYB11
import Derived.Test.YtembdogffbcjiaaYB12
import Derived.Test.YtembdogffbcjiaaYB13
import Derived.Test.YtembdogffbcjiaaYB14
import Derived.Test.YtembdogffbcjiaaYB15
import Derived.Test.YtembdogffbcjiaaYB16
import Derived.Test.YtembdogffbcjiaaYB17
namespace Go.Proofs.Ytembdogffbcjiaa.Mat
open Go Go.RowKit Go.Proofs.Ytembdogffbcjiaa.B Go.Proofs.Ytembdogffbcjiaa.Rwide Go.Proofs.Ytembdogffbcjiaa.Rsum Go.Proofs.Ytembdogffbcjiaa.Num Go.Proofs.Ytembdogffbcjiaa.Wide Go.Proofs.Ytembdogffbcjiaa.Sum Go.Proofs.YtembdogffbcjiaaW.PrintWords Go.Proofs.YtembdogffbcjiaaW.PrintLast Go.Proofs.YtembdogffbcjiaaW.PrintMore
def mk (n:Nat) (v:Nat→Nat→Int):List (List Int):=(List.range n).map fun i=>(List.range n).map (v i)
def any2 (n:Nat) (b:Nat→Nat→Bool):Bool:=(List.range n).any fun i=>(List.range n).any (b i)
def at2 (l:List (List Int)) (i j:Nat):Int:=rd (rd_L1 l (i:Int)) (j:Int)
def okm (l:List (List Int)):Bool:=l.all (fun r=>r.length == l.length) && (decide (0<l.length) && decide (l.length≤6))
theorem okm_of {l:List (List Int)} (h:okm l=true):0<l.length∧l.length≤6∧∀ r ∈ l,r.length=l.length:=by
 unfold okm at h
 simp only [Bool.and_eq_true,decide_eq_true_eq,List.all_eq_true,beq_iff_eq] at h
 exact⟨h.2.1,h.2.2,h.1⟩
theorem rd_row {l:List (List Int)} {i:Nat} (h:i<l.length):rd_L1 l (i:Int)=l[i]:=by
 show l.getD i []=l[i]
 rw [List.getD_eq_getElem?_getD,List.getElem?_eq_getElem h];rfl
theorem rd_at {l:List Int} {i:Nat} (h:i<l.length):rd l (i:Int)=l[i]:=by
 show l.getD i 0=l[i]
 rw [List.getD_eq_getElem?_getD,List.getElem?_eq_getElem h];rfl
theorem row_len {l:List (List Int)} (h:okm l=true) {i:Nat} (hi:i<l.length):(rd_L1 l (i:Int)).length=l.length:=by
 rw [rd_row hi]
 exact(okm_of h).2.2 _ (List.getElem_mem hi)
theorem mrow (l:List (List Int)) (i:Nat) (h:i<l.length):l.drop i=rd_L1 l (i:Int) :: l.drop (i+1):=by
 rw [List.drop_eq_getElem_cons h,rd_row h]
theorem list_mk (l:List Int) (n:Nat) (h:l.length=n):l=(List.range n).map fun (j:Nat)=>rd l (j:Int):=by
 apply List.ext_getElem
 ·simp [h]
 ·intro j h1 h2
  simp only [List.getElem_map,List.getElem_range]
  exact(rd_at h1).symm
theorem mk_len (n:Nat) (v:Nat→Nat→Int):(mk n v).length=n:=by simp [mk]
theorem msane_loop (l:List (List Int)) (hl:l.length≤1000):∀ (d q i:Nat),i+d=l.length →
  mat_Sane.l0 (q+d+1) l l (l.length:Int) (i:Int)=some ((l.drop i).all (fun r=>r.length == l.length) && (decide (0<l.length) && decide (l.length≤6)))
 | 0,q,i,he=>by
  rw [List.drop_of_length_le (by omega),mat_Sane.l0]
  refine no_of (by omega) ?_
  by_cases h:0<l.length
  ·refine yes_of (by omega) ?_
   congr 1
   rw [List.all_nil,Bool.true_and,decide_eq_true h,Bool.true_and,Bool.eq_iff_iff]
   simp only [decide_eq_true_eq]
   omega
  ·refine no_of (by omega) ?_
   rw [decide_eq_false h]
   simp
 | d+1,q,i,he=>by
  have hi:i<l.length:=by omega
  rw [show q+(d+1)+1=(q+d+1)+1 from rfl,mat_Sane.l0,mrow l i hi,List.all_cons]
  refine yes_of (by omega) (yes_of (by omega) (yes_of (by omega) ?_))
  by_cases h:((rd_L1 l (i:Int)).length:Int)=(l.length:Int)
  ·refine yes_of h ?_
   rw [w1 i (by omega),msane_loop l hl d q (i+1) (by omega),show((rd_L1 l (i:Int)).length == l.length)=true by rw [beq_iff_eq];omega,Bool.true_and]
  ·refine no_of h ?_
   rw [show((rd_L1 l (i:Int)).length == l.length)=false by rw [beq_eq_false_iff_ne];omega]
   rfl
theorem msane_is (l:List (List Int)) (hl:l.length≤20) (k:Nat):mat_Sane.f (k+30) l=some (okm l):=by
 unfold mat_Sane.f
 have h:=msane_loop l (by omega) l.length (k+29-l.length) 0 (by omega)
 rw [show k+29-l.length+l.length+1=k+30 by omega,List.drop_zero] at h
 exact h
theorem rsane_loop (l:List (List Int)) (hl:l.length≤1000):∀ (d q i:Nat),i+d=l.length →
  outriggerref08_Sane.l0 (q+d+1) l (i:Int)=some ((l.drop i).all (fun r=>r.length == l.length) && (decide (0<l.length) && decide (l.length≤6)))
 | 0,q,i,he=>by
  rw [List.drop_of_length_le (by omega),outriggerref08_Sane.l0]
  refine no_of (by omega) ?_
  by_cases h:0<l.length
  ·refine yes_of (by omega) ?_
   congr 1
   rw [List.all_nil,Bool.true_and,decide_eq_true h,Bool.true_and,Bool.eq_iff_iff]
   simp only [decide_eq_true_eq]
   omega
  ·refine no_of (by omega) ?_
   rw [decide_eq_false h]
   simp
 | d+1,q,i,he=>by
  have hi:i<l.length:=by omega
  rw [show q+(d+1)+1=(q+d+1)+1 from rfl,outriggerref08_Sane.l0,mrow l i hi,List.all_cons]
  refine yes_of (by omega) (yes_of (by omega) ?_)
  by_cases h:((rd_L1 l (i:Int)).length:Int)=(l.length:Int)
  ·refine yes_of h ?_
   rw [w1 i (by omega),rsane_loop l hl d q (i+1) (by omega),show((rd_L1 l (i:Int)).length == l.length)=true by rw [beq_iff_eq];omega,Bool.true_and]
  ·refine no_of h ?_
   rw [show((rd_L1 l (i:Int)).length == l.length)=false by rw [beq_eq_false_iff_ne];omega]
   rfl
theorem rmsane_is (l:List (List Int)) (hl:l.length≤20) (k:Nat):outriggerref08_Sane.f (k+30) l=some (okm l):=by
 unfold outriggerref08_Sane.f
 have h:=rsane_loop l (by omega) l.length (k+29-l.length) 0 (by omega)
 rw [show k+29-l.length+l.length+1=k+30 by omega,List.drop_zero] at h
 exact h
theorem drop_range_any {n j:Nat} {b:Nat→Bool} (h:j<n):((List.range n).drop j).any b=(b j || ((List.range n).drop (j+1)).any b):=by
 rw [List.drop_eq_getElem_cons (by simpa using h),List.any_cons,List.getElem_range]
theorem made_l1 {F:Int→Int→Option (Int × Bool)} {v:Nat→Nat→Int} {b:Nat→Nat→Bool} {n i:Nat} (hn:n≤6) (hF:∀ j,j<n→F (i:Int) (j:Int)=some (v i j,b i j)):∀ (d q j:Nat) (acc:Bool) (out:List (List Int)),j+d=n→out.length≤6 →
  mat_made.l1 F (q+1+d) (n:Int) out acc (i:Int) ((List.range j).map (v i)++List.replicate d 0) (n:Int) (i:Int) (n:Int) (j:Int)=mat_made.l0 F q (n:Int) (out++[(List.range n).map (v i)]) (acc || ((List.range n).drop j).any (b i)) (n:Int) (wrap64 ((i:Int)+1))
 | 0,q,j,acc,out,he,ho=>by
  have hj:j=n:=by omega
  subst hj
  rw [Nat.add_zero,mat_made.l1]
  refine no_of (by omega) (yes_of (by omega) ?_)
  rw [List.drop_of_length_le (by simp),List.any_nil,Bool.or_false,List.replicate_zero,List.append_nil]
 | d+1,q,j,acc,out,he,ho=>by
  rw [show q+1+(d+1)=(q+1+d)+1 from rfl,mat_made.l1]
  refine yes_of (by omega) (bind_of (hF j (by omega)) (yes_of (by omega) (yes_of (by simp;omega) (bind_of rfl ?_))))
  have e:((List.range j).map (v i)++List.replicate (d+1) (0:Int)).set (j:Int).toNat (v i j)=(List.range (j+1)).map (v i)++List.replicate d 0:=by
   rw [Int.toNat_natCast,List.set_append_right _ _ (by simp),List.replicate_succ]
   simp [List.range_succ]
  dsimp only
  rw [e,w1 j (by omega),drop_range_any (by omega)]
  cases acc
  ·refine no_of (by simp) ((made_l1 hn hF d q (j+1) _ out (by omega) ho).trans ?_)
   rw [Bool.false_or]
  ·refine yes_of rfl ((made_l1 hn hF d q (j+1) _ out (by omega) ho).trans ?_)
   rw [Bool.true_or,Bool.true_or]
theorem made_l0 {F:Int→Int→Option (Int × Bool)} {v:Nat→Nat→Int} {b:Nat→Nat→Bool} {n:Nat} (hn:n≤6) (hF:∀ i j:Nat,i<n→j<n→F (i:Int) (j:Int)=some (v i j,b i j)):∀ (d q i:Nat) (acc:Bool),i+d=n →
  mat_made.l0 F (q+d*(n+2)+1) (n:Int) ((List.range i).map fun i=>(List.range n).map (v i)) acc (n:Int) (i:Int)=some (mk n v,acc || ((List.range n).drop i).any fun i=>(List.range n).any (b i))
 | 0,q,i,acc,he=>by
  have hi:i=n:=by omega
  subst hi
  rw [mat_made.l0]
  refine no_of (by omega) ?_
  rw [List.drop_of_length_le (by simp),List.any_nil,Bool.or_false]
  rfl
 | d+1,q,i,acc,he=>by
  have e:q+(d+1)*(n+2)+1=(q+d*(n+2)+1+1+n)+1:=by rw [Nat.succ_mul];omega
  rw [e,mat_made.l0]
  refine yes_of (by omega) (yes_of (by omega) (yes_of (by omega) (bind_of rfl ?_)))
  have h:=made_l1 (v:=v) (b:=b) hn (fun j hj=>hF i j (by omega) hj) n (q+d*(n+2)+1) 0 acc ((List.range i).map fun i=>(List.range n).map (v i)) (by omega) (by simp;omega)
  rw [List.range_zero,List.map_nil,List.nil_append,List.drop_zero] at h
  rw [Int.toNat_natCast,List.length_replicate]
  refine h.trans ?_
  rw [w1 i (by omega),show((List.range i).map fun i=>(List.range n).map (v i))++[(List.range n).map (v i)]=(List.range (i+1)).map fun i=>(List.range n).map (v i) by rw [List.range_succ,List.map_append];rfl]
  refine(made_l0 hn hF d q (i+1) _ (by omega)).trans ?_
  rw [drop_range_any (b:=fun i=>(List.range n).any (b i)) (show i<n by omega),Bool.or_assoc]
theorem nn_le {n:Nat} (hn:n≤6):n*(n+2)≤48:=Nat.mul_le_mul hn (show n+2≤8 by omega)
theorem made_is {F:Int→Int→Option (Int × Bool)} {v:Nat→Nat→Int} {b:Nat→Nat→Bool} {n:Nat} (hn:n≤6) (hF:∀ i j:Nat,i<n→j<n→F (i:Int) (j:Int)=some (v i j,b i j)) (k:Nat):mat_made.f F (k+60) (n:Int)=some (mk n v,any2 n b):=by
 have h:=made_l0 hn hF n (k+59-n*(n+2)) 0 false (by omega)
 have h2:=nn_le hn
 rw [show k+59-n*(n+2)+n*(n+2)+1=k+60 by omega] at h
 unfold mat_made.f
 refine Eq.trans ?_ (h.trans ?_)
 ·rfl
 ·rw [List.drop_zero,Bool.false_or];rfl
theorem rints_loop (l:List Int) (hl:l.length≤1000):∀ (d q i:Nat),i+d=l.length→outriggerref08_Ints.l0 (q+d+1) l l (i:Int)=some true
 | 0,q,i,he=>by
  rw [outriggerref08_Ints.l0]
  exact no_of (by omega) rfl
 | d+1,q,i,he=>by
  rw [show q+(d+1)+1=(q+d+1)+1 from rfl,outriggerref08_Ints.l0]
  refine yes_of (by omega) (yes_of (by omega) (yes_of (by omega) (yes_of rfl ?_)))
  rw [w1 i (by omega)]
  exact rints_loop l hl d q (i+1) (by omega)
theorem ints_refl (l:List Int) (hl:l.length≤20) (k:Nat):outriggerref08_Ints.f (k+30) l l=some true:=by
 unfold outriggerref08_Ints.f
 refine yes_of rfl ?_
 have h:=rints_loop l (by omega) l.length (k+29-l.length) 0 (by omega)
 rw [show k+29-l.length+l.length+1=k+30 by omega] at h
 exact h
theorem rsame_loop (l:List (List Int)) (hl:l.length≤20) (hr:∀ r ∈ l,r.length≤20):∀ (d q i:Nat),i+d=l.length→outriggerref08_Same.l0 (q+31+d) l l (i:Int)=some true
 | 0,q,i,he=>by
  rw [show q+31+0=(q+30)+1 from rfl,outriggerref08_Same.l0]
  exact no_of (by omega) rfl
 | d+1,q,i,he=>by
  have hi:i<l.length:=by omega
  rw [show q+31+(d+1)=(q+31+d)+1 from rfl,outriggerref08_Same.l0]
  refine yes_of (by omega) (yes_of (by omega) (yes_of (by omega) (bind_of ?_ (yes_of rfl ?_))))
  ·rw [show q+31+d=(q+1+d)+30 by omega,rd_row hi]
   exact ints_refl _ (hr _ (List.getElem_mem hi)) _
  ·rw [w1 i (by omega)]
   exact rsame_loop l hl hr d q (i+1) (by omega)
theorem same_refl (l:List (List Int)) (hl:l.length≤20) (hr:∀ r ∈ l,r.length≤20) (k:Nat):outriggerref08_Same.f (k+60) l l=some true:=by
 unfold outriggerref08_Same.f
 refine yes_of rfl ?_
 have h:=rsame_loop l hl hr l.length (k+29-l.length) 0 (by omega)
 rw [show k+29-l.length+31+l.length=k+60 by omega] at h
 exact h
theorem same_mk {n:Nat} (hn:n≤6) (v:Nat→Nat→Int) (k:Nat):outriggerref08_Same.f (k+60) (mk n v) (mk n v)=some true:=by
 refine same_refl _ (by rw [mk_len];omega) ?_ k
 intro r hr
 obtain⟨i,_,rfl⟩:=List.mem_map.1 hr
 simp;omega
theorem same_nil (k:Nat):outriggerref08_Same.f (k+60) [] []=some true:=same_refl [] (by simp) (by simp) k
def both (a b:List (List Int)):Bool:=okm a && (okm b && (a.length == b.length))
theorem both_of {a b:List (List Int)} (h:both a b=true):okm a=true∧okm b=true∧a.length=b.length:=by
 unfold both at h
 simp only [Bool.and_eq_true,beq_iff_eq] at h
 exact⟨h.1,h.2.1,h.2.2⟩
def PP (n:Nat) (f g:Nat→Int):Int:=tot ((List.range n).map fun k=>cl (f k)*cl (g k))
def dv (n:Nat) (f g:Nat→Int):Int:=cl (rv (PP n f g))
def db (n:Nat) (f g:Nat→Int):Bool:=!(cl (rv (PP n f g)) == rv (PP n f g)) || ((List.range n).any (fun k=>cl (f k) != f k) || (List.range n).any (fun k=>cl (g k) != g k))
theorem prods_map (n:Nat) (f g:Nat→Int):prods ((List.range n).map f) ((List.range n).map g)=(List.range n).map fun k=>cl (f k)*cl (g k):=by
 unfold prods
 rw [List.zip_map',List.map_map]
 rfl
theorem chg_map (n:Nat) (f:Nat→Int):chg ((List.range n).map f)=(List.range n).any fun k=>cl (f k) != f k:=by
 unfold chg
 rw [List.any_map]
 rfl
theorem dot_map (n:Nat) (hn:n≤6) (f g:Nat→Int) (k:Nat):sum_Dot.f (k+80) ((List.range n).map f) ((List.range n).map g)=some (dv n f g,db n f g):=by
 rw [dot_same (by simp) (by simp;omega),prods_map,chg_map,chg_map]
 rfl
theorem rdot_map (n:Nat) (hn:n≤6) (f g:Nat→Int) (k:Nat):outriggerref06_Dot.f (k+220) ((List.range n).map f) ((List.range n).map g)=some (dv n f g,db n f g):=by
 have hp:P2 ((List.range n).map f) ((List.range n).map g)=n:=by unfold P2;simp;omega
 rw [rdot_is,hp,List.take_of_length_le (by simp),List.take_of_length_le (by simp),prods_map,chg_map,chg_map]
 unfold dv db PP
 generalize (!(cl (rv _) == rv _))=z
 cases z<;>cases (List.range n).any (fun k=>cl (f k) != f k)<;>cases (List.range n).any (fun k=>cl (g k) != g k)<;>rfl
theorem row_map {a:List (List Int)} (h:okm a=true) {i:Nat} (hi:i<a.length):rd_L1 a (i:Int)=(List.range a.length).map (at2 a i):=list_mk _ _ (row_len h hi)
theorem rfadd_is (a b:Int):outriggerref01_Add.f a b=some (cl (cl a+cl b),cbad a b (cl a+cl b)):=by
 have a0:=cl_lo a
 have a1:=cl_hi a
 have b0:=cl_lo b
 have b1:=cl_hi b
 have hw:wrap64 (cl a+cl b)=cl a+cl b:=w64 (by omega) (by omega)
 unfold outriggerref01_Add.f cbad
 refine bind_of (rclamp_is a) (bind_of (rclamp_is b) ?_)
 dsimp only
 rw [hw]
 refine bind_of (rclamp_is _) ?_
 dsimp only
 cases h1:(cl a != a)
 ·refine no_of (by simp) ?_
  cases h2:(cl b != b)
  ·exact no_of (by simp) (by simp)
  ·exact yes_of rfl (by simp)
 ·exact yes_of rfl (by simp)
theorem rboth_is (a b:List (List Int)) (ha:a.length≤20) (hb:b.length≤20) (k:Nat):outriggerref08_both.f (k+30) a b=some (both a b):=by
 unfold outriggerref08_both.f both
 refine bind_of (rmsane_is a ha k) ?_
 cases okm a
 ·exact no_of (by simp) rfl
 ·refine yes_of rfl (bind_of (rmsane_is b hb k) ?_)
  cases okm b
  ·exact no_of (by simp) rfl
  ·refine yes_of rfl ?_
   congr 1
   rw [Bool.true_and,Bool.true_and,Bool.eq_iff_iff,beq_iff_eq,beq_iff_eq]
   omega
theorem add1_is {a b:List (List Int)} (h:both a b=true) (i j:Nat) (hi:i<a.length) (hj:j<a.length):mat_Add_1.f (i:Int) (j:Int) a b=some (cl (cl (at2 a i j)+cl (at2 b i j)),cbad (at2 a i j) (at2 b i j) (cl (at2 a i j)+cl (at2 b i j))):=by
 obtain⟨h1,h2,h3⟩:=both_of h
 have r1:=row_len h1 hi
 have r2:=row_len h2 (show i<b.length by omega)
 unfold mat_Add_1.f
 exact yes_of (by omega) (yes_of (by omega) (yes_of (by omega) (yes_of (by omega) (yes_of (by omega) (yes_of (by omega) (bind_of (fadd_is _ _) rfl))))))
def addV (a b:List (List Int)):List (List Int):=mk a.length fun i j=>cl (cl (at2 a i j)+cl (at2 b i j))
def addB (a b:List (List Int)):Bool:=any2 a.length fun i j=>cbad (at2 a i j) (at2 b i j) (cl (at2 a i j)+cl (at2 b i j))
theorem madd_is (a b:List (List Int)) (ha:a.length≤20) (hb:b.length≤20) (k:Nat):mat_Add.f (k+60) a b=some (if both a b=true then (addV a b,addB a b) else ([],true)):=by
 unfold mat_Add.f
 refine bind_of (msane_is a ha (k+30)) ?_
 by_cases h1:okm a=true
 ·refine yes_of h1 (bind_of (msane_is b hb (k+30)) ?_)
  by_cases h2:okm b=true
  ·refine yes_of h2 ?_
   by_cases h3:(a.length:Int)=(b.length:Int)
   ·have h:both a b=true:=by unfold both;rw [h1,h2];simp;omega
    rw [if_pos h]
    exact yes_of h3 (bind_of (made_is (okm_of h1).2.1 (fun i j hi hj=>add1_is h i j hi hj) k) rfl)
   ·have h:¬both a b=true:=by intro h;have:=(both_of h).2.2;omega
    rw [if_neg h]
    exact no_of h3 rfl
  ·have h:¬both a b=true:=fun h=>h2 (both_of h).2.1
   rw [if_neg h]
   exact no_of h2 rfl
 ·have h:¬both a b=true:=fun h=>h1 (both_of h).1
  rw [if_neg h]
  exact no_of h1 rfl
theorem col_loop {l:List (List Int)} (h:okm l=true) {j:Nat} (hj:j<l.length):∀ (d q i:Nat),i+d=l.length →
  mat_matrix_column.l0 (q+d+1) l (j:Int) ((List.range i).map (fun t=>at2 l t j)++List.replicate d 0) (l.length:Int) (i:Int)=some ((List.range l.length).map fun t=>at2 l t j)
 | 0,q,i,he=>by
  have hi:i=l.length:=by omega
  subst hi
  rw [mat_matrix_column.l0]
  refine no_of (by omega) ?_
  rw [List.replicate_zero,List.append_nil]
 | d+1,q,i,he=>by
  have hi:i<l.length:=by omega
  have r:=row_len h hi
  have h6:=(okm_of h).2.1
  rw [show q+(d+1)+1=(q+d+1)+1 from rfl,mat_matrix_column.l0]
  refine yes_of (by omega) (yes_of (by omega) (yes_of (by omega) (yes_of (by omega) (yes_of (by omega) (yes_of (by simp;omega) ?_)))))
  have e:((List.range i).map (fun t=>at2 l t j)++List.replicate (d+1) (0:Int)).set (i:Int).toNat (rd (rd_L1 l (i:Int)) (j:Int))=(List.range (i+1)).map (fun t=>at2 l t j)++List.replicate d 0:=by
   rw [Int.toNat_natCast,List.set_append_right _ _ (by simp),List.replicate_succ]
   simp [List.range_succ]
   rfl
  rw [e,w1 i (by omega)]
  exact col_loop h hj d q (i+1) (by omega)
theorem col_is {l:List (List Int)} (h:okm l=true) {j:Nat} (hj:j<l.length) (k:Nat):mat_matrix_column.f (k+30) l (j:Int)=some ((List.range l.length).map fun t=>at2 l t j):=by
 have h6:=(okm_of h).2.1
 have e:=col_loop h hj l.length (k+29-l.length) 0 (by omega)
 rw [show k+29-l.length+l.length+1=k+30 by omega,List.range_zero,List.map_nil,List.nil_append] at e
 unfold mat_matrix_column.f
 refine yes_of (by omega) (yes_of (by omega) (yes_of (by omega) ?_))
 rw [Int.toNat_natCast]
 exact e
theorem rcol_loop {l:List (List Int)} (h:okm l=true) {j:Nat} (hj:j<l.length):∀ (d q i:Nat),i+d=l.length →
  outriggerref08_column.l0 (q+d+1) l (j:Int) ((List.range i).map (fun t=>at2 l t j)) (i:Int)=some ((List.range l.length).map fun t=>at2 l t j)
 | 0,q,i,he=>by
  have hi:i=l.length:=by omega
  subst hi
  rw [outriggerref08_column.l0]
  exact no_of (by omega) rfl
 | d+1,q,i,he=>by
  have hi:i<l.length:=by omega
  have r:=row_len h hi
  have h6:=(okm_of h).2.1
  rw [show q+(d+1)+1=(q+d+1)+1 from rfl,outriggerref08_column.l0]
  refine yes_of (by omega) (yes_of (by omega) (yes_of (by omega) (yes_of (by omega) (yes_of (by simp;omega) ?_))))
  rw [show(List.range i).map (fun t=>at2 l t j)++[rd (rd_L1 l (i:Int)) (j:Int)]=(List.range (i+1)).map (fun t=>at2 l t j) by rw [List.range_succ,List.map_append];rfl,w1 i (by omega)]
  exact rcol_loop h hj d q (i+1) (by omega)
theorem rcol_is {l:List (List Int)} (h:okm l=true) {j:Nat} (hj:j<l.length) (k:Nat):outriggerref08_column.f (k+30) l (j:Int)=some ((List.range l.length).map fun t=>at2 l t j):=by
 have h6:=(okm_of h).2.1
 have e:=rcol_loop h hj l.length (k+29-l.length) 0 (by omega)
 rw [show k+29-l.length+l.length+1=k+30 by omega,List.range_zero,List.map_nil] at e
 unfold outriggerref08_column.f
 exact e
def mulV (a b:List (List Int)):List (List Int):=mk a.length fun i j=>dv a.length (at2 a i) (fun t=>at2 b t j)
def mulB (a b:List (List Int)):Bool:=any2 a.length fun i j=>db a.length (at2 a i) (fun t=>at2 b t j)
theorem mul1_is {a b:List (List Int)} (h:both a b=true) (i j:Nat) (hi:i<a.length) (hj:j<a.length) (k:Nat):mat_Mul_1.f (k+80) (i:Int) (j:Int) a b=some (dv a.length (at2 a i) (fun t=>at2 b t j),db a.length (at2 a i) (fun t=>at2 b t j)):=by
 obtain⟨h1,h2,h3⟩:=both_of h
 unfold mat_Mul_1.f
 have hd:=dot_map a.length (okm_of h1).2.1 (at2 a i) (fun t=>at2 b t j) k
 refine yes_of (by omega) (yes_of (by omega) (bind_of (col_is h2 (show j<b.length by omega) (k+50)) ?_))
 rw [row_map h1 hi,←h3]
 exact bind_of hd rfl
theorem mmul_is (a b:List (List Int)) (ha:a.length≤20) (hb:b.length≤20) (k:Nat):mat_Mul.f (k+80) a b=some (if both a b=true then (mulV a b,mulB a b) else ([],true)):=by
 unfold mat_Mul.f
 refine bind_of (msane_is a ha (k+50)) ?_
 by_cases h1:okm a=true
 ·refine yes_of h1 (bind_of (msane_is b hb (k+50)) ?_)
  by_cases h2:okm b=true
  ·refine yes_of h2 ?_
   by_cases h3:(a.length:Int)=(b.length:Int)
   ·have h:both a b=true:=by unfold both;rw [h1,h2];simp;omega
    rw [if_pos h]
    exact yes_of h3 (bind_of (made_is (okm_of h1).2.1 (fun i j hi hj=>mul1_is h i j hi hj k) (k+20)) rfl)
   ·have h:¬both a b=true:=by intro h;have:=(both_of h).2.2;omega
    rw [if_neg h]
    exact no_of h3 rfl
  ·have h:¬both a b=true:=fun h=>h2 (both_of h).2.1
   rw [if_neg h]
   exact no_of h2 rfl
 ·have h:¬both a b=true:=fun h=>h1 (both_of h).1
  rw [if_neg h]
  exact no_of h1 rfl
theorem radd_l1 {a b:List (List Int)} (h:both a b=true) {i:Nat} (hi:i<a.length):∀ (d q j:Nat) (acc:Bool) (out:List (List Int)),j+d=a.length→out.length≤6 →
  outriggerref08_Add.l1 (q+0+1+d) a b out acc (i:Int) ((List.range j).map (fun j=>cl (cl (at2 a i j)+cl (at2 b i j)))) (j:Int)=outriggerref08_Add.l0 (q+0) a b (out++[(List.range a.length).map (fun j=>cl (cl (at2 a i j)+cl (at2 b i j)))]) (acc || ((List.range a.length).drop j).any (fun j=>cbad (at2 a i j) (at2 b i j) (cl (at2 a i j)+cl (at2 b i j)))) (wrap64 ((i:Int)+1))
 | 0,q,j,acc,out,he,ho=>by
  have hj:j=a.length:=by omega
  subst hj
  rw [Nat.add_zero,outriggerref08_Add.l1]
  refine no_of (by omega) (yes_of (by omega) ?_)
  rw [List.drop_of_length_le (by simp),List.any_nil,Bool.or_false];first|done|rfl
 | d+1,q,j,acc,out,he,ho=>by
  have hj:j<a.length:=by omega
  obtain⟨hs_,hs2_,hs3_⟩:=both_of h
  have r1:=row_len hs_ hi
  have r2:=row_len hs2_ (show i<b.length by omega)
  have h6:=(okm_of hs_).2.1
  rw [show q+0+1+(d+1)=(q+0+1+d)+1 from rfl,outriggerref08_Add.l1]
  refine yes_of (by omega) (yes_of (by omega) (yes_of (by omega) (yes_of (by omega) (yes_of (by omega) (yes_of (by omega) (yes_of (by omega) (bind_of (rfadd_is (at2 a i j) (at2 b i j)) (yes_of (by simp;omega) (bind_of rfl ?_)))))))))
  have e:(List.range j).map (fun j=>cl (cl (at2 a i j)+cl (at2 b i j)))++[cl (cl (at2 a i j)+cl (at2 b i j))]=(List.range (j+1)).map (fun j=>cl (cl (at2 a i j)+cl (at2 b i j))):=by rw [List.range_succ,List.map_append];rfl
  dsimp only
  rw [e,w1 j (by omega),drop_range_any (by omega)]
  cases acc
  ·refine no_of (by simp) ((radd_l1 h hi d q (j+1) _ out (by omega) ho).trans ?_)
   rw [Bool.false_or]
  ·refine yes_of rfl ((radd_l1 h hi d q (j+1) _ out (by omega) ho).trans ?_)
   rw [Bool.true_or,Bool.true_or]
theorem radd_l0 {a b:List (List Int)} (h:both a b=true):∀ (d q i:Nat) (acc:Bool),i+d=a.length →
  outriggerref08_Add.l0 (q+0+d*(a.length+2)+1) a b ((List.range i).map (fun i=>(List.range a.length).map (fun j=>cl (cl (at2 a i j)+cl (at2 b i j))))) acc (i:Int)=some (mk a.length fun i=>fun j=>cl (cl (at2 a i j)+cl (at2 b i j)),acc || ((List.range a.length).drop i).any fun i=>(List.range a.length).any (fun j=>cbad (at2 a i j) (at2 b i j) (cl (at2 a i j)+cl (at2 b i j))))
 | 0,q,i,acc,he=>by
  have hi:i=a.length:=by omega
  subst hi
  rw [outriggerref08_Add.l0]
  refine no_of (by omega) ?_
  rw [List.drop_of_length_le (by simp),List.any_nil,Bool.or_false];rfl
 | d+1,q,i,acc,he=>by
  have hi:i<a.length:=by omega
  have h6:=(okm_of (both_of h).1).2.1
  have e:q+0+(d+1)*(a.length+2)+1=((q+d*(a.length+2)+1)+0+1+a.length)+1:=by rw [Nat.succ_mul];omega
  rw [e,outriggerref08_Add.l0]
  refine yes_of (by omega) ?_
  refine(radd_l1 h hi a.length (q+d*(a.length+2)+1) 0 acc ((List.range i).map (fun i=>(List.range a.length).map (fun j=>cl (cl (at2 a i j)+cl (at2 b i j))))) (by omega) (by simp;omega)).trans ?_
  rw [w1 i (by omega),show((List.range i).map (fun i=>(List.range a.length).map (fun j=>cl (cl (at2 a i j)+cl (at2 b i j)))))++[(List.range a.length).map (fun j=>cl (cl (at2 a i j)+cl (at2 b i j)))]=(List.range (i+1)).map (fun i=>(List.range a.length).map (fun j=>cl (cl (at2 a i j)+cl (at2 b i j)))) by rw [List.range_succ,List.map_append];rfl]
  rw [show q+d*(a.length+2)+1+0=q+0+d*(a.length+2)+1 by omega]
  refine(radd_l0 h d q (i+1) _ (by omega)).trans ?_
  rw [List.drop_zero,drop_range_any (b:=fun i=>(List.range a.length).any (fun j=>cbad (at2 a i j) (at2 b i j) (cl (at2 a i j)+cl (at2 b i j)))) hi,Bool.or_assoc]
theorem rmadd_is (a b:List (List Int)) (ha:a.length≤20) (hb:b.length≤20) (k:Nat):outriggerref08_Add.f (k+60) a b=some (if both a b=true then (addV a b,addB a b) else ([],true)):=by
 unfold outriggerref08_Add.f
 refine bind_of (rboth_is a b ha hb (k+30)) ?_
 by_cases h:both a b=true
 ·rw [if_pos h,if_pos h]
  have h2:=nn_le (okm_of (both_of h).1).2.1
  have e:=radd_l0 h a.length (k+59-a.length*(a.length+2)) 0 false (by omega)
  rw [show k+59-a.length*(a.length+2)+0+a.length*(a.length+2)+1=k+60 by omega,List.drop_zero,Bool.false_or] at e
  exact e
 ·rw [if_neg h,if_neg h]
theorem rmul_l1 {a b:List (List Int)} (h:both a b=true) {i:Nat} (hi:i<a.length):∀ (d q j:Nat) (acc:Bool) (out:List (List Int)),j+d=a.length→out.length≤6 →
  outriggerref08_Mul.l1 (q+220+1+d) a b out acc (i:Int) ((List.range j).map (fun j=>dv a.length (at2 a i) (fun t=>at2 b t j))) (j:Int)=outriggerref08_Mul.l0 (q+220) a b (out++[(List.range a.length).map (fun j=>dv a.length (at2 a i) (fun t=>at2 b t j))]) (acc || ((List.range a.length).drop j).any (fun j=>db a.length (at2 a i) (fun t=>at2 b t j))) (wrap64 ((i:Int)+1))
 | 0,q,j,acc,out,he,ho=>by
  have hj:j=a.length:=by omega
  subst hj
  rw [Nat.add_zero,outriggerref08_Mul.l1]
  refine no_of (by omega) (yes_of (by omega) ?_)
  rw [List.drop_of_length_le (by simp),List.any_nil,Bool.or_false];first|done|rfl
 | d+1,q,j,acc,out,he,ho=>by
  have hj:j<a.length:=by omega
  obtain⟨hs_,hs2_,hs3_⟩:=both_of h
  have r1:=row_len hs_ hi
  have r2:=row_len hs2_ (show i<b.length by omega)
  have h6:=(okm_of hs_).2.1
  rw [show q+220+1+(d+1)=(q+220+1+d)+1 from rfl,outriggerref08_Mul.l1]
  have hd:=rdot_map a.length h6 (at2 a i) (fun t=>at2 b t j) (q+1+d)
  rw [show q+1+d+220=q+220+1+d by omega,hs3_,←hs3_] at hd
  have hc:=rcol_is hs2_ (show j<b.length by omega) (q+191+d)
  rw [show q+191+d+30=q+220+1+d by omega,←hs3_] at hc
  refine yes_of (by omega) (yes_of (by omega) (yes_of (by omega) (bind_of hc ?_)))
  rw [row_map hs_ hi]
  refine bind_of hd (yes_of (by simp;omega) (bind_of rfl ?_))
  have e:(List.range j).map (fun j=>dv a.length (at2 a i) (fun t=>at2 b t j))++[dv a.length (at2 a i) (fun t=>at2 b t j)]=(List.range (j+1)).map (fun j=>dv a.length (at2 a i) (fun t=>at2 b t j)):=by rw [List.range_succ,List.map_append];rfl
  dsimp only
  rw [e,w1 j (by omega),drop_range_any (by omega)]
  cases acc
  ·refine no_of (by simp) ((rmul_l1 h hi d q (j+1) _ out (by omega) ho).trans ?_)
   rw [Bool.false_or]
  ·refine yes_of rfl ((rmul_l1 h hi d q (j+1) _ out (by omega) ho).trans ?_)
   rw [Bool.true_or,Bool.true_or]
theorem rmul_l0 {a b:List (List Int)} (h:both a b=true):∀ (d q i:Nat) (acc:Bool),i+d=a.length →
  outriggerref08_Mul.l0 (q+220+d*(a.length+2)+1) a b ((List.range i).map (fun i=>(List.range a.length).map (fun j=>dv a.length (at2 a i) (fun t=>at2 b t j)))) acc (i:Int)=some (mk a.length fun i=>fun j=>dv a.length (at2 a i) (fun t=>at2 b t j),acc || ((List.range a.length).drop i).any fun i=>(List.range a.length).any (fun j=>db a.length (at2 a i) (fun t=>at2 b t j)))
 | 0,q,i,acc,he=>by
  have hi:i=a.length:=by omega
  subst hi
  rw [outriggerref08_Mul.l0]
  refine no_of (by omega) ?_
  rw [List.drop_of_length_le (by simp),List.any_nil,Bool.or_false];rfl
 | d+1,q,i,acc,he=>by
  have hi:i<a.length:=by omega
  have h6:=(okm_of (both_of h).1).2.1
  have e:q+220+(d+1)*(a.length+2)+1=((q+d*(a.length+2)+1)+220+1+a.length)+1:=by rw [Nat.succ_mul];omega
  rw [e,outriggerref08_Mul.l0]
  refine yes_of (by omega) ?_
  refine(rmul_l1 h hi a.length (q+d*(a.length+2)+1) 0 acc ((List.range i).map (fun i=>(List.range a.length).map (fun j=>dv a.length (at2 a i) (fun t=>at2 b t j)))) (by omega) (by simp;omega)).trans ?_
  rw [w1 i (by omega),show((List.range i).map (fun i=>(List.range a.length).map (fun j=>dv a.length (at2 a i) (fun t=>at2 b t j))))++[(List.range a.length).map (fun j=>dv a.length (at2 a i) (fun t=>at2 b t j))]=(List.range (i+1)).map (fun i=>(List.range a.length).map (fun j=>dv a.length (at2 a i) (fun t=>at2 b t j))) by rw [List.range_succ,List.map_append];rfl]
  rw [show q+d*(a.length+2)+1+220=q+220+d*(a.length+2)+1 by omega]
  refine(rmul_l0 h d q (i+1) _ (by omega)).trans ?_
  rw [List.drop_zero,drop_range_any (b:=fun i=>(List.range a.length).any (fun j=>db a.length (at2 a i) (fun t=>at2 b t j))) hi,Bool.or_assoc]
theorem rmmul_is (a b:List (List Int)) (ha:a.length≤20) (hb:b.length≤20) (k:Nat):outriggerref08_Mul.f (k+280) a b=some (if both a b=true then (mulV a b,mulB a b) else ([],true)):=by
 unfold outriggerref08_Mul.f
 refine bind_of (rboth_is a b ha hb (k+250)) ?_
 by_cases h:both a b=true
 ·rw [if_pos h,if_pos h]
  have h2:=nn_le (okm_of (both_of h).1).2.1
  have e:=rmul_l0 h a.length (k+59-a.length*(a.length+2)) 0 false (by omega)
  rw [show k+59-a.length*(a.length+2)+220+a.length*(a.length+2)+1=k+280 by omega,List.drop_zero,Bool.false_or] at e
  exact e
 ·rw [if_neg h,if_neg h]
theorem known_is (a:List (List Int)) (ha:a.length≤20) (k:Nat):mat_known.f (k+30) a=some (if okm a=true then a else []):=by
 unfold mat_known.f
 refine bind_of (msane_is a ha k) ?_
 by_cases h:okm a=true
 ·rw [if_pos h,if_pos h]
 ·rw [if_neg h,if_neg h]
theorem ras_is (a:List (List Int)) (ha:a.length≤20) (k:Nat):outriggerref08_As.f (k+30) a=some (if okm a=true then a else []):=by
 unfold outriggerref08_As.f
 refine bind_of (rmsane_is a ha k) ?_
 by_cases h:okm a=true
 ·rw [if_pos h,if_pos h]
 ·rw [if_neg h,if_neg h]
def turnV (a:List (List Int)):List (List Int):=mk a.length fun i j=>cl (at2 a j i)
def evV (x y:Int):Int:=mean (cl x+cl y) 2
def evenV (a:List (List Int)):List (List Int):=mk a.length fun i j=>evV (at2 a i j) (at2 a j i)
theorem turned1_is {a:List (List Int)} (h:okm a=true) (i j:Nat) (hi:i<a.length) (hj:j<a.length):mat_matrix_turned.f a (i:Int) (j:Int)=some (cl (at2 a j i),(cl (at2 a j i) != at2 a j i)):=by
 have r:=row_len h hj
 unfold mat_matrix_turned.f
 exact yes_of (by omega) (yes_of (by omega) (yes_of (by omega) (yes_of (by omega) (bind_of (clamp_is _) rfl))))
theorem mturned_is (a:List (List Int)) (ha:a.length≤20) (k:Nat):mat_Turned.f (k+60) a=some (if okm a=true then turnV a else []):=by
 unfold mat_Turned.f
 refine bind_of (known_is a ha (k+30)) ?_
 by_cases h:okm a=true
 ·rw [if_pos h,if_pos h]
  exact bind_of (made_is (okm_of h).2.1 (fun i j hi hj=>turned1_is h i j hi hj) k) rfl
 ·rw [if_neg h,if_neg h]
  exact bind_of (made_is (v:=fun _ _=>0) (b:=fun _ _=>false) (n:=0) (by omega) (fun i j hi _=>absurd hi (by omega)) k) rfl
theorem evm_is (x y:Int) (k:Nat):sum_Mean.f (k+150) [x,y]=some (evV x y,chg [x,y]):=by
 rw [mean_is,if_neg (by simp)]
 show some (mean (cl x+(cl y+0)) 2,_)=_
 rw [Int.add_zero]
 rfl
theorem revm_is (x y:Int) (k:Nat):outriggerref06_Mean.f (k+200) [x,y]=some (evV x y,chg [x,y]):=by
 rw [rmean_is,if_neg (by simp)]
 show some (mean (cl x+(cl y+0)) 2,_)=_
 rw [Int.add_zero]
 rfl
theorem even1_is {a:List (List Int)} (h:okm a=true) (i j:Nat) (hi:i<a.length) (hj:j<a.length) (k:Nat):mat_matrix_even.f (k+150) a (i:Int) (j:Int)=some (evV (at2 a i j) (at2 a j i),chg [at2 a i j,at2 a j i]):=by
 have r:=row_len h hj
 have r2:=row_len h hi
 unfold mat_matrix_even.f
 exact yes_of (by omega) (yes_of (by omega) (yes_of (by omega) (yes_of (by omega) (yes_of (by omega) (yes_of (by omega) (bind_of (evm_is _ _ k) rfl))))))
theorem meven_is (a:List (List Int)) (ha:a.length≤20) (k:Nat):mat_Even.f (k+150) a=some (if okm a=true then evenV a else []):=by
 unfold mat_Even.f
 refine bind_of (known_is a ha (k+120)) ?_
 by_cases h:okm a=true
 ·rw [if_pos h,if_pos h]
  exact bind_of (made_is (okm_of h).2.1 (fun i j hi hj=>even1_is h i j hi hj k) (k+90)) rfl
 ·rw [if_neg h,if_neg h]
  exact bind_of (made_is (v:=fun _ _=>0) (b:=fun _ _=>false) (n:=0) (by omega) (fun i j hi _=>absurd hi (by omega)) (k+90)) rfl
theorem reven_l1 {a:List (List Int)} (h:okm a=true) {i:Nat} (hi:i<a.length):∀ (d q j:Nat) (out:List (List Int)),j+d=a.length→out.length≤6 →
  outriggerref08_Even.l1 (q+200+1+d) a out (i:Int) ((List.range j).map (fun j=>evV (at2 a i j) (at2 a j i))) (j:Int)=outriggerref08_Even.l0 (q+200) a (out++[(List.range a.length).map (fun j=>evV (at2 a i j) (at2 a j i))]) (wrap64 ((i:Int)+1))
 | 0,q,j,out,he,ho=>by
  have hj:j=a.length:=by omega
  subst hj
  rw [Nat.add_zero,outriggerref08_Even.l1]
  refine no_of (by omega) (yes_of (by omega) ?_)
  rfl
 | d+1,q,j,out,he,ho=>by
  have hj:j<a.length:=by omega
  have hs_:=h
  have r1:=row_len hs_ hi
  have r2:=row_len hs_ hj
  have h6:=(okm_of hs_).2.1
  rw [show q+200+1+(d+1)=(q+200+1+d)+1 from rfl,outriggerref08_Even.l1]
  have hd:=revm_is (at2 a i j) (at2 a j i) (q+1+d)
  rw [show q+1+d+200=q+200+1+d by omega] at hd
  refine yes_of (by omega) (yes_of (by omega) (yes_of (by omega) (yes_of (by omega) (yes_of (by omega) (yes_of (by omega) (bind_of hd (yes_of (by simp;omega) ?_)))))))
  have e:(List.range j).map (fun j=>evV (at2 a i j) (at2 a j i))++[evV (at2 a i j) (at2 a j i)]=(List.range (j+1)).map (fun j=>evV (at2 a i j) (at2 a j i)):=by rw [List.range_succ,List.map_append];rfl
  dsimp only
  rw [e,w1 j (by omega)]
  exact reven_l1 h hi d q (j+1) out (by omega) ho
theorem reven_l0 {a:List (List Int)} (h:okm a=true):∀ (d q i:Nat),i+d=a.length →
  outriggerref08_Even.l0 (q+200+d*(a.length+2)+1) a ((List.range i).map (fun i=>(List.range a.length).map (fun j=>evV (at2 a i j) (at2 a j i)))) (i:Int)=some (mk a.length fun i=>fun j=>evV (at2 a i j) (at2 a j i))
 | 0,q,i,he=>by
  have hi:i=a.length:=by omega
  subst hi
  rw [outriggerref08_Even.l0]
  refine no_of (by omega) ?_
  rfl
 | d+1,q,i,he=>by
  have hi:i<a.length:=by omega
  have h6:=(okm_of h).2.1
  have e:q+200+(d+1)*(a.length+2)+1=((q+d*(a.length+2)+1)+200+1+a.length)+1:=by rw [Nat.succ_mul];omega
  rw [e,outriggerref08_Even.l0]
  refine yes_of (by omega) ?_
  refine(reven_l1 h hi a.length (q+d*(a.length+2)+1) 0 ((List.range i).map (fun i=>(List.range a.length).map (fun j=>evV (at2 a i j) (at2 a j i)))) (by omega) (by simp;omega)).trans ?_
  rw [w1 i (by omega),show((List.range i).map (fun i=>(List.range a.length).map (fun j=>evV (at2 a i j) (at2 a j i))))++[(List.range a.length).map (fun j=>evV (at2 a i j) (at2 a j i))]=(List.range (i+1)).map (fun i=>(List.range a.length).map (fun j=>evV (at2 a i j) (at2 a j i))) by rw [List.range_succ,List.map_append];rfl]
  rw [show q+d*(a.length+2)+1+200=q+200+d*(a.length+2)+1 by omega]
  exact reven_l0 h d q (i+1) (by omega)
theorem rmeven_is (a:List (List Int)) (ha:a.length≤20) (k:Nat):outriggerref08_Even.f (k+260) a=some (if okm a=true then evenV a else []):=by
 unfold outriggerref08_Even.f
 refine bind_of (ras_is a ha (k+230)) ?_
 by_cases h:okm a=true
 ·rw [if_pos h,if_pos h]
  have h2:=nn_le (okm_of h).2.1
  have e:=reven_l0 h a.length (k+59-a.length*(a.length+2)) 0 (by omega)
  rw [show k+59-a.length*(a.length+2)+200+a.length*(a.length+2)+1=k+260 by omega] at e
  exact e
 ·rw [if_neg h,if_neg h,show k+260=(k+259)+1 from rfl,outriggerref08_Even.l0]
  exact no_of (by simp) rfl
theorem rAs_is (x:Int):outriggerref01_As.f x=some (cl x):=by
 unfold outriggerref01_As.f
 exact bind_of (rclamp_is x) rfl
theorem rturn_l1 {a:List (List Int)} (r:List Int) (i:Nat) (hr:r.length≤6):∀ (d q j:Nat) (out:List (List Int)),j+d=r.length→out.length≤6 →
  outriggerref08_Turned.l1 (q+1+d) a out (i:Int) ((r.take j).map cl++r.drop j) (j:Int)=outriggerref08_Turned.l0 q a (out++[r.map cl]) (wrap64 ((i:Int)+1))
 | 0,q,j,out,he,ho=>by
  have hj:j=r.length:=by omega
  subst hj
  rw [Nat.add_zero,outriggerref08_Turned.l1]
  refine no_of (by simp) (yes_of (by omega) ?_)
  simp
 | d+1,q,j,out,he,ho=>by
  have hj:j<r.length:=by omega
  rw [show q+1+(d+1)=(q+1+d)+1 from rfl,outriggerref08_Turned.l1]
  have e0:rd ((r.take j).map cl++r.drop j) (j:Int)=r[j]:=by
   show((r.take j).map cl++r.drop j).getD j 0=_
   rw [List.getD_eq_getElem?_getD,List.getElem?_append_right (by simp;omega)]
   simp [List.length_take,Nat.min_eq_left (Nat.le_of_lt hj),List.getElem?_eq_getElem hj]
  have e:((r.take j).map cl++r.drop j).set (j:Int).toNat (cl r[j])=(r.take (j+1)).map cl++r.drop (j+1):=by
   rw [Int.toNat_natCast,List.set_append_right _ _ (by simp;omega),show j-((r.take j).map cl).length=0 by simp;omega,List.drop_eq_getElem_cons hj,List.set_cons_zero,List.take_add_one,List.getElem?_eq_getElem hj,Option.toList_some,List.map_append,List.append_assoc]
   rfl
  refine yes_of (by simp;omega) (yes_of (by omega) ?_)
  rw [e0]
  refine bind_of (rAs_is _) ?_
  rw [e,w1 j (by omega)]
  exact rturn_l1 r i hr d q (j+1) out (by omega) ho
theorem rturn_l0 {a:List (List Int)} (h:okm a=true):∀ (d q i:Nat),i+d=a.length →
  outriggerref08_Turned.l0 (q+30+d*(a.length+2)+1) a ((List.range i).map fun i=>(List.range a.length).map fun j=>cl (at2 a j i)) (i:Int)=some (turnV a)
 | 0,q,i,he=>by
  have hi:i=a.length:=by omega
  subst hi
  rw [outriggerref08_Turned.l0]
  exact no_of (by omega) rfl
 | d+1,q,i,he=>by
  have hi:i<a.length:=by omega
  have h6:=(okm_of h).2.1
  have e:q+30+(d+1)*(a.length+2)+1=((q+d*(a.length+2)+31)+1+a.length)+1:=by rw [Nat.succ_mul];omega
  rw [e,outriggerref08_Turned.l0]
  have hc:=rcol_is h hi (q+d*(a.length+2)+2+a.length)
  rw [show q+d*(a.length+2)+2+a.length+30=q+d*(a.length+2)+31+1+a.length by omega] at hc
  refine yes_of (by omega) (bind_of hc ?_)
  have e1:=rturn_l1 (a:=a) ((List.range a.length).map fun t=>at2 a t i) i (by simp;omega) a.length (q+d*(a.length+2)+31) 0 ((List.range i).map fun i=>(List.range a.length).map fun j=>cl (at2 a j i)) (by simp) (by simp;omega)
  rw [List.take_zero,List.map_nil,List.nil_append,List.drop_zero] at e1
  refine e1.trans ?_
  rw [w1 i (by omega),List.map_map,show((List.range i).map fun i=>(List.range a.length).map fun j=>cl (at2 a j i))++[(List.range a.length).map (cl ∘ fun t=>at2 a t i)]=(List.range (i+1)).map fun i=>(List.range a.length).map fun j=>cl (at2 a j i) by rw [List.range_succ,List.map_append];rfl]
  rw [show q+d*(a.length+2)+31=q+30+d*(a.length+2)+1 by omega]
  exact rturn_l0 h d q (i+1) (by omega)
theorem rmturned_is (a:List (List Int)) (ha:a.length≤20) (k:Nat):outriggerref08_Turned.f (k+90) a=some (if okm a=true then turnV a else []):=by
 unfold outriggerref08_Turned.f
 refine bind_of (ras_is a ha (k+60)) ?_
 by_cases h:okm a=true
 ·rw [if_pos h,if_pos h]
  have h2:=nn_le (okm_of h).2.1
  have e:=rturn_l0 h a.length (k+59-a.length*(a.length+2)) 0 (by omega)
  rw [show k+59-a.length*(a.length+2)+30+a.length*(a.length+2)+1=k+90 by omega] at e
  exact e
 ·rw [if_neg h,if_neg h,show k+90=(k+89)+1 from rfl,outriggerref08_Turned.l0]
  exact no_of (by simp) rfl
def oneV (n:Nat):List (List Int):=mk n fun i j=>if i=j then 4294967296 else 0
theorem one1_is (i j:Nat):mat_One_1.f (i:Int) (j:Int)=some (if i=j then 4294967296 else 0,false):=by
 unfold mat_One_1.f
 by_cases h:i=j
 ·rw [if_pos h];exact yes_of (by omega) rfl
 ·rw [if_neg h];exact no_of (by omega) rfl
theorem mone_is (n:Int) (k:Nat):mat_One.f (k+60) n=some (if 1≤n∧n≤6 then oneV n.toNat else []):=by
 unfold mat_One.f
 by_cases h1:n<1
 ·rw [if_neg (show ¬(1≤n∧n≤6) by omega)];exact yes_of h1 rfl
 ·refine no_of h1 ?_
  by_cases h2:n > 6
  ·rw [if_neg (show ¬(1≤n∧n≤6) by omega)];exact yes_of h2 rfl
  ·rw [if_pos (show 1≤n∧n≤6 by omega)]
   obtain⟨m,rfl⟩:=Int.eq_ofNat_of_zero_le (show 0≤n by omega)
   rw [Int.toNat_natCast]
   exact no_of h2 (bind_of (made_is (v:=fun i j=>if i=j then 4294967296 else 0) (b:=fun _ _=>false) (n:=m) (by omega) (fun i j _ _=>one1_is i j) k) rfl)
theorem one_row (n i:Nat) (hi:i<n):(List.replicate n (0:Int)).set i 4294967296=(List.range n).map fun j=>if i=j then 4294967296 else 0:=by
 apply List.ext_getElem
 ·simp
 ·intro j h1 h2
  simp only [List.getElem_set,List.getElem_map,List.getElem_range,List.getElem_replicate]
theorem rone_l0 (n:Nat) (hn:n≤6):∀ (d q i:Nat),i+d=n →
  outriggerref08_One.l0 (q+d+1) (n:Int) ((List.range i).map fun i=>(List.range n).map fun j=>if i=j then 4294967296 else 0) (i:Int)=some (oneV n)
 | 0,q,i,he=>by
  have hi:i=n:=by omega
  subst hi
  rw [outriggerref08_One.l0]
  exact no_of (by omega) rfl
 | d+1,q,i,he=>by
  have hi:i<n:=by omega
  rw [show q+(d+1)+1=(q+d+1)+1 from rfl,outriggerref08_One.l0]
  refine yes_of (by omega) (yes_of (by omega) (yes_of (by omega) (bind_of rfl (yes_of (by omega) (yes_of (by simp;omega) (yes_of (by simp;omega) ?_))))))
  rw [Int.toNat_natCast,Int.toNat_natCast,one_row n i hi,w1 i (by omega),show((List.range i).map fun i=>(List.range n).map fun j=>if i=j then (4294967296:Int) else 0)++[(List.range n).map fun j=>if i=j then 4294967296 else 0]=(List.range (i+1)).map fun i=>(List.range n).map fun j=>if i=j then 4294967296 else 0 by rw [List.range_succ,List.map_append];rfl]
  exact rone_l0 n hn d q (i+1) (by omega)
theorem rmone_is (n:Int) (k:Nat):outriggerref08_One.f (k+60) n=some (if 1≤n∧n≤6 then oneV n.toNat else []):=by
 unfold outriggerref08_One.f
 by_cases h1:n<1
 ·rw [if_neg (show ¬(1≤n∧n≤6) by omega),show k+60=(k+59)+1 from rfl,outriggerref08_One.j0];exact yes_of h1 (yes_of rfl rfl)
 ·refine no_of h1 ?_
  by_cases h2:n > 6
  ·rw [if_neg (show ¬(1≤n∧n≤6) by omega),show k+60=(k+59)+1 from rfl,outriggerref08_One.j0];exact yes_of (decide_eq_true h2) rfl
  ·rw [if_pos (show 1≤n∧n≤6 by omega)]
   obtain⟨m,rfl⟩:=Int.eq_ofNat_of_zero_le (show 0≤n by omega)
   rw [Int.toNat_natCast,show k+60=(k+59)+1 from rfl,outriggerref08_One.j0]
   have e:=rone_l0 m (by omega) m (k+58-m) 0 (by omega)
   rw [show k+58-m+m+1=k+59 by omega] at e
   exact no_of (by simp;omega) e
def appV (a:List (List Int)) (v:List Int):List Int:=(List.range a.length).map fun i=>dv a.length (at2 a i) (fun t=>rd v (t:Int))
def appB (a:List (List Int)) (v:List Int):Bool:=(List.range a.length).any fun i=>db a.length (at2 a i) (fun t=>rd v (t:Int))
theorem app_l0 {a:List (List Int)} (h:okm a=true) {v:List Int} (hv:v.length=a.length):∀ (d q i:Nat) (acc:Bool),i+d=a.length →
  mat_Apply.l0 (q+81+d) v ((List.range i).map (fun i=>dv a.length (at2 a i) (fun t=>rd v (t:Int)))++List.replicate d 0) acc a (a.length:Int) (i:Int)=some (appV a v,acc || ((List.range a.length).drop i).any fun i=>db a.length (at2 a i) (fun t=>rd v (t:Int)))
 | 0,q,i,acc,he=>by
  have hi:i=a.length:=by omega
  subst hi
  rw [show q+81+0=(q+80)+1 from rfl,mat_Apply.l0]
  refine no_of (by omega) ?_
  rw [List.drop_of_length_le (by simp),List.any_nil,Bool.or_false,List.replicate_zero,List.append_nil]
  rfl
 | d+1,q,i,acc,he=>by
  have hi:i<a.length:=by omega
  have h6:=(okm_of h).2.1
  rw [show q+81+(d+1)=(q+81+d)+1 from rfl,mat_Apply.l0]
  have hd:=dot_map a.length h6 (at2 a i) (fun t=>rd v (t:Int)) (q+1+d)
  rw [show q+1+d+80=q+81+d by omega,←list_mk v a.length hv,←row_map h hi] at hd
  refine yes_of (by omega) (yes_of (by omega) (yes_of (by omega) (bind_of hd (yes_of (by simp;omega) (bind_of rfl ?_)))))
  have e:((List.range i).map (fun i=>dv a.length (at2 a i) (fun t=>rd v (t:Int)))++List.replicate (d+1) (0:Int)).set (i:Int).toNat (dv a.length (at2 a i) (fun t=>rd v (t:Int)))=(List.range (i+1)).map (fun i=>dv a.length (at2 a i) (fun t=>rd v (t:Int)))++List.replicate d 0:=by
   rw [Int.toNat_natCast,List.set_append_right _ _ (by simp),List.replicate_succ]
   simp [List.range_succ]
  dsimp only
  rw [e,w1 i (by omega),drop_range_any hi]
  cases acc
  ·refine no_of (by simp) ((app_l0 h hv d q (i+1) _ (by omega)).trans ?_)
   rw [Bool.false_or]
  ·refine yes_of rfl ((app_l0 h hv d q (i+1) _ (by omega)).trans ?_)
   rw [Bool.true_or,Bool.true_or]
theorem mapply_is (a:List (List Int)) (ha:a.length≤20) (v:List Int) (k:Nat):mat_Apply.f (k+100) a v=some (if okm a=true∧v.length=a.length then (appV a v,appB a v) else ([],true)):=by
 unfold mat_Apply.f
 refine bind_of (msane_is a ha (k+70)) ?_
 by_cases h:okm a=true
 ·refine yes_of h ?_
  rw [show k+100=(k+99)+1 from rfl,mat_Apply.j0]
  by_cases hv:v.length=a.length
  ·rw [if_pos (show okm a=true∧v.length=a.length from ⟨h,hv⟩)]
   have h6:=(okm_of h).2.1
   refine no_of (by simp;omega) (yes_of (by omega) (yes_of (by omega) ?_))
   have e:=app_l0 h hv a.length (k+18-a.length) 0 false (by omega)
   rw [show k+18-a.length+81+a.length=k+99 by omega,List.drop_zero,Bool.false_or,List.range_zero,List.map_nil,List.nil_append] at e
   rw [Int.toNat_natCast,hv]
   exact e
  ·rw [if_neg (show ¬(okm a=true∧v.length=a.length) from fun c=>hv c.2)]
   exact yes_of (by simp;omega) rfl
 ·refine no_of h ?_
  rw [show k+100=(k+99)+1 from rfl,mat_Apply.j0,if_neg (show ¬(okm a=true∧v.length=a.length) from fun c=>h c.1)]
  exact yes_of rfl rfl
theorem rapp_l0 {a:List (List Int)} (h:okm a=true) {v:List Int} (hv:v.length=a.length):∀ (d q i:Nat) (acc:Bool),i+d=a.length →
  outriggerref08_Apply.l0 (q+221+d) a v ((List.range i).map (fun i=>dv a.length (at2 a i) (fun t=>rd v (t:Int)))) acc (i:Int)=some (appV a v,acc || ((List.range a.length).drop i).any fun i=>db a.length (at2 a i) (fun t=>rd v (t:Int)))
 | 0,q,i,acc,he=>by
  have hi:i=a.length:=by omega
  subst hi
  rw [show q+221+0=(q+220)+1 from rfl,outriggerref08_Apply.l0]
  refine no_of (by omega) ?_
  rw [List.drop_of_length_le (by simp),List.any_nil,Bool.or_false]
  rfl
 | d+1,q,i,acc,he=>by
  have hi:i<a.length:=by omega
  have h6:=(okm_of h).2.1
  rw [show q+221+(d+1)=(q+221+d)+1 from rfl,outriggerref08_Apply.l0]
  have hd:=rdot_map a.length h6 (at2 a i) (fun t=>rd v (t:Int)) (q+1+d)
  rw [show q+1+d+220=q+221+d by omega,←list_mk v a.length hv,←row_map h hi] at hd
  refine yes_of (by omega) (yes_of (by omega) (bind_of hd (yes_of (by simp;omega) (bind_of rfl ?_))))
  dsimp only
  rw [show(List.range i).map (fun i=>dv a.length (at2 a i) (fun t=>rd v (t:Int)))++[dv a.length (at2 a i) (fun t=>rd v (t:Int))]=(List.range (i+1)).map (fun i=>dv a.length (at2 a i) (fun t=>rd v (t:Int))) by rw [List.range_succ,List.map_append];rfl,w1 i (by omega),drop_range_any hi]
  cases acc
  ·refine no_of (by simp) ((rapp_l0 h hv d q (i+1) _ (by omega)).trans ?_)
   rw [Bool.false_or]
  ·refine yes_of rfl ((rapp_l0 h hv d q (i+1) _ (by omega)).trans ?_)
   rw [Bool.true_or,Bool.true_or]
theorem rmapply_is (a:List (List Int)) (ha:a.length≤20) (v:List Int) (k:Nat):outriggerref08_Apply.f (k+240) a v=some (if okm a=true∧v.length=a.length then (appV a v,appB a v) else ([],true)):=by
 unfold outriggerref08_Apply.f
 refine bind_of (rmsane_is a ha (k+210)) ?_
 by_cases h:okm a=true
 ·refine yes_of h ?_
  rw [show k+240=(k+239)+1 from rfl,outriggerref08_Apply.j0]
  by_cases hv:v.length=a.length
  ·rw [if_pos (show okm a=true∧v.length=a.length from ⟨h,hv⟩)]
   have h6:=(okm_of h).2.1
   refine no_of (by simp;omega) ?_
   have e:=rapp_l0 h hv a.length (k+18-a.length) 0 false (by omega)
   rw [show k+18-a.length+221+a.length=k+239 by omega,List.drop_zero,Bool.false_or,List.range_zero,List.map_nil] at e
   exact e
  ·rw [if_neg (show ¬(okm a=true∧v.length=a.length) from fun c=>hv c.2)]
   exact yes_of (by simp;omega) rfl
 ·refine no_of h ?_
  rw [show k+240=(k+239)+1 from rfl,outriggerref08_Apply.j0,if_neg (show ¬(okm a=true∧v.length=a.length) from fun c=>h c.1)]
  exact yes_of rfl rfl
theorem few_loop (l:List (List Int)) (hl:l.length≤maxLen):∀ (d q i:Nat),i+d=l.length →
  outriggerref08_Few.l0 (q+d+1) l (i:Int)=some ((l.drop i).all (fun r=>decide (r.length≤20)) && decide (l.length≤20))
 | 0,q,i,he=>by
  rw [List.drop_of_length_le (by omega),outriggerref08_Few.l0]
  refine no_of (by omega) ?_
  rw [List.all_nil,Bool.true_and]
  congr 1
  rw [Bool.eq_iff_iff]
  simp only [decide_eq_true_eq]
  omega
 | d+1,q,i,he=>by
  have hi:i<l.length:=by omega
  have hm:(maxLen:Nat)≤9223372036854775807:=by decide
  rw [show q+(d+1)+1=(q+d+1)+1 from rfl,outriggerref08_Few.l0,mrow l i hi,List.all_cons]
  refine yes_of (by omega) (yes_of (by omega) ?_)
  by_cases h:((rd_L1 l (i:Int)).length:Int) > 20
  ·refine yes_of h ?_
   rw [decide_eq_false (show ¬(rd_L1 l (i:Int)).length≤20 by omega)]
   rfl
  ·refine no_of h ?_
   rw [w64 (n:=(i:Int)+1) (by omega) (by omega),show(i:Int)+1=((i+1:Nat):Int) from rfl,few_loop l hl d q (i+1) (by omega),decide_eq_true (show(rd_L1 l (i:Int)).length≤20 by omega),Bool.true_and]
def few (l:List (List Int)):Bool:=l.all (fun r=>decide (r.length≤20)) && decide (l.length≤20)
theorem few_is (l:List (List Int)) (hl:l.length≤maxLen) (k:Nat):outriggerref08_Few.f (k+l.length+1) l=some (few l):=by
 unfold outriggerref08_Few.f
 have h:=few_loop l hl l.length k 0 (by omega)
 rw [List.drop_zero] at h
 exact h
theorem few_len {l:List (List Int)} (h:few l=true):l.length≤20:=by
 unfold few at h
 simp only [Bool.and_eq_true,decide_eq_true_eq] at h
 exact h.2
theorem pair_same {a:List (List Int)} {c:Bool} (h:c=true→a.length≤6) (v:Nat→Nat→Int) (z:Bool) (k:Nat):outriggerref08_Same.f (k+60) (if c=true then (mk a.length v,z) else ([],true)).1 (if c=true then (mk a.length v,z) else ([],true)).1=some true:=by
 by_cases hc:c=true
 ·rw [if_pos hc]
  exact same_mk (h hc) v k
 ·rw [if_neg hc]
  exact same_nil k
theorem both6 {a b:List (List Int)} (h:both a b=true):a.length≤6:=(okm_of (both_of h).1).2.1
theorem ok6 {a:List (List Int)} (h:okm a=true):a.length≤6:=(okm_of h).2.1
theorem if_same {a:List (List Int)} {c:Bool} (h:c=true→a.length≤6) (v:Nat→Nat→Int) (k:Nat):outriggerref08_Same.f (k+60) (if c=true then mk a.length v else []) (if c=true then mk a.length v else [])=some true:=by
 by_cases hc:c=true
 ·rw [if_pos hc]
  exact same_mk (h hc) v k
 ·rw [if_neg hc]
  exact same_nil k
def T (a:List (List Int)):List (List Int):=if okm a=true then turnV a else []
end Go.Proofs.Ytembdogffbcjiaa.Mat
