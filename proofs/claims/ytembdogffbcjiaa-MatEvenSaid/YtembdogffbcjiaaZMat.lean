/- Lemmas that the row leans on; laid by a program of this project out of longer texts: what the row does not name is left out. -/
import Derived.Test.YtembdogffbcjiaaZNum
import Derived.Test.YtembdogffbcjiaaZWide
import Derived.Test.YtembdogffbcjiaaZSum
import Derived.Test.YtembdogffbcjiaaZRwide
import Derived.Test.YtembdogffbcjiaaZRsum
import Derived.Test.YtembdogffbcjiaaZB2
import Derived.Test.YtembdogffbcjiaaZB3
import Derived.Test.YtembdogffbcjiaaZB4
import Derived.Test.YtembdogffbcjiaaZB5
import Derived.Test.YtembdogffbcjiaaZB6
import Derived.Test.YtembdogffbcjiaaZB7
import Derived.Test.YtembdogffbcjiaaZB8
import Derived.Test.YtembdogffbcjiaaZB9
import Derived.Test.YtembdogffbcjiaaZB10
import Derived.Test.YtembdogffbcjiaaZB11
import Derived.Test.YtembdogffbcjiaaZB12
import Derived.Test.YtembdogffbcjiaaZB13
import Derived.Test.YtembdogffbcjiaaZB14
import Derived.Test.YtembdogffbcjiaaZB15
import Derived.Test.YtembdogffbcjiaaZB16
import Derived.Test.YtembdogffbcjiaaZB17
namespace Go.Proofs.Ytembdogffbcjiaa.Mat
open Go Go.RowKit Go.Proofs.Ytembdogffbcjiaa.B Go.Proofs.Ytembdogffbcjiaa.Rwide Go.Proofs.Ytembdogffbcjiaa.Rsum Go.Proofs.Ytembdogffbcjiaa.Num Go.Proofs.Ytembdogffbcjiaa.Wide Go.Proofs.Ytembdogffbcjiaa.Sum Go.Proofs.YtembdogffbcjiaaW.PrintWords Go.Proofs.YtembdogffbcjiaaW.PrintLast Go.Proofs.YtembdogffbcjiaaW.PrintMore
def mk (n:Nat) (v:Nat→Nat→Int):List (List Int):=(List.range n).map fun i=>(List.range n).map (v i)
def any2 (n:Nat) (b:Nat→Nat→Bool):Bool:=(List.range n).any fun i=>(List.range n).any (b i)
def at2 (l:List (List Int)) (i j:Nat):Int:=rd (rd_L1 l (i:Int)) (j:Int)
def okm (l:List (List Int)):Bool:=l.all (fun r=>r.length == l.length) && (decide (0<l.length) && decide (l.length≤6))
theorem okm_of {l:List (List Int)} (h:okm l=true):0<l.length∧l.length≤6∧∀ r ∈ l,r.length=l.length:=by
 unfold okm at h
 simp only [Bool.and_eq_true,decide_eq_true_eq,List.all_eq_true,beq_iff_eq] at h
 exact⟨h.2.1,h.2.2,h.1⟩
theorem rd_row {l:List (List Int)} {i:Nat} (h:i<l.length):rd_L1 l (i:Int)=l[i]:=by
 show l.getD i []=l[i]
 rw [List.getD_eq_getElem?_getD,List.getElem?_eq_getElem h];rfl
theorem rd_at {l:List Int} {i:Nat} (h:i<l.length):rd l (i:Int)=l[i]:=by
 show l.getD i 0=l[i]
 rw [List.getD_eq_getElem?_getD,List.getElem?_eq_getElem h];rfl
theorem row_len {l:List (List Int)} (h:okm l=true) {i:Nat} (hi:i<l.length):(rd_L1 l (i:Int)).length=l.length:=by
 rw [rd_row hi]
 exact(okm_of h).2.2 _ (List.getElem_mem hi)
theorem mrow (l:List (List Int)) (i:Nat) (h:i<l.length):l.drop i=rd_L1 l (i:Int) :: l.drop (i+1):=by
 rw [List.drop_eq_getElem_cons h,rd_row h]
theorem mk_len (n:Nat) (v:Nat→Nat→Int):(mk n v).length=n:=by simp [mk]
theorem mk_row {n:Nat} {v:Nat→Nat→Int} {i:Nat} (h:i<n):rd_L1 (mk n v) (i:Int)=(List.range n).map (v i):=by
 rw [rd_row (by rw [mk_len];exact h)]
 simp [mk]
theorem mk_at {n:Nat} {v:Nat→Nat→Int} {i j:Nat} (h:i<n) (g:j<n):at2 (mk n v) i j=v i j:=by
 unfold at2
 rw [mk_row h,rd_at (by simpa using g)]
 simp
theorem mk_okm {n:Nat} {v:Nat→Nat→Int} (h0:0<n) (h:n≤6):okm (mk n v)=true:=by
 unfold okm
 rw [mk_len]
 simp only [Bool.and_eq_true,decide_eq_true_eq,List.all_eq_true,beq_iff_eq]
 refine⟨fun r hr=>?_,h0,h⟩
 obtain⟨i,_,rfl⟩:=List.mem_map.1 hr
 simp
theorem mk_congr {n:Nat} {v u:Nat→Nat→Int} (h:∀ i j,i<n→j<n→v i j=u i j):mk n v=mk n u:=by
 unfold mk
 apply List.map_congr_left
 intro i hi
 apply List.map_congr_left
 intro j hj
 exact h i j (List.mem_range.1 hi) (List.mem_range.1 hj)
theorem msane_loop (l:List (List Int)) (hl:l.length≤1000):∀ (d q i:Nat),i+d=l.length →
  mat_Sane.l0 (q+d+1) l l (l.length:Int) (i:Int)=some ((l.drop i).all (fun r=>r.length == l.length) && (decide (0<l.length) && decide (l.length≤6)))
 | 0,q,i,he=>by
  rw [List.drop_of_length_le (by omega),mat_Sane.l0]
  refine no_of (by omega) ?_
  by_cases h:0<l.length
  ·refine yes_of (by omega) ?_
   congr 1
   rw [List.all_nil,Bool.true_and,decide_eq_true h,Bool.true_and,Bool.eq_iff_iff]
   simp only [decide_eq_true_eq]
   omega
  ·refine no_of (by omega) ?_
   rw [decide_eq_false h]
   simp
 | d+1,q,i,he=>by
  have hi:i<l.length:=by omega
  rw [show q+(d+1)+1=(q+d+1)+1 from rfl,mat_Sane.l0,mrow l i hi,List.all_cons]
  refine yes_of (by omega) (yes_of (by omega) (yes_of (by omega) ?_))
  by_cases h:((rd_L1 l (i:Int)).length:Int)=(l.length:Int)
  ·refine yes_of h ?_
   rw [w1 i (by omega),msane_loop l hl d q (i+1) (by omega),show((rd_L1 l (i:Int)).length == l.length)=true by rw [beq_iff_eq];omega,Bool.true_and]
  ·refine no_of h ?_
   rw [show((rd_L1 l (i:Int)).length == l.length)=false by rw [beq_eq_false_iff_ne];omega]
   rfl
theorem msane_is (l:List (List Int)) (hl:l.length≤20) (k:Nat):mat_Sane.f (k+30) l=some (okm l):=by
 unfold mat_Sane.f
 have h:=msane_loop l (by omega) l.length (k+29-l.length) 0 (by omega)
 rw [show k+29-l.length+l.length+1=k+30 by omega,List.drop_zero] at h
 exact h
theorem drop_range_any {n j:Nat} {b:Nat→Bool} (h:j<n):((List.range n).drop j).any b=(b j || ((List.range n).drop (j+1)).any b):=by
 rw [List.drop_eq_getElem_cons (by simpa using h),List.any_cons,List.getElem_range]
theorem made_l1 {F:Int→Int→Option (Int × Bool)} {v:Nat→Nat→Int} {b:Nat→Nat→Bool} {n i:Nat} (hn:n≤6) (hF:∀ j,j<n→F (i:Int) (j:Int)=some (v i j,b i j)):∀ (d q j:Nat) (acc:Bool) (out:List (List Int)),j+d=n→out.length≤6 →
  mat_made.l1 F (q+1+d) (n:Int) out acc (i:Int) ((List.range j).map (v i)++List.replicate d 0) (n:Int) (i:Int) (n:Int) (j:Int)=mat_made.l0 F q (n:Int) (out++[(List.range n).map (v i)]) (acc || ((List.range n).drop j).any (b i)) (n:Int) (wrap64 ((i:Int)+1))
 | 0,q,j,acc,out,he,ho=>by
  have hj:j=n:=by omega
  subst hj
  rw [Nat.add_zero,mat_made.l1]
  refine no_of (by omega) (yes_of (by omega) ?_)
  rw [List.drop_of_length_le (by simp),List.any_nil,Bool.or_false,List.replicate_zero,List.append_nil]
 | d+1,q,j,acc,out,he,ho=>by
  rw [show q+1+(d+1)=(q+1+d)+1 from rfl,mat_made.l1]
  refine yes_of (by omega) (bind_of (hF j (by omega)) (yes_of (by omega) (yes_of (by simp;omega) (bind_of rfl ?_))))
  have e:((List.range j).map (v i)++List.replicate (d+1) (0:Int)).set (j:Int).toNat (v i j)=(List.range (j+1)).map (v i)++List.replicate d 0:=by
   rw [Int.toNat_natCast,List.set_append_right _ _ (by simp),List.replicate_succ]
   simp [List.range_succ]
  dsimp only
  rw [e,w1 j (by omega),drop_range_any (by omega)]
  cases acc
  ·refine no_of (by simp) ((made_l1 hn hF d q (j+1) _ out (by omega) ho).trans ?_)
   rw [Bool.false_or]
  ·refine yes_of rfl ((made_l1 hn hF d q (j+1) _ out (by omega) ho).trans ?_)
   rw [Bool.true_or,Bool.true_or]
theorem made_l0 {F:Int→Int→Option (Int × Bool)} {v:Nat→Nat→Int} {b:Nat→Nat→Bool} {n:Nat} (hn:n≤6) (hF:∀ i j:Nat,i<n→j<n→F (i:Int) (j:Int)=some (v i j,b i j)):∀ (d q i:Nat) (acc:Bool),i+d=n →
  mat_made.l0 F (q+d*(n+2)+1) (n:Int) ((List.range i).map fun i=>(List.range n).map (v i)) acc (n:Int) (i:Int)=some (mk n v,acc || ((List.range n).drop i).any fun i=>(List.range n).any (b i))
 | 0,q,i,acc,he=>by
  have hi:i=n:=by omega
  subst hi
  rw [mat_made.l0]
  refine no_of (by omega) ?_
  rw [List.drop_of_length_le (by simp),List.any_nil,Bool.or_false]
  rfl
 | d+1,q,i,acc,he=>by
  have e:q+(d+1)*(n+2)+1=(q+d*(n+2)+1+1+n)+1:=by rw [Nat.succ_mul];omega
  rw [e,mat_made.l0]
  refine yes_of (by omega) (yes_of (by omega) (yes_of (by omega) (bind_of rfl ?_)))
  have h:=made_l1 (v:=v) (b:=b) hn (fun j hj=>hF i j (by omega) hj) n (q+d*(n+2)+1) 0 acc ((List.range i).map fun i=>(List.range n).map (v i)) (by omega) (by simp;omega)
  rw [List.range_zero,List.map_nil,List.nil_append,List.drop_zero] at h
  rw [Int.toNat_natCast,List.length_replicate]
  refine h.trans ?_
  rw [w1 i (by omega),show((List.range i).map fun i=>(List.range n).map (v i))++[(List.range n).map (v i)]=(List.range (i+1)).map fun i=>(List.range n).map (v i) by rw [List.range_succ,List.map_append];rfl]
  refine(made_l0 hn hF d q (i+1) _ (by omega)).trans ?_
  rw [drop_range_any (b:=fun i=>(List.range n).any (b i)) (show i<n by omega),Bool.or_assoc]
theorem nn_le {n:Nat} (hn:n≤6):n*(n+2)≤48:=Nat.mul_le_mul hn (show n+2≤8 by omega)
theorem made_is {F:Int→Int→Option (Int × Bool)} {v:Nat→Nat→Int} {b:Nat→Nat→Bool} {n:Nat} (hn:n≤6) (hF:∀ i j:Nat,i<n→j<n→F (i:Int) (j:Int)=some (v i j,b i j)) (k:Nat):mat_made.f F (k+60) (n:Int)=some (mk n v,any2 n b):=by
 have h:=made_l0 hn hF n (k+59-n*(n+2)) 0 false (by omega)
 have h2:=nn_le hn
 rw [show k+59-n*(n+2)+n*(n+2)+1=k+60 by omega] at h
 unfold mat_made.f
 refine Eq.trans ?_ (h.trans ?_)
 ·rfl
 ·rw [List.drop_zero,Bool.false_or];rfl
theorem rints_loop (l:List Int) (hl:l.length≤1000):∀ (d q i:Nat),i+d=l.length→outriggerref08_Ints.l0 (q+d+1) l l (i:Int)=some true
 | 0,q,i,he=>by
  rw [outriggerref08_Ints.l0]
  exact no_of (by omega) rfl
 | d+1,q,i,he=>by
  rw [show q+(d+1)+1=(q+d+1)+1 from rfl,outriggerref08_Ints.l0]
  refine yes_of (by omega) (yes_of (by omega) (yes_of (by omega) (yes_of rfl ?_)))
  rw [w1 i (by omega)]
  exact rints_loop l hl d q (i+1) (by omega)
theorem ints_refl (l:List Int) (hl:l.length≤20) (k:Nat):outriggerref08_Ints.f (k+30) l l=some true:=by
 unfold outriggerref08_Ints.f
 refine yes_of rfl ?_
 have h:=rints_loop l (by omega) l.length (k+29-l.length) 0 (by omega)
 rw [show k+29-l.length+l.length+1=k+30 by omega] at h
 exact h
theorem rsame_loop (l:List (List Int)) (hl:l.length≤20) (hr:∀ r ∈ l,r.length≤20):∀ (d q i:Nat),i+d=l.length→outriggerref08_Same.l0 (q+31+d) l l (i:Int)=some true
 | 0,q,i,he=>by
  rw [show q+31+0=(q+30)+1 from rfl,outriggerref08_Same.l0]
  exact no_of (by omega) rfl
 | d+1,q,i,he=>by
  have hi:i<l.length:=by omega
  rw [show q+31+(d+1)=(q+31+d)+1 from rfl,outriggerref08_Same.l0]
  refine yes_of (by omega) (yes_of (by omega) (yes_of (by omega) (bind_of ?_ (yes_of rfl ?_))))
  ·rw [show q+31+d=(q+1+d)+30 by omega,rd_row hi]
   exact ints_refl _ (hr _ (List.getElem_mem hi)) _
  ·rw [w1 i (by omega)]
   exact rsame_loop l hl hr d q (i+1) (by omega)
theorem same_refl (l:List (List Int)) (hl:l.length≤20) (hr:∀ r ∈ l,r.length≤20) (k:Nat):outriggerref08_Same.f (k+60) l l=some true:=by
 unfold outriggerref08_Same.f
 refine yes_of rfl ?_
 have h:=rsame_loop l hl hr l.length (k+29-l.length) 0 (by omega)
 rw [show k+29-l.length+31+l.length=k+60 by omega] at h
 exact h
theorem same_mk {n:Nat} (hn:n≤6) (v:Nat→Nat→Int) (k:Nat):outriggerref08_Same.f (k+60) (mk n v) (mk n v)=some true:=by
 refine same_refl _ (by rw [mk_len];omega) ?_ k
 intro r hr
 obtain⟨i,_,rfl⟩:=List.mem_map.1 hr
 simp;omega
theorem same_nil (k:Nat):outriggerref08_Same.f (k+60) [] []=some true:=same_refl [] (by simp) (by simp) k
theorem known_is (a:List (List Int)) (ha:a.length≤20) (k:Nat):mat_known.f (k+30) a=some (if okm a=true then a else []):=by
 unfold mat_known.f
 refine bind_of (msane_is a ha k) ?_
 by_cases h:okm a=true
 ·rw [if_pos h,if_pos h]
 ·rw [if_neg h,if_neg h]
def turnV (a:List (List Int)):List (List Int):=mk a.length fun i j=>cl (at2 a j i)
def evV (x y:Int):Int:=mean (cl x+cl y) 2
def evenV (a:List (List Int)):List (List Int):=mk a.length fun i j=>evV (at2 a i j) (at2 a j i)
theorem turned1_is {a:List (List Int)} (h:okm a=true) (i j:Nat) (hi:i<a.length) (hj:j<a.length):mat_matrix_turned.f a (i:Int) (j:Int)=some (cl (at2 a j i),(cl (at2 a j i) != at2 a j i)):=by
 have r:=row_len h hj
 unfold mat_matrix_turned.f
 exact yes_of (by omega) (yes_of (by omega) (yes_of (by omega) (yes_of (by omega) (bind_of (clamp_is _) rfl))))
theorem mturned_is (a:List (List Int)) (ha:a.length≤20) (k:Nat):mat_Turned.f (k+60) a=some (if okm a=true then turnV a else []):=by
 unfold mat_Turned.f
 refine bind_of (known_is a ha (k+30)) ?_
 by_cases h:okm a=true
 ·rw [if_pos h,if_pos h]
  exact bind_of (made_is (okm_of h).2.1 (fun i j hi hj=>turned1_is h i j hi hj) k) rfl
 ·rw [if_neg h,if_neg h]
  exact bind_of (made_is (v:=fun _ _=>0) (b:=fun _ _=>false) (n:=0) (by omega) (fun i j hi _=>absurd hi (by omega)) k) rfl
theorem evm_is (x y:Int) (k:Nat):sum_Mean.f (k+150) [x,y]=some (evV x y,chg [x,y]):=by
 rw [mean_is,if_neg (by simp)]
 show some (mean (cl x+(cl y+0)) 2,_)=_
 rw [Int.add_zero]
 rfl
theorem even1_is {a:List (List Int)} (h:okm a=true) (i j:Nat) (hi:i<a.length) (hj:j<a.length) (k:Nat):mat_matrix_even.f (k+150) a (i:Int) (j:Int)=some (evV (at2 a i j) (at2 a j i),chg [at2 a i j,at2 a j i]):=by
 have r:=row_len h hj
 have r2:=row_len h hi
 unfold mat_matrix_even.f
 exact yes_of (by omega) (yes_of (by omega) (yes_of (by omega) (yes_of (by omega) (yes_of (by omega) (yes_of (by omega) (bind_of (evm_is _ _ k) rfl))))))
theorem meven_is (a:List (List Int)) (ha:a.length≤20) (k:Nat):mat_Even.f (k+150) a=some (if okm a=true then evenV a else []):=by
 unfold mat_Even.f
 refine bind_of (known_is a ha (k+120)) ?_
 by_cases h:okm a=true
 ·rw [if_pos h,if_pos h]
  exact bind_of (made_is (okm_of h).2.1 (fun i j hi hj=>even1_is h i j hi hj k) (k+90)) rfl
 ·rw [if_neg h,if_neg h]
  exact bind_of (made_is (v:=fun _ _=>0) (b:=fun _ _=>false) (n:=0) (by omega) (fun i j hi _=>absurd hi (by omega)) (k+90)) rfl
theorem few_loop (l:List (List Int)) (hl:l.length≤maxLen):∀ (d q i:Nat),i+d=l.length →
  outriggerref08_Few.l0 (q+d+1) l (i:Int)=some ((l.drop i).all (fun r=>decide (r.length≤20)) && decide (l.length≤20))
 | 0,q,i,he=>by
  rw [List.drop_of_length_le (by omega),outriggerref08_Few.l0]
  refine no_of (by omega) ?_
  rw [List.all_nil,Bool.true_and]
  congr 1
  rw [Bool.eq_iff_iff]
  simp only [decide_eq_true_eq]
  omega
 | d+1,q,i,he=>by
  have hi:i<l.length:=by omega
  have hm:(maxLen:Nat)≤9223372036854775807:=by decide
  rw [show q+(d+1)+1=(q+d+1)+1 from rfl,outriggerref08_Few.l0,mrow l i hi,List.all_cons]
  refine yes_of (by omega) (yes_of (by omega) ?_)
  by_cases h:((rd_L1 l (i:Int)).length:Int) > 20
  ·refine yes_of h ?_
   rw [decide_eq_false (show ¬(rd_L1 l (i:Int)).length≤20 by omega)]
   rfl
  ·refine no_of h ?_
   rw [w64 (n:=(i:Int)+1) (by omega) (by omega),show(i:Int)+1=((i+1:Nat):Int) from rfl,few_loop l hl d q (i+1) (by omega),decide_eq_true (show(rd_L1 l (i:Int)).length≤20 by omega),Bool.true_and]
def few (l:List (List Int)):Bool:=l.all (fun r=>decide (r.length≤20)) && decide (l.length≤20)
theorem few_is (l:List (List Int)) (hl:l.length≤maxLen) (k:Nat):outriggerref08_Few.f (k+l.length+1) l=some (few l):=by
 unfold outriggerref08_Few.f
 have h:=few_loop l hl l.length k 0 (by omega)
 rw [List.drop_zero] at h
 exact h
theorem few_len {l:List (List Int)} (h:few l=true):l.length≤20:=by
 unfold few at h
 simp only [Bool.and_eq_true,decide_eq_true_eq] at h
 exact h.2
theorem ok6 {a:List (List Int)} (h:okm a=true):a.length≤6:=(okm_of h).2.1
theorem if_same {a:List (List Int)} {c:Bool} (h:c=true→a.length≤6) (v:Nat→Nat→Int) (k:Nat):outriggerref08_Same.f (k+60) (if c=true then mk a.length v else []) (if c=true then mk a.length v else [])=some true:=by
 by_cases hc:c=true
 ·rw [if_pos hc]
  exact same_mk (h hc) v k
 ·rw [if_neg hc]
  exact same_nil k
def T (a:List (List Int)):List (List Int):=if okm a=true then turnV a else []
theorem T_is (a:List (List Int)) (ha:a.length≤20) (k:Nat):mat_Turned.f (k+60) a=some (T a):=mturned_is a ha k
theorem T_pos {a:List (List Int)} (h:okm a=true):T a=turnV a:=if_pos h
theorem T_neg {a:List (List Int)} (h:¬okm a=true):T a=[]:=if_neg h
theorem okm_nil:okm []=false:=rfl
theorem okm_turn {a:List (List Int)} (h:okm a=true):okm (turnV a)=true:=mk_okm (okm_of h).1 (okm_of h).2.1
theorem okm_T (a:List (List Int)):okm (T a)=okm a:=by
 by_cases h:okm a=true
 ·rw [T_pos h,okm_turn h,h]
 ·rw [T_neg h,okm_nil]
  simpa using h
theorem len_T {a:List (List Int)} (h:okm a=true):(T a).length=a.length:=by rw [T_pos h];exact mk_len _ _
theorem at_T {a:List (List Int)} (h:okm a=true) {i j:Nat} (hi:i<a.length) (hj:j<a.length):at2 (T a) i j=cl (at2 a j i):=by
 rw [T_pos h]
 exact mk_at hi hj
theorem T_eq {a:List (List Int)} (h:okm a=true):T a=mk a.length fun i j=>cl (at2 a j i):=T_pos h
end Go.Proofs.Ytembdogffbcjiaa.Mat
