/- Lemmas that the row leans on; laid by a program of this project out of longer texts: what the row does not name is left out. -/
import Derived.Test.YtiejinbjfficnaaXNum
import Derived.Test.YtiejinbjfficnaaXWide
import Derived.Test.YtiejinbjfficnaaXRoot
import Derived.Test.YtiejinbjfficnaaXSum
import Derived.Test.YtiejinbjfficnaaXLSumZero0
namespace Go.Proofs.Ytiejinbjfficnaa.Pure
open Go Go.RowKit Go.Proofs.Ytiejinbjfficnaa.B Go.Proofs.Ytiejinbjfficnaa.Num Go.Proofs.Ytiejinbjfficnaa.Wide Go.Proofs.Ytiejinbjfficnaa.Root Go.Proofs.Ytiejinbjfficnaa.Sum Go.Proofs.YtiejinbjfficnaaW.PrintWords Go.Proofs.YtiejinbjfficnaaW.PrintLast Go.Proofs.YtiejinbjfficnaaW.PrintMore
set_option linter.unusedVariables false
theorem tot_snoc0 (x:List Int):tot (cls (x++[0]))=tot (cls x)∧chg (x++[0])=chg x∧tot (prods (x++[0]) (x++[0]))=tot (prods x x):=by
 refine⟨?_,?_,?_⟩
 ·rw [cls,List.map_append,tot_append];show _+(0+0)=_;rw [Int.add_zero,Int.add_zero];rfl
 ·rw [chg,List.any_append];show(chg x || (false || false))=_;simp
 ·rw [prods_append rfl,tot_append];show _+(0+0)=_;omega
theorem zero_total {x:List Int} (hx:x.length≤63) (k:Nat):∃ T,sum_Total.f (k+150) x=some T∧sum_Total.f (k+150) (x++[0])=some T:=by
 obtain⟨h1,h2,_⟩:=tot_snoc0 x
 refine⟨_,total_is x (k+70),(total_is (x++[0]) (k+70)).trans ?_⟩
 rw [take64 (l:=x) (by omega),take64 (l:=x++[0]) (by simp;omega),h1,h2]
theorem zero_norm {x:List Int} (hx:x.length≤63) (k:Nat):∃ T,sum_Norm.f (k+150) x=some T∧sum_Norm.f (k+150) (x++[0])=some T:=by
 obtain⟨_,h2,h3⟩:=tot_snoc0 x
 refine⟨_,norm_is x (k+70),(norm_is (x++[0]) (k+70)).trans ?_⟩
 rw [take64 (l:=x) (by omega),take64 (l:=x++[0]) (by simp;omega),h2,h3]
theorem mn63 (l:List Int):0≤mn (l.length:Int) 63∧mn (l.length:Int) 63≤(l.length:Int)∧l.take (mn (l.length:Int) 63).toNat=l.take 63:=by
 unfold mn
 split
 ·exact⟨by omega,by omega,rfl⟩
 ·refine⟨by omega,by omega,?_⟩
  rw [Int.toNat_natCast,List.take_length,List.take_of_length_le (by omega)]
theorem at_bd (a:Int) (s:Nat) (hs:s≤100):∃ q:Nat,Int.tmod (Go.bits .and .i64 a 65535) ((s:Int)+1)=(q:Int)∧q≤s:=by
 have h:Go.bits .and .i64 a 65535=a%65536:=band64 a 16 (by decide)
 rw [h]
 have h0:0≤a%65536:=Int.emod_nonneg _ (by decide)
 have h1:=Int.tmod_nonneg ((s:Int)+1) h0
 have h2:=Int.tmod_lt_of_pos (a%65536) (show(0:Int)<(s:Int)+1 by omega)
 exact⟨(Int.tmod (a%65536) ((s:Int)+1)).toNat,by omega,by omega⟩
theorem unbad {v:Int} {b c:Bool} (h:(!(cl v == v) || (b || c))=false):cl v=v:=by
 cases hc:(cl v == v)
 ·rw [hc] at h;simp at h
 ·exact by simpa using hc
theorem rv_parts (a b:Int):rv (a+b)-(rv a+rv b)≤1∧rv a+rv b-rv (a+b)≤1:=by unfold rv;omega
theorem SumZero (l m:List Int) (a:Int):∃ n,outriggerlaw06_SumZero.f n l m a=some true:=by
 refine⟨400,?_⟩
 have aw:outriggerlaw06_awake.f 400=some true:=at_rounds outriggerlaw06_awake.mono (by decide) outriggerlaw06_awake.known
 obtain⟨h0,h1,h2⟩:=mn63 l
 have hx:(l.take 63).length≤63:=by rw [List.length_take];omega
 unfold outriggerlaw06_SumZero.f
 rw [h2]
 generalize l.take 63=x at *
 obtain⟨s,hs,hs1,hs2⟩:∃ s:Nat,mn (x.length:Int) (m.length:Int)=(s:Int)∧s≤x.length∧s≤m.length:=⟨(mn (x.length:Int) (m.length:Int)).toNat,by unfold mn;split<;>omega,by unfold mn;split<;>omega,by unfold mn;split<;>omega⟩
 have hs3:s=x.length∨s=m.length:=by unfold mn at hs;split at hs<;>omega
 rw [hs,w64 (n:=(s:Int)+1) (by omega) (by omega)]
 obtain⟨q,hq,hq1⟩:=at_bd a s (by omega)
 rw [hq]
 simp only [Int.toNat_natCast]
 obtain⟨t1,a1,b1⟩:=zero_total hx 250
 obtain⟨t2,a2,b2⟩:=zero_norm hx 250
 refine bind_of aw (yes_of h0 (yes_of h1 (bind_of rfl (yes_of ?_ (bind_of rfl (yes_of ?_ (bind_of rfl ?_)))))))
 ·simp;omega
 ·simp;omega
 rw [List.nil_append]
 refine bind_of a1 (bind_of b1 (bind_of a2 (bind_of b2 (no_of (by omega) (yes_of (by omega) (yes_of (by omega) ?_))))))
 have hP:P2 x (m.take s)=s:=by unfold P2;rw [List.length_take];omega
 have d1:=dot_is x (m.take s) 320
 rw [hP,List.take_take,Nat.min_self] at d1
 have d2:=dot_same (l:=x.take q) (m:=m.take q) (by rw [List.length_take,List.length_take];omega) (by rw [List.length_take];omega) 320
 have d3:=dot_same (l:=(x.take s).drop q) (m:=(m.take s).drop q) (by rw [List.length_drop,List.length_drop,List.length_take,List.length_take];omega) (by rw [List.length_drop,List.length_take];omega) 320
 have ht:tot (prods (x.take s) (m.take s))=tot (prods (x.take q) (m.take q))+tot (prods ((x.take s).drop q) ((m.take s).drop q)):=by
  have e1:x.take s=x.take q++(x.take s).drop q:=by
   have:=List.take_append_drop q (x.take s)
   rw [List.take_take,Nat.min_eq_left hq1] at this
   exact this.symm
  have e2:m.take s=m.take q++(m.take s).drop q:=by
   have:=List.take_append_drop q (m.take s)
   rw [List.take_take,Nat.min_eq_left hq1] at this
   exact this.symm
  rw [←tot_append,←prods_append (by rw [List.length_take,List.length_take];omega),←e1,←e2]
 have hr:=rv_parts (tot (prods (x.take q) (m.take q))) (tot (prods ((x.take s).drop q) ((m.take s).drop q)))
 rw [←ht] at hr
 generalize tot (prods (x.take s) (m.take s))=p1 at *
 generalize tot (prods (x.take q) (m.take q))=p2 at *
 generalize tot (prods ((x.take s).drop q) ((m.take s).drop q))=p3 at *
 refine bind_of d1 (yes_of (by omega) (yes_of (by omega) (yes_of (by omega) (bind_of d2 (yes_of (by omega) (yes_of (by omega) (bind_of d3 (bind_of (fadd_is _ _) ?_))))))))
 refine yes_of rfl (yes_of rfl (yes_of (by simp) (yes_of rfl (yes_of (by simp) ?_))))
 dsimp only
 generalize (chg (x.take s) || chg (m.take s))=z1
 cases g1:(!(cl (rv p1) == rv p1) || z1)
 ·refine no_of (by simp) ?_
  cases g2:(!(cl (rv p2) == rv p2) || (chg (x.take q) || chg (m.take q)))
  ·refine no_of (by simp) ?_
   cases g3:(!(cl (rv p3) == rv p3) || (chg ((x.take s).drop q) || chg ((m.take s).drop q)))
   ·refine no_of (by simp) ?_
    have u1:cl (rv p1)=rv p1:=unbad (b:=z1) (c:=false) (by rw [Bool.or_false];exact g1)
    have u2:=unbad g2
    have u3:=unbad g3
    rw [u1,u2,u3,u2,u3]
    cases g4:cbad (rv p2) (rv p3) (rv p2+rv p3)
    ·refine no_of (by simp) ?_
     have u4:cl (rv p2+rv p3)=rv p2+rv p3:=by
      unfold cbad at g4
      cases hc:(cl (rv p2+rv p3) != rv p2+rv p3)
      ·simpa using hc
      ·rw [hc] at g4;simp at g4
     have c1:=cl_lo (rv p1)
     have c2:=cl_hi (rv p1)
     have c3:=cl_lo (rv p2+rv p3)
     have c4:=cl_hi (rv p2+rv p3)
     rw [u1] at c1 c2
     rw [u4] at c3 c4 ⊢
     rw [w64 (by omega) (by omega),w64 (by omega) (by omega)]
     exact yes_of hr.1 (congrArg some (decide_eq_true hr.2))
    ·exact yes_of rfl rfl
   ·exact yes_of rfl rfl
  ·exact yes_of rfl rfl
 ·exact yes_of rfl rfl
theorem SumZeroR (l m:List Int) (a:Int) (h1:l.length≤maxLen) (h2:l.length*8≤140737488351232) (h3:∀ x ∈ l,(Lit.int .i64 x).wf=true) (g1:m.length≤maxLen) (g2:m.length*8≤140737488351232) (g3:∀ x ∈ m,(Lit.int .i64 x).wf=true) (w:(Lit.int .i64 a).wf=true) :
  ∃ n,outriggerlaw06_SumZero.f n l m a=some true:=SumZero l m a
end Go.Proofs.Ytiejinbjfficnaa.Pure
