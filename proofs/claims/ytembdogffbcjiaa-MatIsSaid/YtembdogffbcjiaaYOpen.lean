/- Lemmas of the row, laid by a program. -/
import Derived.Deep.Matrix
import Derived.Test.YtembdogffbcjiaaYB0
namespace Go.Proofs.Ytembdogffbcjiaa
open Go.RowKit Go.Proofs.YtembdogffbcjiaaW.PrintWords
def IsRows (k:IntKind) (W:World) (a:Option Addr) (len cap:Nat):Prop :=
  (a=none∧len=0∧cap=0) ∨
  ∃ (x:Addr) (A:Nat→Option Addr) (L C:Nat→Nat) (Z:Nat→List Int),a=some x∧len≤cap∧cap≤maxLen ∧
    ∀ r,r<cap→W.cell? (x.add r)=some (.slice (A r) (L r) (C r))∧L r≤C r∧C r≤maxLen∧(Z r).length=C r∧(∀ n ∈ Z r,(Lit.int k n).wf=true)∧(A r=none→C r=0) ∧
      ∀ a',A r=some a'→0≤a'.block∧∀ c,c<C r→W.cell? (a'.add c)=some (.int k ((Z r).getD c 0))
theorem IsRows.read {q:Nat} {k:IntKind} {W:World} {a:Option Addr} {len cap:Nat} (h:IsRows k W a len cap) :
  ∃ l:List (List Int),len=l.length∧Kd.C (Kd.slice q (Kd.int k)) W a l.length l∧l.length≤maxLen∧l.length≤cap∧∀ r ∈ l,r.length≤maxLen∧∀ n ∈ r,(Lit.int k n).wf=true:=by
 have hM:(maxLen:Nat)≤9223372036854775807:=by decide
 rcases h with ⟨rfl,rfl,rfl⟩|⟨x,A,L,C,Z,rfl,hl,hm,hr⟩
 ·exact⟨[],rfl,⟨rfl,by simp,fun h=>absurd h (by simp)⟩,by simp,by simp,by simp⟩
 ·have hlen:((List.range len).map fun r=>(Z r).take (L r)).length=len:=by simp
  refine⟨(List.range len).map fun r=>(Z r).take (L r),hlen.symm,⟨rfl,by omega,fun _=>⟨x,rfl,?_⟩⟩,by omega,by omega,?_⟩
  ·intro j p hj
   have hjl:j<len:=by
    have:=(List.getElem?_eq_some_iff.1 hj).1
    omega
   rw [List.getElem?_map,List.getElem?_range hjl] at hj
   have hp:p=(Z j).take (L j):=(Option.some.inj hj).symm
   obtain⟨hc,hL,hC,hZ,_,hn,hcell⟩:=hr j (by omega)
   have hpl:p.length=L j:=by rw [hp,List.length_take];omega
   refine⟨[.slice (A j) (L j) (C j)],rfl,⟨A j,C j,by rw [hpl],by omega,?_⟩,?_⟩
   ·refine Kd.C_of_reads (d:=(0:Int)) (h1:=fun _=>rfl) ⟨rfl,by omega,fun h0=>?_⟩
    cases hA:A j with
    | none=>have:=hn hA;omega
    | some a' =>
     refine⟨a',rfl,fun c hc2=>?_⟩
     rw [(hcell a' hA).2 c (by omega),hp]
     congr 2
     rw [List.getD_eq_getElem?_getD,List.getD_eq_getElem?_getD,List.getElem?_take,if_pos (by omega)]
   ·intro i u hu
    cases i with
    | zero =>
     have:Value.slice (A j) (L j) (C j)=u:=by simpa using hu
     subst this
     show W.cell? (x.add (j*1+0))=_
     simpa using hc
    | succ i=>simp at hu
  ·intro r hrm
   obtain⟨j,hj,rfl⟩:=List.mem_map.1 hrm
   obtain⟨hc,hL,hC,hZ,hw,_⟩:=hr j (by have:=List.mem_range.1 hj;omega)
   exact⟨by rw [List.length_take];omega,fun n hn=>hw n (List.mem_of_mem_take hn)⟩
end Go.Proofs.Ytembdogffbcjiaa
