/- Lemmas of the row, laid by a program. -/
import Derived.Test.YtembdogffbcjiaaYB0
import Derived.Test.YtembdogffbcjiaaYB3
import Derived.Test.YtembdogffbcjiaaYB4
import Derived.Test.YtembdogffbcjiaaYB8
import Derived.Test.YtembdogffbcjiaaYB9
import Derived.Test.YtembdogffbcjiaaYSSeq
namespace Go.Proofs.Ytembdogffbcjiaa.B
open Go.RowKit Go.Proofs.YtembdogffbcjiaaW.PrintWords Go.Proofs.YtembdogffbcjiaaW.PrintLast Go.Proofs.YtembdogffbcjiaaW.PrintMore
attribute [local go_sem] max2_int min2_int max_two min_two max_three min_three max_four min_four
set_option linter.unusedVariables false
set_option linter.unusedSimpArgs false
def sum_values.l0:Nat→List Int→Int→Int→Int→Int→Option (Int × Int)
  | 0,_,_,_,_,_=>none
  | k+1,x0,x19,x20,x334000,x334001=>if x20<x19 then ((sum_values_1.f x20 x0).bind fun bt334=>((wide_Add.f x334000 x334001 bt334.1 bt334.2).bind fun bt336=>(sum_values.l0 k x0 x19 (wrap64 (x20+1)) bt336.1 bt336.2.1))) else (some (x334000,x334001))
theorem sum_values.zs (l:List Int) (hl:l.length≤64):∀ (k i:Nat) (s r:Int × Int),i≤l.length→sum_values.l0 k l (l.length:Int) (i:Int) s.1 s.2=some r→∃ zs:List (Int × Int),zs.length+i=l.length∧(∀ (j:Nat) x,zs[j]? = some x→sum_values_1.f ((j+i:Nat):Int) l=some x)∧sumZ zs s=some r
 | 0,i,s,r,_,h=>by simp [sum_values.l0] at h
 | k+1,i,s,r,hi,h=>by
  simp only [sum_values.l0] at h
  by_cases c:(i:Int)<(l.length:Int)
  ·rw [if_pos c] at h
   obtain⟨x,hx,h⟩:=Option.bind_eq_some_iff.mp h
   obtain⟨t,ht,h⟩:=Option.bind_eq_some_iff.mp h
   have hw:wrap64 ((i:Int)+1)=((i+1:Nat):Int):=by unfold wrap64;omega
   rw [hw] at h
   obtain⟨zs,h1,h2,h3⟩:=sum_values.zs l hl k (i+1) (t.1,t.2.1) r (by omega) h
   refine⟨x :: zs,by simp;omega,?_,?_⟩
   ·intro j y hy
    cases j with
    | zero=>simp at hy;subst hy;simpa using hx
    | succ j =>
     have:=h2 j y (by simpa using hy)
     rw [show j+1+i=j+(i+1) by omega]
     exact this
   ·simp only [sumZ]
    rw [ht]
    exact h3
  ·rw [if_neg c] at h
   have:s=r:=Option.some.inj h
   subst this
   exact⟨[],by simp;omega,by simp,rfl⟩
end Go.Proofs.Ytembdogffbcjiaa.B
