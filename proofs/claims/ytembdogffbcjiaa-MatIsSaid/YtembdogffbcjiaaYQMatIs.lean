/- Lemmas of the row, laid by a program. -/
import Derived.Test.YtembdogffbcjiaaYNum
import Derived.Test.YtembdogffbcjiaaYWide
import Derived.Test.YtembdogffbcjiaaYSum
import Derived.Test.YtembdogffbcjiaaYRwide
import Derived.Test.YtembdogffbcjiaaYRsum
import Derived.Test.YtembdogffbcjiaaYMat
import Derived.Test.YtembdogffbcjiaaYLMatIs
namespace Go.Proofs.Ytembdogffbcjiaa.Pure
open Go Go.RowKit Go.Proofs.Ytembdogffbcjiaa.B Go.Proofs.Ytembdogffbcjiaa.Num Go.Proofs.Ytembdogffbcjiaa.Wide Go.Proofs.Ytembdogffbcjiaa.Sum Go.Proofs.Ytembdogffbcjiaa.Rwide Go.Proofs.Ytembdogffbcjiaa.Rsum Go.Proofs.Ytembdogffbcjiaa.Mat Go.Proofs.YtembdogffbcjiaaW.PrintWords Go.Proofs.YtembdogffbcjiaaW.PrintLast Go.Proofs.YtembdogffbcjiaaW.PrintMore
set_option linter.unusedVariables false
theorem is_tail (a:List (List Int)) (ha:a.length≤20) (n:Int) (q:Nat):outriggerlaw08_MatIs.j1 (q+1000) a n true false=some true:=by
 rw [show q+1000=(q+999)+1 from rfl,outriggerlaw08_MatIs.j1]
 refine no_of (by simp) (yes_of rfl (bind_of (msane_is a ha (q+969)) (bind_of (rmsane_is a ha (q+969)) (yes_of (by simp) (bind_of (mone_is n (q+939)) (bind_of (rmone_is n (q+939)) ?_))))))
 have h1:outriggerref08_Same.f (q+939+60) (if 1≤n∧n≤6 then oneV n.toNat else []) (if 1≤n∧n≤6 then oneV n.toNat else [])=some true:=by
  by_cases h:1≤n∧n≤6
  ·rw [if_pos h]
   exact same_mk (by omega) _ _
  ·rw [if_neg h]
   exact same_nil _
 refine bind_of h1 (yes_of rfl (bind_of (mturned_is a ha (q+939)) (bind_of (rmturned_is a ha (q+909)) (bind_of (if_same (fun h=>ok6 h) _ (q+939)) (yes_of rfl (bind_of (meven_is a ha (q+849)) (bind_of (rmeven_is a ha (q+739)) (bind_of (if_same (fun h=>ok6 h) _ (q+939)) rfl))))))))
theorem ints_app (a:List (List Int)) (v:List Int) (k:Nat):outriggerref08_Ints.f (k+30) (if okm a=true∧v.length=a.length then (appV a v,appB a v) else ([],true)).1 (if okm a=true∧v.length=a.length then (appV a v,appB a v) else ([],true)).1=some true:=by
 by_cases h:okm a=true∧v.length=a.length
 ·rw [if_pos h]
  have:=ok6 h.1
  exact ints_refl _ (by simp [appV];omega) k
 ·rw [if_neg h]
  exact ints_refl [] (by simp) k
theorem MatIs (a b:List (List Int)) (v:List Int) (n:Int) (ha:a.length≤maxLen) (hb:b.length≤maxLen):∃ k,outriggerlaw08_MatIs.f k a b v n=some true:=by
 obtain⟨q,hq⟩:∃ q,q=a.length+b.length:=⟨_,rfl⟩
 refine⟨q+1002,?_⟩
 have aw:outriggerlaw08_awake.f (q+1002)=some true:=at_rounds outriggerlaw08_awake.mono (by omega) outriggerlaw08_awake.known
 have fa:=few_is a ha (q+1001-a.length)
 have fb:=few_is b hb (q+1001-b.length)
 rw [show q+1001-a.length+a.length+1=q+1002 by omega] at fa
 rw [show q+1001-b.length+b.length+1=q+1002 by omega] at fb
 have key:few a=true→few b=true→∀ z:Bool,outriggerlaw08_MatIs.j0 (q+1002) a b v n true z=some true:=by
  intro h1 h2 z
  have la:=few_len h1
  have lb:=few_len h2
  rw [show q+1002=(q+1001)+1 from rfl,outriggerlaw08_MatIs.j0]
  cases z
  ·refine no_of (by simp) (bind_of (madd_is a b la lb (q+941)) (bind_of (rmadd_is a b la lb (q+941)) (bind_of (mmul_is a b la lb (q+921)) (bind_of (rmmul_is a b la lb (q+721)) (bind_of (mapply_is a la v (q+901)) (bind_of (rmapply_is a la v (q+761)) ?_))))))
   refine bind_of (pair_same (fun h=>both6 h) _ _ (q+941)) (yes_of rfl (no_of (by simp) (bind_of (pair_same (fun h=>both6 h) _ _ (q+941)) (yes_of rfl (no_of (by simp) (bind_of (ints_app a v (q+971)) (yes_of rfl ?_)))))))
   rw [bne_self_eq_false]
   exact is_tail a la n (q+1)
  ·exact yes_of rfl rfl
 have key2:∀ z,z=true→outriggerlaw08_MatIs.j0 (q+1002) a b v n true z=some true:=by
  rintro z rfl
  rw [show q+1002=(q+1001)+1 from rfl,outriggerlaw08_MatIs.j0]
  exact yes_of rfl rfl
 unfold outriggerlaw08_MatIs.f
 refine bind_of aw (bind_of fa ?_)
 by_cases h1:few a=true
 ·refine yes_of h1 (bind_of fb ?_)
  by_cases h2:few b=true
  ·exact yes_of h2 (key h1 h2 _)
  ·exact no_of h2 (key2 _ rfl)
 ·exact no_of h1 (key2 _ rfl)
theorem MatIsR (a b:List (List Int)) (v:List Int) (n:Int) (ha:a.length≤maxLen) (hb:b.length≤maxLen) (h1:v.length≤maxLen) (h2:v.length*8≤140737488351232) (h3:∀ x ∈ v,(Lit.int .i64 x).wf=true) (w:(Lit.int .i64 n).wf=true):∃ k,outriggerlaw08_MatIs.f k a b v n=some true:=MatIs a b v n ha hb
end Go.Proofs.Ytembdogffbcjiaa.Pure
