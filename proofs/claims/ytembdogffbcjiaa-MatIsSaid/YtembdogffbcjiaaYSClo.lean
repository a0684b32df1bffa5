/- Lemmas of the row, laid by a program. -/
import Derived.WalkKit
import Derived.Shelf.Abstract
import Derived.Laws.CopyRow
import Derived.Test.YtembdogffbcjiaaYB0
import Derived.Test.YtembdogffbcjiaaYB1
namespace Go.Proofs.Ytembdogffbcjiaa.B
open Go Go.Proofs Go.RowKit Go.Proofs.YtembdogffbcjiaaW.PrintWords Go.Proofs.YtembdogffbcjiaaW.PrintLast Go.Proofs.YtembdogffbcjiaaW.PrintMore
theorem gen_w {P:Program} {ops:Array Oper} {rest:List Oper} {a:Act} {Q:Exit→Act→World→Prop} {W:World} (S:World→Prop) (hS:S W) (h:∀ W',S W'→wpList P ops Q rest a W'):wpList P ops Q rest a W:=h W hS
theorem add_plain (g o k:Nat):(⟨g,o,none⟩:Addr).add k=⟨g,o+k,none⟩:=by unfold Addr.add;split<;>simp_all
theorem add_none (p:Addr):p.add 0=p:=by unfold Addr.add;split<;>simp_all
theorem run_copy1 {P:Program} (W:World) (dT sT ty elem:TypeId) (p q:Addr) (dLen dCap sCap:Nat) (v u:Value) (hu:P.underlying dT=some (.slice elem)) (hs:(P.info? elem).map (·.size)=some 1) (h1:1≤dLen)
  (hp:p.add 0=p) (hq:q.add 0=q) (hv:W.cell? q=some v) (hx:W.cell? p=some u) (hf:W.frozen? p=false) (ho:v.oneCell'=true) :
  (Builtin.copy_ #[dT,sT] ty #[.slice (some p) dLen dCap,.slice (some q) 1 sCap]).run P W=.ok (goInt 1) (W.setCell p v):=by
 have hl:=run_loadCells_list (P:=P) W q [v] (fun j x hj=>by
  cases j with
  | zero =>
   have:v=x:=by simpa using hj
   subst this
   rw [hq]
   exact hv
  | succ j=>simp at hj)
 have hst:(storeCells p [v] 0).run P W=.ok () (W.setCell p v):=by
  have:=run_store P W p v .plain ho
  simp [storeCells,hp,this,hx,hf]
 have hm:Nat.min 1 dLen=1:=Nat.min_eq_left h1
 cases hi:P.info? elem with
 | none=>simp [hi] at hs
 | some i =>
  have hi1:i.size=1:=by simpa [hi] using hs
  simp [Builtin.copy_,run_underlying hu,Builtin.lenOf,Builtin.firstCells,sizeOf,typeInfo,hi,hi1,hm]
  simp at hl
  simp [hl,hst]
end Go.Proofs.Ytembdogffbcjiaa.B
