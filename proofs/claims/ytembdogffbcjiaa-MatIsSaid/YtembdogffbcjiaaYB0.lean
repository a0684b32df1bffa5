/- Lemmas of the row, laid by a program. -/
import Derived.Test.YtembdogffbcjiaaProg
import Derived.Below
import Derived.Deep.Draws
import Derived.Deep.AppendLies
import Derived.Maps.AppendAt
import Derived.OwnWalk
import Derived.Laws.BytesArg
import Derived.Laws.MakeOwn
import Derived.Laws.OwnMore
import Derived.Deep.OwnRows
import Derived.Tactics
import Derived.Lib.ConvBytes
import Derived.Laws.Slices
import Derived.WalkKit
import Derived.KernelRfl
import Derived.RowKit3
import Derived.Deep.LoopGhost
import Derived.Deep.QuietTactic
import Derived.BigQuiet
import Derived.WideLaws
import Derived.Deep.DeepCutAuto
import Derived.Deep.CutBlock
import Derived.Deep.RegionHeld3
import Derived.Laws.Rows
import Derived.Lib.AppendStr
import Derived.ArgAppend
import Derived.Laws.IdiomCopy
import Derived.OrdersHeld
import Derived.Laws.BitsLemmas
import Derived.RowKit
import Derived.Test.YtembdogffbcjiaaYWWords
import Derived.Test.YtembdogffbcjiaaYWLast
import Derived.Test.YtembdogffbcjiaaYWTab
import Derived.Test.YtembdogffbcjiaaYWFour
import Derived.Test.YtembdogffbcjiaaYWQPut
import Derived.Test.YtembdogffbcjiaaYWApart
import Derived.Test.YtembdogffbcjiaaYWArr
import Derived.Test.YtembdogffbcjiaaYWZeros
import Derived.Test.YtembdogffbcjiaaYWFoot
import Derived.Test.YtembdogffbcjiaaYWKept
import Derived.Test.YtembdogffbcjiaaYWShare
import Derived.Test.YtembdogffbcjiaaYWN
import Derived.Test.YtembdogffbcjiaaYWFootNe
import Derived.Test.YtembdogffbcjiaaYWAt
import Derived.Test.YtembdogffbcjiaaYWEqStruct
import Derived.Test.YtembdogffbcjiaaYWRepsOne
import Derived.Test.YtembdogffbcjiaaYWInv
import Derived.Test.YtembdogffbcjiaaYWInvWords
import Derived.Test.YtembdogffbcjiaaYWGuard
import Derived.Test.YtembdogffbcjiaaYWNEv
import Derived.Test.YtembdogffbcjiaaYWMore
namespace Go.Proofs.Ytembdogffbcjiaa.B
open Go.RowKit Go.Proofs.YtembdogffbcjiaaW.PrintWords Go.Proofs.YtembdogffbcjiaaW.PrintLast Go.Proofs.YtembdogffbcjiaaW.PrintMore
attribute [local go_sem] max2_int min2_int max_two min_two max_three min_three max_four min_four
set_option linter.unusedVariables false
set_option linter.unusedSimpArgs false
def errW:Option Int→Value
  | none=>.nilIface
  | some c=>.iface 0 (.int .i64 c)
theorem errW_none:errW none=.nilIface:=rfl
theorem errW_some (c:Int):errW (some c)=.iface 0 (.int .i64 c):=rfl
theorem info3:(Try.prog.info? 3).map (fun i=>(i.zero,i.size,i.bytes))=some (some (.int .i64 0),1,8):=by kernel_rfl
theorem info23:(Try.prog.info? 23).map (fun i=>(i.zero,i.size,i.bytes))=some (some (.slice none 0 0),1,24):=by kernel_rfl
def rd_L1 (xs:List (List Int)) (i:Int):(List Int):=xs.getD i.toNat ([]:List Int)
theorem at_L1 {w:World} {A:Option Addr} {n:Nat} {xs:List (List Int)} (h:Kd.C (Kd.slice 3 (Kd.int .i64)) w A n xs) (i:Int) (h0:0≤i) (h1:i<n):∃ ad A0 c0,A=some ad∧w.cell? (ad.add i.toNat)=some (.slice A0 (rd_L1 xs i).length c0)∧(rd_L1 xs i).length≤c0∧(Kd.int .i64).C w A0 (rd_L1 xs i).length (rd_L1 xs i):=by
 obtain⟨ad,c,e,_,hK,hc0⟩:=Kd.C_get h ([]:List Int) i h0 h1
 have hc:∀ j u,c[j]? = some u→w.cell? (ad.add (i.toNat*1+j))=some u:=hc0
 obtain⟨A0,c0,rfl,l0,g0⟩:=hK
 exact⟨ad,A0,c0,e,by have hq:=hc 0 _ rfl;rwa [Nat.mul_one,Nat.add_zero] at hq,l0,g0⟩
abbrev tt:Bool:=true
abbrev ff:Bool:=false
class La (W:outParam World) (W':World):Prop where
  la:Below W.heap.size W W'
instance (priority:=10) laR (W:World):La W W:=⟨Below.refl _ _⟩
instance laA (W X:World) (o:Obj) [k:La W X]:La W (X.alloc o):=⟨below_alloc k.la o⟩
instance laD (W X:World) [k:La W X]:La W X.drew:=⟨below_drew k.la⟩
instance laN (W X:World) (n:Nat) [k:La W X]:La W (X.drewN n):=⟨pw_below_drewN k.la n⟩
theorem mA {α β:Type} (f:α→β) (l:List α):l.toArray.map f=(l.map f).toArray:=List.map_toArray ..
theorem bl {w W W':World} (h:Aside0 (Below w.heap.size w W)) [k:La W W']:Below w.heap.size w W':=below_step h.out k.la
theorem bs {w W W':World} {g j:Nat} {v:Value} [k:La (W.setCell ⟨g,j,none⟩ v) W'] (h:Below w.heap.size w W) (hg:Aside0 (w.heap.size≤g)):Below w.heap.size w W':=below_step (below_set h hg.out) k.la
theorem bk {W W':World} {g:Nat} {o:Obj} [k:La W W'] (h:W.heap[g]? = some o):W'.heap[g]? = some o:=blk_below h k.la
theorem kR {α:Type} {d:Kd α} {e:Nat} {W W':World} {base:Nat} {ok:Nat→Prop} {v:Value} {xs:List α} [k:La W W'] (h:Kd.R d e W base ok v xs):Kd.R d e W' base ok v xs:=Kd.R_below h k.la
theorem kS {α:Type} {d:Kd α} {e:Nat} {W W':World} {base:Nat} {ok:Nat→Prop} {v:Value} {xs:List α} [k:La W W'] (h:Kd.S d e W base ok v xs):Kd.S d e W' base ok v xs:=Kd.S_below h k.la
theorem kN {α:Type} {d:Kd α} {e:Nat} {W W':World} {base:Nat} {ok:Nat→Prop} {v:Value} {xs:List α} [k:La W W'] (h:Kd.N d e W base ok v xs):Kd.N d e W' base ok v xs:=Kd.N_below h k.la
theorem kV {α:Type} {d:Kd α} {e:Nat} {W W':World} {base:Nat} {ok:Nat→Prop} {v:Value} {xs:List α} [k:La W W'] (h:Kd.V d e W base ok v xs):Kd.V d e W' base ok v xs:=Kd.V_below h k.la
theorem kC {α:Type} {d:Kd α} {W W':World} {A:Option Addr} {n:Nat} {xs:List α} [k:La W W'] (h:Kd.C d W A n xs):Kd.C d W' A n xs:=Kd.C_below h k.la
end Go.Proofs.Ytembdogffbcjiaa.B
