/- Lemmas that the row leans on; laid by a program of this project out of longer texts: what the row does not name is left out. -/
import Derived.Test.YtiejinbjfficnaaProg
import Derived.Below
import Derived.Deep.Draws
import Derived.Deep.AppendLies
import Derived.Maps.AppendAt
import Derived.OwnWalk
import Derived.Laws.BytesArg
import Derived.Laws.MakeOwn
import Derived.Laws.OwnMore
import Derived.Deep.OwnRows
import Derived.Tactics
import Derived.Lib.ConvBytes
import Derived.Laws.Slices
import Derived.WalkKit
import Derived.KernelRfl
import Derived.RowKit3
import Derived.Deep.LoopGhost
import Derived.Deep.QuietTactic
import Derived.BigQuiet
import Derived.WideLaws
import Derived.Deep.DeepCutAuto
import Derived.Deep.CutBlock
import Derived.Deep.RegionHeld3
import Derived.Laws.Rows
import Derived.Lib.AppendStr
import Derived.ArgAppend
import Derived.Laws.IdiomCopy
import Derived.OrdersHeld
import Derived.Laws.BitsLemmas
import Derived.RowKit
import Derived.Test.YtiejinbjfficnaaXWWords
import Derived.Test.YtiejinbjfficnaaXWLast
import Derived.Test.YtiejinbjfficnaaXWTab
import Derived.Test.YtiejinbjfficnaaXWFour
import Derived.Test.YtiejinbjfficnaaXWQPut
import Derived.Test.YtiejinbjfficnaaXWApart
import Derived.Test.YtiejinbjfficnaaXWArr
import Derived.Test.YtiejinbjfficnaaXWZeros
import Derived.Test.YtiejinbjfficnaaXWFoot
import Derived.Test.YtiejinbjfficnaaXWKept
import Derived.Test.YtiejinbjfficnaaXWShare
import Derived.Test.YtiejinbjfficnaaXWN
import Derived.Test.YtiejinbjfficnaaXWFootNe
import Derived.Test.YtiejinbjfficnaaXWAt
import Derived.Test.YtiejinbjfficnaaXWEqStruct
import Derived.Test.YtiejinbjfficnaaXWRepsOne
import Derived.Test.YtiejinbjfficnaaXWInv
import Derived.Test.YtiejinbjfficnaaXWInvWords
import Derived.Test.YtiejinbjfficnaaXWGuard
import Derived.Test.YtiejinbjfficnaaXWNEv
import Derived.Test.YtiejinbjfficnaaXWMore
namespace Go.Proofs.Ytiejinbjfficnaa.B
open Go.RowKit Go.Proofs.YtiejinbjfficnaaW.PrintWords Go.Proofs.YtiejinbjfficnaaW.PrintLast Go.Proofs.YtiejinbjfficnaaW.PrintMore
attribute [local go_sem] max2_int min2_int max_two min_two max_three min_three max_four min_four
set_option linter.unusedVariables false
set_option linter.unusedSimpArgs false
def errW:Option Int→Value
  | none=>.nilIface
  | some c=>.iface 0 (.int .i64 c)
theorem errW_none:errW none=.nilIface:=rfl
theorem errW_some (c:Int):errW (some c)=.iface 0 (.int .i64 c):=rfl
theorem info3:(Try.prog.info? 3).map (fun i=>(i.zero,i.size,i.bytes))=some (some (.int .i64 0),1,8):=by kernel_rfl
end Go.Proofs.Ytiejinbjfficnaa.B
