/- What the walks lean on: sizes of types, errors as numbers. Laid by a program of this project out of the kit's print of the Go functions. -/
import Derived.Test.YtkciakkgefmfdaaProg
import Derived.Below
import Derived.Deep.Draws
import Derived.Deep.AppendLies
import Derived.Maps.AppendAt
import Derived.OwnWalk
import Derived.Laws.BytesArg
import Derived.Laws.MakeOwn
import Derived.Laws.OwnMore
import Derived.Deep.OwnRows
import Derived.Tactics
import Derived.Lib.ConvBytes
import Derived.Laws.Slices
import Derived.WalkKit
import Derived.KernelRfl
import Derived.RowKit3
import Derived.Deep.LoopGhost
import Derived.Deep.QuietTactic
import Derived.BigQuiet
import Derived.WideLaws
import Derived.Deep.DeepCutAuto
import Derived.Deep.CutBlock
import Derived.Deep.RegionHeld3
import Derived.Laws.Rows
import Derived.Lib.AppendStr
import Derived.ArgAppend
import Derived.Laws.IdiomCopy
import Derived.OrdersHeld
import Derived.Laws.BitsLemmas
import Derived.RowKit
import Derived.Test.YtkciakkgefmfdaaWWords
import Derived.Test.YtkciakkgefmfdaaWLast
import Derived.Test.YtkciakkgefmfdaaWTab
import Derived.Test.YtkciakkgefmfdaaWFour
import Derived.Test.YtkciakkgefmfdaaWQPut
import Derived.Test.YtkciakkgefmfdaaWApart
import Derived.Test.YtkciakkgefmfdaaWArr
import Derived.Test.YtkciakkgefmfdaaWZeros
import Derived.Test.YtkciakkgefmfdaaWFoot
import Derived.Test.YtkciakkgefmfdaaWKept
import Derived.Test.YtkciakkgefmfdaaWShare
import Derived.Test.YtkciakkgefmfdaaWN
import Derived.Test.YtkciakkgefmfdaaWFootNe
import Derived.Test.YtkciakkgefmfdaaWAt
import Derived.Test.YtkciakkgefmfdaaWEqStruct
import Derived.Test.YtkciakkgefmfdaaWRepsOne
import Derived.Test.YtkciakkgefmfdaaWInv
import Derived.Test.YtkciakkgefmfdaaWInvWords
import Derived.Test.YtkciakkgefmfdaaWGuard
import Derived.Test.YtkciakkgefmfdaaWNEv
import Derived.Test.YtkciakkgefmfdaaWMore
namespace Go.Proofs.Ytkciakkgefmfdaa.B
open Go.RowKit Go.Proofs.YtkciakkgefmfdaaW.PrintWords Go.Proofs.YtkciakkgefmfdaaW.PrintLast Go.Proofs.YtkciakkgefmfdaaW.PrintMore
attribute [local go_sem] max2_int min2_int max_two min_two max_three min_three max_four min_four
set_option linter.unusedVariables false
set_option linter.unusedSimpArgs false




def errW : Option Int → Value
  | none => .nilIface
  | some c => .iface 0 (.int .i64 c)
theorem errW_none : errW none = .nilIface := rfl
theorem errW_some (c : Int) : errW (some c) = .iface 0 (.int .i64 c) := rfl

theorem info3 : (Try.prog.info? 3).map (fun i => (i.zero, i.size, i.bytes)) = some (some (.int .i64 0), 1, 8) := by kernel_rfl
theorem info30 : (Try.prog.info? 30).map (fun i => (i.zero, i.size, i.bytes)) = some (some (.int .u64 0), 1, 8) := by kernel_rfl


end Go.Proofs.Ytkciakkgefmfdaa.B
