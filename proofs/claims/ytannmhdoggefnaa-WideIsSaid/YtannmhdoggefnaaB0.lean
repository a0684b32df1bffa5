/- What the walks lean on: sizes of types, errors as numbers. Laid by a program of this project out of the kit's print of the Go functions. -/
import Derived.Test.YtannmhdoggefnaaProg
import Derived.Below
import Derived.Deep.Draws
import Derived.Deep.AppendLies
import Derived.Maps.AppendAt
import Derived.OwnWalk
import Derived.Laws.BytesArg
import Derived.Laws.MakeOwn
import Derived.Laws.OwnMore
import Derived.Deep.OwnRows
import Derived.Tactics
import Derived.Lib.ConvBytes
import Derived.Laws.Slices
import Derived.WalkKit
import Derived.KernelRfl
import Derived.RowKit3
import Derived.Deep.LoopGhost
import Derived.Deep.QuietTactic
import Derived.BigQuiet
import Derived.WideLaws
import Derived.Deep.DeepCutAuto
import Derived.Deep.CutBlock
import Derived.Deep.RegionHeld3
import Derived.Laws.Rows
import Derived.Lib.AppendStr
import Derived.ArgAppend
import Derived.Laws.IdiomCopy
import Derived.OrdersHeld
import Derived.Laws.BitsLemmas
import Derived.RowKit
import Derived.Test.YtannmhdoggefnaaWWords
import Derived.Test.YtannmhdoggefnaaWLast
import Derived.Test.YtannmhdoggefnaaWTab
import Derived.Test.YtannmhdoggefnaaWFour
import Derived.Test.YtannmhdoggefnaaWQPut
import Derived.Test.YtannmhdoggefnaaWApart
import Derived.Test.YtannmhdoggefnaaWArr
import Derived.Test.YtannmhdoggefnaaWZeros
import Derived.Test.YtannmhdoggefnaaWFoot
import Derived.Test.YtannmhdoggefnaaWKept
import Derived.Test.YtannmhdoggefnaaWShare
import Derived.Test.YtannmhdoggefnaaWN
import Derived.Test.YtannmhdoggefnaaWFootNe
import Derived.Test.YtannmhdoggefnaaWAt
import Derived.Test.YtannmhdoggefnaaWEqStruct
import Derived.Test.YtannmhdoggefnaaWRepsOne
import Derived.Test.YtannmhdoggefnaaWInv
import Derived.Test.YtannmhdoggefnaaWInvWords
import Derived.Test.YtannmhdoggefnaaWGuard
import Derived.Test.YtannmhdoggefnaaWNEv
import Derived.Test.YtannmhdoggefnaaWMore
namespace Go.Proofs.Ytannmhdoggefnaa.B
open Go.RowKit Go.Proofs.YtannmhdoggefnaaW.PrintWords Go.Proofs.YtannmhdoggefnaaW.PrintLast Go.Proofs.YtannmhdoggefnaaW.PrintMore
attribute [local go_sem] max2_int min2_int max_two min_two max_three min_three max_four min_four
set_option linter.unusedVariables false
set_option linter.unusedSimpArgs false




def errW : Option Int → Value
  | none => .nilIface
  | some c => .iface 0 (.int .i64 c)
theorem errW_none : errW none = .nilIface := rfl
theorem errW_some (c : Int) : errW (some c) = .iface 0 (.int .i64 c) := rfl

theorem info3 : (Try.prog.info? 3).map (fun i => (i.zero, i.size, i.bytes)) = some (some (.int .i64 0), 1, 8) := by kernel_rfl


end Go.Proofs.Ytannmhdoggefnaa.B
