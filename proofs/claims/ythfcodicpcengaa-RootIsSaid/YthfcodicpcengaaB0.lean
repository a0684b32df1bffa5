/- What the walks lean on: sizes of types, errors as numbers. Laid by a program of this project out of the kit's print of the Go functions. -/
import Derived.Test.YthfcodicpcengaaProg
import Derived.Below
import Derived.Deep.Draws
import Derived.Deep.AppendLies
import Derived.Maps.AppendAt
import Derived.OwnWalk
import Derived.Laws.BytesArg
import Derived.Laws.MakeOwn
import Derived.Laws.OwnMore
import Derived.Deep.OwnRows
import Derived.Tactics
import Derived.Lib.ConvBytes
import Derived.Laws.Slices
import Derived.WalkKit
import Derived.KernelRfl
import Derived.RowKit3
import Derived.Deep.LoopGhost
import Derived.Deep.QuietTactic
import Derived.BigQuiet
import Derived.WideLaws
import Derived.Deep.DeepCutAuto
import Derived.Deep.CutBlock
import Derived.Deep.RegionHeld3
import Derived.Laws.Rows
import Derived.Lib.AppendStr
import Derived.ArgAppend
import Derived.Laws.IdiomCopy
import Derived.OrdersHeld
import Derived.Laws.BitsLemmas
import Derived.RowKit
import Derived.Test.YthfcodicpcengaaWWords
import Derived.Test.YthfcodicpcengaaWLast
import Derived.Test.YthfcodicpcengaaWTab
import Derived.Test.YthfcodicpcengaaWFour
import Derived.Test.YthfcodicpcengaaWQPut
import Derived.Test.YthfcodicpcengaaWApart
import Derived.Test.YthfcodicpcengaaWArr
import Derived.Test.YthfcodicpcengaaWZeros
import Derived.Test.YthfcodicpcengaaWFoot
import Derived.Test.YthfcodicpcengaaWKept
import Derived.Test.YthfcodicpcengaaWShare
import Derived.Test.YthfcodicpcengaaWN
import Derived.Test.YthfcodicpcengaaWFootNe
import Derived.Test.YthfcodicpcengaaWAt
import Derived.Test.YthfcodicpcengaaWEqStruct
import Derived.Test.YthfcodicpcengaaWRepsOne
import Derived.Test.YthfcodicpcengaaWInv
import Derived.Test.YthfcodicpcengaaWInvWords
import Derived.Test.YthfcodicpcengaaWGuard
import Derived.Test.YthfcodicpcengaaWNEv
import Derived.Test.YthfcodicpcengaaWMore
namespace Go.Proofs.Ythfcodicpcengaa.B
open Go.RowKit Go.Proofs.YthfcodicpcengaaW.PrintWords Go.Proofs.YthfcodicpcengaaW.PrintLast Go.Proofs.YthfcodicpcengaaW.PrintMore
attribute [local go_sem] max2_int min2_int max_two min_two max_three min_three max_four min_four
set_option linter.unusedVariables false
set_option linter.unusedSimpArgs false




def errW : Option Int → Value
  | none => .nilIface
  | some c => .iface 0 (.int .i64 c)
theorem errW_none : errW none = .nilIface := rfl
theorem errW_some (c : Int) : errW (some c) = .iface 0 (.int .i64 c) := rfl

theorem info3 : (Try.prog.info? 3).map (fun i => (i.zero, i.size, i.bytes)) = some (some (.int .i64 0), 1, 8) := by kernel_rfl


end Go.Proofs.Ythfcodicpcengaa.B
