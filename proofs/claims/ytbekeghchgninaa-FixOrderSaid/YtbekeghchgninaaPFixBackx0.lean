-- PRINTED BY print.sh 35421559b90ae4d0a3588c463048766b98c2df88dd9212a6774a882060cdf62d: not written by this session
import Derived.Test.YtbekeghchgninaaProg
import Derived.Below
import Derived.Deep.Draws
import Derived.Deep.AppendLies
import Derived.Maps.AppendAt
import Derived.OwnWalk
import Derived.Laws.BytesArg
import Derived.Laws.MakeOwn
import Derived.Laws.OwnMore
import Derived.Deep.OwnRows
import Derived.Tactics
import Derived.Lib.ConvBytes
import Derived.Laws.Slices
import Derived.WalkKit
import Derived.KernelRfl
import Derived.RowKit3
import Derived.Deep.LoopGhost
import Derived.Deep.QuietTactic
import Derived.BigQuiet
import Derived.WideLaws
import Derived.Deep.DeepCutAuto
import Derived.Deep.CutBlock
import Derived.Deep.RegionHeld3
import Derived.Laws.Rows
import Derived.Lib.AppendStr
import Derived.ArgAppend
import Derived.Laws.IdiomCopy
import Derived.OrdersHeld
import Derived.Laws.BitsLemmas
import Derived.RowKit
import Derived.Test.YtbekeghchgninaaWWords
import Derived.Test.YtbekeghchgninaaWLast
import Derived.Test.YtbekeghchgninaaWTab
import Derived.Test.YtbekeghchgninaaWFour
import Derived.Test.YtbekeghchgninaaWQPut
import Derived.Test.YtbekeghchgninaaWApart
import Derived.Test.YtbekeghchgninaaWArr
import Derived.Test.YtbekeghchgninaaWZeros
import Derived.Test.YtbekeghchgninaaWFoot
import Derived.Test.YtbekeghchgninaaWKept
import Derived.Test.YtbekeghchgninaaWShare
import Derived.Test.YtbekeghchgninaaWN
import Derived.Test.YtbekeghchgninaaWFootNe
import Derived.Test.YtbekeghchgninaaWAt
import Derived.Test.YtbekeghchgninaaWEqStruct
import Derived.Test.YtbekeghchgninaaWRepsOne
import Derived.Test.YtbekeghchgninaaWInv
import Derived.Test.YtbekeghchgninaaWInvWords
import Derived.Test.YtbekeghchgninaaWGuard
import Derived.Test.YtbekeghchgninaaWNEv
import Derived.Test.YtbekeghchgninaaWMore
namespace Go.Proofs.Ytbekeghchgninaa.PFixBack
open Go.RowKit Go.Proofs.YtbekeghchgninaaW.PrintWords Go.Proofs.YtbekeghchgninaaW.PrintLast Go.Proofs.YtbekeghchgninaaW.PrintMore
attribute [local go_sem] max2_int min2_int max_two min_two max_three min_three max_four min_four   -- for this text's walks alone
set_option linter.unusedVariables false
set_option linter.unusedSimpArgs false



def errW : Option Int → Value
  | none => .nilIface
  | some c => .iface 0 (.int .i64 c)
theorem errW_none : errW none = .nilIface := rfl
theorem errW_some (c : Int) : errW (some c) = .iface 0 (.int .i64 c) := rfl

-- the values' own types

end Go.Proofs.Ytbekeghchgninaa.PFixBack
