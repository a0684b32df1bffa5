/- Lemmas that the row leans on; laid by a program of this project out of longer texts: what the row does not name is left out. -/
import Derived.Test.YtiejinbjfficnaaZWInv
import Derived.Test.YtiejinbjfficnaaZWFootNe
namespace Go.Proofs.YtiejinbjfficnaaW.PrintWords
open Go.RowKit
end Go.Proofs.YtiejinbjfficnaaW.PrintWords
namespace Go.Proofs.YtiejinbjfficnaaW.PrintLast
section
variable {ops : Array Oper} {a : Act} {o og : Oper} {g : Nat} {t : Tmp} {u : Bool}
end
end Go.Proofs.YtiejinbjfficnaaW.PrintLast
