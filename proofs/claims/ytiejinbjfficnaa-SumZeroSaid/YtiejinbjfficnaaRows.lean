/-
  No cell of these rows narrows 'for every input' (looked for: loops, veiled, ifaces, maps, wideKeys, modest, calm, conditions, laid).
  DERIVED. THE GIVEN ROWS OF THIS SEAT. 5 by the template 'for every input the law returns true; each argument reads behind the call as it read before'; 0 by the template 'total and deterministic' (their statements: YtiejinbjfficnaaTotals.lean).
  GIVEN WITH THE SEED: the statements are not yours to turn. If you find one false, say at which input.
  Laid BY PROGRAM, IN A SANDBOX (cutbox-rows.mjs): the forced cells as the released guide's own fill.sh prints them over the translation 83a7264bd078271a… (all of the seat's roots in one cut). By AI agents, Wed Nov 11 2026. No macro, syntax, notation, axiom, sorry.
-/
import Derived.Test.YtiejinbjfficnaaChecked
import GoSem.Claim
import GoSem.ClaimJoined
import GoSem.ClaimMapViews
import Derived.JoinedTies
import Derived.KernelRfl
namespace Go.Proofs.Ytiejinbjfficnaa
/- THE CELL 'sum', in the pinned program and in every row, IS THE sha256 OF THE DUMP (.gsa) THAT YtiejinbjfficnaaProg.lean LOADS. Nothing in Lean hashes anything: it is a label: what it is worth is what the hold of that sum in a sandbox is worth. -/
noncomputable def Try.pinned : Pinned := { name := "ytiejinbjfficnaa", sum := "83a7264bd078271af5ad60eef574e62c9bc824919bb0ab829b95e2c03ba513e0", checked := Try.checked }
namespace Rows
def none {H : Type} : Left H := { results := [], args := [] }

/-- 'outriggerlaw06.SumIs': WHATEVER THE INPUT: true; the input reads as it did. -/
def sumIsSpec : ChangeSpec := { name := "sumIs", fn := fun _ => fun
  | [d1, d2] => { results := [.lit (.bool true)], args := [d1, d2] }
  | _ => none }
def sumIsRow : OpenClaim := { program := "ytiejinbjfficnaa", sum := "83a7264bd078271af5ad60eef574e62c9bc824919bb0ab829b95e2c03ba513e0", func := "outrigger/outriggerlaw06.SumIs", spec := "sumIs", unfollowed := true, recurses := true, apart := false }
def SumIsSaid : Prop := sumIsRow.holds Try.pinned (OpenSpec.ofChange sumIsSpec)

/-- ITS FALSE NEIGHBOUR: 'it returns false'. Refute it at one input. -/
def sumIsWrong : ChangeSpec := { name := "sumIs", fn := fun _ => fun
  | [d1, d2] => { results := [.lit (.bool false)], args := [d1, d2] }
  | _ => none }
def SumIsWrongFalsely : Prop := sumIsRow.holds Try.pinned (OpenSpec.ofChange sumIsWrong)

/-- 'outriggerlaw06.SumTurn': WHATEVER THE INPUT: true; the input reads as it did. -/
def sumTurnSpec : ChangeSpec := { name := "sumTurn", fn := fun _ => fun
  | [d1, d2] => { results := [.lit (.bool true)], args := [d1, d2] }
  | _ => none }
def sumTurnRow : OpenClaim := { program := "ytiejinbjfficnaa", sum := "83a7264bd078271af5ad60eef574e62c9bc824919bb0ab829b95e2c03ba513e0", func := "outrigger/outriggerlaw06.SumTurn", spec := "sumTurn", unfollowed := true, recurses := true, apart := false }
def SumTurnSaid : Prop := sumTurnRow.holds Try.pinned (OpenSpec.ofChange sumTurnSpec)

/-- ITS FALSE NEIGHBOUR: 'it returns false'. Refute it at one input. -/
def sumTurnWrong : ChangeSpec := { name := "sumTurn", fn := fun _ => fun
  | [d1, d2] => { results := [.lit (.bool false)], args := [d1, d2] }
  | _ => none }
def SumTurnWrongFalsely : Prop := sumTurnRow.holds Try.pinned (OpenSpec.ofChange sumTurnWrong)

/-- 'outriggerlaw06.SumParts': WHATEVER THE INPUT: true; the input reads as it did. -/
def sumPartsSpec : ChangeSpec := { name := "sumParts", fn := fun _ => fun
  | [d1, d2] => { results := [.lit (.bool true)], args := [d1, d2] }
  | _ => none }
def sumPartsRow : OpenClaim := { program := "ytiejinbjfficnaa", sum := "83a7264bd078271af5ad60eef574e62c9bc824919bb0ab829b95e2c03ba513e0", func := "outrigger/outriggerlaw06.SumParts", spec := "sumParts", unfollowed := true, recurses := true, apart := false }
def SumPartsSaid : Prop := sumPartsRow.holds Try.pinned (OpenSpec.ofChange sumPartsSpec)

/-- ITS FALSE NEIGHBOUR: 'it returns false'. Refute it at one input. -/
def sumPartsWrong : ChangeSpec := { name := "sumParts", fn := fun _ => fun
  | [d1, d2] => { results := [.lit (.bool false)], args := [d1, d2] }
  | _ => none }
def SumPartsWrongFalsely : Prop := sumPartsRow.holds Try.pinned (OpenSpec.ofChange sumPartsWrong)

/-- 'outriggerlaw06.SumZero': WHATEVER THE INPUT: true; the input reads as it did. -/
def sumZeroSpec : ChangeSpec := { name := "sumZero", fn := fun _ => fun
  | [d1, d2, d3] => { results := [.lit (.bool true)], args := [d1, d2, d3] }
  | _ => none }
def sumZeroRow : OpenClaim := { program := "ytiejinbjfficnaa", sum := "83a7264bd078271af5ad60eef574e62c9bc824919bb0ab829b95e2c03ba513e0", func := "outrigger/outriggerlaw06.SumZero", spec := "sumZero", unfollowed := true, recurses := true, apart := false }
def SumZeroSaid : Prop := sumZeroRow.holds Try.pinned (OpenSpec.ofChange sumZeroSpec)

/-- ITS FALSE NEIGHBOUR: 'it returns false'. Refute it at one input. -/
def sumZeroWrong : ChangeSpec := { name := "sumZero", fn := fun _ => fun
  | [d1, d2, d3] => { results := [.lit (.bool false)], args := [d1, d2, d3] }
  | _ => none }
def SumZeroWrongFalsely : Prop := sumZeroRow.holds Try.pinned (OpenSpec.ofChange sumZeroWrong)

/-- 'outriggerlaw06.SumNorm': WHATEVER THE INPUT: true; the input reads as it did. -/
def sumNormSpec : ChangeSpec := { name := "sumNorm", fn := fun _ => fun
  | [d1, d2] => { results := [.lit (.bool true)], args := [d1, d2] }
  | _ => none }
def sumNormRow : OpenClaim := { program := "ytiejinbjfficnaa", sum := "83a7264bd078271af5ad60eef574e62c9bc824919bb0ab829b95e2c03ba513e0", func := "outrigger/outriggerlaw06.SumNorm", spec := "sumNorm", unfollowed := true, recurses := true, apart := false }
def SumNormSaid : Prop := sumNormRow.holds Try.pinned (OpenSpec.ofChange sumNormSpec)

/-- ITS FALSE NEIGHBOUR: 'it returns false'. Refute it at one input. -/
def sumNormWrong : ChangeSpec := { name := "sumNorm", fn := fun _ => fun
  | [d1, d2] => { results := [.lit (.bool false)], args := [d1, d2] }
  | _ => none }
def SumNormWrongFalsely : Prop := sumNormRow.holds Try.pinned (OpenSpec.ofChange sumNormWrong)

/- THE SECOND FORM. 'bulk': how many values and letters a reading holds, each counted each time it is reached (what is shared counts as often as it is met; a slice's spare places count too). A statement '..UptoSaid' is the law's where the arguments, and the package variables that the reading takes, are together of bulk at most 1048576: NARROWER than '..Said'. Prove '..Said' where nothing that the law and all that it calls make is longer than what came in: it says more and counts as full. Else prove '..UptoSaid'. A law counts once. -/
mutual
def uptoBulk {H : Type} : DataW H → Nat
  | .lit (.string bytes) => bytes.length + 1
  | .lit _ => 1
  | .nil => 1
  | .ptr d => uptoBulk d + 1
  | .slice elems spare => uptoBulkAll elems + uptoBulkAll spare + 1
  | .agg parts => uptoBulkAll parts + 1
  | .iface _ d => uptoBulk d + 1
  | .map entries => uptoBulkEntries entries + 1
  | .held _ => 1
def uptoBulkAll {H : Type} : List (DataW H) → Nat
  | [] => 0
  | d :: r => uptoBulk d + uptoBulkAll r
def uptoBulkEntries {H : Type} : List (Lit × DataW H) → Nat
  | [] => 0
  | x :: r => uptoBulkEntry x + uptoBulkEntries r
def uptoBulkEntry {H : Type} : Lit × DataW H → Nat
  | (.string bytes, d) => bytes.length + uptoBulk d + 1
  | (_, d) => uptoBulk d + 1
 end
def uptoSmall : (H : Type) → List (DataW H) → Bool := fun _ ds => decide (uptoBulkAll ds ≤ 1048576)
def OpenSpec.upto (s : _root_.Go.ChangeSpec) : _root_.Go.OpenSpec := { _root_.Go.OpenSpec.ofChange s with cond := some uptoSmall }

/-- 'outriggerlaw06.SumIs', WHERE WHAT IT READS IS OF BULK AT MOST 1048576: true; the input reads as it did. -/
def sumIsUptoRow : OpenClaim := { program := "ytiejinbjfficnaa", sum := "83a7264bd078271af5ad60eef574e62c9bc824919bb0ab829b95e2c03ba513e0", func := "outrigger/outriggerlaw06.SumIs", spec := "sumIs", unfollowed := true, recurses := true, apart := false, narrowed := true }
def SumIsUptoSaid : Prop := sumIsUptoRow.holds Try.pinned (OpenSpec.upto sumIsSpec)

/-- 'outriggerlaw06.SumTurn', WHERE WHAT IT READS IS OF BULK AT MOST 1048576: true; the input reads as it did. -/
def sumTurnUptoRow : OpenClaim := { program := "ytiejinbjfficnaa", sum := "83a7264bd078271af5ad60eef574e62c9bc824919bb0ab829b95e2c03ba513e0", func := "outrigger/outriggerlaw06.SumTurn", spec := "sumTurn", unfollowed := true, recurses := true, apart := false, narrowed := true }
def SumTurnUptoSaid : Prop := sumTurnUptoRow.holds Try.pinned (OpenSpec.upto sumTurnSpec)

/-- 'outriggerlaw06.SumParts', WHERE WHAT IT READS IS OF BULK AT MOST 1048576: true; the input reads as it did. -/
def sumPartsUptoRow : OpenClaim := { program := "ytiejinbjfficnaa", sum := "83a7264bd078271af5ad60eef574e62c9bc824919bb0ab829b95e2c03ba513e0", func := "outrigger/outriggerlaw06.SumParts", spec := "sumParts", unfollowed := true, recurses := true, apart := false, narrowed := true }
def SumPartsUptoSaid : Prop := sumPartsUptoRow.holds Try.pinned (OpenSpec.upto sumPartsSpec)

/-- 'outriggerlaw06.SumZero', WHERE WHAT IT READS IS OF BULK AT MOST 1048576: true; the input reads as it did. -/
def sumZeroUptoRow : OpenClaim := { program := "ytiejinbjfficnaa", sum := "83a7264bd078271af5ad60eef574e62c9bc824919bb0ab829b95e2c03ba513e0", func := "outrigger/outriggerlaw06.SumZero", spec := "sumZero", unfollowed := true, recurses := true, apart := false, narrowed := true }
def SumZeroUptoSaid : Prop := sumZeroUptoRow.holds Try.pinned (OpenSpec.upto sumZeroSpec)

/-- 'outriggerlaw06.SumNorm', WHERE WHAT IT READS IS OF BULK AT MOST 1048576: true; the input reads as it did. -/
def sumNormUptoRow : OpenClaim := { program := "ytiejinbjfficnaa", sum := "83a7264bd078271af5ad60eef574e62c9bc824919bb0ab829b95e2c03ba513e0", func := "outrigger/outriggerlaw06.SumNorm", spec := "sumNorm", unfollowed := true, recurses := true, apart := false, narrowed := true }
def SumNormUptoSaid : Prop := sumNormUptoRow.holds Try.pinned (OpenSpec.upto sumNormSpec)

end Rows
end Go.Proofs.Ytiejinbjfficnaa
