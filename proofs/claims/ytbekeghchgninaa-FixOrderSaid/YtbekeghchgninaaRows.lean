/-
  No cell of these rows narrows 'for every input' (looked for: loops, veiled, ifaces, maps, wideKeys, modest, calm, conditions, laid).
  DERIVED. THE GIVEN ROWS OF THIS SEAT. 5 by the template 'for every input the law returns true; each argument reads behind the call as it read before'; 0 by the template 'total and deterministic' (their statements: YtbekeghchgninaaTotals.lean).
  GIVEN WITH THE SEED: the statements are not yours to turn. If you find one false, say at which input.
  Laid BY PROGRAM, IN A SANDBOX (cutbox-rows.mjs): the forced cells as the released guide's own fill.sh prints them over the translation 9a7e9eb654968075… (all of the seat's roots in one cut). By AI agents, Wed Nov 11 2026. No macro, syntax, notation, axiom, sorry.
-/
import Derived.Test.YtbekeghchgninaaChecked
import GoSem.Claim
import GoSem.ClaimJoined
import GoSem.ClaimMapViews
import Derived.JoinedTies
import Derived.KernelRfl
namespace Go.Proofs.Ytbekeghchgninaa
/- THE CELL 'sum', in the pinned program and in every row, IS THE sha256 OF THE DUMP (.gsa) THAT YtbekeghchgninaaProg.lean LOADS. Nothing in Lean hashes anything: it is a label: what it is worth is what the hold of that sum in a sandbox is worth. -/
noncomputable def Try.pinned : Pinned := { name := "ytbekeghchgninaa", sum := "9a7e9eb654968075eaa1919703d5b6f2a5b104b6f2cb10efc023b065ce16cc7a", checked := Try.checked }
namespace Rows
def none {H : Type} : Left H := { results := [], args := [] }

/-- 'outriggerlaw01.FixParts': WHATEVER THE INPUT: true; the input reads as it did. -/
def fixPartsSpec : ChangeSpec := { name := "fixParts", fn := fun _ => fun
  | [d] => { results := [.lit (.bool true)], args := [d] }
  | _ => none }
def fixPartsRow : OpenClaim := { program := "ytbekeghchgninaa", sum := "9a7e9eb654968075eaa1919703d5b6f2a5b104b6f2cb10efc023b065ce16cc7a", func := "outrigger/outriggerlaw01.FixParts", spec := "fixParts", apart := false }
def FixPartsSaid : Prop := fixPartsRow.holds Try.pinned (OpenSpec.ofChange fixPartsSpec)

/-- ITS FALSE NEIGHBOUR: 'it returns false'. Refute it at one input. -/
def fixPartsWrong : ChangeSpec := { name := "fixParts", fn := fun _ => fun
  | [d] => { results := [.lit (.bool false)], args := [d] }
  | _ => none }
def FixPartsWrongFalsely : Prop := fixPartsRow.holds Try.pinned (OpenSpec.ofChange fixPartsWrong)

/-- 'outriggerlaw01.FixThree': WHATEVER THE INPUT: true; the input reads as it did. -/
def fixThreeSpec : ChangeSpec := { name := "fixThree", fn := fun _ => fun
  | [d1, d2, d3] => { results := [.lit (.bool true)], args := [d1, d2, d3] }
  | _ => none }
def fixThreeRow : OpenClaim := { program := "ytbekeghchgninaa", sum := "9a7e9eb654968075eaa1919703d5b6f2a5b104b6f2cb10efc023b065ce16cc7a", func := "outrigger/outriggerlaw01.FixThree", spec := "fixThree", apart := false }
def FixThreeSaid : Prop := fixThreeRow.holds Try.pinned (OpenSpec.ofChange fixThreeSpec)

/-- ITS FALSE NEIGHBOUR: 'it returns false'. Refute it at one input. -/
def fixThreeWrong : ChangeSpec := { name := "fixThree", fn := fun _ => fun
  | [d1, d2, d3] => { results := [.lit (.bool false)], args := [d1, d2, d3] }
  | _ => none }
def FixThreeWrongFalsely : Prop := fixThreeRow.holds Try.pinned (OpenSpec.ofChange fixThreeWrong)

/-- 'outriggerlaw01.FixIs': WHATEVER THE INPUT: true; the input reads as it did. -/
def fixIsSpec : ChangeSpec := { name := "fixIs", fn := fun _ => fun
  | [d1, d2] => { results := [.lit (.bool true)], args := [d1, d2] }
  | _ => none }
def fixIsRow : OpenClaim := { program := "ytbekeghchgninaa", sum := "9a7e9eb654968075eaa1919703d5b6f2a5b104b6f2cb10efc023b065ce16cc7a", func := "outrigger/outriggerlaw01.FixIs", spec := "fixIs", apart := false }
def FixIsSaid : Prop := fixIsRow.holds Try.pinned (OpenSpec.ofChange fixIsSpec)

/-- ITS FALSE NEIGHBOUR: 'it returns false'. Refute it at one input. -/
def fixIsWrong : ChangeSpec := { name := "fixIs", fn := fun _ => fun
  | [d1, d2] => { results := [.lit (.bool false)], args := [d1, d2] }
  | _ => none }
def FixIsWrongFalsely : Prop := fixIsRow.holds Try.pinned (OpenSpec.ofChange fixIsWrong)

/-- 'outriggerlaw01.FixBack': WHATEVER THE INPUT: true; the input reads as it did. -/
def fixBackSpec : ChangeSpec := { name := "fixBack", fn := fun _ => fun
  | [d1, d2] => { results := [.lit (.bool true)], args := [d1, d2] }
  | _ => none }
def fixBackRow : OpenClaim := { program := "ytbekeghchgninaa", sum := "9a7e9eb654968075eaa1919703d5b6f2a5b104b6f2cb10efc023b065ce16cc7a", func := "outrigger/outriggerlaw01.FixBack", spec := "fixBack", apart := false }
def FixBackSaid : Prop := fixBackRow.holds Try.pinned (OpenSpec.ofChange fixBackSpec)

/-- ITS FALSE NEIGHBOUR: 'it returns false'. Refute it at one input. -/
def fixBackWrong : ChangeSpec := { name := "fixBack", fn := fun _ => fun
  | [d1, d2] => { results := [.lit (.bool false)], args := [d1, d2] }
  | _ => none }
def FixBackWrongFalsely : Prop := fixBackRow.holds Try.pinned (OpenSpec.ofChange fixBackWrong)

/-- 'outriggerlaw01.FixOrder': WHATEVER THE INPUT: true; the input reads as it did. -/
def fixOrderSpec : ChangeSpec := { name := "fixOrder", fn := fun _ => fun
  | [d1, d2, d3] => { results := [.lit (.bool true)], args := [d1, d2, d3] }
  | _ => none }
def fixOrderRow : OpenClaim := { program := "ytbekeghchgninaa", sum := "9a7e9eb654968075eaa1919703d5b6f2a5b104b6f2cb10efc023b065ce16cc7a", func := "outrigger/outriggerlaw01.FixOrder", spec := "fixOrder", apart := false }
def FixOrderSaid : Prop := fixOrderRow.holds Try.pinned (OpenSpec.ofChange fixOrderSpec)

/-- ITS FALSE NEIGHBOUR: 'it returns false'. Refute it at one input. -/
def fixOrderWrong : ChangeSpec := { name := "fixOrder", fn := fun _ => fun
  | [d1, d2, d3] => { results := [.lit (.bool false)], args := [d1, d2, d3] }
  | _ => none }
def FixOrderWrongFalsely : Prop := fixOrderRow.holds Try.pinned (OpenSpec.ofChange fixOrderWrong)

/- THE SECOND FORM. 'bulk': how many values and letters a reading holds, each counted each time it is reached (what is shared counts as often as it is met; a slice's spare places count too). A statement '..UptoSaid' is the law's where the arguments, and the package variables that the reading takes, are together of bulk at most 1048576: NARROWER than '..Said'. Prove '..Said' where nothing that the law and all that it calls make is longer than what came in: it says more and counts as full. Else prove '..UptoSaid'. A law counts once. -/
mutual
def uptoBulk {H : Type} : DataW H → Nat
  | .lit (.string bytes) => bytes.length + 1
  | .lit _ => 1
  | .nil => 1
  | .ptr d => uptoBulk d + 1
  | .slice elems spare => uptoBulkAll elems + uptoBulkAll spare + 1
  | .agg parts => uptoBulkAll parts + 1
  | .iface _ d => uptoBulk d + 1
  | .map entries => uptoBulkEntries entries + 1
  | .held _ => 1
def uptoBulkAll {H : Type} : List (DataW H) → Nat
  | [] => 0
  | d :: r => uptoBulk d + uptoBulkAll r
def uptoBulkEntries {H : Type} : List (Lit × DataW H) → Nat
  | [] => 0
  | x :: r => uptoBulkEntry x + uptoBulkEntries r
def uptoBulkEntry {H : Type} : Lit × DataW H → Nat
  | (.string bytes, d) => bytes.length + uptoBulk d + 1
  | (_, d) => uptoBulk d + 1
 end
def uptoSmall : (H : Type) → List (DataW H) → Bool := fun _ ds => decide (uptoBulkAll ds ≤ 1048576)
def OpenSpec.upto (s : _root_.Go.ChangeSpec) : _root_.Go.OpenSpec := { _root_.Go.OpenSpec.ofChange s with cond := some uptoSmall }

/-- 'outriggerlaw01.FixParts', WHERE WHAT IT READS IS OF BULK AT MOST 1048576: true; the input reads as it did. -/
def fixPartsUptoRow : OpenClaim := { program := "ytbekeghchgninaa", sum := "9a7e9eb654968075eaa1919703d5b6f2a5b104b6f2cb10efc023b065ce16cc7a", func := "outrigger/outriggerlaw01.FixParts", spec := "fixParts", apart := false, narrowed := true }
def FixPartsUptoSaid : Prop := fixPartsUptoRow.holds Try.pinned (OpenSpec.upto fixPartsSpec)

/-- 'outriggerlaw01.FixThree', WHERE WHAT IT READS IS OF BULK AT MOST 1048576: true; the input reads as it did. -/
def fixThreeUptoRow : OpenClaim := { program := "ytbekeghchgninaa", sum := "9a7e9eb654968075eaa1919703d5b6f2a5b104b6f2cb10efc023b065ce16cc7a", func := "outrigger/outriggerlaw01.FixThree", spec := "fixThree", apart := false, narrowed := true }
def FixThreeUptoSaid : Prop := fixThreeUptoRow.holds Try.pinned (OpenSpec.upto fixThreeSpec)

/-- 'outriggerlaw01.FixIs', WHERE WHAT IT READS IS OF BULK AT MOST 1048576: true; the input reads as it did. -/
def fixIsUptoRow : OpenClaim := { program := "ytbekeghchgninaa", sum := "9a7e9eb654968075eaa1919703d5b6f2a5b104b6f2cb10efc023b065ce16cc7a", func := "outrigger/outriggerlaw01.FixIs", spec := "fixIs", apart := false, narrowed := true }
def FixIsUptoSaid : Prop := fixIsUptoRow.holds Try.pinned (OpenSpec.upto fixIsSpec)

/-- 'outriggerlaw01.FixBack', WHERE WHAT IT READS IS OF BULK AT MOST 1048576: true; the input reads as it did. -/
def fixBackUptoRow : OpenClaim := { program := "ytbekeghchgninaa", sum := "9a7e9eb654968075eaa1919703d5b6f2a5b104b6f2cb10efc023b065ce16cc7a", func := "outrigger/outriggerlaw01.FixBack", spec := "fixBack", apart := false, narrowed := true }
def FixBackUptoSaid : Prop := fixBackUptoRow.holds Try.pinned (OpenSpec.upto fixBackSpec)

/-- 'outriggerlaw01.FixOrder', WHERE WHAT IT READS IS OF BULK AT MOST 1048576: true; the input reads as it did. -/
def fixOrderUptoRow : OpenClaim := { program := "ytbekeghchgninaa", sum := "9a7e9eb654968075eaa1919703d5b6f2a5b104b6f2cb10efc023b065ce16cc7a", func := "outrigger/outriggerlaw01.FixOrder", spec := "fixOrder", apart := false, narrowed := true }
def FixOrderUptoSaid : Prop := fixOrderUptoRow.holds Try.pinned (OpenSpec.upto fixOrderSpec)

end Rows
end Go.Proofs.Ytbekeghchgninaa
