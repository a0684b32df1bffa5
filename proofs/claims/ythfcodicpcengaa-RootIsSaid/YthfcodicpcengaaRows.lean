/-
  No cell of these rows narrows 'for every input' (looked for: loops, veiled, ifaces, maps, wideKeys, modest, calm, conditions, laid).
  DERIVED. THE GIVEN ROWS OF THIS SEAT. 6 by the template 'for every input the law returns true; each argument reads behind the call as it read before'; 0 by the template 'total and deterministic' (their statements: YthfcodicpcengaaTotals.lean).
  GIVEN WITH THE SEED: the statements are not yours to turn. If you find one false, say at which input.
  Laid BY PROGRAM, IN A SANDBOX (cutbox-rows.mjs): the forced cells as the released guide's own fill.sh prints them over the translation 25ca3de9ccd374f1… (all of the seat's roots in one cut). By AI agents, Wed Nov 11 2026. No macro, syntax, notation, axiom, sorry.
-/
import Derived.Test.YthfcodicpcengaaChecked
import GoSem.Claim
import GoSem.ClaimJoined
import GoSem.ClaimMapViews
import Derived.JoinedTies
import Derived.KernelRfl
namespace Go.Proofs.Ythfcodicpcengaa
/- THE CELL 'sum', in the pinned program and in every row, IS THE sha256 OF THE DUMP (.gsa) THAT YthfcodicpcengaaProg.lean LOADS. Nothing in Lean hashes anything: it is a label: what it is worth is what the hold of that sum in a sandbox is worth. -/
noncomputable def Try.pinned : Pinned := { name := "ythfcodicpcengaa", sum := "25ca3de9ccd374f1f9f6858178522d8b5a8bcfebba15f9b04df411421958a990", checked := Try.checked }
namespace Rows
def none {H : Type} : Left H := { results := [], args := [] }

/-- 'outriggerlaw04.RootIs': WHATEVER THE INPUT: true; the input reads as it did. -/
def rootIsSpec : ChangeSpec := { name := "rootIs", fn := fun _ => fun
  | [d1, d2, d3] => { results := [.lit (.bool true)], args := [d1, d2, d3] }
  | _ => none }
def rootIsRow : OpenClaim := { program := "ythfcodicpcengaa", sum := "25ca3de9ccd374f1f9f6858178522d8b5a8bcfebba15f9b04df411421958a990", func := "outrigger/outriggerlaw04.RootIs", spec := "rootIs", apart := false }
def RootIsSaid : Prop := rootIsRow.holds Try.pinned (OpenSpec.ofChange rootIsSpec)

/-- ITS FALSE NEIGHBOUR: 'it returns false'. Refute it at one input. -/
def rootIsWrong : ChangeSpec := { name := "rootIs", fn := fun _ => fun
  | [d1, d2, d3] => { results := [.lit (.bool false)], args := [d1, d2, d3] }
  | _ => none }
def RootIsWrongFalsely : Prop := rootIsRow.holds Try.pinned (OpenSpec.ofChange rootIsWrong)

/-- 'outriggerlaw04.RootIn': WHATEVER THE INPUT: true; the input reads as it did. -/
def rootInSpec : ChangeSpec := { name := "rootIn", fn := fun _ => fun
  | [d] => { results := [.lit (.bool true)], args := [d] }
  | _ => none }
def rootInRow : OpenClaim := { program := "ythfcodicpcengaa", sum := "25ca3de9ccd374f1f9f6858178522d8b5a8bcfebba15f9b04df411421958a990", func := "outrigger/outriggerlaw04.RootIn", spec := "rootIn", apart := false }
def RootInSaid : Prop := rootInRow.holds Try.pinned (OpenSpec.ofChange rootInSpec)

/-- ITS FALSE NEIGHBOUR: 'it returns false'. Refute it at one input. -/
def rootInWrong : ChangeSpec := { name := "rootIn", fn := fun _ => fun
  | [d] => { results := [.lit (.bool false)], args := [d] }
  | _ => none }
def RootInWrongFalsely : Prop := rootInRow.holds Try.pinned (OpenSpec.ofChange rootInWrong)

/-- 'outriggerlaw04.RootBack': WHATEVER THE INPUT: true; the input reads as it did. -/
def rootBackSpec : ChangeSpec := { name := "rootBack", fn := fun _ => fun
  | [d1, d2] => { results := [.lit (.bool true)], args := [d1, d2] }
  | _ => none }
def rootBackRow : OpenClaim := { program := "ythfcodicpcengaa", sum := "25ca3de9ccd374f1f9f6858178522d8b5a8bcfebba15f9b04df411421958a990", func := "outrigger/outriggerlaw04.RootBack", spec := "rootBack", apart := false }
def RootBackSaid : Prop := rootBackRow.holds Try.pinned (OpenSpec.ofChange rootBackSpec)

/-- ITS FALSE NEIGHBOUR: 'it returns false'. Refute it at one input. -/
def rootBackWrong : ChangeSpec := { name := "rootBack", fn := fun _ => fun
  | [d1, d2] => { results := [.lit (.bool false)], args := [d1, d2] }
  | _ => none }
def RootBackWrongFalsely : Prop := rootBackRow.holds Try.pinned (OpenSpec.ofChange rootBackWrong)

/-- 'outriggerlaw04.RootFour': WHATEVER THE INPUT: true; the input reads as it did. -/
def rootFourSpec : ChangeSpec := { name := "rootFour", fn := fun _ => fun
  | [d1, d2] => { results := [.lit (.bool true)], args := [d1, d2] }
  | _ => none }
def rootFourRow : OpenClaim := { program := "ythfcodicpcengaa", sum := "25ca3de9ccd374f1f9f6858178522d8b5a8bcfebba15f9b04df411421958a990", func := "outrigger/outriggerlaw04.RootFour", spec := "rootFour", apart := false }
def RootFourSaid : Prop := rootFourRow.holds Try.pinned (OpenSpec.ofChange rootFourSpec)

/-- ITS FALSE NEIGHBOUR: 'it returns false'. Refute it at one input. -/
def rootFourWrong : ChangeSpec := { name := "rootFour", fn := fun _ => fun
  | [d1, d2] => { results := [.lit (.bool false)], args := [d1, d2] }
  | _ => none }
def RootFourWrongFalsely : Prop := rootFourRow.holds Try.pinned (OpenSpec.ofChange rootFourWrong)

/-- 'outriggerlaw04.RootWide': WHATEVER THE INPUT: true; the input reads as it did. -/
def rootWideSpec : ChangeSpec := { name := "rootWide", fn := fun _ => fun
  | [d1, d2] => { results := [.lit (.bool true)], args := [d1, d2] }
  | _ => none }
def rootWideRow : OpenClaim := { program := "ythfcodicpcengaa", sum := "25ca3de9ccd374f1f9f6858178522d8b5a8bcfebba15f9b04df411421958a990", func := "outrigger/outriggerlaw04.RootWide", spec := "rootWide", apart := false }
def RootWideSaid : Prop := rootWideRow.holds Try.pinned (OpenSpec.ofChange rootWideSpec)

/-- ITS FALSE NEIGHBOUR: 'it returns false'. Refute it at one input. -/
def rootWideWrong : ChangeSpec := { name := "rootWide", fn := fun _ => fun
  | [d1, d2] => { results := [.lit (.bool false)], args := [d1, d2] }
  | _ => none }
def RootWideWrongFalsely : Prop := rootWideRow.holds Try.pinned (OpenSpec.ofChange rootWideWrong)

/-- 'outriggerlaw04.RootOrder': WHATEVER THE INPUT: true; the input reads as it did. -/
def rootOrderSpec : ChangeSpec := { name := "rootOrder", fn := fun _ => fun
  | [d1, d2] => { results := [.lit (.bool true)], args := [d1, d2] }
  | _ => none }
def rootOrderRow : OpenClaim := { program := "ythfcodicpcengaa", sum := "25ca3de9ccd374f1f9f6858178522d8b5a8bcfebba15f9b04df411421958a990", func := "outrigger/outriggerlaw04.RootOrder", spec := "rootOrder", apart := false }
def RootOrderSaid : Prop := rootOrderRow.holds Try.pinned (OpenSpec.ofChange rootOrderSpec)

/-- ITS FALSE NEIGHBOUR: 'it returns false'. Refute it at one input. -/
def rootOrderWrong : ChangeSpec := { name := "rootOrder", fn := fun _ => fun
  | [d1, d2] => { results := [.lit (.bool false)], args := [d1, d2] }
  | _ => none }
def RootOrderWrongFalsely : Prop := rootOrderRow.holds Try.pinned (OpenSpec.ofChange rootOrderWrong)

/- THE SECOND FORM. 'bulk': how many values and letters a reading holds, each counted each time it is reached (what is shared counts as often as it is met; a slice's spare places count too). A statement '..UptoSaid' is the law's where the arguments, and the package variables that the reading takes, are together of bulk at most 1048576: NARROWER than '..Said'. Prove '..Said' where nothing that the law and all that it calls make is longer than what came in: it says more and counts as full. Else prove '..UptoSaid'. A law counts once. -/
mutual
def uptoBulk {H : Type} : DataW H → Nat
  | .lit (.string bytes) => bytes.length + 1
  | .lit _ => 1
  | .nil => 1
  | .ptr d => uptoBulk d + 1
  | .slice elems spare => uptoBulkAll elems + uptoBulkAll spare + 1
  | .agg parts => uptoBulkAll parts + 1
  | .iface _ d => uptoBulk d + 1
  | .map entries => uptoBulkEntries entries + 1
  | .held _ => 1
def uptoBulkAll {H : Type} : List (DataW H) → Nat
  | [] => 0
  | d :: r => uptoBulk d + uptoBulkAll r
def uptoBulkEntries {H : Type} : List (Lit × DataW H) → Nat
  | [] => 0
  | x :: r => uptoBulkEntry x + uptoBulkEntries r
def uptoBulkEntry {H : Type} : Lit × DataW H → Nat
  | (.string bytes, d) => bytes.length + uptoBulk d + 1
  | (_, d) => uptoBulk d + 1
 end
def uptoSmall : (H : Type) → List (DataW H) → Bool := fun _ ds => decide (uptoBulkAll ds ≤ 1048576)
def OpenSpec.upto (s : _root_.Go.ChangeSpec) : _root_.Go.OpenSpec := { _root_.Go.OpenSpec.ofChange s with cond := some uptoSmall }

/-- 'outriggerlaw04.RootIs', WHERE WHAT IT READS IS OF BULK AT MOST 1048576: true; the input reads as it did. -/
def rootIsUptoRow : OpenClaim := { program := "ythfcodicpcengaa", sum := "25ca3de9ccd374f1f9f6858178522d8b5a8bcfebba15f9b04df411421958a990", func := "outrigger/outriggerlaw04.RootIs", spec := "rootIs", apart := false, narrowed := true }
def RootIsUptoSaid : Prop := rootIsUptoRow.holds Try.pinned (OpenSpec.upto rootIsSpec)

/-- 'outriggerlaw04.RootIn', WHERE WHAT IT READS IS OF BULK AT MOST 1048576: true; the input reads as it did. -/
def rootInUptoRow : OpenClaim := { program := "ythfcodicpcengaa", sum := "25ca3de9ccd374f1f9f6858178522d8b5a8bcfebba15f9b04df411421958a990", func := "outrigger/outriggerlaw04.RootIn", spec := "rootIn", apart := false, narrowed := true }
def RootInUptoSaid : Prop := rootInUptoRow.holds Try.pinned (OpenSpec.upto rootInSpec)

/-- 'outriggerlaw04.RootBack', WHERE WHAT IT READS IS OF BULK AT MOST 1048576: true; the input reads as it did. -/
def rootBackUptoRow : OpenClaim := { program := "ythfcodicpcengaa", sum := "25ca3de9ccd374f1f9f6858178522d8b5a8bcfebba15f9b04df411421958a990", func := "outrigger/outriggerlaw04.RootBack", spec := "rootBack", apart := false, narrowed := true }
def RootBackUptoSaid : Prop := rootBackUptoRow.holds Try.pinned (OpenSpec.upto rootBackSpec)

/-- 'outriggerlaw04.RootFour', WHERE WHAT IT READS IS OF BULK AT MOST 1048576: true; the input reads as it did. -/
def rootFourUptoRow : OpenClaim := { program := "ythfcodicpcengaa", sum := "25ca3de9ccd374f1f9f6858178522d8b5a8bcfebba15f9b04df411421958a990", func := "outrigger/outriggerlaw04.RootFour", spec := "rootFour", apart := false, narrowed := true }
def RootFourUptoSaid : Prop := rootFourUptoRow.holds Try.pinned (OpenSpec.upto rootFourSpec)

/-- 'outriggerlaw04.RootWide', WHERE WHAT IT READS IS OF BULK AT MOST 1048576: true; the input reads as it did. -/
def rootWideUptoRow : OpenClaim := { program := "ythfcodicpcengaa", sum := "25ca3de9ccd374f1f9f6858178522d8b5a8bcfebba15f9b04df411421958a990", func := "outrigger/outriggerlaw04.RootWide", spec := "rootWide", apart := false, narrowed := true }
def RootWideUptoSaid : Prop := rootWideUptoRow.holds Try.pinned (OpenSpec.upto rootWideSpec)

/-- 'outriggerlaw04.RootOrder', WHERE WHAT IT READS IS OF BULK AT MOST 1048576: true; the input reads as it did. -/
def rootOrderUptoRow : OpenClaim := { program := "ythfcodicpcengaa", sum := "25ca3de9ccd374f1f9f6858178522d8b5a8bcfebba15f9b04df411421958a990", func := "outrigger/outriggerlaw04.RootOrder", spec := "rootOrder", apart := false, narrowed := true }
def RootOrderUptoSaid : Prop := rootOrderUptoRow.holds Try.pinned (OpenSpec.upto rootOrderSpec)

end Rows
end Go.Proofs.Ythfcodicpcengaa
