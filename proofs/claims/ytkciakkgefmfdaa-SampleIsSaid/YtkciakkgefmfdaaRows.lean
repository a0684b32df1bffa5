/-
  No cell of these rows narrows 'for every input' (looked for: loops, veiled, ifaces, maps, wideKeys, modest, calm, conditions, laid).
  DERIVED. THE GIVEN ROWS OF THIS SEAT. 6 by the template 'for every input the law returns true; each argument reads behind the call as it read before'; 0 by the template 'total and deterministic' (their statements: YtkciakkgefmfdaaTotals.lean).
  GIVEN WITH THE SEED: the statements are not yours to turn. If you find one false, say at which input.
  Laid BY PROGRAM, IN A SANDBOX (cutbox-rows.mjs): the forced cells as the released guide's own fill.sh prints them over the translation 1947bf4cb0b04722… (all of the seat's roots in one cut). By AI agents, Wed Nov 11 2026. No macro, syntax, notation, axiom, sorry.
-/
import Derived.Test.YtkciakkgefmfdaaChecked
import GoSem.Claim
import GoSem.ClaimJoined
import GoSem.ClaimMapViews
import Derived.JoinedTies
import Derived.KernelRfl
namespace Go.Proofs.Ytkciakkgefmfdaa
/- THE CELL 'sum', in the pinned program and in every row, IS THE sha256 OF THE DUMP (.gsa) THAT YtkciakkgefmfdaaProg.lean LOADS. Nothing in Lean hashes anything: it is a label: what it is worth is what the hold of that sum in a sandbox is worth. -/
noncomputable def Try.pinned : Pinned := { name := "ytkciakkgefmfdaa", sum := "1947bf4cb0b047227c2adc8972042e3fa48430ed92d60313fb1a0dd3c4c745f7", checked := Try.checked }
namespace Rows
def none {H : Type} : Left H := { results := [], args := [] }

/-- 'outriggerlaw13.SampleIs': WHATEVER THE INPUT: true; the input reads as it did. -/
def sampleIsSpec : ChangeSpec := { name := "sampleIs", fn := fun _ => fun
  | [d1, d2, d3] => { results := [.lit (.bool true)], args := [d1, d2, d3] }
  | _ => none }
def sampleIsRow : OpenClaim := { program := "ytkciakkgefmfdaa", sum := "1947bf4cb0b047227c2adc8972042e3fa48430ed92d60313fb1a0dd3c4c745f7", func := "outrigger/outriggerlaw13.SampleIs", spec := "sampleIs", apart := false }
def SampleIsSaid : Prop := sampleIsRow.holds Try.pinned (OpenSpec.ofChange sampleIsSpec)

/-- ITS FALSE NEIGHBOUR: 'it returns false'. Refute it at one input. -/
def sampleIsWrong : ChangeSpec := { name := "sampleIs", fn := fun _ => fun
  | [d1, d2, d3] => { results := [.lit (.bool false)], args := [d1, d2, d3] }
  | _ => none }
def SampleIsWrongFalsely : Prop := sampleIsRow.holds Try.pinned (OpenSpec.ofChange sampleIsWrong)

/-- 'outriggerlaw13.SampleBack': WHATEVER THE INPUT: true; the input reads as it did. -/
def sampleBackSpec : ChangeSpec := { name := "sampleBack", fn := fun _ => fun
  | [d1, d2] => { results := [.lit (.bool true)], args := [d1, d2] }
  | _ => none }
def sampleBackRow : OpenClaim := { program := "ytkciakkgefmfdaa", sum := "1947bf4cb0b047227c2adc8972042e3fa48430ed92d60313fb1a0dd3c4c745f7", func := "outrigger/outriggerlaw13.SampleBack", spec := "sampleBack", apart := false }
def SampleBackSaid : Prop := sampleBackRow.holds Try.pinned (OpenSpec.ofChange sampleBackSpec)

/-- ITS FALSE NEIGHBOUR: 'it returns false'. Refute it at one input. -/
def sampleBackWrong : ChangeSpec := { name := "sampleBack", fn := fun _ => fun
  | [d1, d2] => { results := [.lit (.bool false)], args := [d1, d2] }
  | _ => none }
def SampleBackWrongFalsely : Prop := sampleBackRow.holds Try.pinned (OpenSpec.ofChange sampleBackWrong)

/-- 'outriggerlaw13.SampleSeen': WHATEVER THE INPUT: true; the input reads as it did. -/
def sampleSeenSpec : ChangeSpec := { name := "sampleSeen", fn := fun _ => fun
  | [d1, d2, d3] => { results := [.lit (.bool true)], args := [d1, d2, d3] }
  | _ => none }
def sampleSeenRow : OpenClaim := { program := "ytkciakkgefmfdaa", sum := "1947bf4cb0b047227c2adc8972042e3fa48430ed92d60313fb1a0dd3c4c745f7", func := "outrigger/outriggerlaw13.SampleSeen", spec := "sampleSeen", apart := false }
def SampleSeenSaid : Prop := sampleSeenRow.holds Try.pinned (OpenSpec.ofChange sampleSeenSpec)

/-- ITS FALSE NEIGHBOUR: 'it returns false'. Refute it at one input. -/
def sampleSeenWrong : ChangeSpec := { name := "sampleSeen", fn := fun _ => fun
  | [d1, d2, d3] => { results := [.lit (.bool false)], args := [d1, d2, d3] }
  | _ => none }
def SampleSeenWrongFalsely : Prop := sampleSeenRow.holds Try.pinned (OpenSpec.ofChange sampleSeenWrong)

/-- 'outriggerlaw13.SampleSums': WHATEVER THE INPUT: true; the input reads as it did. -/
def sampleSumsSpec : ChangeSpec := { name := "sampleSums", fn := fun _ => fun
  | [d1, d2, d3] => { results := [.lit (.bool true)], args := [d1, d2, d3] }
  | _ => none }
def sampleSumsRow : OpenClaim := { program := "ytkciakkgefmfdaa", sum := "1947bf4cb0b047227c2adc8972042e3fa48430ed92d60313fb1a0dd3c4c745f7", func := "outrigger/outriggerlaw13.SampleSums", spec := "sampleSums", apart := false }
def SampleSumsSaid : Prop := sampleSumsRow.holds Try.pinned (OpenSpec.ofChange sampleSumsSpec)

/-- ITS FALSE NEIGHBOUR: 'it returns false'. Refute it at one input. -/
def sampleSumsWrong : ChangeSpec := { name := "sampleSums", fn := fun _ => fun
  | [d1, d2, d3] => { results := [.lit (.bool false)], args := [d1, d2, d3] }
  | _ => none }
def SampleSumsWrongFalsely : Prop := sampleSumsRow.holds Try.pinned (OpenSpec.ofChange sampleSumsWrong)

/-- 'outriggerlaw13.SampleOrder': WHATEVER THE INPUT: true; the input reads as it did. -/
def sampleOrderSpec : ChangeSpec := { name := "sampleOrder", fn := fun _ => fun
  | [d1, d2, d3] => { results := [.lit (.bool true)], args := [d1, d2, d3] }
  | _ => none }
def sampleOrderRow : OpenClaim := { program := "ytkciakkgefmfdaa", sum := "1947bf4cb0b047227c2adc8972042e3fa48430ed92d60313fb1a0dd3c4c745f7", func := "outrigger/outriggerlaw13.SampleOrder", spec := "sampleOrder", apart := false }
def SampleOrderSaid : Prop := sampleOrderRow.holds Try.pinned (OpenSpec.ofChange sampleOrderSpec)

/-- ITS FALSE NEIGHBOUR: 'it returns false'. Refute it at one input. -/
def sampleOrderWrong : ChangeSpec := { name := "sampleOrder", fn := fun _ => fun
  | [d1, d2, d3] => { results := [.lit (.bool false)], args := [d1, d2, d3] }
  | _ => none }
def SampleOrderWrongFalsely : Prop := sampleOrderRow.holds Try.pinned (OpenSpec.ofChange sampleOrderWrong)

/-- 'outriggerlaw13.SampleField': WHATEVER THE INPUT: true; the input reads as it did. -/
def sampleFieldSpec : ChangeSpec := { name := "sampleField", fn := fun _ => fun
  | [d1, d2, d3] => { results := [.lit (.bool true)], args := [d1, d2, d3] }
  | _ => none }
def sampleFieldRow : OpenClaim := { program := "ytkciakkgefmfdaa", sum := "1947bf4cb0b047227c2adc8972042e3fa48430ed92d60313fb1a0dd3c4c745f7", func := "outrigger/outriggerlaw13.SampleField", spec := "sampleField", apart := false }
def SampleFieldSaid : Prop := sampleFieldRow.holds Try.pinned (OpenSpec.ofChange sampleFieldSpec)

/-- ITS FALSE NEIGHBOUR: 'it returns false'. Refute it at one input. -/
def sampleFieldWrong : ChangeSpec := { name := "sampleField", fn := fun _ => fun
  | [d1, d2, d3] => { results := [.lit (.bool false)], args := [d1, d2, d3] }
  | _ => none }
def SampleFieldWrongFalsely : Prop := sampleFieldRow.holds Try.pinned (OpenSpec.ofChange sampleFieldWrong)

/- THE SECOND FORM. 'bulk': how many values and letters a reading holds, each counted each time it is reached (what is shared counts as often as it is met; a slice's spare places count too). A statement '..UptoSaid' is the law's where the arguments, and the package variables that the reading takes, are together of bulk at most 1048576: NARROWER than '..Said'. Prove '..Said' where nothing that the law and all that it calls make is longer than what came in: it says more and counts as full. Else prove '..UptoSaid'. A law counts once. -/
mutual
def uptoBulk {H : Type} : DataW H → Nat
  | .lit (.string bytes) => bytes.length + 1
  | .lit _ => 1
  | .nil => 1
  | .ptr d => uptoBulk d + 1
  | .slice elems spare => uptoBulkAll elems + uptoBulkAll spare + 1
  | .agg parts => uptoBulkAll parts + 1
  | .iface _ d => uptoBulk d + 1
  | .map entries => uptoBulkEntries entries + 1
  | .held _ => 1
def uptoBulkAll {H : Type} : List (DataW H) → Nat
  | [] => 0
  | d :: r => uptoBulk d + uptoBulkAll r
def uptoBulkEntries {H : Type} : List (Lit × DataW H) → Nat
  | [] => 0
  | x :: r => uptoBulkEntry x + uptoBulkEntries r
def uptoBulkEntry {H : Type} : Lit × DataW H → Nat
  | (.string bytes, d) => bytes.length + uptoBulk d + 1
  | (_, d) => uptoBulk d + 1
 end
def uptoSmall : (H : Type) → List (DataW H) → Bool := fun _ ds => decide (uptoBulkAll ds ≤ 1048576)
def OpenSpec.upto (s : _root_.Go.ChangeSpec) : _root_.Go.OpenSpec := { _root_.Go.OpenSpec.ofChange s with cond := some uptoSmall }

/-- 'outriggerlaw13.SampleIs', WHERE WHAT IT READS IS OF BULK AT MOST 1048576: true; the input reads as it did. -/
def sampleIsUptoRow : OpenClaim := { program := "ytkciakkgefmfdaa", sum := "1947bf4cb0b047227c2adc8972042e3fa48430ed92d60313fb1a0dd3c4c745f7", func := "outrigger/outriggerlaw13.SampleIs", spec := "sampleIs", apart := false, narrowed := true }
def SampleIsUptoSaid : Prop := sampleIsUptoRow.holds Try.pinned (OpenSpec.upto sampleIsSpec)

/-- 'outriggerlaw13.SampleBack', WHERE WHAT IT READS IS OF BULK AT MOST 1048576: true; the input reads as it did. -/
def sampleBackUptoRow : OpenClaim := { program := "ytkciakkgefmfdaa", sum := "1947bf4cb0b047227c2adc8972042e3fa48430ed92d60313fb1a0dd3c4c745f7", func := "outrigger/outriggerlaw13.SampleBack", spec := "sampleBack", apart := false, narrowed := true }
def SampleBackUptoSaid : Prop := sampleBackUptoRow.holds Try.pinned (OpenSpec.upto sampleBackSpec)

/-- 'outriggerlaw13.SampleSeen', WHERE WHAT IT READS IS OF BULK AT MOST 1048576: true; the input reads as it did. -/
def sampleSeenUptoRow : OpenClaim := { program := "ytkciakkgefmfdaa", sum := "1947bf4cb0b047227c2adc8972042e3fa48430ed92d60313fb1a0dd3c4c745f7", func := "outrigger/outriggerlaw13.SampleSeen", spec := "sampleSeen", apart := false, narrowed := true }
def SampleSeenUptoSaid : Prop := sampleSeenUptoRow.holds Try.pinned (OpenSpec.upto sampleSeenSpec)

/-- 'outriggerlaw13.SampleSums', WHERE WHAT IT READS IS OF BULK AT MOST 1048576: true; the input reads as it did. -/
def sampleSumsUptoRow : OpenClaim := { program := "ytkciakkgefmfdaa", sum := "1947bf4cb0b047227c2adc8972042e3fa48430ed92d60313fb1a0dd3c4c745f7", func := "outrigger/outriggerlaw13.SampleSums", spec := "sampleSums", apart := false, narrowed := true }
def SampleSumsUptoSaid : Prop := sampleSumsUptoRow.holds Try.pinned (OpenSpec.upto sampleSumsSpec)

/-- 'outriggerlaw13.SampleOrder', WHERE WHAT IT READS IS OF BULK AT MOST 1048576: true; the input reads as it did. -/
def sampleOrderUptoRow : OpenClaim := { program := "ytkciakkgefmfdaa", sum := "1947bf4cb0b047227c2adc8972042e3fa48430ed92d60313fb1a0dd3c4c745f7", func := "outrigger/outriggerlaw13.SampleOrder", spec := "sampleOrder", apart := false, narrowed := true }
def SampleOrderUptoSaid : Prop := sampleOrderUptoRow.holds Try.pinned (OpenSpec.upto sampleOrderSpec)

/-- 'outriggerlaw13.SampleField', WHERE WHAT IT READS IS OF BULK AT MOST 1048576: true; the input reads as it did. -/
def sampleFieldUptoRow : OpenClaim := { program := "ytkciakkgefmfdaa", sum := "1947bf4cb0b047227c2adc8972042e3fa48430ed92d60313fb1a0dd3c4c745f7", func := "outrigger/outriggerlaw13.SampleField", spec := "sampleField", apart := false, narrowed := true }
def SampleFieldUptoSaid : Prop := sampleFieldUptoRow.holds Try.pinned (OpenSpec.upto sampleFieldSpec)

end Rows
end Go.Proofs.Ytkciakkgefmfdaa
