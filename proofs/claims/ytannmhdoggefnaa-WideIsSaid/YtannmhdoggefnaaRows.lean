/-
  No cell of these rows narrows 'for every input' (looked for: loops, veiled, ifaces, maps, wideKeys, modest, calm, conditions, laid).
  DERIVED. THE GIVEN ROWS OF THIS SEAT. 6 by the template 'for every input the law returns true; each argument reads behind the call as it read before'; 0 by the template 'total and deterministic' (their statements: YtannmhdoggefnaaTotals.lean).
  GIVEN WITH THE SEED: the statements are not yours to turn. If you find one false, say at which input.
  Laid BY PROGRAM, IN A SANDBOX (cutbox-rows.mjs): the forced cells as the released guide's own fill.sh prints them over the translation c1f4304ddcc48466… (all of the seat's roots in one cut). By AI agents, Wed Nov 11 2026. No macro, syntax, notation, axiom, sorry.
-/
import Derived.Test.YtannmhdoggefnaaChecked
import GoSem.Claim
import GoSem.ClaimJoined
import GoSem.ClaimMapViews
import Derived.JoinedTies
import Derived.KernelRfl
namespace Go.Proofs.Ytannmhdoggefnaa
/- THE CELL 'sum', in the pinned program and in every row, IS THE sha256 OF THE DUMP (.gsa) THAT YtannmhdoggefnaaProg.lean LOADS. Nothing in Lean hashes anything: it is a label: what it is worth is what the hold of that sum in a sandbox is worth. -/
noncomputable def Try.pinned : Pinned := { name := "ytannmhdoggefnaa", sum := "c1f4304ddcc484662e0b3fac3687b54e83203c07e87a6bf7054d92174ee2e09e", checked := Try.checked }
namespace Rows
def none {H : Type} : Left H := { results := [], args := [] }

/-- 'outriggerlaw02.WideIs': WHATEVER THE INPUT: true; the input reads as it did. -/
def wideIsSpec : ChangeSpec := { name := "wideIs", fn := fun _ => fun
  | [d1, d2, d3, d4] => { results := [.lit (.bool true)], args := [d1, d2, d3, d4] }
  | _ => none }
def wideIsRow : OpenClaim := { program := "ytannmhdoggefnaa", sum := "c1f4304ddcc484662e0b3fac3687b54e83203c07e87a6bf7054d92174ee2e09e", func := "outrigger/outriggerlaw02.WideIs", spec := "wideIs", apart := false }
def WideIsSaid : Prop := wideIsRow.holds Try.pinned (OpenSpec.ofChange wideIsSpec)

/-- ITS FALSE NEIGHBOUR: 'it returns false'. Refute it at one input. -/
def wideIsWrong : ChangeSpec := { name := "wideIs", fn := fun _ => fun
  | [d1, d2, d3, d4] => { results := [.lit (.bool false)], args := [d1, d2, d3, d4] }
  | _ => none }
def WideIsWrongFalsely : Prop := wideIsRow.holds Try.pinned (OpenSpec.ofChange wideIsWrong)

/-- 'outriggerlaw02.WideSums': WHATEVER THE INPUT: true; the input reads as it did. -/
def wideSumsSpec : ChangeSpec := { name := "wideSums", fn := fun _ => fun
  | [d1, d2, d3] => { results := [.lit (.bool true)], args := [d1, d2, d3] }
  | _ => none }
def wideSumsRow : OpenClaim := { program := "ytannmhdoggefnaa", sum := "c1f4304ddcc484662e0b3fac3687b54e83203c07e87a6bf7054d92174ee2e09e", func := "outrigger/outriggerlaw02.WideSums", spec := "wideSums", apart := false }
def WideSumsSaid : Prop := wideSumsRow.holds Try.pinned (OpenSpec.ofChange wideSumsSpec)

/-- ITS FALSE NEIGHBOUR: 'it returns false'. Refute it at one input. -/
def wideSumsWrong : ChangeSpec := { name := "wideSums", fn := fun _ => fun
  | [d1, d2, d3] => { results := [.lit (.bool false)], args := [d1, d2, d3] }
  | _ => none }
def WideSumsWrongFalsely : Prop := wideSumsRow.holds Try.pinned (OpenSpec.ofChange wideSumsWrong)

/-- 'outriggerlaw02.WideDown': WHATEVER THE INPUT: true; the input reads as it did. -/
def wideDownSpec : ChangeSpec := { name := "wideDown", fn := fun _ => fun
  | [d1, d2, d3] => { results := [.lit (.bool true)], args := [d1, d2, d3] }
  | _ => none }
def wideDownRow : OpenClaim := { program := "ytannmhdoggefnaa", sum := "c1f4304ddcc484662e0b3fac3687b54e83203c07e87a6bf7054d92174ee2e09e", func := "outrigger/outriggerlaw02.WideDown", spec := "wideDown", apart := false }
def WideDownSaid : Prop := wideDownRow.holds Try.pinned (OpenSpec.ofChange wideDownSpec)

/-- ITS FALSE NEIGHBOUR: 'it returns false'. Refute it at one input. -/
def wideDownWrong : ChangeSpec := { name := "wideDown", fn := fun _ => fun
  | [d1, d2, d3] => { results := [.lit (.bool false)], args := [d1, d2, d3] }
  | _ => none }
def WideDownWrongFalsely : Prop := wideDownRow.holds Try.pinned (OpenSpec.ofChange wideDownWrong)

/-- 'outriggerlaw02.WideOrder': WHATEVER THE INPUT: true; the input reads as it did. -/
def wideOrderSpec : ChangeSpec := { name := "wideOrder", fn := fun _ => fun
  | [d1, d2, d3, d4, d5] => { results := [.lit (.bool true)], args := [d1, d2, d3, d4, d5] }
  | _ => none }
def wideOrderRow : OpenClaim := { program := "ytannmhdoggefnaa", sum := "c1f4304ddcc484662e0b3fac3687b54e83203c07e87a6bf7054d92174ee2e09e", func := "outrigger/outriggerlaw02.WideOrder", spec := "wideOrder", apart := false }
def WideOrderSaid : Prop := wideOrderRow.holds Try.pinned (OpenSpec.ofChange wideOrderSpec)

/-- ITS FALSE NEIGHBOUR: 'it returns false'. Refute it at one input. -/
def wideOrderWrong : ChangeSpec := { name := "wideOrder", fn := fun _ => fun
  | [d1, d2, d3, d4, d5] => { results := [.lit (.bool false)], args := [d1, d2, d3, d4, d5] }
  | _ => none }
def WideOrderWrongFalsely : Prop := wideOrderRow.holds Try.pinned (OpenSpec.ofChange wideOrderWrong)

/-- 'outriggerlaw02.WideShift': WHATEVER THE INPUT: true; the input reads as it did. -/
def wideShiftSpec : ChangeSpec := { name := "wideShift", fn := fun _ => fun
  | [d1, d2] => { results := [.lit (.bool true)], args := [d1, d2] }
  | _ => none }
def wideShiftRow : OpenClaim := { program := "ytannmhdoggefnaa", sum := "c1f4304ddcc484662e0b3fac3687b54e83203c07e87a6bf7054d92174ee2e09e", func := "outrigger/outriggerlaw02.WideShift", spec := "wideShift", apart := false }
def WideShiftSaid : Prop := wideShiftRow.holds Try.pinned (OpenSpec.ofChange wideShiftSpec)

/-- ITS FALSE NEIGHBOUR: 'it returns false'. Refute it at one input. -/
def wideShiftWrong : ChangeSpec := { name := "wideShift", fn := fun _ => fun
  | [d1, d2] => { results := [.lit (.bool false)], args := [d1, d2] }
  | _ => none }
def WideShiftWrongFalsely : Prop := wideShiftRow.holds Try.pinned (OpenSpec.ofChange wideShiftWrong)

/-- 'outriggerlaw02.WideProducts': WHATEVER THE INPUT: true; the input reads as it did. -/
def wideProductsSpec : ChangeSpec := { name := "wideProducts", fn := fun _ => fun
  | [d1, d2, d3] => { results := [.lit (.bool true)], args := [d1, d2, d3] }
  | _ => none }
def wideProductsRow : OpenClaim := { program := "ytannmhdoggefnaa", sum := "c1f4304ddcc484662e0b3fac3687b54e83203c07e87a6bf7054d92174ee2e09e", func := "outrigger/outriggerlaw02.WideProducts", spec := "wideProducts", apart := false }
def WideProductsSaid : Prop := wideProductsRow.holds Try.pinned (OpenSpec.ofChange wideProductsSpec)

/-- ITS FALSE NEIGHBOUR: 'it returns false'. Refute it at one input. -/
def wideProductsWrong : ChangeSpec := { name := "wideProducts", fn := fun _ => fun
  | [d1, d2, d3] => { results := [.lit (.bool false)], args := [d1, d2, d3] }
  | _ => none }
def WideProductsWrongFalsely : Prop := wideProductsRow.holds Try.pinned (OpenSpec.ofChange wideProductsWrong)

/- THE SECOND FORM. 'bulk': how many values and letters a reading holds, each counted each time it is reached (what is shared counts as often as it is met; a slice's spare places count too). A statement '..UptoSaid' is the law's where the arguments, and the package variables that the reading takes, are together of bulk at most 1048576: NARROWER than '..Said'. Prove '..Said' where nothing that the law and all that it calls make is longer than what came in: it says more and counts as full. Else prove '..UptoSaid'. A law counts once. -/
mutual
def uptoBulk {H : Type} : DataW H → Nat
  | .lit (.string bytes) => bytes.length + 1
  | .lit _ => 1
  | .nil => 1
  | .ptr d => uptoBulk d + 1
  | .slice elems spare => uptoBulkAll elems + uptoBulkAll spare + 1
  | .agg parts => uptoBulkAll parts + 1
  | .iface _ d => uptoBulk d + 1
  | .map entries => uptoBulkEntries entries + 1
  | .held _ => 1
def uptoBulkAll {H : Type} : List (DataW H) → Nat
  | [] => 0
  | d :: r => uptoBulk d + uptoBulkAll r
def uptoBulkEntries {H : Type} : List (Lit × DataW H) → Nat
  | [] => 0
  | x :: r => uptoBulkEntry x + uptoBulkEntries r
def uptoBulkEntry {H : Type} : Lit × DataW H → Nat
  | (.string bytes, d) => bytes.length + uptoBulk d + 1
  | (_, d) => uptoBulk d + 1
 end
def uptoSmall : (H : Type) → List (DataW H) → Bool := fun _ ds => decide (uptoBulkAll ds ≤ 1048576)
def OpenSpec.upto (s : _root_.Go.ChangeSpec) : _root_.Go.OpenSpec := { _root_.Go.OpenSpec.ofChange s with cond := some uptoSmall }

/-- 'outriggerlaw02.WideIs', WHERE WHAT IT READS IS OF BULK AT MOST 1048576: true; the input reads as it did. -/
def wideIsUptoRow : OpenClaim := { program := "ytannmhdoggefnaa", sum := "c1f4304ddcc484662e0b3fac3687b54e83203c07e87a6bf7054d92174ee2e09e", func := "outrigger/outriggerlaw02.WideIs", spec := "wideIs", apart := false, narrowed := true }
def WideIsUptoSaid : Prop := wideIsUptoRow.holds Try.pinned (OpenSpec.upto wideIsSpec)

/-- 'outriggerlaw02.WideSums', WHERE WHAT IT READS IS OF BULK AT MOST 1048576: true; the input reads as it did. -/
def wideSumsUptoRow : OpenClaim := { program := "ytannmhdoggefnaa", sum := "c1f4304ddcc484662e0b3fac3687b54e83203c07e87a6bf7054d92174ee2e09e", func := "outrigger/outriggerlaw02.WideSums", spec := "wideSums", apart := false, narrowed := true }
def WideSumsUptoSaid : Prop := wideSumsUptoRow.holds Try.pinned (OpenSpec.upto wideSumsSpec)

/-- 'outriggerlaw02.WideDown', WHERE WHAT IT READS IS OF BULK AT MOST 1048576: true; the input reads as it did. -/
def wideDownUptoRow : OpenClaim := { program := "ytannmhdoggefnaa", sum := "c1f4304ddcc484662e0b3fac3687b54e83203c07e87a6bf7054d92174ee2e09e", func := "outrigger/outriggerlaw02.WideDown", spec := "wideDown", apart := false, narrowed := true }
def WideDownUptoSaid : Prop := wideDownUptoRow.holds Try.pinned (OpenSpec.upto wideDownSpec)

/-- 'outriggerlaw02.WideOrder', WHERE WHAT IT READS IS OF BULK AT MOST 1048576: true; the input reads as it did. -/
def wideOrderUptoRow : OpenClaim := { program := "ytannmhdoggefnaa", sum := "c1f4304ddcc484662e0b3fac3687b54e83203c07e87a6bf7054d92174ee2e09e", func := "outrigger/outriggerlaw02.WideOrder", spec := "wideOrder", apart := false, narrowed := true }
def WideOrderUptoSaid : Prop := wideOrderUptoRow.holds Try.pinned (OpenSpec.upto wideOrderSpec)

/-- 'outriggerlaw02.WideShift', WHERE WHAT IT READS IS OF BULK AT MOST 1048576: true; the input reads as it did. -/
def wideShiftUptoRow : OpenClaim := { program := "ytannmhdoggefnaa", sum := "c1f4304ddcc484662e0b3fac3687b54e83203c07e87a6bf7054d92174ee2e09e", func := "outrigger/outriggerlaw02.WideShift", spec := "wideShift", apart := false, narrowed := true }
def WideShiftUptoSaid : Prop := wideShiftUptoRow.holds Try.pinned (OpenSpec.upto wideShiftSpec)

/-- 'outriggerlaw02.WideProducts', WHERE WHAT IT READS IS OF BULK AT MOST 1048576: true; the input reads as it did. -/
def wideProductsUptoRow : OpenClaim := { program := "ytannmhdoggefnaa", sum := "c1f4304ddcc484662e0b3fac3687b54e83203c07e87a6bf7054d92174ee2e09e", func := "outrigger/outriggerlaw02.WideProducts", spec := "wideProducts", apart := false, narrowed := true }
def WideProductsUptoSaid : Prop := wideProductsUptoRow.holds Try.pinned (OpenSpec.upto wideProductsSpec)

end Rows
end Go.Proofs.Ytannmhdoggefnaa
