/-
  No cell of these rows narrows 'for every input' (looked for: loops, veiled, ifaces, maps, wideKeys, modest, calm, conditions, laid).
  DERIVED. THE GIVEN ROWS OF THIS SEAT. 5 by the template 'for every input the law returns true; each argument reads behind the call as it read before'; 0 by the template 'total and deterministic' (their statements: YtembdogffbcjiaaTotals.lean).
  GIVEN WITH THE SEED: the statements are not yours to turn. If you find one false, say at which input.
  Laid BY PROGRAM, IN A SANDBOX (cutbox-rows.mjs): the forced cells as the released guide's own fill.sh prints them over the translation 829ff96e7dc07a31… (all of the seat's roots in one cut). By AI agents, Wed Nov 11 2026. No macro, syntax, notation, axiom, sorry.
-/
import Derived.Test.YtembdogffbcjiaaChecked
import GoSem.Claim
import GoSem.ClaimJoined
import GoSem.ClaimMapViews
import Derived.JoinedTies
import Derived.KernelRfl
namespace Go.Proofs.Ytembdogffbcjiaa
/- THE CELL 'sum', in the pinned program and in every row, IS THE sha256 OF THE DUMP (.gsa) THAT YtembdogffbcjiaaProg.lean LOADS. Nothing in Lean hashes anything: it is a label: what it is worth is what the hold of that sum in a sandbox is worth. -/
noncomputable def Try.pinned : Pinned := { name := "ytembdogffbcjiaa", sum := "829ff96e7dc07a319bdacb34cb0461a5ce385e911229a1ae9a5291d1ae7910ce", checked := Try.checked }
namespace Rows
def none {H : Type} : Left H := { results := [], args := [] }

/-- 'outriggerlaw08.MatIs': WHATEVER THE INPUT: true; the input reads as it did. -/
def matIsSpec : ChangeSpec := { name := "matIs", fn := fun _ => fun
  | [d1, d2, d3, d4] => { results := [.lit (.bool true)], args := [d1, d2, d3, d4] }
  | _ => none }
def matIsRow : OpenClaim := { program := "ytembdogffbcjiaa", sum := "829ff96e7dc07a319bdacb34cb0461a5ce385e911229a1ae9a5291d1ae7910ce", func := "outrigger/outriggerlaw08.MatIs", spec := "matIs", unfollowed := true, recurses := true, apart := false }
def MatIsSaid : Prop := matIsRow.holds Try.pinned (OpenSpec.ofChange matIsSpec)

/-- ITS FALSE NEIGHBOUR: 'it returns false'. Refute it at one input. -/
def matIsWrong : ChangeSpec := { name := "matIs", fn := fun _ => fun
  | [d1, d2, d3, d4] => { results := [.lit (.bool false)], args := [d1, d2, d3, d4] }
  | _ => none }
def MatIsWrongFalsely : Prop := matIsRow.holds Try.pinned (OpenSpec.ofChange matIsWrong)

/-- 'outriggerlaw08.MatTurn': WHATEVER THE INPUT: true; the input reads as it did. -/
def matTurnSpec : ChangeSpec := { name := "matTurn", fn := fun _ => fun
  | [d1, d2] => { results := [.lit (.bool true)], args := [d1, d2] }
  | _ => none }
def matTurnRow : OpenClaim := { program := "ytembdogffbcjiaa", sum := "829ff96e7dc07a319bdacb34cb0461a5ce385e911229a1ae9a5291d1ae7910ce", func := "outrigger/outriggerlaw08.MatTurn", spec := "matTurn", unfollowed := true, recurses := true, apart := false }
def MatTurnSaid : Prop := matTurnRow.holds Try.pinned (OpenSpec.ofChange matTurnSpec)

/-- ITS FALSE NEIGHBOUR: 'it returns false'. Refute it at one input. -/
def matTurnWrong : ChangeSpec := { name := "matTurn", fn := fun _ => fun
  | [d1, d2] => { results := [.lit (.bool false)], args := [d1, d2] }
  | _ => none }
def MatTurnWrongFalsely : Prop := matTurnRow.holds Try.pinned (OpenSpec.ofChange matTurnWrong)

/-- 'outriggerlaw08.MatEven': WHATEVER THE INPUT: true; the input reads as it did. -/
def matEvenSpec : ChangeSpec := { name := "matEven", fn := fun _ => fun
  | [d] => { results := [.lit (.bool true)], args := [d] }
  | _ => none }
def matEvenRow : OpenClaim := { program := "ytembdogffbcjiaa", sum := "829ff96e7dc07a319bdacb34cb0461a5ce385e911229a1ae9a5291d1ae7910ce", func := "outrigger/outriggerlaw08.MatEven", spec := "matEven", unfollowed := true, recurses := true, apart := false }
def MatEvenSaid : Prop := matEvenRow.holds Try.pinned (OpenSpec.ofChange matEvenSpec)

/-- ITS FALSE NEIGHBOUR: 'it returns false'. Refute it at one input. -/
def matEvenWrong : ChangeSpec := { name := "matEven", fn := fun _ => fun
  | [d] => { results := [.lit (.bool false)], args := [d] }
  | _ => none }
def MatEvenWrongFalsely : Prop := matEvenRow.holds Try.pinned (OpenSpec.ofChange matEvenWrong)

/-- 'outriggerlaw08.MatAdds': WHATEVER THE INPUT: true; the input reads as it did. -/
def matAddsSpec : ChangeSpec := { name := "matAdds", fn := fun _ => fun
  | [d1, d2, d3] => { results := [.lit (.bool true)], args := [d1, d2, d3] }
  | _ => none }
def matAddsRow : OpenClaim := { program := "ytembdogffbcjiaa", sum := "829ff96e7dc07a319bdacb34cb0461a5ce385e911229a1ae9a5291d1ae7910ce", func := "outrigger/outriggerlaw08.MatAdds", spec := "matAdds", unfollowed := true, recurses := true, apart := false }
def MatAddsSaid : Prop := matAddsRow.holds Try.pinned (OpenSpec.ofChange matAddsSpec)

/-- ITS FALSE NEIGHBOUR: 'it returns false'. Refute it at one input. -/
def matAddsWrong : ChangeSpec := { name := "matAdds", fn := fun _ => fun
  | [d1, d2, d3] => { results := [.lit (.bool false)], args := [d1, d2, d3] }
  | _ => none }
def MatAddsWrongFalsely : Prop := matAddsRow.holds Try.pinned (OpenSpec.ofChange matAddsWrong)

/-- 'outriggerlaw08.MatOne': WHATEVER THE INPUT: true; the input reads as it did. -/
def matOneSpec : ChangeSpec := { name := "matOne", fn := fun _ => fun
  | [d1, d2] => { results := [.lit (.bool true)], args := [d1, d2] }
  | _ => none }
def matOneRow : OpenClaim := { program := "ytembdogffbcjiaa", sum := "829ff96e7dc07a319bdacb34cb0461a5ce385e911229a1ae9a5291d1ae7910ce", func := "outrigger/outriggerlaw08.MatOne", spec := "matOne", unfollowed := true, recurses := true, apart := false }
def MatOneSaid : Prop := matOneRow.holds Try.pinned (OpenSpec.ofChange matOneSpec)

/-- ITS FALSE NEIGHBOUR: 'it returns false'. Refute it at one input. -/
def matOneWrong : ChangeSpec := { name := "matOne", fn := fun _ => fun
  | [d1, d2] => { results := [.lit (.bool false)], args := [d1, d2] }
  | _ => none }
def MatOneWrongFalsely : Prop := matOneRow.holds Try.pinned (OpenSpec.ofChange matOneWrong)

/- THE SECOND FORM. 'bulk': how many values and letters a reading holds, each counted each time it is reached (what is shared counts as often as it is met; a slice's spare places count too). A statement '..UptoSaid' is the law's where the arguments, and the package variables that the reading takes, are together of bulk at most 1048576: NARROWER than '..Said'. Prove '..Said' where nothing that the law and all that it calls make is longer than what came in: it says more and counts as full. Else prove '..UptoSaid'. A law counts once. -/
mutual
def uptoBulk {H : Type} : DataW H → Nat
  | .lit (.string bytes) => bytes.length + 1
  | .lit _ => 1
  | .nil => 1
  | .ptr d => uptoBulk d + 1
  | .slice elems spare => uptoBulkAll elems + uptoBulkAll spare + 1
  | .agg parts => uptoBulkAll parts + 1
  | .iface _ d => uptoBulk d + 1
  | .map entries => uptoBulkEntries entries + 1
  | .held _ => 1
def uptoBulkAll {H : Type} : List (DataW H) → Nat
  | [] => 0
  | d :: r => uptoBulk d + uptoBulkAll r
def uptoBulkEntries {H : Type} : List (Lit × DataW H) → Nat
  | [] => 0
  | x :: r => uptoBulkEntry x + uptoBulkEntries r
def uptoBulkEntry {H : Type} : Lit × DataW H → Nat
  | (.string bytes, d) => bytes.length + uptoBulk d + 1
  | (_, d) => uptoBulk d + 1
 end
def uptoSmall : (H : Type) → List (DataW H) → Bool := fun _ ds => decide (uptoBulkAll ds ≤ 1048576)
def OpenSpec.upto (s : _root_.Go.ChangeSpec) : _root_.Go.OpenSpec := { _root_.Go.OpenSpec.ofChange s with cond := some uptoSmall }

/-- 'outriggerlaw08.MatIs', WHERE WHAT IT READS IS OF BULK AT MOST 1048576: true; the input reads as it did. -/
def matIsUptoRow : OpenClaim := { program := "ytembdogffbcjiaa", sum := "829ff96e7dc07a319bdacb34cb0461a5ce385e911229a1ae9a5291d1ae7910ce", func := "outrigger/outriggerlaw08.MatIs", spec := "matIs", unfollowed := true, recurses := true, apart := false, narrowed := true }
def MatIsUptoSaid : Prop := matIsUptoRow.holds Try.pinned (OpenSpec.upto matIsSpec)

/-- 'outriggerlaw08.MatTurn', WHERE WHAT IT READS IS OF BULK AT MOST 1048576: true; the input reads as it did. -/
def matTurnUptoRow : OpenClaim := { program := "ytembdogffbcjiaa", sum := "829ff96e7dc07a319bdacb34cb0461a5ce385e911229a1ae9a5291d1ae7910ce", func := "outrigger/outriggerlaw08.MatTurn", spec := "matTurn", unfollowed := true, recurses := true, apart := false, narrowed := true }
def MatTurnUptoSaid : Prop := matTurnUptoRow.holds Try.pinned (OpenSpec.upto matTurnSpec)

/-- 'outriggerlaw08.MatEven', WHERE WHAT IT READS IS OF BULK AT MOST 1048576: true; the input reads as it did. -/
def matEvenUptoRow : OpenClaim := { program := "ytembdogffbcjiaa", sum := "829ff96e7dc07a319bdacb34cb0461a5ce385e911229a1ae9a5291d1ae7910ce", func := "outrigger/outriggerlaw08.MatEven", spec := "matEven", unfollowed := true, recurses := true, apart := false, narrowed := true }
def MatEvenUptoSaid : Prop := matEvenUptoRow.holds Try.pinned (OpenSpec.upto matEvenSpec)

/-- 'outriggerlaw08.MatAdds', WHERE WHAT IT READS IS OF BULK AT MOST 1048576: true; the input reads as it did. -/
def matAddsUptoRow : OpenClaim := { program := "ytembdogffbcjiaa", sum := "829ff96e7dc07a319bdacb34cb0461a5ce385e911229a1ae9a5291d1ae7910ce", func := "outrigger/outriggerlaw08.MatAdds", spec := "matAdds", unfollowed := true, recurses := true, apart := false, narrowed := true }
def MatAddsUptoSaid : Prop := matAddsUptoRow.holds Try.pinned (OpenSpec.upto matAddsSpec)

/-- 'outriggerlaw08.MatOne', WHERE WHAT IT READS IS OF BULK AT MOST 1048576: true; the input reads as it did. -/
def matOneUptoRow : OpenClaim := { program := "ytembdogffbcjiaa", sum := "829ff96e7dc07a319bdacb34cb0461a5ce385e911229a1ae9a5291d1ae7910ce", func := "outrigger/outriggerlaw08.MatOne", spec := "matOne", unfollowed := true, recurses := true, apart := false, narrowed := true }
def MatOneUptoSaid : Prop := matOneUptoRow.holds Try.pinned (OpenSpec.upto matOneSpec)

end Rows
end Go.Proofs.Ytembdogffbcjiaa
