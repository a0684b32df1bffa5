/-
  No cell of these rows narrows 'for every input' (looked for: loops, veiled, ifaces, maps, wideKeys, modest, calm, conditions, laid).
  DERIVED. THE GIVEN ROWS OF THIS SEAT. 5 by the template 'for every input the law returns true; each argument reads behind the call as it read before'; 0 by the template 'total and deterministic' (their statements: YtonfobdknnlbjaaTotals.lean).
  GIVEN WITH THE SEED: the statements are not yours to turn. If you find one false, say at which input.
  Laid BY PROGRAM, IN A SANDBOX (cutbox-rows.mjs): the forced cells as the released guide's own fill.sh prints them over the translation e63238bf125dcc07… (all of the seat's roots in one cut). By AI agents, Wed Nov 11 2026. No macro, syntax, notation, axiom, sorry.
-/
import Derived.Test.YtonfobdknnlbjaaChecked
import GoSem.Claim
import GoSem.ClaimJoined
import GoSem.ClaimMapViews
import Derived.JoinedTies
import Derived.KernelRfl
namespace Go.Proofs.Ytonfobdknnlbjaa
/- THE CELL 'sum', in the pinned program and in every row, IS THE sha256 OF THE DUMP (.gsa) THAT YtonfobdknnlbjaaProg.lean LOADS. Nothing in Lean hashes anything: it is a label: what it is worth is what the hold of that sum in a sandbox is worth. -/
noncomputable def Try.pinned : Pinned := { name := "ytonfobdknnlbjaa", sum := "e63238bf125dcc07b46765a1ab3964b8575f016d3dea68e04a6b26766db94f86", checked := Try.checked }
namespace Rows
def none {H : Type} : Left H := { results := [], args := [] }

/-- 'outriggerlaw18.SenseIs': WHATEVER THE INPUT: true; the input reads as it did. -/
def senseIsSpec : ChangeSpec := { name := "senseIs", fn := fun _ => fun
  | [d1, d2, d3] => { results := [.lit (.bool true)], args := [d1, d2, d3] }
  | _ => none }
def senseIsRow : OpenClaim := { program := "ytonfobdknnlbjaa", sum := "e63238bf125dcc07b46765a1ab3964b8575f016d3dea68e04a6b26766db94f86", func := "outrigger/outriggerlaw18.SenseIs", spec := "senseIs", unfollowed := true, recurses := true, named := ["math/bits.divideError", "math/bits.overflowError"], apart := false }
def SenseIsSaid : Prop := senseIsRow.holds Try.pinned (OpenSpec.ofChange senseIsSpec)

/-- ITS FALSE NEIGHBOUR: 'it returns false'. Refute it at one input. -/
def senseIsWrong : ChangeSpec := { name := "senseIs", fn := fun _ => fun
  | [d1, d2, d3] => { results := [.lit (.bool false)], args := [d1, d2, d3] }
  | _ => none }
def SenseIsWrongFalsely : Prop := senseIsRow.holds Try.pinned (OpenSpec.ofChange senseIsWrong)

/-- 'outriggerlaw18.SenseBack': WHATEVER THE INPUT: true; the input reads as it did. -/
def senseBackSpec : ChangeSpec := { name := "senseBack", fn := fun _ => fun
  | [d1, d2] => { results := [.lit (.bool true)], args := [d1, d2] }
  | _ => none }
def senseBackRow : OpenClaim := { program := "ytonfobdknnlbjaa", sum := "e63238bf125dcc07b46765a1ab3964b8575f016d3dea68e04a6b26766db94f86", func := "outrigger/outriggerlaw18.SenseBack", spec := "senseBack", unfollowed := true, recurses := true, named := ["math/bits.divideError", "math/bits.overflowError"], apart := false }
def SenseBackSaid : Prop := senseBackRow.holds Try.pinned (OpenSpec.ofChange senseBackSpec)

/-- ITS FALSE NEIGHBOUR: 'it returns false'. Refute it at one input. -/
def senseBackWrong : ChangeSpec := { name := "senseBack", fn := fun _ => fun
  | [d1, d2] => { results := [.lit (.bool false)], args := [d1, d2] }
  | _ => none }
def SenseBackWrongFalsely : Prop := senseBackRow.holds Try.pinned (OpenSpec.ofChange senseBackWrong)

/-- 'outriggerlaw18.SenseBounds': WHATEVER THE INPUT: true; the input reads as it did. -/
def senseBoundsSpec : ChangeSpec := { name := "senseBounds", fn := fun _ => fun
  | [d1, d2] => { results := [.lit (.bool true)], args := [d1, d2] }
  | _ => none }
def senseBoundsRow : OpenClaim := { program := "ytonfobdknnlbjaa", sum := "e63238bf125dcc07b46765a1ab3964b8575f016d3dea68e04a6b26766db94f86", func := "outrigger/outriggerlaw18.SenseBounds", spec := "senseBounds", unfollowed := true, recurses := true, named := ["math/bits.divideError", "math/bits.overflowError"], apart := false }
def SenseBoundsSaid : Prop := senseBoundsRow.holds Try.pinned (OpenSpec.ofChange senseBoundsSpec)

/-- ITS FALSE NEIGHBOUR: 'it returns false'. Refute it at one input. -/
def senseBoundsWrong : ChangeSpec := { name := "senseBounds", fn := fun _ => fun
  | [d1, d2] => { results := [.lit (.bool false)], args := [d1, d2] }
  | _ => none }
def SenseBoundsWrongFalsely : Prop := senseBoundsRow.holds Try.pinned (OpenSpec.ofChange senseBoundsWrong)

/-- 'outriggerlaw18.SenseLearns': WHATEVER THE INPUT: true; the input reads as it did. -/
def senseLearnsSpec : ChangeSpec := { name := "senseLearns", fn := fun _ => fun
  | [d1, d2, d3, d4] => { results := [.lit (.bool true)], args := [d1, d2, d3, d4] }
  | _ => none }
def senseLearnsRow : OpenClaim := { program := "ytonfobdknnlbjaa", sum := "e63238bf125dcc07b46765a1ab3964b8575f016d3dea68e04a6b26766db94f86", func := "outrigger/outriggerlaw18.SenseLearns", spec := "senseLearns", unfollowed := true, recurses := true, named := ["math/bits.divideError", "math/bits.overflowError"], apart := false }
def SenseLearnsSaid : Prop := senseLearnsRow.holds Try.pinned (OpenSpec.ofChange senseLearnsSpec)

/-- ITS FALSE NEIGHBOUR: 'it returns false'. Refute it at one input. -/
def senseLearnsWrong : ChangeSpec := { name := "senseLearns", fn := fun _ => fun
  | [d1, d2, d3, d4] => { results := [.lit (.bool false)], args := [d1, d2, d3, d4] }
  | _ => none }
def SenseLearnsWrongFalsely : Prop := senseLearnsRow.holds Try.pinned (OpenSpec.ofChange senseLearnsWrong)

/-- 'outriggerlaw18.SenseRises': WHATEVER THE INPUT: true; the input reads as it did. -/
def senseRisesSpec : ChangeSpec := { name := "senseRises", fn := fun _ => fun
  | [d1, d2, d3] => { results := [.lit (.bool true)], args := [d1, d2, d3] }
  | _ => none }
def senseRisesRow : OpenClaim := { program := "ytonfobdknnlbjaa", sum := "e63238bf125dcc07b46765a1ab3964b8575f016d3dea68e04a6b26766db94f86", func := "outrigger/outriggerlaw18.SenseRises", spec := "senseRises", unfollowed := true, recurses := true, named := ["math/bits.divideError", "math/bits.overflowError"], apart := false }
def SenseRisesSaid : Prop := senseRisesRow.holds Try.pinned (OpenSpec.ofChange senseRisesSpec)

/-- ITS FALSE NEIGHBOUR: 'it returns false'. Refute it at one input. -/
def senseRisesWrong : ChangeSpec := { name := "senseRises", fn := fun _ => fun
  | [d1, d2, d3] => { results := [.lit (.bool false)], args := [d1, d2, d3] }
  | _ => none }
def SenseRisesWrongFalsely : Prop := senseRisesRow.holds Try.pinned (OpenSpec.ofChange senseRisesWrong)

/- THE SECOND FORM. 'bulk': how many values and letters a reading holds, each counted each time it is reached (what is shared counts as often as it is met; a slice's spare places count too). A statement '..UptoSaid' is the law's where the arguments, and the package variables that the reading takes, are together of bulk at most 1048576: NARROWER than '..Said'. Prove '..Said' where nothing that the law and all that it calls make is longer than what came in: it says more and counts as full. Else prove '..UptoSaid'. A law counts once. -/
mutual
def uptoBulk {H : Type} : DataW H → Nat
  | .lit (.string bytes) => bytes.length + 1
  | .lit _ => 1
  | .nil => 1
  | .ptr d => uptoBulk d + 1
  | .slice elems spare => uptoBulkAll elems + uptoBulkAll spare + 1
  | .agg parts => uptoBulkAll parts + 1
  | .iface _ d => uptoBulk d + 1
  | .map entries => uptoBulkEntries entries + 1
  | .held _ => 1
def uptoBulkAll {H : Type} : List (DataW H) → Nat
  | [] => 0
  | d :: r => uptoBulk d + uptoBulkAll r
def uptoBulkEntries {H : Type} : List (Lit × DataW H) → Nat
  | [] => 0
  | x :: r => uptoBulkEntry x + uptoBulkEntries r
def uptoBulkEntry {H : Type} : Lit × DataW H → Nat
  | (.string bytes, d) => bytes.length + uptoBulk d + 1
  | (_, d) => uptoBulk d + 1
 end
def uptoSmall : (H : Type) → List (DataW H) → Bool := fun _ ds => decide (uptoBulkAll ds ≤ 1048576)
def OpenSpec.upto (s : _root_.Go.ChangeSpec) : _root_.Go.OpenSpec := { _root_.Go.OpenSpec.ofChange s with cond := some uptoSmall }

/-- 'outriggerlaw18.SenseIs', WHERE WHAT IT READS IS OF BULK AT MOST 1048576: true; the input reads as it did. -/
def senseIsUptoRow : OpenClaim := { program := "ytonfobdknnlbjaa", sum := "e63238bf125dcc07b46765a1ab3964b8575f016d3dea68e04a6b26766db94f86", func := "outrigger/outriggerlaw18.SenseIs", spec := "senseIs", unfollowed := true, recurses := true, named := ["math/bits.divideError", "math/bits.overflowError"], apart := false, narrowed := true }
def SenseIsUptoSaid : Prop := senseIsUptoRow.holds Try.pinned (OpenSpec.upto senseIsSpec)

/-- 'outriggerlaw18.SenseBack', WHERE WHAT IT READS IS OF BULK AT MOST 1048576: true; the input reads as it did. -/
def senseBackUptoRow : OpenClaim := { program := "ytonfobdknnlbjaa", sum := "e63238bf125dcc07b46765a1ab3964b8575f016d3dea68e04a6b26766db94f86", func := "outrigger/outriggerlaw18.SenseBack", spec := "senseBack", unfollowed := true, recurses := true, named := ["math/bits.divideError", "math/bits.overflowError"], apart := false, narrowed := true }
def SenseBackUptoSaid : Prop := senseBackUptoRow.holds Try.pinned (OpenSpec.upto senseBackSpec)

/-- 'outriggerlaw18.SenseBounds', WHERE WHAT IT READS IS OF BULK AT MOST 1048576: true; the input reads as it did. -/
def senseBoundsUptoRow : OpenClaim := { program := "ytonfobdknnlbjaa", sum := "e63238bf125dcc07b46765a1ab3964b8575f016d3dea68e04a6b26766db94f86", func := "outrigger/outriggerlaw18.SenseBounds", spec := "senseBounds", unfollowed := true, recurses := true, named := ["math/bits.divideError", "math/bits.overflowError"], apart := false, narrowed := true }
def SenseBoundsUptoSaid : Prop := senseBoundsUptoRow.holds Try.pinned (OpenSpec.upto senseBoundsSpec)

/-- 'outriggerlaw18.SenseLearns', WHERE WHAT IT READS IS OF BULK AT MOST 1048576: true; the input reads as it did. -/
def senseLearnsUptoRow : OpenClaim := { program := "ytonfobdknnlbjaa", sum := "e63238bf125dcc07b46765a1ab3964b8575f016d3dea68e04a6b26766db94f86", func := "outrigger/outriggerlaw18.SenseLearns", spec := "senseLearns", unfollowed := true, recurses := true, named := ["math/bits.divideError", "math/bits.overflowError"], apart := false, narrowed := true }
def SenseLearnsUptoSaid : Prop := senseLearnsUptoRow.holds Try.pinned (OpenSpec.upto senseLearnsSpec)

/-- 'outriggerlaw18.SenseRises', WHERE WHAT IT READS IS OF BULK AT MOST 1048576: true; the input reads as it did. -/
def senseRisesUptoRow : OpenClaim := { program := "ytonfobdknnlbjaa", sum := "e63238bf125dcc07b46765a1ab3964b8575f016d3dea68e04a6b26766db94f86", func := "outrigger/outriggerlaw18.SenseRises", spec := "senseRises", unfollowed := true, recurses := true, named := ["math/bits.divideError", "math/bits.overflowError"], apart := false, narrowed := true }
def SenseRisesUptoSaid : Prop := senseRisesUptoRow.holds Try.pinned (OpenSpec.upto senseRisesSpec)

end Rows
end Go.Proofs.Ytonfobdknnlbjaa
