/-
  No cell of these rows narrows 'for every input' (looked for: loops, veiled, ifaces, maps, wideKeys, modest, calm, conditions, laid).
  DERIVED. THE GIVEN ROWS OF THIS SEAT. 5 by the template 'for every input the law returns true; each argument reads behind the call as it read before'; 0 by the template 'total and deterministic' (their statements: YtgmkppeghnlcmaaTotals.lean).
  GIVEN WITH THE SEED: the statements are not yours to turn. If you find one false, say at which input.
  Laid BY PROGRAM, IN A SANDBOX (cutbox-rows.mjs): the forced cells as the released guide's own fill.sh prints them over the translation ca0ebdd61725b8df… (all of the seat's roots in one cut). By AI agents, Wed Nov 11 2026. No macro, syntax, notation, axiom, sorry.
-/
import Derived.Test.YtgmkppeghnlcmaaChecked
import GoSem.Claim
import GoSem.ClaimJoined
import GoSem.ClaimMapViews
import Derived.JoinedTies
import Derived.KernelRfl
namespace Go.Proofs.Ytgmkppeghnlcmaa
/- THE CELL 'sum', in the pinned program and in every row, IS THE sha256 OF THE DUMP (.gsa) THAT YtgmkppeghnlcmaaProg.lean LOADS. Nothing in Lean hashes anything: it is a label: what it is worth is what the hold of that sum in a sandbox is worth. -/
noncomputable def Try.pinned : Pinned := { name := "ytgmkppeghnlcmaa", sum := "ca0ebdd61725b8df3e6eb6f8196c9589a9dc56f7acf83ea530cdc3a36a320a52", checked := Try.checked }
namespace Rows
def none {H : Type} : Left H := { results := [], args := [] }

/-- 'outriggerlaw22.SnapIs': WHATEVER THE INPUT: true; the input reads as it did. -/
def snapIsSpec : ChangeSpec := { name := "snapIs", fn := fun _ => fun
  | [d1, d2] => { results := [.lit (.bool true)], args := [d1, d2] }
  | _ => none }
def snapIsRow : OpenClaim := { program := "ytgmkppeghnlcmaa", sum := "ca0ebdd61725b8df3e6eb6f8196c9589a9dc56f7acf83ea530cdc3a36a320a52", func := "outrigger/outriggerlaw22.SnapIs", spec := "snapIs", unfollowed := true, recurses := true, apart := false }
def SnapIsSaid : Prop := snapIsRow.holds Try.pinned (OpenSpec.ofChange snapIsSpec)

/-- ITS FALSE NEIGHBOUR: 'it returns false'. Refute it at one input. -/
def snapIsWrong : ChangeSpec := { name := "snapIs", fn := fun _ => fun
  | [d1, d2] => { results := [.lit (.bool false)], args := [d1, d2] }
  | _ => none }
def SnapIsWrongFalsely : Prop := snapIsRow.holds Try.pinned (OpenSpec.ofChange snapIsWrong)

/-- 'outriggerlaw22.SnapBack': WHATEVER THE INPUT: true; the input reads as it did. -/
def snapBackSpec : ChangeSpec := { name := "snapBack", fn := fun _ => fun
  | [d1, d2] => { results := [.lit (.bool true)], args := [d1, d2] }
  | _ => none }
def snapBackRow : OpenClaim := { program := "ytgmkppeghnlcmaa", sum := "ca0ebdd61725b8df3e6eb6f8196c9589a9dc56f7acf83ea530cdc3a36a320a52", func := "outrigger/outriggerlaw22.SnapBack", spec := "snapBack", unfollowed := true, recurses := true, apart := false }
def SnapBackSaid : Prop := snapBackRow.holds Try.pinned (OpenSpec.ofChange snapBackSpec)

/-- ITS FALSE NEIGHBOUR: 'it returns false'. Refute it at one input. -/
def snapBackWrong : ChangeSpec := { name := "snapBack", fn := fun _ => fun
  | [d1, d2] => { results := [.lit (.bool false)], args := [d1, d2] }
  | _ => none }
def SnapBackWrongFalsely : Prop := snapBackRow.holds Try.pinned (OpenSpec.ofChange snapBackWrong)

/-- 'outriggerlaw22.SnapSeen': WHATEVER THE INPUT: true; the input reads as it did. -/
def snapSeenSpec : ChangeSpec := { name := "snapSeen", fn := fun _ => fun
  | [d1, d2, d3] => { results := [.lit (.bool true)], args := [d1, d2, d3] }
  | _ => none }
def snapSeenRow : OpenClaim := { program := "ytgmkppeghnlcmaa", sum := "ca0ebdd61725b8df3e6eb6f8196c9589a9dc56f7acf83ea530cdc3a36a320a52", func := "outrigger/outriggerlaw22.SnapSeen", spec := "snapSeen", unfollowed := true, recurses := true, apart := false }
def SnapSeenSaid : Prop := snapSeenRow.holds Try.pinned (OpenSpec.ofChange snapSeenSpec)

/-- ITS FALSE NEIGHBOUR: 'it returns false'. Refute it at one input. -/
def snapSeenWrong : ChangeSpec := { name := "snapSeen", fn := fun _ => fun
  | [d1, d2, d3] => { results := [.lit (.bool false)], args := [d1, d2, d3] }
  | _ => none }
def SnapSeenWrongFalsely : Prop := snapSeenRow.holds Try.pinned (OpenSpec.ofChange snapSeenWrong)

/-- 'outriggerlaw22.SnapApart': WHATEVER THE INPUT: true; the input reads as it did. -/
def snapApartSpec : ChangeSpec := { name := "snapApart", fn := fun _ => fun
  | [d1, d2] => { results := [.lit (.bool true)], args := [d1, d2] }
  | _ => none }
def snapApartRow : OpenClaim := { program := "ytgmkppeghnlcmaa", sum := "ca0ebdd61725b8df3e6eb6f8196c9589a9dc56f7acf83ea530cdc3a36a320a52", func := "outrigger/outriggerlaw22.SnapApart", spec := "snapApart", unfollowed := true, recurses := true, apart := false }
def SnapApartSaid : Prop := snapApartRow.holds Try.pinned (OpenSpec.ofChange snapApartSpec)

/-- ITS FALSE NEIGHBOUR: 'it returns false'. Refute it at one input. -/
def snapApartWrong : ChangeSpec := { name := "snapApart", fn := fun _ => fun
  | [d1, d2] => { results := [.lit (.bool false)], args := [d1, d2] }
  | _ => none }
def SnapApartWrongFalsely : Prop := snapApartRow.holds Try.pinned (OpenSpec.ofChange snapApartWrong)

/-- 'outriggerlaw22.SnapTell': WHATEVER THE INPUT: true; the input reads as it did. -/
def snapTellSpec : ChangeSpec := { name := "snapTell", fn := fun _ => fun
  | [d1, d2] => { results := [.lit (.bool true)], args := [d1, d2] }
  | _ => none }
def snapTellRow : OpenClaim := { program := "ytgmkppeghnlcmaa", sum := "ca0ebdd61725b8df3e6eb6f8196c9589a9dc56f7acf83ea530cdc3a36a320a52", func := "outrigger/outriggerlaw22.SnapTell", spec := "snapTell", unfollowed := true, recurses := true, apart := false }
def SnapTellSaid : Prop := snapTellRow.holds Try.pinned (OpenSpec.ofChange snapTellSpec)

/-- ITS FALSE NEIGHBOUR: 'it returns false'. Refute it at one input. -/
def snapTellWrong : ChangeSpec := { name := "snapTell", fn := fun _ => fun
  | [d1, d2] => { results := [.lit (.bool false)], args := [d1, d2] }
  | _ => none }
def SnapTellWrongFalsely : Prop := snapTellRow.holds Try.pinned (OpenSpec.ofChange snapTellWrong)

/- THE SECOND FORM. 'bulk': how many values and letters a reading holds, each counted each time it is reached (what is shared counts as often as it is met; a slice's spare places count too). A statement '..UptoSaid' is the law's where the arguments, and the package variables that the reading takes, are together of bulk at most 1048576: NARROWER than '..Said'. Prove '..Said' where nothing that the law and all that it calls make is longer than what came in: it says more and counts as full. Else prove '..UptoSaid'. A law counts once. -/
mutual
def uptoBulk {H : Type} : DataW H → Nat
  | .lit (.string bytes) => bytes.length + 1
  | .lit _ => 1
  | .nil => 1
  | .ptr d => uptoBulk d + 1
  | .slice elems spare => uptoBulkAll elems + uptoBulkAll spare + 1
  | .agg parts => uptoBulkAll parts + 1
  | .iface _ d => uptoBulk d + 1
  | .map entries => uptoBulkEntries entries + 1
  | .held _ => 1
def uptoBulkAll {H : Type} : List (DataW H) → Nat
  | [] => 0
  | d :: r => uptoBulk d + uptoBulkAll r
def uptoBulkEntries {H : Type} : List (Lit × DataW H) → Nat
  | [] => 0
  | x :: r => uptoBulkEntry x + uptoBulkEntries r
def uptoBulkEntry {H : Type} : Lit × DataW H → Nat
  | (.string bytes, d) => bytes.length + uptoBulk d + 1
  | (_, d) => uptoBulk d + 1
 end
def uptoSmall : (H : Type) → List (DataW H) → Bool := fun _ ds => decide (uptoBulkAll ds ≤ 1048576)
def OpenSpec.upto (s : _root_.Go.ChangeSpec) : _root_.Go.OpenSpec := { _root_.Go.OpenSpec.ofChange s with cond := some uptoSmall }

/-- 'outriggerlaw22.SnapIs', WHERE WHAT IT READS IS OF BULK AT MOST 1048576: true; the input reads as it did. -/
def snapIsUptoRow : OpenClaim := { program := "ytgmkppeghnlcmaa", sum := "ca0ebdd61725b8df3e6eb6f8196c9589a9dc56f7acf83ea530cdc3a36a320a52", func := "outrigger/outriggerlaw22.SnapIs", spec := "snapIs", unfollowed := true, recurses := true, apart := false, narrowed := true }
def SnapIsUptoSaid : Prop := snapIsUptoRow.holds Try.pinned (OpenSpec.upto snapIsSpec)

/-- 'outriggerlaw22.SnapBack', WHERE WHAT IT READS IS OF BULK AT MOST 1048576: true; the input reads as it did. -/
def snapBackUptoRow : OpenClaim := { program := "ytgmkppeghnlcmaa", sum := "ca0ebdd61725b8df3e6eb6f8196c9589a9dc56f7acf83ea530cdc3a36a320a52", func := "outrigger/outriggerlaw22.SnapBack", spec := "snapBack", unfollowed := true, recurses := true, apart := false, narrowed := true }
def SnapBackUptoSaid : Prop := snapBackUptoRow.holds Try.pinned (OpenSpec.upto snapBackSpec)

/-- 'outriggerlaw22.SnapSeen', WHERE WHAT IT READS IS OF BULK AT MOST 1048576: true; the input reads as it did. -/
def snapSeenUptoRow : OpenClaim := { program := "ytgmkppeghnlcmaa", sum := "ca0ebdd61725b8df3e6eb6f8196c9589a9dc56f7acf83ea530cdc3a36a320a52", func := "outrigger/outriggerlaw22.SnapSeen", spec := "snapSeen", unfollowed := true, recurses := true, apart := false, narrowed := true }
def SnapSeenUptoSaid : Prop := snapSeenUptoRow.holds Try.pinned (OpenSpec.upto snapSeenSpec)

/-- 'outriggerlaw22.SnapApart', WHERE WHAT IT READS IS OF BULK AT MOST 1048576: true; the input reads as it did. -/
def snapApartUptoRow : OpenClaim := { program := "ytgmkppeghnlcmaa", sum := "ca0ebdd61725b8df3e6eb6f8196c9589a9dc56f7acf83ea530cdc3a36a320a52", func := "outrigger/outriggerlaw22.SnapApart", spec := "snapApart", unfollowed := true, recurses := true, apart := false, narrowed := true }
def SnapApartUptoSaid : Prop := snapApartUptoRow.holds Try.pinned (OpenSpec.upto snapApartSpec)

/-- 'outriggerlaw22.SnapTell', WHERE WHAT IT READS IS OF BULK AT MOST 1048576: true; the input reads as it did. -/
def snapTellUptoRow : OpenClaim := { program := "ytgmkppeghnlcmaa", sum := "ca0ebdd61725b8df3e6eb6f8196c9589a9dc56f7acf83ea530cdc3a36a320a52", func := "outrigger/outriggerlaw22.SnapTell", spec := "snapTell", unfollowed := true, recurses := true, apart := false, narrowed := true }
def SnapTellUptoSaid : Prop := snapTellUptoRow.holds Try.pinned (OpenSpec.upto snapTellSpec)

end Rows
end Go.Proofs.Ytgmkppeghnlcmaa
