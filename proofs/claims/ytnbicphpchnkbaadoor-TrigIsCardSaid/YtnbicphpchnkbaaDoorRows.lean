/-
  NARROWER THAN 'FOR EVERY INPUT', by the rows' own cells (each row's printed sentence says how): TrigIs: laid · TrigTurns: laid · TrigBack: laid · TrigSides: laid · TrigSigns: laid · TrigStep: laid · TrigCircle: laid.
  DERIVED. THE GIVEN ROWS OF THIS SEAT. 7 by the template 'for every input the law returns true; each argument reads behind the call as it read before'; 0 by the template 'total and deterministic' (their statements: YtnbicphpchnkbaaDoorTotals.lean).
  GIVEN WITH THE SEED: the statements are not yours to turn. If you find one false, say at which input.
  Laid BY PROGRAM, IN A SANDBOX (cutbox-rows.mjs): the forced cells as the released guide's own fill.sh prints them over the translation 1d75475e6cea2e13… (all of the seat's roots in one cut). By AI agents, Wed Nov 11 2026. No macro, syntax, notation, axiom, sorry.
-/
import Derived.Test.YtnbicphpchnkbaaDoorChecked
import GoSem.Claim
import GoSem.ClaimJoined
import GoSem.ClaimMapViews
import Derived.JoinedTies
import Derived.KernelRfl
namespace Go.Proofs.YtnbicphpchnkbaaDoor
/- THE CELL 'sum', in the pinned program and in every row, IS THE sha256 OF THE DUMP (.gsa) THAT YtnbicphpchnkbaaDoorProg.lean LOADS. Nothing in Lean hashes anything: it is a label: what it is worth is what the hold of that sum in a sandbox is worth. -/
noncomputable def Tryd.pinned : Pinned := { name := "ytnbicphpchnkbaadoor", sum := "1d75475e6cea2e1338019bacd3cc2d2812cd72267ef892ee61d33dfe9ed53dd9", checked := Tryd.checked }
namespace Rows
def none {H : Type} : Left H := { results := [], args := [] }

/- WHAT THE LISTED PACKAGE-LEVEL VARIABLES READ AS WHEN THE CALL BEGINS. Each datum BY PROGRAM (the guide's laid-datum.mjs) off the statement by which the dump's own 'gosem.cut.vars' lays the variable. In a bare row this is a premise. The card (YtnbicphpchnkbaaDoorCards.lean) ties it to the program's text. -/
def laid_outrigger_trig_angles {H : Type} : DataW H := .agg [.lit (.int .i64 35184372088832), .lit (.int .i64 20770547670515), .lit (.int .i64 10974586953444), .lit (.int .i64 5570871696862), .lit (.int .i64 2796246208089), .lit (.int .i64 1399486241028), .lit (.int .i64 699913886760), .lit (.int .i64 349978300884), .lit (.int .i64 174991820497), .lit (.int .i64 87496244017), .lit (.int .i64 43748163730), .lit (.int .i64 21874087080), .lit (.int .i64 10937044192), .lit (.int .i64 5468522177), .lit (.int .i64 2734261099), .lit (.int .i64 1367130551), .lit (.int .i64 683565276), .lit (.int .i64 341782638), .lit (.int .i64 170891319), .lit (.int .i64 85445659), .lit (.int .i64 42722830), .lit (.int .i64 21361415), .lit (.int .i64 10680707), .lit (.int .i64 5340354), .lit (.int .i64 2670177), .lit (.int .i64 1335088), .lit (.int .i64 667544), .lit (.int .i64 333772), .lit (.int .i64 166886), .lit (.int .i64 83443), .lit (.int .i64 41722), .lit (.int .i64 20861)]

/-- 'outriggerlaw05.TrigIs': WHATEVER THE INPUT: true; the input reads as it did. -/
def trigIsSpec : ChangeSpec := { name := "trigIs", fn := fun _ => fun
  | [d1, d2, d3] => { results := [.lit (.bool true)], args := [d1, d2, d3] }
  | _ => none }
def trigIsRow : OpenClaim := { program := "ytnbicphpchnkbaadoor", sum := "1d75475e6cea2e1338019bacd3cc2d2812cd72267ef892ee61d33dfe9ed53dd9", func := "outrigger/outriggerlaw05.TrigIs", spec := "trigIs", named := ["outrigger/trig.angles"], apart := false, laid := [("outrigger/trig.angles", laid_outrigger_trig_angles)] }
def TrigIsSaid : Prop := trigIsRow.holds Tryd.pinned (OpenSpec.ofChange trigIsSpec)

/-- ITS FALSE NEIGHBOUR: 'it returns false'. Refute it at one input. -/
def trigIsWrong : ChangeSpec := { name := "trigIs", fn := fun _ => fun
  | [d1, d2, d3] => { results := [.lit (.bool false)], args := [d1, d2, d3] }
  | _ => none }
def TrigIsWrongFalsely : Prop := trigIsRow.holds Tryd.pinned (OpenSpec.ofChange trigIsWrong)

/-- 'outriggerlaw05.TrigTurns': WHATEVER THE INPUT: true; the input reads as it did. -/
def trigTurnsSpec : ChangeSpec := { name := "trigTurns", fn := fun _ => fun
  | [d1, d2] => { results := [.lit (.bool true)], args := [d1, d2] }
  | _ => none }
def trigTurnsRow : OpenClaim := { program := "ytnbicphpchnkbaadoor", sum := "1d75475e6cea2e1338019bacd3cc2d2812cd72267ef892ee61d33dfe9ed53dd9", func := "outrigger/outriggerlaw05.TrigTurns", spec := "trigTurns", named := ["outrigger/trig.angles"], apart := false, laid := [("outrigger/trig.angles", laid_outrigger_trig_angles)] }
def TrigTurnsSaid : Prop := trigTurnsRow.holds Tryd.pinned (OpenSpec.ofChange trigTurnsSpec)

/-- ITS FALSE NEIGHBOUR: 'it returns false'. Refute it at one input. -/
def trigTurnsWrong : ChangeSpec := { name := "trigTurns", fn := fun _ => fun
  | [d1, d2] => { results := [.lit (.bool false)], args := [d1, d2] }
  | _ => none }
def TrigTurnsWrongFalsely : Prop := trigTurnsRow.holds Tryd.pinned (OpenSpec.ofChange trigTurnsWrong)

/-- 'outriggerlaw05.TrigBack': WHATEVER THE INPUT: true; the input reads as it did. -/
def trigBackSpec : ChangeSpec := { name := "trigBack", fn := fun _ => fun
  | [d] => { results := [.lit (.bool true)], args := [d] }
  | _ => none }
def trigBackRow : OpenClaim := { program := "ytnbicphpchnkbaadoor", sum := "1d75475e6cea2e1338019bacd3cc2d2812cd72267ef892ee61d33dfe9ed53dd9", func := "outrigger/outriggerlaw05.TrigBack", spec := "trigBack", named := ["outrigger/trig.angles"], apart := false, laid := [("outrigger/trig.angles", laid_outrigger_trig_angles)] }
def TrigBackSaid : Prop := trigBackRow.holds Tryd.pinned (OpenSpec.ofChange trigBackSpec)

/-- ITS FALSE NEIGHBOUR: 'it returns false'. Refute it at one input. -/
def trigBackWrong : ChangeSpec := { name := "trigBack", fn := fun _ => fun
  | [d] => { results := [.lit (.bool false)], args := [d] }
  | _ => none }
def TrigBackWrongFalsely : Prop := trigBackRow.holds Tryd.pinned (OpenSpec.ofChange trigBackWrong)

/-- 'outriggerlaw05.TrigSides': WHATEVER THE INPUT: true; the input reads as it did. -/
def trigSidesSpec : ChangeSpec := { name := "trigSides", fn := fun _ => fun
  | [d1, d2] => { results := [.lit (.bool true)], args := [d1, d2] }
  | _ => none }
def trigSidesRow : OpenClaim := { program := "ytnbicphpchnkbaadoor", sum := "1d75475e6cea2e1338019bacd3cc2d2812cd72267ef892ee61d33dfe9ed53dd9", func := "outrigger/outriggerlaw05.TrigSides", spec := "trigSides", named := ["outrigger/trig.angles"], apart := false, laid := [("outrigger/trig.angles", laid_outrigger_trig_angles)] }
def TrigSidesSaid : Prop := trigSidesRow.holds Tryd.pinned (OpenSpec.ofChange trigSidesSpec)

/-- ITS FALSE NEIGHBOUR: 'it returns false'. Refute it at one input. -/
def trigSidesWrong : ChangeSpec := { name := "trigSides", fn := fun _ => fun
  | [d1, d2] => { results := [.lit (.bool false)], args := [d1, d2] }
  | _ => none }
def TrigSidesWrongFalsely : Prop := trigSidesRow.holds Tryd.pinned (OpenSpec.ofChange trigSidesWrong)

/-- 'outriggerlaw05.TrigSigns': WHATEVER THE INPUT: true; the input reads as it did. -/
def trigSignsSpec : ChangeSpec := { name := "trigSigns", fn := fun _ => fun
  | [d] => { results := [.lit (.bool true)], args := [d] }
  | _ => none }
def trigSignsRow : OpenClaim := { program := "ytnbicphpchnkbaadoor", sum := "1d75475e6cea2e1338019bacd3cc2d2812cd72267ef892ee61d33dfe9ed53dd9", func := "outrigger/outriggerlaw05.TrigSigns", spec := "trigSigns", named := ["outrigger/trig.angles"], apart := false, laid := [("outrigger/trig.angles", laid_outrigger_trig_angles)] }
def TrigSignsSaid : Prop := trigSignsRow.holds Tryd.pinned (OpenSpec.ofChange trigSignsSpec)

/-- ITS FALSE NEIGHBOUR: 'it returns false'. Refute it at one input. -/
def trigSignsWrong : ChangeSpec := { name := "trigSigns", fn := fun _ => fun
  | [d] => { results := [.lit (.bool false)], args := [d] }
  | _ => none }
def TrigSignsWrongFalsely : Prop := trigSignsRow.holds Tryd.pinned (OpenSpec.ofChange trigSignsWrong)

/-- 'outriggerlaw05.TrigStep': WHATEVER THE INPUT: true; the input reads as it did. -/
def trigStepSpec : ChangeSpec := { name := "trigStep", fn := fun _ => fun
  | [d1, d2] => { results := [.lit (.bool true)], args := [d1, d2] }
  | _ => none }
def trigStepRow : OpenClaim := { program := "ytnbicphpchnkbaadoor", sum := "1d75475e6cea2e1338019bacd3cc2d2812cd72267ef892ee61d33dfe9ed53dd9", func := "outrigger/outriggerlaw05.TrigStep", spec := "trigStep", named := ["outrigger/trig.angles"], apart := false, laid := [("outrigger/trig.angles", laid_outrigger_trig_angles)] }
def TrigStepSaid : Prop := trigStepRow.holds Tryd.pinned (OpenSpec.ofChange trigStepSpec)

/-- ITS FALSE NEIGHBOUR: 'it returns false'. Refute it at one input. -/
def trigStepWrong : ChangeSpec := { name := "trigStep", fn := fun _ => fun
  | [d1, d2] => { results := [.lit (.bool false)], args := [d1, d2] }
  | _ => none }
def TrigStepWrongFalsely : Prop := trigStepRow.holds Tryd.pinned (OpenSpec.ofChange trigStepWrong)

/-- 'outriggerlaw05.TrigCircle': WHATEVER THE INPUT: true; the input reads as it did. -/
def trigCircleSpec : ChangeSpec := { name := "trigCircle", fn := fun _ => fun
  | [d] => { results := [.lit (.bool true)], args := [d] }
  | _ => none }
def trigCircleRow : OpenClaim := { program := "ytnbicphpchnkbaadoor", sum := "1d75475e6cea2e1338019bacd3cc2d2812cd72267ef892ee61d33dfe9ed53dd9", func := "outrigger/outriggerlaw05.TrigCircle", spec := "trigCircle", named := ["outrigger/trig.angles"], apart := false, laid := [("outrigger/trig.angles", laid_outrigger_trig_angles)] }
def TrigCircleSaid : Prop := trigCircleRow.holds Tryd.pinned (OpenSpec.ofChange trigCircleSpec)

/-- ITS FALSE NEIGHBOUR: 'it returns false'. Refute it at one input. -/
def trigCircleWrong : ChangeSpec := { name := "trigCircle", fn := fun _ => fun
  | [d] => { results := [.lit (.bool false)], args := [d] }
  | _ => none }
def TrigCircleWrongFalsely : Prop := trigCircleRow.holds Tryd.pinned (OpenSpec.ofChange trigCircleWrong)

/- THE SECOND FORM. 'bulk': how many values and letters a reading holds, each counted each time it is reached (what is shared counts as often as it is met; a slice's spare places count too). A statement '..UptoSaid' is the law's where the arguments, and the package variables that the reading takes, are together of bulk at most 1048576: NARROWER than '..Said'. Prove '..Said' where nothing that the law and all that it calls make is longer than what came in: it says more and counts as full. Else prove '..UptoSaid'. A law counts once. -/
mutual
def uptoBulk {H : Type} : DataW H → Nat
  | .lit (.string bytes) => bytes.length + 1
  | .lit _ => 1
  | .nil => 1
  | .ptr d => uptoBulk d + 1
  | .slice elems spare => uptoBulkAll elems + uptoBulkAll spare + 1
  | .agg parts => uptoBulkAll parts + 1
  | .iface _ d => uptoBulk d + 1
  | .map entries => uptoBulkEntries entries + 1
  | .held _ => 1
def uptoBulkAll {H : Type} : List (DataW H) → Nat
  | [] => 0
  | d :: r => uptoBulk d + uptoBulkAll r
def uptoBulkEntries {H : Type} : List (Lit × DataW H) → Nat
  | [] => 0
  | x :: r => uptoBulkEntry x + uptoBulkEntries r
def uptoBulkEntry {H : Type} : Lit × DataW H → Nat
  | (.string bytes, d) => bytes.length + uptoBulk d + 1
  | (_, d) => uptoBulk d + 1
 end
def uptoSmall : (H : Type) → List (DataW H) → Bool := fun _ ds => decide (uptoBulkAll ds ≤ 1048576)
def OpenSpec.upto (s : _root_.Go.ChangeSpec) : _root_.Go.OpenSpec := { _root_.Go.OpenSpec.ofChange s with cond := some uptoSmall }

/-- 'outriggerlaw05.TrigIs', WHERE WHAT IT READS IS OF BULK AT MOST 1048576: true; the input reads as it did. -/
def trigIsUptoRow : OpenClaim := { program := "ytnbicphpchnkbaadoor", sum := "1d75475e6cea2e1338019bacd3cc2d2812cd72267ef892ee61d33dfe9ed53dd9", func := "outrigger/outriggerlaw05.TrigIs", spec := "trigIs", named := ["outrigger/trig.angles"], apart := false, laid := [("outrigger/trig.angles", laid_outrigger_trig_angles)], narrowed := true }
def TrigIsUptoSaid : Prop := trigIsUptoRow.holds Tryd.pinned (OpenSpec.upto trigIsSpec)

/-- 'outriggerlaw05.TrigTurns', WHERE WHAT IT READS IS OF BULK AT MOST 1048576: true; the input reads as it did. -/
def trigTurnsUptoRow : OpenClaim := { program := "ytnbicphpchnkbaadoor", sum := "1d75475e6cea2e1338019bacd3cc2d2812cd72267ef892ee61d33dfe9ed53dd9", func := "outrigger/outriggerlaw05.TrigTurns", spec := "trigTurns", named := ["outrigger/trig.angles"], apart := false, laid := [("outrigger/trig.angles", laid_outrigger_trig_angles)], narrowed := true }
def TrigTurnsUptoSaid : Prop := trigTurnsUptoRow.holds Tryd.pinned (OpenSpec.upto trigTurnsSpec)

/-- 'outriggerlaw05.TrigBack', WHERE WHAT IT READS IS OF BULK AT MOST 1048576: true; the input reads as it did. -/
def trigBackUptoRow : OpenClaim := { program := "ytnbicphpchnkbaadoor", sum := "1d75475e6cea2e1338019bacd3cc2d2812cd72267ef892ee61d33dfe9ed53dd9", func := "outrigger/outriggerlaw05.TrigBack", spec := "trigBack", named := ["outrigger/trig.angles"], apart := false, laid := [("outrigger/trig.angles", laid_outrigger_trig_angles)], narrowed := true }
def TrigBackUptoSaid : Prop := trigBackUptoRow.holds Tryd.pinned (OpenSpec.upto trigBackSpec)

/-- 'outriggerlaw05.TrigSides', WHERE WHAT IT READS IS OF BULK AT MOST 1048576: true; the input reads as it did. -/
def trigSidesUptoRow : OpenClaim := { program := "ytnbicphpchnkbaadoor", sum := "1d75475e6cea2e1338019bacd3cc2d2812cd72267ef892ee61d33dfe9ed53dd9", func := "outrigger/outriggerlaw05.TrigSides", spec := "trigSides", named := ["outrigger/trig.angles"], apart := false, laid := [("outrigger/trig.angles", laid_outrigger_trig_angles)], narrowed := true }
def TrigSidesUptoSaid : Prop := trigSidesUptoRow.holds Tryd.pinned (OpenSpec.upto trigSidesSpec)

/-- 'outriggerlaw05.TrigSigns', WHERE WHAT IT READS IS OF BULK AT MOST 1048576: true; the input reads as it did. -/
def trigSignsUptoRow : OpenClaim := { program := "ytnbicphpchnkbaadoor", sum := "1d75475e6cea2e1338019bacd3cc2d2812cd72267ef892ee61d33dfe9ed53dd9", func := "outrigger/outriggerlaw05.TrigSigns", spec := "trigSigns", named := ["outrigger/trig.angles"], apart := false, laid := [("outrigger/trig.angles", laid_outrigger_trig_angles)], narrowed := true }
def TrigSignsUptoSaid : Prop := trigSignsUptoRow.holds Tryd.pinned (OpenSpec.upto trigSignsSpec)

/-- 'outriggerlaw05.TrigStep', WHERE WHAT IT READS IS OF BULK AT MOST 1048576: true; the input reads as it did. -/
def trigStepUptoRow : OpenClaim := { program := "ytnbicphpchnkbaadoor", sum := "1d75475e6cea2e1338019bacd3cc2d2812cd72267ef892ee61d33dfe9ed53dd9", func := "outrigger/outriggerlaw05.TrigStep", spec := "trigStep", named := ["outrigger/trig.angles"], apart := false, laid := [("outrigger/trig.angles", laid_outrigger_trig_angles)], narrowed := true }
def TrigStepUptoSaid : Prop := trigStepUptoRow.holds Tryd.pinned (OpenSpec.upto trigStepSpec)

/-- 'outriggerlaw05.TrigCircle', WHERE WHAT IT READS IS OF BULK AT MOST 1048576: true; the input reads as it did. -/
def trigCircleUptoRow : OpenClaim := { program := "ytnbicphpchnkbaadoor", sum := "1d75475e6cea2e1338019bacd3cc2d2812cd72267ef892ee61d33dfe9ed53dd9", func := "outrigger/outriggerlaw05.TrigCircle", spec := "trigCircle", named := ["outrigger/trig.angles"], apart := false, laid := [("outrigger/trig.angles", laid_outrigger_trig_angles)], narrowed := true }
def TrigCircleUptoSaid : Prop := trigCircleUptoRow.holds Tryd.pinned (OpenSpec.upto trigCircleSpec)

end Rows
end Go.Proofs.YtnbicphpchnkbaaDoor
