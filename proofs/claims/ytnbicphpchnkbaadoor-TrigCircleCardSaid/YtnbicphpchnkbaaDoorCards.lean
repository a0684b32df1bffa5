/-
  DERIVED. GIVEN WITH THE SEED: THE CARDS: each row of YtnbicphpchnkbaaDoorRows.lean that lists a variable, with what it lists TIED to the program's text (the seventh form; the later family's looks); each row that meets fmt, with fmt's text TOLD by the authors' own Lean function (tested against real Go, not proved from fmt's source: count such statements apart). THE CARD IS WHAT COUNTS. Prove the row's statement (the work); the ties are given (YtnbicphpchnkbaaDoorTie.lean); close each card by the builder's one call (the guide's Derived/Test/ToyasCard.lean, 'card_holds'). Laid BY PROGRAM, IN A SANDBOX (cutbox-door.mjs). By AI agents, Wed Nov 11 2026. No macro, syntax, notation, axiom, sorry.
-/
import Derived.Test.YtnbicphpchnkbaaDoorRows
import GoSem.ClaimSeven
namespace Go.Proofs.YtnbicphpchnkbaaDoor
namespace Rows

/-- THE TIED CARD OF 'outriggerlaw05.TrigIs'. -/
def trigIsCard : Claim7 := { stood := { row := trigIsRow, standIns := [], harness := (true, "cd88e2875d7bf6ff1c90401f2ffa911a11e90580444bf8923a3672aa07c95ac3"), looks := false }, kinds := [], alts := [], laidByText := true, laidKinds := [.data], laidTests := true, laidLooks := .later }
def TrigIsCardSaid : Prop := Claim7.holds Tryd.pinned (.plain (OpenSpec.ofChange trigIsSpec)) trigIsCard

/-- THE TIED CARD OF 'outriggerlaw05.TrigTurns'. -/
def trigTurnsCard : Claim7 := { stood := { row := trigTurnsRow, standIns := [], harness := (true, "cd88e2875d7bf6ff1c90401f2ffa911a11e90580444bf8923a3672aa07c95ac3"), looks := false }, kinds := [], alts := [], laidByText := true, laidKinds := [.data], laidTests := true, laidLooks := .later }
def TrigTurnsCardSaid : Prop := Claim7.holds Tryd.pinned (.plain (OpenSpec.ofChange trigTurnsSpec)) trigTurnsCard

/-- THE TIED CARD OF 'outriggerlaw05.TrigBack'. -/
def trigBackCard : Claim7 := { stood := { row := trigBackRow, standIns := [], harness := (true, "cd88e2875d7bf6ff1c90401f2ffa911a11e90580444bf8923a3672aa07c95ac3"), looks := false }, kinds := [], alts := [], laidByText := true, laidKinds := [.data], laidTests := true, laidLooks := .later }
def TrigBackCardSaid : Prop := Claim7.holds Tryd.pinned (.plain (OpenSpec.ofChange trigBackSpec)) trigBackCard

/-- THE TIED CARD OF 'outriggerlaw05.TrigSides'. -/
def trigSidesCard : Claim7 := { stood := { row := trigSidesRow, standIns := [], harness := (true, "cd88e2875d7bf6ff1c90401f2ffa911a11e90580444bf8923a3672aa07c95ac3"), looks := false }, kinds := [], alts := [], laidByText := true, laidKinds := [.data], laidTests := true, laidLooks := .later }
def TrigSidesCardSaid : Prop := Claim7.holds Tryd.pinned (.plain (OpenSpec.ofChange trigSidesSpec)) trigSidesCard

/-- THE TIED CARD OF 'outriggerlaw05.TrigSigns'. -/
def trigSignsCard : Claim7 := { stood := { row := trigSignsRow, standIns := [], harness := (true, "cd88e2875d7bf6ff1c90401f2ffa911a11e90580444bf8923a3672aa07c95ac3"), looks := false }, kinds := [], alts := [], laidByText := true, laidKinds := [.data], laidTests := true, laidLooks := .later }
def TrigSignsCardSaid : Prop := Claim7.holds Tryd.pinned (.plain (OpenSpec.ofChange trigSignsSpec)) trigSignsCard

/-- THE TIED CARD OF 'outriggerlaw05.TrigStep'. -/
def trigStepCard : Claim7 := { stood := { row := trigStepRow, standIns := [], harness := (true, "cd88e2875d7bf6ff1c90401f2ffa911a11e90580444bf8923a3672aa07c95ac3"), looks := false }, kinds := [], alts := [], laidByText := true, laidKinds := [.data], laidTests := true, laidLooks := .later }
def TrigStepCardSaid : Prop := Claim7.holds Tryd.pinned (.plain (OpenSpec.ofChange trigStepSpec)) trigStepCard

/-- THE TIED CARD OF 'outriggerlaw05.TrigCircle'. -/
def trigCircleCard : Claim7 := { stood := { row := trigCircleRow, standIns := [], harness := (true, "cd88e2875d7bf6ff1c90401f2ffa911a11e90580444bf8923a3672aa07c95ac3"), looks := false }, kinds := [], alts := [], laidByText := true, laidKinds := [.data], laidTests := true, laidLooks := .later }
def TrigCircleCardSaid : Prop := Claim7.holds Tryd.pinned (.plain (OpenSpec.ofChange trigCircleSpec)) trigCircleCard

/-- THE SECOND FORM's CARD OF 'outriggerlaw05.TrigIs'. -/
def trigIsUptoCard : Claim7 := { stood := { row := trigIsUptoRow, standIns := [], harness := (true, "cd88e2875d7bf6ff1c90401f2ffa911a11e90580444bf8923a3672aa07c95ac3"), looks := false }, kinds := [], alts := [], laidByText := true, laidKinds := [.data], laidTests := true, laidLooks := .later }
def TrigIsUptoCardSaid : Prop := Claim7.holds Tryd.pinned (.plain (OpenSpec.upto trigIsSpec)) trigIsUptoCard

/-- THE SECOND FORM's CARD OF 'outriggerlaw05.TrigTurns'. -/
def trigTurnsUptoCard : Claim7 := { stood := { row := trigTurnsUptoRow, standIns := [], harness := (true, "cd88e2875d7bf6ff1c90401f2ffa911a11e90580444bf8923a3672aa07c95ac3"), looks := false }, kinds := [], alts := [], laidByText := true, laidKinds := [.data], laidTests := true, laidLooks := .later }
def TrigTurnsUptoCardSaid : Prop := Claim7.holds Tryd.pinned (.plain (OpenSpec.upto trigTurnsSpec)) trigTurnsUptoCard

/-- THE SECOND FORM's CARD OF 'outriggerlaw05.TrigBack'. -/
def trigBackUptoCard : Claim7 := { stood := { row := trigBackUptoRow, standIns := [], harness := (true, "cd88e2875d7bf6ff1c90401f2ffa911a11e90580444bf8923a3672aa07c95ac3"), looks := false }, kinds := [], alts := [], laidByText := true, laidKinds := [.data], laidTests := true, laidLooks := .later }
def TrigBackUptoCardSaid : Prop := Claim7.holds Tryd.pinned (.plain (OpenSpec.upto trigBackSpec)) trigBackUptoCard

/-- THE SECOND FORM's CARD OF 'outriggerlaw05.TrigSides'. -/
def trigSidesUptoCard : Claim7 := { stood := { row := trigSidesUptoRow, standIns := [], harness := (true, "cd88e2875d7bf6ff1c90401f2ffa911a11e90580444bf8923a3672aa07c95ac3"), looks := false }, kinds := [], alts := [], laidByText := true, laidKinds := [.data], laidTests := true, laidLooks := .later }
def TrigSidesUptoCardSaid : Prop := Claim7.holds Tryd.pinned (.plain (OpenSpec.upto trigSidesSpec)) trigSidesUptoCard

/-- THE SECOND FORM's CARD OF 'outriggerlaw05.TrigSigns'. -/
def trigSignsUptoCard : Claim7 := { stood := { row := trigSignsUptoRow, standIns := [], harness := (true, "cd88e2875d7bf6ff1c90401f2ffa911a11e90580444bf8923a3672aa07c95ac3"), looks := false }, kinds := [], alts := [], laidByText := true, laidKinds := [.data], laidTests := true, laidLooks := .later }
def TrigSignsUptoCardSaid : Prop := Claim7.holds Tryd.pinned (.plain (OpenSpec.upto trigSignsSpec)) trigSignsUptoCard

/-- THE SECOND FORM's CARD OF 'outriggerlaw05.TrigStep'. -/
def trigStepUptoCard : Claim7 := { stood := { row := trigStepUptoRow, standIns := [], harness := (true, "cd88e2875d7bf6ff1c90401f2ffa911a11e90580444bf8923a3672aa07c95ac3"), looks := false }, kinds := [], alts := [], laidByText := true, laidKinds := [.data], laidTests := true, laidLooks := .later }
def TrigStepUptoCardSaid : Prop := Claim7.holds Tryd.pinned (.plain (OpenSpec.upto trigStepSpec)) trigStepUptoCard

/-- THE SECOND FORM's CARD OF 'outriggerlaw05.TrigCircle'. -/
def trigCircleUptoCard : Claim7 := { stood := { row := trigCircleUptoRow, standIns := [], harness := (true, "cd88e2875d7bf6ff1c90401f2ffa911a11e90580444bf8923a3672aa07c95ac3"), looks := false }, kinds := [], alts := [], laidByText := true, laidKinds := [.data], laidTests := true, laidLooks := .later }
def TrigCircleUptoCardSaid : Prop := Claim7.holds Tryd.pinned (.plain (OpenSpec.upto trigCircleSpec)) trigCircleUptoCard
end Rows
end Go.Proofs.YtnbicphpchnkbaaDoor
