/-
  DERIVED. GIVEN WITH THE SEED: THE CARDS: each row of YtmifhmfokbigiaaGreatDoorRows.lean that lists a variable, with what it lists TIED to the program's text (the seventh form; the later family's looks); each row that meets fmt, with fmt's text TOLD by the authors' own Lean function (tested against real Go, not proved from fmt's source: count such statements apart). THE CARD IS WHAT COUNTS. Prove the row's statement (the work); the ties are given (YtmifhmfokbigiaaGreatDoorTie.lean); close each card by the builder's one call (the guide's Derived/Test/ToyasCard.lean, 'card_holds'). Laid BY PROGRAM, IN A SANDBOX (cutbox-door.mjs). By AI agents, Wed Nov 11 2026. No macro, syntax, notation, axiom, sorry.
-/
import Derived.Test.YtmifhmfokbigiaaGreatDoorRows
import GoSem.ClaimSeven
namespace Go.Proofs.YtmifhmfokbigiaaGreatDoor
namespace Rows

/-- THE TIED CARD OF 'midrangelaw14.InterpretTraces'. -/
def interpretTracesCard : Claim7 := { stood := { row := interpretTracesRow, standIns := [], harness := (true, "b4f01dadc0b5948159c838141613fd2e0eb2ba6266226ab1205805ecce3d4d0d"), looks := false }, kinds := [], alts := [], laidByText := true, laidKinds := [.data, .data, .data, .data], laidTests := true, laidLooks := .later }
def InterpretTracesCardSaid : Prop := Claim7.holds Tryz.pinned (.plain (OpenSpec.ofChange interpretTracesSpec)) interpretTracesCard

/-- THE TIED CARD OF 'midrangelaw14.InterpretTags'. -/
def interpretTagsCard : Claim7 := { stood := { row := interpretTagsRow, standIns := [], harness := (true, "b4f01dadc0b5948159c838141613fd2e0eb2ba6266226ab1205805ecce3d4d0d"), looks := false }, kinds := [], alts := [], laidByText := true, laidKinds := [.data, .data, .data, .data], laidTests := true, laidLooks := .later }
def InterpretTagsCardSaid : Prop := Claim7.holds Tryz.pinned (.plain (OpenSpec.ofChange interpretTagsSpec)) interpretTagsCard

/-- THE TIED CARD OF 'midrangelaw14.InterpretHandlers'. -/
def interpretHandlersCard : Claim7 := { stood := { row := interpretHandlersRow, standIns := [], harness := (true, "b4f01dadc0b5948159c838141613fd2e0eb2ba6266226ab1205805ecce3d4d0d"), looks := false }, kinds := [], alts := [], laidByText := true, laidKinds := [.data, .data, .data, .data], laidTests := true, laidLooks := .later }
def InterpretHandlersCardSaid : Prop := Claim7.holds Tryz.pinned (.plain (OpenSpec.ofChange interpretHandlersSpec)) interpretHandlersCard

/-- THE TIED CARD OF 'midrangelaw14.InterpretStates'. -/
def interpretStatesCard : Claim7 := { stood := { row := interpretStatesRow, standIns := [], harness := (true, "b4f01dadc0b5948159c838141613fd2e0eb2ba6266226ab1205805ecce3d4d0d"), looks := false }, kinds := [], alts := [], laidByText := true, laidKinds := [.data, .data, .data, .data], laidTests := true, laidLooks := .later }
def InterpretStatesCardSaid : Prop := Claim7.holds Tryz.pinned (.plain (OpenSpec.ofChange interpretStatesSpec)) interpretStatesCard

/-- THE TIED CARD OF 'midrangelaw14.InterpretSteps'. -/
def interpretStepsCard : Claim7 := { stood := { row := interpretStepsRow, standIns := [], harness := (true, "b4f01dadc0b5948159c838141613fd2e0eb2ba6266226ab1205805ecce3d4d0d"), looks := false }, kinds := [], alts := [], laidByText := true, laidKinds := [.data, .data, .data, .data], laidTests := true, laidLooks := .later }
def InterpretStepsCardSaid : Prop := Claim7.holds Tryz.pinned (.plain (OpenSpec.ofChange interpretStepsSpec)) interpretStepsCard

/-- THE TIED CARD OF 'midrangelaw14.InterpretUnchanged'. -/
def interpretUnchangedCard : Claim7 := { stood := { row := interpretUnchangedRow, standIns := [], harness := (true, "b4f01dadc0b5948159c838141613fd2e0eb2ba6266226ab1205805ecce3d4d0d"), looks := false }, kinds := [], alts := [], laidByText := true, laidKinds := [.data, .data, .data, .data], laidTests := true, laidLooks := .later }
def InterpretUnchangedCardSaid : Prop := Claim7.holds Tryz.pinned (.plain (OpenSpec.ofChange interpretUnchangedSpec)) interpretUnchangedCard

/-- THE TIED CARD OF 'midrangelaw14.InterpretAgain'. -/
def interpretAgainCard : Claim7 := { stood := { row := interpretAgainRow, standIns := [], harness := (true, "b4f01dadc0b5948159c838141613fd2e0eb2ba6266226ab1205805ecce3d4d0d"), looks := false }, kinds := [], alts := [], laidByText := true, laidKinds := [.data, .data, .data, .data], laidTests := true, laidLooks := .later }
def InterpretAgainCardSaid : Prop := Claim7.holds Tryz.pinned (.plain (OpenSpec.ofChange interpretAgainSpec)) interpretAgainCard

/-- THE TIED CARD OF 'midrangelaw14.InterpretOperands'. -/
def interpretOperandsCard : Claim7 := { stood := { row := interpretOperandsRow, standIns := [], harness := (true, "b4f01dadc0b5948159c838141613fd2e0eb2ba6266226ab1205805ecce3d4d0d"), looks := false }, kinds := [], alts := [], laidByText := true, laidKinds := [.data, .data, .data, .data], laidTests := true, laidLooks := .later }
def InterpretOperandsCardSaid : Prop := Claim7.holds Tryz.pinned (.plain (OpenSpec.ofChange interpretOperandsSpec)) interpretOperandsCard

/-- THE SECOND FORM's CARD OF 'midrangelaw14.InterpretTraces'. -/
def interpretTracesUptoCard : Claim7 := { stood := { row := interpretTracesUptoRow, standIns := [], harness := (true, "b4f01dadc0b5948159c838141613fd2e0eb2ba6266226ab1205805ecce3d4d0d"), looks := false }, kinds := [], alts := [], laidByText := true, laidKinds := [.data, .data, .data, .data], laidTests := true, laidLooks := .later }
def InterpretTracesUptoCardSaid : Prop := Claim7.holds Tryz.pinned (.plain (OpenSpec.upto interpretTracesSpec)) interpretTracesUptoCard

/-- THE SECOND FORM's CARD OF 'midrangelaw14.InterpretTags'. -/
def interpretTagsUptoCard : Claim7 := { stood := { row := interpretTagsUptoRow, standIns := [], harness := (true, "b4f01dadc0b5948159c838141613fd2e0eb2ba6266226ab1205805ecce3d4d0d"), looks := false }, kinds := [], alts := [], laidByText := true, laidKinds := [.data, .data, .data, .data], laidTests := true, laidLooks := .later }
def InterpretTagsUptoCardSaid : Prop := Claim7.holds Tryz.pinned (.plain (OpenSpec.upto interpretTagsSpec)) interpretTagsUptoCard

/-- THE SECOND FORM's CARD OF 'midrangelaw14.InterpretHandlers'. -/
def interpretHandlersUptoCard : Claim7 := { stood := { row := interpretHandlersUptoRow, standIns := [], harness := (true, "b4f01dadc0b5948159c838141613fd2e0eb2ba6266226ab1205805ecce3d4d0d"), looks := false }, kinds := [], alts := [], laidByText := true, laidKinds := [.data, .data, .data, .data], laidTests := true, laidLooks := .later }
def InterpretHandlersUptoCardSaid : Prop := Claim7.holds Tryz.pinned (.plain (OpenSpec.upto interpretHandlersSpec)) interpretHandlersUptoCard

/-- THE SECOND FORM's CARD OF 'midrangelaw14.InterpretStates'. -/
def interpretStatesUptoCard : Claim7 := { stood := { row := interpretStatesUptoRow, standIns := [], harness := (true, "b4f01dadc0b5948159c838141613fd2e0eb2ba6266226ab1205805ecce3d4d0d"), looks := false }, kinds := [], alts := [], laidByText := true, laidKinds := [.data, .data, .data, .data], laidTests := true, laidLooks := .later }
def InterpretStatesUptoCardSaid : Prop := Claim7.holds Tryz.pinned (.plain (OpenSpec.upto interpretStatesSpec)) interpretStatesUptoCard

/-- THE SECOND FORM's CARD OF 'midrangelaw14.InterpretSteps'. -/
def interpretStepsUptoCard : Claim7 := { stood := { row := interpretStepsUptoRow, standIns := [], harness := (true, "b4f01dadc0b5948159c838141613fd2e0eb2ba6266226ab1205805ecce3d4d0d"), looks := false }, kinds := [], alts := [], laidByText := true, laidKinds := [.data, .data, .data, .data], laidTests := true, laidLooks := .later }
def InterpretStepsUptoCardSaid : Prop := Claim7.holds Tryz.pinned (.plain (OpenSpec.upto interpretStepsSpec)) interpretStepsUptoCard

/-- THE SECOND FORM's CARD OF 'midrangelaw14.InterpretUnchanged'. -/
def interpretUnchangedUptoCard : Claim7 := { stood := { row := interpretUnchangedUptoRow, standIns := [], harness := (true, "b4f01dadc0b5948159c838141613fd2e0eb2ba6266226ab1205805ecce3d4d0d"), looks := false }, kinds := [], alts := [], laidByText := true, laidKinds := [.data, .data, .data, .data], laidTests := true, laidLooks := .later }
def InterpretUnchangedUptoCardSaid : Prop := Claim7.holds Tryz.pinned (.plain (OpenSpec.upto interpretUnchangedSpec)) interpretUnchangedUptoCard

/-- THE SECOND FORM's CARD OF 'midrangelaw14.InterpretAgain'. -/
def interpretAgainUptoCard : Claim7 := { stood := { row := interpretAgainUptoRow, standIns := [], harness := (true, "b4f01dadc0b5948159c838141613fd2e0eb2ba6266226ab1205805ecce3d4d0d"), looks := false }, kinds := [], alts := [], laidByText := true, laidKinds := [.data, .data, .data, .data], laidTests := true, laidLooks := .later }
def InterpretAgainUptoCardSaid : Prop := Claim7.holds Tryz.pinned (.plain (OpenSpec.upto interpretAgainSpec)) interpretAgainUptoCard

/-- THE SECOND FORM's CARD OF 'midrangelaw14.InterpretOperands'. -/
def interpretOperandsUptoCard : Claim7 := { stood := { row := interpretOperandsUptoRow, standIns := [], harness := (true, "b4f01dadc0b5948159c838141613fd2e0eb2ba6266226ab1205805ecce3d4d0d"), looks := false }, kinds := [], alts := [], laidByText := true, laidKinds := [.data, .data, .data, .data], laidTests := true, laidLooks := .later }
def InterpretOperandsUptoCardSaid : Prop := Claim7.holds Tryz.pinned (.plain (OpenSpec.upto interpretOperandsSpec)) interpretOperandsUptoCard
end Rows
end Go.Proofs.YtmifhmfokbigiaaGreatDoor
