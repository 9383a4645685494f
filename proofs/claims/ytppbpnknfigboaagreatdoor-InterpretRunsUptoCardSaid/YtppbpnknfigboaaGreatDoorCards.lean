/-
  DERIVED. GIVEN WITH THE SEED: THE CARDS: each row of YtppbpnknfigboaaGreatDoorRows.lean that lists a variable, with what it lists TIED to the program's text (the seventh form; the later family's looks); each row that meets fmt, with fmt's text TOLD by the authors' own Lean function (tested against real Go, not proved from fmt's source: count such statements apart). THE CARD IS WHAT COUNTS. Prove the row's statement (the work); the ties are given (YtppbpnknfigboaaGreatDoorTie.lean); close each card by the builder's one call (the guide's Derived/Test/ToyasCard.lean, 'card_holds'). Laid BY PROGRAM, IN A SANDBOX (cutbox-door.mjs). By AI agents, Wed Nov 11 2026. No macro, syntax, notation, axiom, sorry.
-/
import Derived.Test.YtppbpnknfigboaaGreatDoorRows
import GoSem.ClaimSeven
namespace Go.Proofs.YtppbpnknfigboaaGreatDoor
namespace Rows

/-- THE TIED CARD OF 'midrangelaw15.HardwareCodes'. -/
def hardwareCodesCard : Claim7 := { stood := { row := hardwareCodesRow, standIns := [], harness := (true, "b7e4305e0bd29379483f5ecf37f5c56fc1dd4dee3556cb1178cd61679f2dc5e7"), looks := false }, kinds := [], alts := [], laidByText := true, laidKinds := [.data, .data, .data, .data], laidTests := true, laidLooks := .later }
def HardwareCodesCardSaid : Prop := Claim7.holds Tryz.pinned (.plain (OpenSpec.ofChange hardwareCodesSpec)) hardwareCodesCard

/-- THE TIED CARD OF 'midrangelaw15.HardwareRuns'. -/
def hardwareRunsCard : Claim7 := { stood := { row := hardwareRunsRow, standIns := [], harness := (true, "b7e4305e0bd29379483f5ecf37f5c56fc1dd4dee3556cb1178cd61679f2dc5e7"), looks := false }, kinds := [], alts := [], laidByText := true, laidKinds := [.data, .data, .data, .data], laidTests := true, laidLooks := .later }
def HardwareRunsCardSaid : Prop := Claim7.holds Tryz.pinned (.plain (OpenSpec.ofChange hardwareRunsSpec)) hardwareRunsCard

/-- THE TIED CARD OF 'midrangelaw15.HardwarePorts'. -/
def hardwarePortsCard : Claim7 := { stood := { row := hardwarePortsRow, standIns := [], harness := (true, "b7e4305e0bd29379483f5ecf37f5c56fc1dd4dee3556cb1178cd61679f2dc5e7"), looks := false }, kinds := [], alts := [], laidByText := true, laidKinds := [.data, .data, .data, .data], laidTests := true, laidLooks := .later }
def HardwarePortsCardSaid : Prop := Claim7.holds Tryz.pinned (.plain (OpenSpec.ofChange hardwarePortsSpec)) hardwarePortsCard

/-- THE TIED CARD OF 'midrangelaw15.HardwareLarger'. -/
def hardwareLargerCard : Claim7 := { stood := { row := hardwareLargerRow, standIns := [], harness := (true, "b7e4305e0bd29379483f5ecf37f5c56fc1dd4dee3556cb1178cd61679f2dc5e7"), looks := false }, kinds := [], alts := [], laidByText := true, laidKinds := [.data, .data, .data, .data], laidTests := true, laidLooks := .later }
def HardwareLargerCardSaid : Prop := Claim7.holds Tryz.pinned (.plain (OpenSpec.ofChange hardwareLargerSpec)) hardwareLargerCard

/-- THE TIED CARD OF 'midrangelaw14.InterpretRuns'. -/
def interpretRunsCard : Claim7 := { stood := { row := interpretRunsRow, standIns := [], harness := (true, "b7e4305e0bd29379483f5ecf37f5c56fc1dd4dee3556cb1178cd61679f2dc5e7"), looks := false }, kinds := [], alts := [], laidByText := true, laidKinds := [.data, .data, .data, .data], laidTests := true, laidLooks := .later }
def InterpretRunsCardSaid : Prop := Claim7.holds Tryz.pinned (.plain (OpenSpec.ofChange interpretRunsSpec)) interpretRunsCard

/-- THE TIED CARD OF 'midrangelaw15.HardwareStates'. -/
def hardwareStatesCard : Claim7 := { stood := { row := hardwareStatesRow, standIns := [], harness := (true, "b7e4305e0bd29379483f5ecf37f5c56fc1dd4dee3556cb1178cd61679f2dc5e7"), looks := false }, kinds := [], alts := [], laidByText := true, laidKinds := [.data, .data, .data, .data], laidTests := true, laidLooks := .later }
def HardwareStatesCardSaid : Prop := Claim7.holds Tryz.pinned (.plain (OpenSpec.ofChange hardwareStatesSpec)) hardwareStatesCard

/-- THE TIED CARD OF 'midrangelaw15.HardwareSteps'. -/
def hardwareStepsCard : Claim7 := { stood := { row := hardwareStepsRow, standIns := [], harness := (true, "b7e4305e0bd29379483f5ecf37f5c56fc1dd4dee3556cb1178cd61679f2dc5e7"), looks := false }, kinds := [], alts := [], laidByText := true, laidKinds := [.data, .data, .data, .data], laidTests := true, laidLooks := .later }
def HardwareStepsCardSaid : Prop := Claim7.holds Tryz.pinned (.plain (OpenSpec.ofChange hardwareStepsSpec)) hardwareStepsCard

/-- THE TIED CARD OF 'midrangelaw15.HardwareValid'. -/
def hardwareValidCard : Claim7 := { stood := { row := hardwareValidRow, standIns := [], harness := (true, "b7e4305e0bd29379483f5ecf37f5c56fc1dd4dee3556cb1178cd61679f2dc5e7"), looks := false }, kinds := [], alts := [], laidByText := true, laidKinds := [.data, .data, .data, .data], laidTests := true, laidLooks := .later }
def HardwareValidCardSaid : Prop := Claim7.holds Tryz.pinned (.plain (OpenSpec.ofChange hardwareValidSpec)) hardwareValidCard

/-- THE TIED CARD OF 'midrangelaw15.HardwareUnchanged'. -/
def hardwareUnchangedCard : Claim7 := { stood := { row := hardwareUnchangedRow, standIns := [], harness := (true, "b7e4305e0bd29379483f5ecf37f5c56fc1dd4dee3556cb1178cd61679f2dc5e7"), looks := false }, kinds := [], alts := [], laidByText := true, laidKinds := [.data, .data, .data, .data], laidTests := true, laidLooks := .later }
def HardwareUnchangedCardSaid : Prop := Claim7.holds Tryz.pinned (.plain (OpenSpec.ofChange hardwareUnchangedSpec)) hardwareUnchangedCard

/-- THE SECOND FORM's CARD OF 'midrangelaw15.HardwareCodes'. -/
def hardwareCodesUptoCard : Claim7 := { stood := { row := hardwareCodesUptoRow, standIns := [], harness := (true, "b7e4305e0bd29379483f5ecf37f5c56fc1dd4dee3556cb1178cd61679f2dc5e7"), looks := false }, kinds := [], alts := [], laidByText := true, laidKinds := [.data, .data, .data, .data], laidTests := true, laidLooks := .later }
def HardwareCodesUptoCardSaid : Prop := Claim7.holds Tryz.pinned (.plain (OpenSpec.upto hardwareCodesSpec)) hardwareCodesUptoCard

/-- THE SECOND FORM's CARD OF 'midrangelaw15.HardwareRuns'. -/
def hardwareRunsUptoCard : Claim7 := { stood := { row := hardwareRunsUptoRow, standIns := [], harness := (true, "b7e4305e0bd29379483f5ecf37f5c56fc1dd4dee3556cb1178cd61679f2dc5e7"), looks := false }, kinds := [], alts := [], laidByText := true, laidKinds := [.data, .data, .data, .data], laidTests := true, laidLooks := .later }
def HardwareRunsUptoCardSaid : Prop := Claim7.holds Tryz.pinned (.plain (OpenSpec.upto hardwareRunsSpec)) hardwareRunsUptoCard

/-- THE SECOND FORM's CARD OF 'midrangelaw15.HardwarePorts'. -/
def hardwarePortsUptoCard : Claim7 := { stood := { row := hardwarePortsUptoRow, standIns := [], harness := (true, "b7e4305e0bd29379483f5ecf37f5c56fc1dd4dee3556cb1178cd61679f2dc5e7"), looks := false }, kinds := [], alts := [], laidByText := true, laidKinds := [.data, .data, .data, .data], laidTests := true, laidLooks := .later }
def HardwarePortsUptoCardSaid : Prop := Claim7.holds Tryz.pinned (.plain (OpenSpec.upto hardwarePortsSpec)) hardwarePortsUptoCard

/-- THE SECOND FORM's CARD OF 'midrangelaw15.HardwareLarger'. -/
def hardwareLargerUptoCard : Claim7 := { stood := { row := hardwareLargerUptoRow, standIns := [], harness := (true, "b7e4305e0bd29379483f5ecf37f5c56fc1dd4dee3556cb1178cd61679f2dc5e7"), looks := false }, kinds := [], alts := [], laidByText := true, laidKinds := [.data, .data, .data, .data], laidTests := true, laidLooks := .later }
def HardwareLargerUptoCardSaid : Prop := Claim7.holds Tryz.pinned (.plain (OpenSpec.upto hardwareLargerSpec)) hardwareLargerUptoCard

/-- THE SECOND FORM's CARD OF 'midrangelaw14.InterpretRuns'. -/
def interpretRunsUptoCard : Claim7 := { stood := { row := interpretRunsUptoRow, standIns := [], harness := (true, "b7e4305e0bd29379483f5ecf37f5c56fc1dd4dee3556cb1178cd61679f2dc5e7"), looks := false }, kinds := [], alts := [], laidByText := true, laidKinds := [.data, .data, .data, .data], laidTests := true, laidLooks := .later }
def InterpretRunsUptoCardSaid : Prop := Claim7.holds Tryz.pinned (.plain (OpenSpec.upto interpretRunsSpec)) interpretRunsUptoCard

/-- THE SECOND FORM's CARD OF 'midrangelaw15.HardwareStates'. -/
def hardwareStatesUptoCard : Claim7 := { stood := { row := hardwareStatesUptoRow, standIns := [], harness := (true, "b7e4305e0bd29379483f5ecf37f5c56fc1dd4dee3556cb1178cd61679f2dc5e7"), looks := false }, kinds := [], alts := [], laidByText := true, laidKinds := [.data, .data, .data, .data], laidTests := true, laidLooks := .later }
def HardwareStatesUptoCardSaid : Prop := Claim7.holds Tryz.pinned (.plain (OpenSpec.upto hardwareStatesSpec)) hardwareStatesUptoCard

/-- THE SECOND FORM's CARD OF 'midrangelaw15.HardwareSteps'. -/
def hardwareStepsUptoCard : Claim7 := { stood := { row := hardwareStepsUptoRow, standIns := [], harness := (true, "b7e4305e0bd29379483f5ecf37f5c56fc1dd4dee3556cb1178cd61679f2dc5e7"), looks := false }, kinds := [], alts := [], laidByText := true, laidKinds := [.data, .data, .data, .data], laidTests := true, laidLooks := .later }
def HardwareStepsUptoCardSaid : Prop := Claim7.holds Tryz.pinned (.plain (OpenSpec.upto hardwareStepsSpec)) hardwareStepsUptoCard

/-- THE SECOND FORM's CARD OF 'midrangelaw15.HardwareValid'. -/
def hardwareValidUptoCard : Claim7 := { stood := { row := hardwareValidUptoRow, standIns := [], harness := (true, "b7e4305e0bd29379483f5ecf37f5c56fc1dd4dee3556cb1178cd61679f2dc5e7"), looks := false }, kinds := [], alts := [], laidByText := true, laidKinds := [.data, .data, .data, .data], laidTests := true, laidLooks := .later }
def HardwareValidUptoCardSaid : Prop := Claim7.holds Tryz.pinned (.plain (OpenSpec.upto hardwareValidSpec)) hardwareValidUptoCard

/-- THE SECOND FORM's CARD OF 'midrangelaw15.HardwareUnchanged'. -/
def hardwareUnchangedUptoCard : Claim7 := { stood := { row := hardwareUnchangedUptoRow, standIns := [], harness := (true, "b7e4305e0bd29379483f5ecf37f5c56fc1dd4dee3556cb1178cd61679f2dc5e7"), looks := false }, kinds := [], alts := [], laidByText := true, laidKinds := [.data, .data, .data, .data], laidTests := true, laidLooks := .later }
def HardwareUnchangedUptoCardSaid : Prop := Claim7.holds Tryz.pinned (.plain (OpenSpec.upto hardwareUnchangedSpec)) hardwareUnchangedUptoCard
end Rows
end Go.Proofs.YtppbpnknfigboaaGreatDoor
