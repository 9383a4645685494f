/- Closed facts of the row of HardwareSteps. -/
import Derived.Test.YtppbpnknfigboaaGreatDoorCards
import Derived.Test.YtppbpnknfigboaaGreatDoorTie
import Derived.WalkKit
import Derived.ProofKit
import Derived.OpenShut
import Derived.Deep.DeepHandedRow
import Derived.Deep.DeepWitnessRowRef
import Derived.Lay
import Derived.MakeChecks
namespace Go.Proofs.YtppbpnknfigboaaGreatDoor.M
open Go
set_option linter.unusedVariables false
set_option maxRecDepth 100000
noncomputable section
theorem factHardwareSteps0 : Rows.hardwareStepsUptoRow.wf (OpenSpec.ofChange (Rows.OpenSpec.upto Rows.hardwareStepsSpec).bare) = true := by kernel_rfl
theorem factHardwareSteps1 : laidOutB Tryz.pinned.checked.prog = true := by kernel_rfl
theorem factHardwareSteps2 : mapsRowed Tryz.pinned.checked.prog = true := by kernel_rfl
theorem factHardwareSteps3 : Proofs.Tryz.f9.params.all (Tryz.pinned.checked.prog.readableRec ·) = true := by kernel_rfl
theorem factHardwareSteps4 : namedTie Tryz.pinned.checked.prog Rows.hardwareStepsUptoRow.named (Rows.OpenSpec.upto Rows.hardwareStepsSpec).bare.vars = true := by kernel_rfl
theorem factHardwareSteps6 : (Tryz.pinned.checked.prog.stops == []) = true := by kernel_rfl
theorem factHardwareSteps8 : (Tryz.pinned.checked.prog.stopKnobs == []) = true := by kernel_rfl
theorem factHardwareSteps9 : (Rows.hardwareStepsUptoRow.inPlace == Tryz.pinned.checked.prog.inPlace 9) = true := by kernel_rfl
theorem factHardwareSteps10 : (Rows.hardwareStepsUptoRow.unfollowed == Tryz.pinned.checked.prog.unfollowed 9) = true := by kernel_rfl
theorem factHardwareSteps11 : (Rows.hardwareStepsUptoRow.recurses == Tryz.pinned.checked.prog.recurses 9) = true := by kernel_rfl
theorem factHardwareSteps12 : (Rows.hardwareStepsUptoRow.named == Tryz.pinned.checked.prog.varsNamed 9) = true := by kernel_rfl
theorem factHardwareSteps13 : (Rows.hardwareStepsUptoRow.maps == (Proofs.Tryz.f9.params.toList ++ (Rows.OpenSpec.upto Rows.hardwareStepsSpec).bare.plain.varTypes Tryz.pinned.checked.prog).any (Tryz.pinned.checked.prog.mapsRec ·)) = true := by kernel_rfl
theorem factHardwareSteps14 : (Rows.hardwareStepsUptoRow.ifaces == (Proofs.Tryz.f9.params.toList ++ (Rows.OpenSpec.upto Rows.hardwareStepsSpec).bare.plain.varTypes Tryz.pinned.checked.prog).any (Tryz.pinned.checked.prog.ifacesRec ·)) = true := by kernel_rfl
theorem factHardwareSteps15 : (Rows.hardwareStepsUptoRow.mapsOut == Tryz.pinned.checked.prog.mapsAmong Proofs.Tryz.f9.resultTypes.toList) = true := by kernel_rfl
theorem factHardwareSteps16 : (Rows.hardwareStepsUptoRow.loops == (Proofs.Tryz.f9.params.toList ++ (Rows.OpenSpec.upto Rows.hardwareStepsSpec).bare.plain.varTypes Tryz.pinned.checked.prog).any (Tryz.pinned.checked.prog.loopsFrom ·)) = true := by kernel_rfl
theorem factHardwareSteps17 : (Rows.hardwareStepsUptoRow.wideKeys == (Proofs.Tryz.f9.params.toList ++ (Rows.OpenSpec.upto Rows.hardwareStepsSpec).bare.plain.varTypes Tryz.pinned.checked.prog ++ Proofs.Tryz.f9.resultTypes.toList).any (Tryz.pinned.checked.prog.wideKeysFrom ·)) = true := by kernel_rfl
theorem factHardwareSteps22 : (Rows.hardwareStepsUptoRow.plainKeys == Tryz.pinned.checked.prog.plainKeys) = true := by kernel_rfl
theorem factHardwareSteps24 : Tryz.pinned.checked.prog.stopsHeard = true := by kernel_rfl
theorem factHardwareSteps25 : Tryz.pinned.checked.prog.mayEnter = true := by kernel_rfl
theorem factHardwareSteps26 : (Rows.hardwareStepsUptoRow.lifted == Tryz.pinned.checked.prog.liftsFinal) = true := by kernel_rfl
theorem factHardwareSteps27 : (Tryz.pinned.checked.prog.make == some Rows.hardwareStepsUptoRow.make) = true := by kernel_rfl
theorem factHardwareSteps29 : (Rows.hardwareStepsUptoRow.pinned == Rows.hardwareStepsUptoRow.pinnedBy) = true := by kernel_rfl
theorem and2 {a b : Bool} (h : a = true) (h' : b = true) : (a && b) = true := by rw [h, h']; rfl
theorem factsHardwareSteps : joinedFacts Tryz.pinned.checked.prog 9 Proofs.Tryz.f9 (Rows.OpenSpec.upto Rows.hardwareStepsSpec).bare Rows.hardwareStepsUptoRow = true := and2 (and2 (and2 (and2 (and2 (and2 (and2 (and2 (and2 (and2 (and2 (and2 (and2 (and2 (and2 (and2 (and2 (and2 (and2 (and2 (and2 (and2 (and2 (and2 (and2 (and2 (and2 (and2 (and2 (and2 (and2 factHardwareSteps0 factHardwareSteps1) factHardwareSteps2) factHardwareSteps3) factHardwareSteps4) (by kernel_rfl)) factHardwareSteps6) (by kernel_rfl)) factHardwareSteps8) factHardwareSteps9) factHardwareSteps10) factHardwareSteps11) factHardwareSteps12) factHardwareSteps13) factHardwareSteps14) factHardwareSteps15) factHardwareSteps16) factHardwareSteps17) (by kernel_rfl)) (by kernel_rfl)) (by kernel_rfl)) (by kernel_rfl)) factHardwareSteps22) (by kernel_rfl)) factHardwareSteps24) factHardwareSteps25) factHardwareSteps26) factHardwareSteps27) (by kernel_rfl)) factHardwareSteps29) (by kernel_rfl)) (by kernel_rfl)
theorem instHardwareSteps : Proofs.Tryz.f9.isInstance Tryz.pinned.checked.prog Rows.hardwareStepsUptoRow.origin Rows.hardwareStepsUptoRow.targs := of_decide_eq_true (by kernel_rfl)
theorem wrapHardwareSteps : Proofs.Tryz.f9.isWrapper Tryz.pinned.checked.prog Rows.hardwareStepsUptoRow.wrapper Rows.hardwareStepsUptoRow.mainSum := by
 unfold Func.isWrapper
 first | (rw [if_pos (by decide +kernel)]; kernel_rfl) | (rw [if_neg (by decide +kernel)]; exact ⟨rfl, rfl⟩)
theorem goesHardwareSteps : false = Rows.hardwareStepsUptoRow.goesBy Tryz.pinned.checked.prog := by kernel_rfl
theorem wfHardwareSteps : Rows.hardwareStepsUptoRow.wfByText (Rows.OpenSpec.upto Rows.hardwareStepsSpec) = true := by kernel_rfl
theorem mainHardwareSteps : Tryz.pinned.checked.prog.mainIs = some (Rows.hardwareStepsUptoCard.stood.harness.1, Rows.hardwareStepsUptoCard.stood.harness.2.toList) := by kernel_rfl
theorem noStandHardwareSteps (f : FuncId) (fn : Func) (hf : Tryz.pinned.checked.prog.funcNamed "midrange/midrangelaw15.HardwareSteps" = some f) (hfn : Tryz.pinned.checked.prog.funcs[f]? = some fn) :
 false = Tryz.pinned.checked.prog.looks [] ∧ ∀ (j : Nat) t, fn.params[j]? = some t → Tryz.pinned.checked.prog.wantsStandIn t = false := by
 obtain rfl : f = 9 := Option.some.inj ((show Proofs.Tryz.prog.funcNamed "midrange/midrangelaw15.HardwareSteps" = some 9 by kernel_rfl).symm.trans hf) |>.symm
 obtain rfl : fn = Proofs.Tryz.f9 := (Option.some.inj (Proofs.Tryz.func9.symm.trans hfn)).symm
 refine ⟨by kernel_rfl, fun j t ht => ?_⟩
 have h := (show (Proofs.Tryz.f9.params.all fun t => !Tryz.pinned.checked.prog.wantsStandIn t) = true by kernel_rfl)
 have h' := Array.all_eq_true.1 h j (Array.getElem?_eq_some_iff.1 ht).1
 rw [(Array.getElem?_eq_some_iff.1 ht).2] at h'
 simpa using h'
end
end Go.Proofs.YtppbpnknfigboaaGreatDoor.M
