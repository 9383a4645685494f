/- Closed facts of the row of HardwareStates. -/
import Derived.Test.YtppbpnknfigboaaGreatDoorCards
import Derived.Test.YtppbpnknfigboaaGreatDoorTie
import Derived.WalkKit
import Derived.ProofKit
import Derived.OpenShut
import Derived.Deep.DeepHandedRow
import Derived.Deep.DeepWitnessRowRef
import Derived.Lay
import Derived.MakeChecks
namespace Go.Proofs.YtppbpnknfigboaaGreatDoor.M
open Go
set_option linter.unusedVariables false
set_option maxRecDepth 100000
noncomputable section
theorem factHardwareStates0 : Rows.hardwareStatesUptoRow.wf (OpenSpec.ofChange (Rows.OpenSpec.upto Rows.hardwareStatesSpec).bare) = true := by kernel_rfl
theorem factHardwareStates1 : laidOutB Tryz.pinned.checked.prog = true := by kernel_rfl
theorem factHardwareStates2 : mapsRowed Tryz.pinned.checked.prog = true := by kernel_rfl
theorem factHardwareStates3 : Proofs.Tryz.f8.params.all (Tryz.pinned.checked.prog.readableRec ·) = true := by kernel_rfl
theorem factHardwareStates4 : namedTie Tryz.pinned.checked.prog Rows.hardwareStatesUptoRow.named (Rows.OpenSpec.upto Rows.hardwareStatesSpec).bare.vars = true := by kernel_rfl
theorem factHardwareStates6 : (Tryz.pinned.checked.prog.stops == []) = true := by kernel_rfl
theorem factHardwareStates8 : (Tryz.pinned.checked.prog.stopKnobs == []) = true := by kernel_rfl
theorem factHardwareStates9 : (Rows.hardwareStatesUptoRow.inPlace == Tryz.pinned.checked.prog.inPlace 8) = true := by kernel_rfl
theorem factHardwareStates10 : (Rows.hardwareStatesUptoRow.unfollowed == Tryz.pinned.checked.prog.unfollowed 8) = true := by kernel_rfl
theorem factHardwareStates11 : (Rows.hardwareStatesUptoRow.recurses == Tryz.pinned.checked.prog.recurses 8) = true := by kernel_rfl
theorem factHardwareStates12 : (Rows.hardwareStatesUptoRow.named == Tryz.pinned.checked.prog.varsNamed 8) = true := by kernel_rfl
theorem factHardwareStates13 : (Rows.hardwareStatesUptoRow.maps == (Proofs.Tryz.f8.params.toList ++ (Rows.OpenSpec.upto Rows.hardwareStatesSpec).bare.plain.varTypes Tryz.pinned.checked.prog).any (Tryz.pinned.checked.prog.mapsRec ·)) = true := by kernel_rfl
theorem factHardwareStates14 : (Rows.hardwareStatesUptoRow.ifaces == (Proofs.Tryz.f8.params.toList ++ (Rows.OpenSpec.upto Rows.hardwareStatesSpec).bare.plain.varTypes Tryz.pinned.checked.prog).any (Tryz.pinned.checked.prog.ifacesRec ·)) = true := by kernel_rfl
theorem factHardwareStates15 : (Rows.hardwareStatesUptoRow.mapsOut == Tryz.pinned.checked.prog.mapsAmong Proofs.Tryz.f8.resultTypes.toList) = true := by kernel_rfl
theorem factHardwareStates16 : (Rows.hardwareStatesUptoRow.loops == (Proofs.Tryz.f8.params.toList ++ (Rows.OpenSpec.upto Rows.hardwareStatesSpec).bare.plain.varTypes Tryz.pinned.checked.prog).any (Tryz.pinned.checked.prog.loopsFrom ·)) = true := by kernel_rfl
theorem factHardwareStates17 : (Rows.hardwareStatesUptoRow.wideKeys == (Proofs.Tryz.f8.params.toList ++ (Rows.OpenSpec.upto Rows.hardwareStatesSpec).bare.plain.varTypes Tryz.pinned.checked.prog ++ Proofs.Tryz.f8.resultTypes.toList).any (Tryz.pinned.checked.prog.wideKeysFrom ·)) = true := by kernel_rfl
theorem factHardwareStates22 : (Rows.hardwareStatesUptoRow.plainKeys == Tryz.pinned.checked.prog.plainKeys) = true := by kernel_rfl
theorem factHardwareStates24 : Tryz.pinned.checked.prog.stopsHeard = true := by kernel_rfl
theorem factHardwareStates25 : Tryz.pinned.checked.prog.mayEnter = true := by kernel_rfl
theorem factHardwareStates26 : (Rows.hardwareStatesUptoRow.lifted == Tryz.pinned.checked.prog.liftsFinal) = true := by kernel_rfl
theorem factHardwareStates27 : (Tryz.pinned.checked.prog.make == some Rows.hardwareStatesUptoRow.make) = true := by kernel_rfl
theorem factHardwareStates29 : (Rows.hardwareStatesUptoRow.pinned == Rows.hardwareStatesUptoRow.pinnedBy) = true := by kernel_rfl
theorem and2 {a b : Bool} (h : a = true) (h' : b = true) : (a && b) = true := by rw [h, h']; rfl
theorem factsHardwareStates : joinedFacts Tryz.pinned.checked.prog 8 Proofs.Tryz.f8 (Rows.OpenSpec.upto Rows.hardwareStatesSpec).bare Rows.hardwareStatesUptoRow = true := and2 (and2 (and2 (and2 (and2 (and2 (and2 (and2 (and2 (and2 (and2 (and2 (and2 (and2 (and2 (and2 (and2 (and2 (and2 (and2 (and2 (and2 (and2 (and2 (and2 (and2 (and2 (and2 (and2 (and2 (and2 factHardwareStates0 factHardwareStates1) factHardwareStates2) factHardwareStates3) factHardwareStates4) (by kernel_rfl)) factHardwareStates6) (by kernel_rfl)) factHardwareStates8) factHardwareStates9) factHardwareStates10) factHardwareStates11) factHardwareStates12) factHardwareStates13) factHardwareStates14) factHardwareStates15) factHardwareStates16) factHardwareStates17) (by kernel_rfl)) (by kernel_rfl)) (by kernel_rfl)) (by kernel_rfl)) factHardwareStates22) (by kernel_rfl)) factHardwareStates24) factHardwareStates25) factHardwareStates26) factHardwareStates27) (by kernel_rfl)) factHardwareStates29) (by kernel_rfl)) (by kernel_rfl)
theorem instHardwareStates : Proofs.Tryz.f8.isInstance Tryz.pinned.checked.prog Rows.hardwareStatesUptoRow.origin Rows.hardwareStatesUptoRow.targs := of_decide_eq_true (by kernel_rfl)
theorem wrapHardwareStates : Proofs.Tryz.f8.isWrapper Tryz.pinned.checked.prog Rows.hardwareStatesUptoRow.wrapper Rows.hardwareStatesUptoRow.mainSum := by
 unfold Func.isWrapper
 first | (rw [if_pos (by decide +kernel)]; kernel_rfl) | (rw [if_neg (by decide +kernel)]; exact ⟨rfl, rfl⟩)
theorem goesHardwareStates : false = Rows.hardwareStatesUptoRow.goesBy Tryz.pinned.checked.prog := by kernel_rfl
theorem wfHardwareStates : Rows.hardwareStatesUptoRow.wfByText (Rows.OpenSpec.upto Rows.hardwareStatesSpec) = true := by kernel_rfl
theorem mainHardwareStates : Tryz.pinned.checked.prog.mainIs = some (Rows.hardwareStatesUptoCard.stood.harness.1, Rows.hardwareStatesUptoCard.stood.harness.2.toList) := by kernel_rfl
theorem noStandHardwareStates (f : FuncId) (fn : Func) (hf : Tryz.pinned.checked.prog.funcNamed "midrange/midrangelaw15.HardwareStates" = some f) (hfn : Tryz.pinned.checked.prog.funcs[f]? = some fn) :
 false = Tryz.pinned.checked.prog.looks [] ∧ ∀ (j : Nat) t, fn.params[j]? = some t → Tryz.pinned.checked.prog.wantsStandIn t = false := by
 obtain rfl : f = 8 := Option.some.inj ((show Proofs.Tryz.prog.funcNamed "midrange/midrangelaw15.HardwareStates" = some 8 by kernel_rfl).symm.trans hf) |>.symm
 obtain rfl : fn = Proofs.Tryz.f8 := (Option.some.inj (Proofs.Tryz.func8.symm.trans hfn)).symm
 refine ⟨by kernel_rfl, fun j t ht => ?_⟩
 have h := (show (Proofs.Tryz.f8.params.all fun t => !Tryz.pinned.checked.prog.wantsStandIn t) = true by kernel_rfl)
 have h' := Array.all_eq_true.1 h j (Array.getElem?_eq_some_iff.1 ht).1
 rw [(Array.getElem?_eq_some_iff.1 ht).2] at h'
 simpa using h'
end
end Go.Proofs.YtppbpnknfigboaaGreatDoor.M
