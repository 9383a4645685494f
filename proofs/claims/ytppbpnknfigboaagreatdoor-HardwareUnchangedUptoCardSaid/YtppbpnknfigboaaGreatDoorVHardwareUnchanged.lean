/- Closed facts of the row of HardwareUnchanged. -/
import Derived.Test.YtppbpnknfigboaaGreatDoorCards
import Derived.Test.YtppbpnknfigboaaGreatDoorTie
import Derived.WalkKit
import Derived.ProofKit
import Derived.OpenShut
import Derived.Deep.DeepHandedRow
import Derived.Deep.DeepWitnessRowRef
import Derived.Lay
import Derived.MakeChecks
namespace Go.Proofs.YtppbpnknfigboaaGreatDoor.M
open Go
set_option linter.unusedVariables false
set_option maxRecDepth 100000
noncomputable section
theorem factHardwareUnchanged0 : Rows.hardwareUnchangedUptoRow.wf (OpenSpec.ofChange (Rows.OpenSpec.upto Rows.hardwareUnchangedSpec).bare) = true := by kernel_rfl
theorem factHardwareUnchanged1 : laidOutB Tryz.pinned.checked.prog = true := by kernel_rfl
theorem factHardwareUnchanged2 : mapsRowed Tryz.pinned.checked.prog = true := by kernel_rfl
theorem factHardwareUnchanged3 : Proofs.Tryz.f11.params.all (Tryz.pinned.checked.prog.readableRec ·) = true := by kernel_rfl
theorem factHardwareUnchanged4 : namedTie Tryz.pinned.checked.prog Rows.hardwareUnchangedUptoRow.named (Rows.OpenSpec.upto Rows.hardwareUnchangedSpec).bare.vars = true := by kernel_rfl
theorem factHardwareUnchanged6 : (Tryz.pinned.checked.prog.stops == []) = true := by kernel_rfl
theorem factHardwareUnchanged8 : (Tryz.pinned.checked.prog.stopKnobs == []) = true := by kernel_rfl
theorem factHardwareUnchanged9 : (Rows.hardwareUnchangedUptoRow.inPlace == Tryz.pinned.checked.prog.inPlace 11) = true := by kernel_rfl
theorem factHardwareUnchanged10 : (Rows.hardwareUnchangedUptoRow.unfollowed == Tryz.pinned.checked.prog.unfollowed 11) = true := by kernel_rfl
theorem factHardwareUnchanged11 : (Rows.hardwareUnchangedUptoRow.recurses == Tryz.pinned.checked.prog.recurses 11) = true := by kernel_rfl
theorem factHardwareUnchanged12 : (Rows.hardwareUnchangedUptoRow.named == Tryz.pinned.checked.prog.varsNamed 11) = true := by kernel_rfl
theorem factHardwareUnchanged13 : (Rows.hardwareUnchangedUptoRow.maps == (Proofs.Tryz.f11.params.toList ++ (Rows.OpenSpec.upto Rows.hardwareUnchangedSpec).bare.plain.varTypes Tryz.pinned.checked.prog).any (Tryz.pinned.checked.prog.mapsRec ·)) = true := by kernel_rfl
theorem factHardwareUnchanged14 : (Rows.hardwareUnchangedUptoRow.ifaces == (Proofs.Tryz.f11.params.toList ++ (Rows.OpenSpec.upto Rows.hardwareUnchangedSpec).bare.plain.varTypes Tryz.pinned.checked.prog).any (Tryz.pinned.checked.prog.ifacesRec ·)) = true := by kernel_rfl
theorem factHardwareUnchanged15 : (Rows.hardwareUnchangedUptoRow.mapsOut == Tryz.pinned.checked.prog.mapsAmong Proofs.Tryz.f11.resultTypes.toList) = true := by kernel_rfl
theorem factHardwareUnchanged16 : (Rows.hardwareUnchangedUptoRow.loops == (Proofs.Tryz.f11.params.toList ++ (Rows.OpenSpec.upto Rows.hardwareUnchangedSpec).bare.plain.varTypes Tryz.pinned.checked.prog).any (Tryz.pinned.checked.prog.loopsFrom ·)) = true := by kernel_rfl
theorem factHardwareUnchanged17 : (Rows.hardwareUnchangedUptoRow.wideKeys == (Proofs.Tryz.f11.params.toList ++ (Rows.OpenSpec.upto Rows.hardwareUnchangedSpec).bare.plain.varTypes Tryz.pinned.checked.prog ++ Proofs.Tryz.f11.resultTypes.toList).any (Tryz.pinned.checked.prog.wideKeysFrom ·)) = true := by kernel_rfl
theorem factHardwareUnchanged22 : (Rows.hardwareUnchangedUptoRow.plainKeys == Tryz.pinned.checked.prog.plainKeys) = true := by kernel_rfl
theorem factHardwareUnchanged24 : Tryz.pinned.checked.prog.stopsHeard = true := by kernel_rfl
theorem factHardwareUnchanged25 : Tryz.pinned.checked.prog.mayEnter = true := by kernel_rfl
theorem factHardwareUnchanged26 : (Rows.hardwareUnchangedUptoRow.lifted == Tryz.pinned.checked.prog.liftsFinal) = true := by kernel_rfl
theorem factHardwareUnchanged27 : (Tryz.pinned.checked.prog.make == some Rows.hardwareUnchangedUptoRow.make) = true := by kernel_rfl
theorem factHardwareUnchanged29 : (Rows.hardwareUnchangedUptoRow.pinned == Rows.hardwareUnchangedUptoRow.pinnedBy) = true := by kernel_rfl
theorem and2 {a b : Bool} (h : a = true) (h' : b = true) : (a && b) = true := by rw [h, h']; rfl
theorem factsHardwareUnchanged : joinedFacts Tryz.pinned.checked.prog 11 Proofs.Tryz.f11 (Rows.OpenSpec.upto Rows.hardwareUnchangedSpec).bare Rows.hardwareUnchangedUptoRow = true := and2 (and2 (and2 (and2 (and2 (and2 (and2 (and2 (and2 (and2 (and2 (and2 (and2 (and2 (and2 (and2 (and2 (and2 (and2 (and2 (and2 (and2 (and2 (and2 (and2 (and2 (and2 (and2 (and2 (and2 (and2 factHardwareUnchanged0 factHardwareUnchanged1) factHardwareUnchanged2) factHardwareUnchanged3) factHardwareUnchanged4) (by kernel_rfl)) factHardwareUnchanged6) (by kernel_rfl)) factHardwareUnchanged8) factHardwareUnchanged9) factHardwareUnchanged10) factHardwareUnchanged11) factHardwareUnchanged12) factHardwareUnchanged13) factHardwareUnchanged14) factHardwareUnchanged15) factHardwareUnchanged16) factHardwareUnchanged17) (by kernel_rfl)) (by kernel_rfl)) (by kernel_rfl)) (by kernel_rfl)) factHardwareUnchanged22) (by kernel_rfl)) factHardwareUnchanged24) factHardwareUnchanged25) factHardwareUnchanged26) factHardwareUnchanged27) (by kernel_rfl)) factHardwareUnchanged29) (by kernel_rfl)) (by kernel_rfl)
theorem instHardwareUnchanged : Proofs.Tryz.f11.isInstance Tryz.pinned.checked.prog Rows.hardwareUnchangedUptoRow.origin Rows.hardwareUnchangedUptoRow.targs := of_decide_eq_true (by kernel_rfl)
theorem wrapHardwareUnchanged : Proofs.Tryz.f11.isWrapper Tryz.pinned.checked.prog Rows.hardwareUnchangedUptoRow.wrapper Rows.hardwareUnchangedUptoRow.mainSum := by
 unfold Func.isWrapper
 first | (rw [if_pos (by decide +kernel)]; kernel_rfl) | (rw [if_neg (by decide +kernel)]; exact ⟨rfl, rfl⟩)
theorem goesHardwareUnchanged : false = Rows.hardwareUnchangedUptoRow.goesBy Tryz.pinned.checked.prog := by kernel_rfl
theorem wfHardwareUnchanged : Rows.hardwareUnchangedUptoRow.wfByText (Rows.OpenSpec.upto Rows.hardwareUnchangedSpec) = true := by kernel_rfl
theorem mainHardwareUnchanged : Tryz.pinned.checked.prog.mainIs = some (Rows.hardwareUnchangedUptoCard.stood.harness.1, Rows.hardwareUnchangedUptoCard.stood.harness.2.toList) := by kernel_rfl
theorem noStandHardwareUnchanged (f : FuncId) (fn : Func) (hf : Tryz.pinned.checked.prog.funcNamed "midrange/midrangelaw15.HardwareUnchanged" = some f) (hfn : Tryz.pinned.checked.prog.funcs[f]? = some fn) :
 false = Tryz.pinned.checked.prog.looks [] ∧ ∀ (j : Nat) t, fn.params[j]? = some t → Tryz.pinned.checked.prog.wantsStandIn t = false := by
 obtain rfl : f = 11 := Option.some.inj ((show Proofs.Tryz.prog.funcNamed "midrange/midrangelaw15.HardwareUnchanged" = some 11 by kernel_rfl).symm.trans hf) |>.symm
 obtain rfl : fn = Proofs.Tryz.f11 := (Option.some.inj (Proofs.Tryz.func11.symm.trans hfn)).symm
 refine ⟨by kernel_rfl, fun j t ht => ?_⟩
 have h := (show (Proofs.Tryz.f11.params.all fun t => !Tryz.pinned.checked.prog.wantsStandIn t) = true by kernel_rfl)
 have h' := Array.all_eq_true.1 h j (Array.getElem?_eq_some_iff.1 ht).1
 rw [(Array.getElem?_eq_some_iff.1 ht).2] at h'
 simpa using h'
end
end Go.Proofs.YtppbpnknfigboaaGreatDoor.M
