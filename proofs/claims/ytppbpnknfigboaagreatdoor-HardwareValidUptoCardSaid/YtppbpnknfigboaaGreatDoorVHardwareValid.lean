/- Closed facts of the row of HardwareValid. -/
import Derived.Test.YtppbpnknfigboaaGreatDoorCards
import Derived.Test.YtppbpnknfigboaaGreatDoorTie
import Derived.WalkKit
import Derived.ProofKit
import Derived.OpenShut
import Derived.Deep.DeepHandedRow
import Derived.Deep.DeepWitnessRowRef
import Derived.Lay
import Derived.MakeChecks
namespace Go.Proofs.YtppbpnknfigboaaGreatDoor.M
open Go
set_option linter.unusedVariables false
set_option maxRecDepth 100000
noncomputable section
theorem factHardwareValid0 : Rows.hardwareValidUptoRow.wf (OpenSpec.ofChange (Rows.OpenSpec.upto Rows.hardwareValidSpec).bare) = true := by kernel_rfl
theorem factHardwareValid1 : laidOutB Tryz.pinned.checked.prog = true := by kernel_rfl
theorem factHardwareValid2 : mapsRowed Tryz.pinned.checked.prog = true := by kernel_rfl
theorem factHardwareValid3 : Proofs.Tryz.f10.params.all (Tryz.pinned.checked.prog.readableRec ·) = true := by kernel_rfl
theorem factHardwareValid4 : namedTie Tryz.pinned.checked.prog Rows.hardwareValidUptoRow.named (Rows.OpenSpec.upto Rows.hardwareValidSpec).bare.vars = true := by kernel_rfl
theorem factHardwareValid6 : (Tryz.pinned.checked.prog.stops == []) = true := by kernel_rfl
theorem factHardwareValid8 : (Tryz.pinned.checked.prog.stopKnobs == []) = true := by kernel_rfl
theorem factHardwareValid9 : (Rows.hardwareValidUptoRow.inPlace == Tryz.pinned.checked.prog.inPlace 10) = true := by kernel_rfl
theorem factHardwareValid10 : (Rows.hardwareValidUptoRow.unfollowed == Tryz.pinned.checked.prog.unfollowed 10) = true := by kernel_rfl
theorem factHardwareValid11 : (Rows.hardwareValidUptoRow.recurses == Tryz.pinned.checked.prog.recurses 10) = true := by kernel_rfl
theorem factHardwareValid12 : (Rows.hardwareValidUptoRow.named == Tryz.pinned.checked.prog.varsNamed 10) = true := by kernel_rfl
theorem factHardwareValid13 : (Rows.hardwareValidUptoRow.maps == (Proofs.Tryz.f10.params.toList ++ (Rows.OpenSpec.upto Rows.hardwareValidSpec).bare.plain.varTypes Tryz.pinned.checked.prog).any (Tryz.pinned.checked.prog.mapsRec ·)) = true := by kernel_rfl
theorem factHardwareValid14 : (Rows.hardwareValidUptoRow.ifaces == (Proofs.Tryz.f10.params.toList ++ (Rows.OpenSpec.upto Rows.hardwareValidSpec).bare.plain.varTypes Tryz.pinned.checked.prog).any (Tryz.pinned.checked.prog.ifacesRec ·)) = true := by kernel_rfl
theorem factHardwareValid15 : (Rows.hardwareValidUptoRow.mapsOut == Tryz.pinned.checked.prog.mapsAmong Proofs.Tryz.f10.resultTypes.toList) = true := by kernel_rfl
theorem factHardwareValid16 : (Rows.hardwareValidUptoRow.loops == (Proofs.Tryz.f10.params.toList ++ (Rows.OpenSpec.upto Rows.hardwareValidSpec).bare.plain.varTypes Tryz.pinned.checked.prog).any (Tryz.pinned.checked.prog.loopsFrom ·)) = true := by kernel_rfl
theorem factHardwareValid17 : (Rows.hardwareValidUptoRow.wideKeys == (Proofs.Tryz.f10.params.toList ++ (Rows.OpenSpec.upto Rows.hardwareValidSpec).bare.plain.varTypes Tryz.pinned.checked.prog ++ Proofs.Tryz.f10.resultTypes.toList).any (Tryz.pinned.checked.prog.wideKeysFrom ·)) = true := by kernel_rfl
theorem factHardwareValid22 : (Rows.hardwareValidUptoRow.plainKeys == Tryz.pinned.checked.prog.plainKeys) = true := by kernel_rfl
theorem factHardwareValid24 : Tryz.pinned.checked.prog.stopsHeard = true := by kernel_rfl
theorem factHardwareValid25 : Tryz.pinned.checked.prog.mayEnter = true := by kernel_rfl
theorem factHardwareValid26 : (Rows.hardwareValidUptoRow.lifted == Tryz.pinned.checked.prog.liftsFinal) = true := by kernel_rfl
theorem factHardwareValid27 : (Tryz.pinned.checked.prog.make == some Rows.hardwareValidUptoRow.make) = true := by kernel_rfl
theorem factHardwareValid29 : (Rows.hardwareValidUptoRow.pinned == Rows.hardwareValidUptoRow.pinnedBy) = true := by kernel_rfl
theorem and2 {a b : Bool} (h : a = true) (h' : b = true) : (a && b) = true := by rw [h, h']; rfl
theorem factsHardwareValid : joinedFacts Tryz.pinned.checked.prog 10 Proofs.Tryz.f10 (Rows.OpenSpec.upto Rows.hardwareValidSpec).bare Rows.hardwareValidUptoRow = true := and2 (and2 (and2 (and2 (and2 (and2 (and2 (and2 (and2 (and2 (and2 (and2 (and2 (and2 (and2 (and2 (and2 (and2 (and2 (and2 (and2 (and2 (and2 (and2 (and2 (and2 (and2 (and2 (and2 (and2 (and2 factHardwareValid0 factHardwareValid1) factHardwareValid2) factHardwareValid3) factHardwareValid4) (by kernel_rfl)) factHardwareValid6) (by kernel_rfl)) factHardwareValid8) factHardwareValid9) factHardwareValid10) factHardwareValid11) factHardwareValid12) factHardwareValid13) factHardwareValid14) factHardwareValid15) factHardwareValid16) factHardwareValid17) (by kernel_rfl)) (by kernel_rfl)) (by kernel_rfl)) (by kernel_rfl)) factHardwareValid22) (by kernel_rfl)) factHardwareValid24) factHardwareValid25) factHardwareValid26) factHardwareValid27) (by kernel_rfl)) factHardwareValid29) (by kernel_rfl)) (by kernel_rfl)
theorem instHardwareValid : Proofs.Tryz.f10.isInstance Tryz.pinned.checked.prog Rows.hardwareValidUptoRow.origin Rows.hardwareValidUptoRow.targs := of_decide_eq_true (by kernel_rfl)
theorem wrapHardwareValid : Proofs.Tryz.f10.isWrapper Tryz.pinned.checked.prog Rows.hardwareValidUptoRow.wrapper Rows.hardwareValidUptoRow.mainSum := by
 unfold Func.isWrapper
 first | (rw [if_pos (by decide +kernel)]; kernel_rfl) | (rw [if_neg (by decide +kernel)]; exact ⟨rfl, rfl⟩)
theorem goesHardwareValid : false = Rows.hardwareValidUptoRow.goesBy Tryz.pinned.checked.prog := by kernel_rfl
theorem wfHardwareValid : Rows.hardwareValidUptoRow.wfByText (Rows.OpenSpec.upto Rows.hardwareValidSpec) = true := by kernel_rfl
theorem mainHardwareValid : Tryz.pinned.checked.prog.mainIs = some (Rows.hardwareValidUptoCard.stood.harness.1, Rows.hardwareValidUptoCard.stood.harness.2.toList) := by kernel_rfl
theorem noStandHardwareValid (f : FuncId) (fn : Func) (hf : Tryz.pinned.checked.prog.funcNamed "midrange/midrangelaw15.HardwareValid" = some f) (hfn : Tryz.pinned.checked.prog.funcs[f]? = some fn) :
 false = Tryz.pinned.checked.prog.looks [] ∧ ∀ (j : Nat) t, fn.params[j]? = some t → Tryz.pinned.checked.prog.wantsStandIn t = false := by
 obtain rfl : f = 10 := Option.some.inj ((show Proofs.Tryz.prog.funcNamed "midrange/midrangelaw15.HardwareValid" = some 10 by kernel_rfl).symm.trans hf) |>.symm
 obtain rfl : fn = Proofs.Tryz.f10 := (Option.some.inj (Proofs.Tryz.func10.symm.trans hfn)).symm
 refine ⟨by kernel_rfl, fun j t ht => ?_⟩
 have h := (show (Proofs.Tryz.f10.params.all fun t => !Tryz.pinned.checked.prog.wantsStandIn t) = true by kernel_rfl)
 have h' := Array.all_eq_true.1 h j (Array.getElem?_eq_some_iff.1 ht).1
 rw [(Array.getElem?_eq_some_iff.1 ht).2] at h'
 simpa using h'
end
end Go.Proofs.YtppbpnknfigboaaGreatDoor.M
