/- Closed facts of the row of HardwareCodes. -/
import Derived.Test.YtppbpnknfigboaaGreatDoorCards
import Derived.Test.YtppbpnknfigboaaGreatDoorTie
import Derived.WalkKit
import Derived.ProofKit
import Derived.OpenShut
import Derived.Deep.DeepHandedRow
import Derived.Deep.DeepWitnessRowRef
import Derived.Lay
import Derived.MakeChecks
namespace Go.Proofs.YtppbpnknfigboaaGreatDoor.M
open Go
set_option linter.unusedVariables false
set_option maxRecDepth 100000
theorem factHardwareCodes0 : Rows.hardwareCodesUptoRow.wf (OpenSpec.ofChange (Rows.OpenSpec.upto Rows.hardwareCodesSpec).bare) = true := by kernel_rfl
theorem factHardwareCodes1 : laidOutB Tryz.pinned.checked.prog = true := by kernel_rfl
theorem factHardwareCodes2 : mapsRowed Tryz.pinned.checked.prog = true := by kernel_rfl
theorem factHardwareCodes3 : Proofs.Tryz.f3.params.all (Tryz.pinned.checked.prog.readableRec ·) = true := by kernel_rfl
theorem factHardwareCodes4 : namedTie Tryz.pinned.checked.prog Rows.hardwareCodesUptoRow.named (Rows.OpenSpec.upto Rows.hardwareCodesSpec).bare.vars = true := by kernel_rfl
theorem factHardwareCodes6 : (Tryz.pinned.checked.prog.stops == []) = true := by kernel_rfl
theorem factHardwareCodes8 : (Tryz.pinned.checked.prog.stopKnobs == []) = true := by kernel_rfl
theorem factHardwareCodes9 : (Rows.hardwareCodesUptoRow.inPlace == Tryz.pinned.checked.prog.inPlace 3) = true := by kernel_rfl
theorem factHardwareCodes10 : (Rows.hardwareCodesUptoRow.unfollowed == Tryz.pinned.checked.prog.unfollowed 3) = true := by kernel_rfl
theorem factHardwareCodes11 : (Rows.hardwareCodesUptoRow.recurses == Tryz.pinned.checked.prog.recurses 3) = true := by kernel_rfl
theorem factHardwareCodes12 : (Rows.hardwareCodesUptoRow.named == Tryz.pinned.checked.prog.varsNamed 3) = true := by kernel_rfl
theorem factHardwareCodes13 : (Rows.hardwareCodesUptoRow.maps == (Proofs.Tryz.f3.params.toList ++ (Rows.OpenSpec.upto Rows.hardwareCodesSpec).bare.plain.varTypes Tryz.pinned.checked.prog).any (Tryz.pinned.checked.prog.mapsRec ·)) = true := by kernel_rfl
theorem factHardwareCodes14 : (Rows.hardwareCodesUptoRow.ifaces == (Proofs.Tryz.f3.params.toList ++ (Rows.OpenSpec.upto Rows.hardwareCodesSpec).bare.plain.varTypes Tryz.pinned.checked.prog).any (Tryz.pinned.checked.prog.ifacesRec ·)) = true := by kernel_rfl
theorem factHardwareCodes15 : (Rows.hardwareCodesUptoRow.mapsOut == Tryz.pinned.checked.prog.mapsAmong Proofs.Tryz.f3.resultTypes.toList) = true := by kernel_rfl
theorem factHardwareCodes16 : (Rows.hardwareCodesUptoRow.loops == (Proofs.Tryz.f3.params.toList ++ (Rows.OpenSpec.upto Rows.hardwareCodesSpec).bare.plain.varTypes Tryz.pinned.checked.prog).any (Tryz.pinned.checked.prog.loopsFrom ·)) = true := by kernel_rfl
theorem factHardwareCodes17 : (Rows.hardwareCodesUptoRow.wideKeys == (Proofs.Tryz.f3.params.toList ++ (Rows.OpenSpec.upto Rows.hardwareCodesSpec).bare.plain.varTypes Tryz.pinned.checked.prog ++ Proofs.Tryz.f3.resultTypes.toList).any (Tryz.pinned.checked.prog.wideKeysFrom ·)) = true := by kernel_rfl
theorem factHardwareCodes22 : (Rows.hardwareCodesUptoRow.plainKeys == Tryz.pinned.checked.prog.plainKeys) = true := by kernel_rfl
theorem factHardwareCodes24 : Tryz.pinned.checked.prog.stopsHeard = true := by kernel_rfl
theorem factHardwareCodes25 : Tryz.pinned.checked.prog.mayEnter = true := by kernel_rfl
theorem factHardwareCodes26 : (Rows.hardwareCodesUptoRow.lifted == Tryz.pinned.checked.prog.liftsFinal) = true := by kernel_rfl
theorem factHardwareCodes27 : (Tryz.pinned.checked.prog.make == some Rows.hardwareCodesUptoRow.make) = true := by kernel_rfl
theorem factHardwareCodes29 : (Rows.hardwareCodesUptoRow.pinned == Rows.hardwareCodesUptoRow.pinnedBy) = true := by kernel_rfl
theorem and2 {a b : Bool} (h : a = true) (h' : b = true) : (a && b) = true := by rw [h, h']; rfl
theorem factsHardwareCodes : joinedFacts Tryz.pinned.checked.prog 3 Proofs.Tryz.f3 (Rows.OpenSpec.upto Rows.hardwareCodesSpec).bare Rows.hardwareCodesUptoRow = true := and2 (and2 (and2 (and2 (and2 (and2 (and2 (and2 (and2 (and2 (and2 (and2 (and2 (and2 (and2 (and2 (and2 (and2 (and2 (and2 (and2 (and2 (and2 (and2 (and2 (and2 (and2 (and2 (and2 (and2 (and2 factHardwareCodes0 factHardwareCodes1) factHardwareCodes2) factHardwareCodes3) factHardwareCodes4) (by kernel_rfl)) factHardwareCodes6) (by kernel_rfl)) factHardwareCodes8) factHardwareCodes9) factHardwareCodes10) factHardwareCodes11) factHardwareCodes12) factHardwareCodes13) factHardwareCodes14) factHardwareCodes15) factHardwareCodes16) factHardwareCodes17) (by kernel_rfl)) (by kernel_rfl)) (by kernel_rfl)) (by kernel_rfl)) factHardwareCodes22) (by kernel_rfl)) factHardwareCodes24) factHardwareCodes25) factHardwareCodes26) factHardwareCodes27) (by kernel_rfl)) factHardwareCodes29) (by kernel_rfl)) (by kernel_rfl)
theorem instHardwareCodes : Proofs.Tryz.f3.isInstance Tryz.pinned.checked.prog Rows.hardwareCodesUptoRow.origin Rows.hardwareCodesUptoRow.targs := of_decide_eq_true (by kernel_rfl)
theorem wrapHardwareCodes : Proofs.Tryz.f3.isWrapper Tryz.pinned.checked.prog Rows.hardwareCodesUptoRow.wrapper Rows.hardwareCodesUptoRow.mainSum := by
  unfold Func.isWrapper
  first | (rw [if_pos (by decide +kernel)]; kernel_rfl) | (rw [if_neg (by decide +kernel)]; exact ⟨rfl, rfl⟩)
theorem goesHardwareCodes : false = Rows.hardwareCodesUptoRow.goesBy Tryz.pinned.checked.prog := by kernel_rfl
theorem wfHardwareCodes : Rows.hardwareCodesUptoRow.wfByText (Rows.OpenSpec.upto Rows.hardwareCodesSpec) = true := by kernel_rfl
theorem mainHardwareCodes : Tryz.pinned.checked.prog.mainIs = some (Rows.hardwareCodesUptoCard.stood.harness.1, Rows.hardwareCodesUptoCard.stood.harness.2.toList) := by kernel_rfl
theorem noStandHardwareCodes (f : FuncId) (fn : Func) (hf : Tryz.pinned.checked.prog.funcNamed "midrange/midrangelaw15.HardwareCodes" = some f) (hfn : Tryz.pinned.checked.prog.funcs[f]? = some fn) :
    false = Tryz.pinned.checked.prog.looks [] ∧ ∀ (j : Nat) t, fn.params[j]? = some t → Tryz.pinned.checked.prog.wantsStandIn t = false := by
  obtain rfl : f = 3 := Option.some.inj ((show Proofs.Tryz.prog.funcNamed "midrange/midrangelaw15.HardwareCodes" = some 3 by kernel_rfl).symm.trans hf) |>.symm
  obtain rfl : fn = Proofs.Tryz.f3 := (Option.some.inj (Proofs.Tryz.func3.symm.trans hfn)).symm
  refine ⟨by kernel_rfl, fun j t ht => ?_⟩
  have h := (show (Proofs.Tryz.f3.params.all fun t => !Tryz.pinned.checked.prog.wantsStandIn t) = true by kernel_rfl)
  have h' := Array.all_eq_true.1 h j (Array.getElem?_eq_some_iff.1 ht).1
  rw [(Array.getElem?_eq_some_iff.1 ht).2] at h'
  simpa using h'
end Go.Proofs.YtppbpnknfigboaaGreatDoor.M
