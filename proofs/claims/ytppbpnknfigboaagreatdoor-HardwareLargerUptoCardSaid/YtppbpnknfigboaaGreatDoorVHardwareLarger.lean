/- Closed facts of the row of HardwareLarger. -/
import Derived.Test.YtppbpnknfigboaaGreatDoorCards
import Derived.Test.YtppbpnknfigboaaGreatDoorTie
import Derived.WalkKit
import Derived.ProofKit
import Derived.OpenShut
import Derived.Deep.DeepHandedRow
import Derived.Deep.DeepWitnessRowRef
import Derived.Lay
import Derived.MakeChecks
namespace Go.Proofs.YtppbpnknfigboaaGreatDoor.M
open Go
set_option linter.unusedVariables false
set_option maxRecDepth 100000
noncomputable section
theorem factHardwareLarger0 : Rows.hardwareLargerUptoRow.wf (OpenSpec.ofChange (Rows.OpenSpec.upto Rows.hardwareLargerSpec).bare) = true := by kernel_rfl
theorem factHardwareLarger1 : laidOutB Tryz.pinned.checked.prog = true := by kernel_rfl
theorem factHardwareLarger2 : mapsRowed Tryz.pinned.checked.prog = true := by kernel_rfl
theorem factHardwareLarger3 : Proofs.Tryz.f6.params.all (Tryz.pinned.checked.prog.readableRec ·) = true := by kernel_rfl
theorem factHardwareLarger4 : namedTie Tryz.pinned.checked.prog Rows.hardwareLargerUptoRow.named (Rows.OpenSpec.upto Rows.hardwareLargerSpec).bare.vars = true := by kernel_rfl
theorem factHardwareLarger6 : (Tryz.pinned.checked.prog.stops == []) = true := by kernel_rfl
theorem factHardwareLarger8 : (Tryz.pinned.checked.prog.stopKnobs == []) = true := by kernel_rfl
theorem factHardwareLarger9 : (Rows.hardwareLargerUptoRow.inPlace == Tryz.pinned.checked.prog.inPlace 6) = true := by kernel_rfl
theorem factHardwareLarger10 : (Rows.hardwareLargerUptoRow.unfollowed == Tryz.pinned.checked.prog.unfollowed 6) = true := by kernel_rfl
theorem factHardwareLarger11 : (Rows.hardwareLargerUptoRow.recurses == Tryz.pinned.checked.prog.recurses 6) = true := by kernel_rfl
theorem factHardwareLarger12 : (Rows.hardwareLargerUptoRow.named == Tryz.pinned.checked.prog.varsNamed 6) = true := by kernel_rfl
theorem factHardwareLarger13 : (Rows.hardwareLargerUptoRow.maps == (Proofs.Tryz.f6.params.toList ++ (Rows.OpenSpec.upto Rows.hardwareLargerSpec).bare.plain.varTypes Tryz.pinned.checked.prog).any (Tryz.pinned.checked.prog.mapsRec ·)) = true := by kernel_rfl
theorem factHardwareLarger14 : (Rows.hardwareLargerUptoRow.ifaces == (Proofs.Tryz.f6.params.toList ++ (Rows.OpenSpec.upto Rows.hardwareLargerSpec).bare.plain.varTypes Tryz.pinned.checked.prog).any (Tryz.pinned.checked.prog.ifacesRec ·)) = true := by kernel_rfl
theorem factHardwareLarger15 : (Rows.hardwareLargerUptoRow.mapsOut == Tryz.pinned.checked.prog.mapsAmong Proofs.Tryz.f6.resultTypes.toList) = true := by kernel_rfl
theorem factHardwareLarger16 : (Rows.hardwareLargerUptoRow.loops == (Proofs.Tryz.f6.params.toList ++ (Rows.OpenSpec.upto Rows.hardwareLargerSpec).bare.plain.varTypes Tryz.pinned.checked.prog).any (Tryz.pinned.checked.prog.loopsFrom ·)) = true := by kernel_rfl
theorem factHardwareLarger17 : (Rows.hardwareLargerUptoRow.wideKeys == (Proofs.Tryz.f6.params.toList ++ (Rows.OpenSpec.upto Rows.hardwareLargerSpec).bare.plain.varTypes Tryz.pinned.checked.prog ++ Proofs.Tryz.f6.resultTypes.toList).any (Tryz.pinned.checked.prog.wideKeysFrom ·)) = true := by kernel_rfl
theorem factHardwareLarger22 : (Rows.hardwareLargerUptoRow.plainKeys == Tryz.pinned.checked.prog.plainKeys) = true := by kernel_rfl
theorem factHardwareLarger24 : Tryz.pinned.checked.prog.stopsHeard = true := by kernel_rfl
theorem factHardwareLarger25 : Tryz.pinned.checked.prog.mayEnter = true := by kernel_rfl
theorem factHardwareLarger26 : (Rows.hardwareLargerUptoRow.lifted == Tryz.pinned.checked.prog.liftsFinal) = true := by kernel_rfl
theorem factHardwareLarger27 : (Tryz.pinned.checked.prog.make == some Rows.hardwareLargerUptoRow.make) = true := by kernel_rfl
theorem factHardwareLarger29 : (Rows.hardwareLargerUptoRow.pinned == Rows.hardwareLargerUptoRow.pinnedBy) = true := by kernel_rfl
theorem and2 {a b : Bool} (h : a = true) (h' : b = true) : (a && b) = true := by rw [h, h']; rfl
theorem factsHardwareLarger : joinedFacts Tryz.pinned.checked.prog 6 Proofs.Tryz.f6 (Rows.OpenSpec.upto Rows.hardwareLargerSpec).bare Rows.hardwareLargerUptoRow = true := and2 (and2 (and2 (and2 (and2 (and2 (and2 (and2 (and2 (and2 (and2 (and2 (and2 (and2 (and2 (and2 (and2 (and2 (and2 (and2 (and2 (and2 (and2 (and2 (and2 (and2 (and2 (and2 (and2 (and2 (and2 factHardwareLarger0 factHardwareLarger1) factHardwareLarger2) factHardwareLarger3) factHardwareLarger4) (by kernel_rfl)) factHardwareLarger6) (by kernel_rfl)) factHardwareLarger8) factHardwareLarger9) factHardwareLarger10) factHardwareLarger11) factHardwareLarger12) factHardwareLarger13) factHardwareLarger14) factHardwareLarger15) factHardwareLarger16) factHardwareLarger17) (by kernel_rfl)) (by kernel_rfl)) (by kernel_rfl)) (by kernel_rfl)) factHardwareLarger22) (by kernel_rfl)) factHardwareLarger24) factHardwareLarger25) factHardwareLarger26) factHardwareLarger27) (by kernel_rfl)) factHardwareLarger29) (by kernel_rfl)) (by kernel_rfl)
theorem instHardwareLarger : Proofs.Tryz.f6.isInstance Tryz.pinned.checked.prog Rows.hardwareLargerUptoRow.origin Rows.hardwareLargerUptoRow.targs := of_decide_eq_true (by kernel_rfl)
theorem wrapHardwareLarger : Proofs.Tryz.f6.isWrapper Tryz.pinned.checked.prog Rows.hardwareLargerUptoRow.wrapper Rows.hardwareLargerUptoRow.mainSum := by
 unfold Func.isWrapper
 first | (rw [if_pos (by decide +kernel)]; kernel_rfl) | (rw [if_neg (by decide +kernel)]; exact ⟨rfl, rfl⟩)
theorem goesHardwareLarger : false = Rows.hardwareLargerUptoRow.goesBy Tryz.pinned.checked.prog := by kernel_rfl
theorem wfHardwareLarger : Rows.hardwareLargerUptoRow.wfByText (Rows.OpenSpec.upto Rows.hardwareLargerSpec) = true := by kernel_rfl
theorem mainHardwareLarger : Tryz.pinned.checked.prog.mainIs = some (Rows.hardwareLargerUptoCard.stood.harness.1, Rows.hardwareLargerUptoCard.stood.harness.2.toList) := by kernel_rfl
theorem noStandHardwareLarger (f : FuncId) (fn : Func) (hf : Tryz.pinned.checked.prog.funcNamed "midrange/midrangelaw15.HardwareLarger" = some f) (hfn : Tryz.pinned.checked.prog.funcs[f]? = some fn) :
 false = Tryz.pinned.checked.prog.looks [] ∧ ∀ (j : Nat) t, fn.params[j]? = some t → Tryz.pinned.checked.prog.wantsStandIn t = false := by
 obtain rfl : f = 6 := Option.some.inj ((show Proofs.Tryz.prog.funcNamed "midrange/midrangelaw15.HardwareLarger" = some 6 by kernel_rfl).symm.trans hf) |>.symm
 obtain rfl : fn = Proofs.Tryz.f6 := (Option.some.inj (Proofs.Tryz.func6.symm.trans hfn)).symm
 refine ⟨by kernel_rfl, fun j t ht => ?_⟩
 have h := (show (Proofs.Tryz.f6.params.all fun t => !Tryz.pinned.checked.prog.wantsStandIn t) = true by kernel_rfl)
 have h' := Array.all_eq_true.1 h j (Array.getElem?_eq_some_iff.1 ht).1
 rw [(Array.getElem?_eq_some_iff.1 ht).2] at h'
 simpa using h'
end
end Go.Proofs.YtppbpnknfigboaaGreatDoor.M
