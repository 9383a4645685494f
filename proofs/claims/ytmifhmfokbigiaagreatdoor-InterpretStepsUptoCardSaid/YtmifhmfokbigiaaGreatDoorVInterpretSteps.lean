/- Closed facts of the row of InterpretSteps. -/
import Derived.Test.YtmifhmfokbigiaaGreatDoorCards
import Derived.Test.YtmifhmfokbigiaaGreatDoorTie
import Derived.WalkKit
import Derived.ProofKit
import Derived.OpenShut
import Derived.Deep.DeepHandedRow
import Derived.Deep.DeepWitnessRowRef
import Derived.Lay
import Derived.MakeChecks
namespace Go.Proofs.YtmifhmfokbigiaaGreatDoor.M
open Go
set_option linter.unusedVariables false
set_option maxRecDepth 100000
noncomputable section
theorem factInterpretSteps0 : Rows.interpretStepsUptoRow.wf (OpenSpec.ofChange (Rows.OpenSpec.upto Rows.interpretStepsSpec).bare) = true := by kernel_rfl
theorem factInterpretSteps1 : laidOutB Tryz.pinned.checked.prog = true := by kernel_rfl
theorem factInterpretSteps2 : mapsRowed Tryz.pinned.checked.prog = true := by kernel_rfl
theorem factInterpretSteps3 : Proofs.Tryz.f7.params.all (Tryz.pinned.checked.prog.readableRec ·) = true := by kernel_rfl
theorem factInterpretSteps4 : namedTie Tryz.pinned.checked.prog Rows.interpretStepsUptoRow.named (Rows.OpenSpec.upto Rows.interpretStepsSpec).bare.vars = true := by kernel_rfl
theorem factInterpretSteps6 : (Tryz.pinned.checked.prog.stops == []) = true := by kernel_rfl
theorem factInterpretSteps8 : (Tryz.pinned.checked.prog.stopKnobs == []) = true := by kernel_rfl
theorem factInterpretSteps9 : (Rows.interpretStepsUptoRow.inPlace == Tryz.pinned.checked.prog.inPlace 7) = true := by kernel_rfl
theorem factInterpretSteps10 : (Rows.interpretStepsUptoRow.unfollowed == Tryz.pinned.checked.prog.unfollowed 7) = true := by kernel_rfl
theorem factInterpretSteps11 : (Rows.interpretStepsUptoRow.recurses == Tryz.pinned.checked.prog.recurses 7) = true := by kernel_rfl
theorem factInterpretSteps12 : (Rows.interpretStepsUptoRow.named == Tryz.pinned.checked.prog.varsNamed 7) = true := by kernel_rfl
theorem factInterpretSteps13 : (Rows.interpretStepsUptoRow.maps == (Proofs.Tryz.f7.params.toList ++ (Rows.OpenSpec.upto Rows.interpretStepsSpec).bare.plain.varTypes Tryz.pinned.checked.prog).any (Tryz.pinned.checked.prog.mapsRec ·)) = true := by kernel_rfl
theorem factInterpretSteps14 : (Rows.interpretStepsUptoRow.ifaces == (Proofs.Tryz.f7.params.toList ++ (Rows.OpenSpec.upto Rows.interpretStepsSpec).bare.plain.varTypes Tryz.pinned.checked.prog).any (Tryz.pinned.checked.prog.ifacesRec ·)) = true := by kernel_rfl
theorem factInterpretSteps15 : (Rows.interpretStepsUptoRow.mapsOut == Tryz.pinned.checked.prog.mapsAmong Proofs.Tryz.f7.resultTypes.toList) = true := by kernel_rfl
theorem factInterpretSteps16 : (Rows.interpretStepsUptoRow.loops == (Proofs.Tryz.f7.params.toList ++ (Rows.OpenSpec.upto Rows.interpretStepsSpec).bare.plain.varTypes Tryz.pinned.checked.prog).any (Tryz.pinned.checked.prog.loopsFrom ·)) = true := by kernel_rfl
theorem factInterpretSteps17 : (Rows.interpretStepsUptoRow.wideKeys == (Proofs.Tryz.f7.params.toList ++ (Rows.OpenSpec.upto Rows.interpretStepsSpec).bare.plain.varTypes Tryz.pinned.checked.prog ++ Proofs.Tryz.f7.resultTypes.toList).any (Tryz.pinned.checked.prog.wideKeysFrom ·)) = true := by kernel_rfl
theorem factInterpretSteps22 : (Rows.interpretStepsUptoRow.plainKeys == Tryz.pinned.checked.prog.plainKeys) = true := by kernel_rfl
theorem factInterpretSteps24 : Tryz.pinned.checked.prog.stopsHeard = true := by kernel_rfl
theorem factInterpretSteps25 : Tryz.pinned.checked.prog.mayEnter = true := by kernel_rfl
theorem factInterpretSteps26 : (Rows.interpretStepsUptoRow.lifted == Tryz.pinned.checked.prog.liftsFinal) = true := by kernel_rfl
theorem factInterpretSteps27 : (Tryz.pinned.checked.prog.make == some Rows.interpretStepsUptoRow.make) = true := by kernel_rfl
theorem factInterpretSteps29 : (Rows.interpretStepsUptoRow.pinned == Rows.interpretStepsUptoRow.pinnedBy) = true := by kernel_rfl
theorem and2 {a b : Bool} (h : a = true) (h' : b = true) : (a && b) = true := by rw [h, h']; rfl
theorem factsInterpretSteps : joinedFacts Tryz.pinned.checked.prog 7 Proofs.Tryz.f7 (Rows.OpenSpec.upto Rows.interpretStepsSpec).bare Rows.interpretStepsUptoRow = true := and2 (and2 (and2 (and2 (and2 (and2 (and2 (and2 (and2 (and2 (and2 (and2 (and2 (and2 (and2 (and2 (and2 (and2 (and2 (and2 (and2 (and2 (and2 (and2 (and2 (and2 (and2 (and2 (and2 (and2 (and2 factInterpretSteps0 factInterpretSteps1) factInterpretSteps2) factInterpretSteps3) factInterpretSteps4) (by kernel_rfl)) factInterpretSteps6) (by kernel_rfl)) factInterpretSteps8) factInterpretSteps9) factInterpretSteps10) factInterpretSteps11) factInterpretSteps12) factInterpretSteps13) factInterpretSteps14) factInterpretSteps15) factInterpretSteps16) factInterpretSteps17) (by kernel_rfl)) (by kernel_rfl)) (by kernel_rfl)) (by kernel_rfl)) factInterpretSteps22) (by kernel_rfl)) factInterpretSteps24) factInterpretSteps25) factInterpretSteps26) factInterpretSteps27) (by kernel_rfl)) factInterpretSteps29) (by kernel_rfl)) (by kernel_rfl)
theorem instInterpretSteps : Proofs.Tryz.f7.isInstance Tryz.pinned.checked.prog Rows.interpretStepsUptoRow.origin Rows.interpretStepsUptoRow.targs := of_decide_eq_true (by kernel_rfl)
theorem wrapInterpretSteps : Proofs.Tryz.f7.isWrapper Tryz.pinned.checked.prog Rows.interpretStepsUptoRow.wrapper Rows.interpretStepsUptoRow.mainSum := by
 unfold Func.isWrapper
 first | (rw [if_pos (by decide +kernel)]; kernel_rfl) | (rw [if_neg (by decide +kernel)]; exact ⟨rfl, rfl⟩)
theorem goesInterpretSteps : false = Rows.interpretStepsUptoRow.goesBy Tryz.pinned.checked.prog := by kernel_rfl
theorem wfInterpretSteps : Rows.interpretStepsUptoRow.wfByText (Rows.OpenSpec.upto Rows.interpretStepsSpec) = true := by kernel_rfl
theorem mainInterpretSteps : Tryz.pinned.checked.prog.mainIs = some (Rows.interpretStepsUptoCard.stood.harness.1, Rows.interpretStepsUptoCard.stood.harness.2.toList) := by kernel_rfl
theorem noStandInterpretSteps (f : FuncId) (fn : Func) (hf : Tryz.pinned.checked.prog.funcNamed "midrange/midrangelaw14.InterpretSteps" = some f) (hfn : Tryz.pinned.checked.prog.funcs[f]? = some fn) :
 false = Tryz.pinned.checked.prog.looks [] ∧ ∀ (j : Nat) t, fn.params[j]? = some t → Tryz.pinned.checked.prog.wantsStandIn t = false := by
 obtain rfl : f = 7 := Option.some.inj ((show Proofs.Tryz.prog.funcNamed "midrange/midrangelaw14.InterpretSteps" = some 7 by kernel_rfl).symm.trans hf) |>.symm
 obtain rfl : fn = Proofs.Tryz.f7 := (Option.some.inj (Proofs.Tryz.func7.symm.trans hfn)).symm
 refine ⟨by kernel_rfl, fun j t ht => ?_⟩
 have h := (show (Proofs.Tryz.f7.params.all fun t => !Tryz.pinned.checked.prog.wantsStandIn t) = true by kernel_rfl)
 have h' := Array.all_eq_true.1 h j (Array.getElem?_eq_some_iff.1 ht).1
 rw [(Array.getElem?_eq_some_iff.1 ht).2] at h'
 simpa using h'
end
end Go.Proofs.YtmifhmfokbigiaaGreatDoor.M
