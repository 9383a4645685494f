/- Closed facts of the row of InterpretStates. -/
import Derived.Test.YtmifhmfokbigiaaGreatDoorCards
import Derived.Test.YtmifhmfokbigiaaGreatDoorTie
import Derived.WalkKit
import Derived.ProofKit
import Derived.OpenShut
import Derived.Deep.DeepHandedRow
import Derived.Deep.DeepWitnessRowRef
import Derived.Lay
import Derived.MakeChecks
namespace Go.Proofs.YtmifhmfokbigiaaGreatDoor.M
open Go
set_option linter.unusedVariables false
set_option maxRecDepth 100000
noncomputable section
theorem factInterpretStates0 : Rows.interpretStatesUptoRow.wf (OpenSpec.ofChange (Rows.OpenSpec.upto Rows.interpretStatesSpec).bare) = true := by kernel_rfl
theorem factInterpretStates1 : laidOutB Tryz.pinned.checked.prog = true := by kernel_rfl
theorem factInterpretStates2 : mapsRowed Tryz.pinned.checked.prog = true := by kernel_rfl
theorem factInterpretStates3 : Proofs.Tryz.f6.params.all (Tryz.pinned.checked.prog.readableRec ·) = true := by kernel_rfl
theorem factInterpretStates4 : namedTie Tryz.pinned.checked.prog Rows.interpretStatesUptoRow.named (Rows.OpenSpec.upto Rows.interpretStatesSpec).bare.vars = true := by kernel_rfl
theorem factInterpretStates6 : (Tryz.pinned.checked.prog.stops == []) = true := by kernel_rfl
theorem factInterpretStates8 : (Tryz.pinned.checked.prog.stopKnobs == []) = true := by kernel_rfl
theorem factInterpretStates9 : (Rows.interpretStatesUptoRow.inPlace == Tryz.pinned.checked.prog.inPlace 6) = true := by kernel_rfl
theorem factInterpretStates10 : (Rows.interpretStatesUptoRow.unfollowed == Tryz.pinned.checked.prog.unfollowed 6) = true := by kernel_rfl
theorem factInterpretStates11 : (Rows.interpretStatesUptoRow.recurses == Tryz.pinned.checked.prog.recurses 6) = true := by kernel_rfl
theorem factInterpretStates12 : (Rows.interpretStatesUptoRow.named == Tryz.pinned.checked.prog.varsNamed 6) = true := by kernel_rfl
theorem factInterpretStates13 : (Rows.interpretStatesUptoRow.maps == (Proofs.Tryz.f6.params.toList ++ (Rows.OpenSpec.upto Rows.interpretStatesSpec).bare.plain.varTypes Tryz.pinned.checked.prog).any (Tryz.pinned.checked.prog.mapsRec ·)) = true := by kernel_rfl
theorem factInterpretStates14 : (Rows.interpretStatesUptoRow.ifaces == (Proofs.Tryz.f6.params.toList ++ (Rows.OpenSpec.upto Rows.interpretStatesSpec).bare.plain.varTypes Tryz.pinned.checked.prog).any (Tryz.pinned.checked.prog.ifacesRec ·)) = true := by kernel_rfl
theorem factInterpretStates15 : (Rows.interpretStatesUptoRow.mapsOut == Tryz.pinned.checked.prog.mapsAmong Proofs.Tryz.f6.resultTypes.toList) = true := by kernel_rfl
theorem factInterpretStates16 : (Rows.interpretStatesUptoRow.loops == (Proofs.Tryz.f6.params.toList ++ (Rows.OpenSpec.upto Rows.interpretStatesSpec).bare.plain.varTypes Tryz.pinned.checked.prog).any (Tryz.pinned.checked.prog.loopsFrom ·)) = true := by kernel_rfl
theorem factInterpretStates17 : (Rows.interpretStatesUptoRow.wideKeys == (Proofs.Tryz.f6.params.toList ++ (Rows.OpenSpec.upto Rows.interpretStatesSpec).bare.plain.varTypes Tryz.pinned.checked.prog ++ Proofs.Tryz.f6.resultTypes.toList).any (Tryz.pinned.checked.prog.wideKeysFrom ·)) = true := by kernel_rfl
theorem factInterpretStates22 : (Rows.interpretStatesUptoRow.plainKeys == Tryz.pinned.checked.prog.plainKeys) = true := by kernel_rfl
theorem factInterpretStates24 : Tryz.pinned.checked.prog.stopsHeard = true := by kernel_rfl
theorem factInterpretStates25 : Tryz.pinned.checked.prog.mayEnter = true := by kernel_rfl
theorem factInterpretStates26 : (Rows.interpretStatesUptoRow.lifted == Tryz.pinned.checked.prog.liftsFinal) = true := by kernel_rfl
theorem factInterpretStates27 : (Tryz.pinned.checked.prog.make == some Rows.interpretStatesUptoRow.make) = true := by kernel_rfl
theorem factInterpretStates29 : (Rows.interpretStatesUptoRow.pinned == Rows.interpretStatesUptoRow.pinnedBy) = true := by kernel_rfl
theorem and2 {a b : Bool} (h : a = true) (h' : b = true) : (a && b) = true := by rw [h, h']; rfl
theorem factsInterpretStates : joinedFacts Tryz.pinned.checked.prog 6 Proofs.Tryz.f6 (Rows.OpenSpec.upto Rows.interpretStatesSpec).bare Rows.interpretStatesUptoRow = true := and2 (and2 (and2 (and2 (and2 (and2 (and2 (and2 (and2 (and2 (and2 (and2 (and2 (and2 (and2 (and2 (and2 (and2 (and2 (and2 (and2 (and2 (and2 (and2 (and2 (and2 (and2 (and2 (and2 (and2 (and2 factInterpretStates0 factInterpretStates1) factInterpretStates2) factInterpretStates3) factInterpretStates4) (by kernel_rfl)) factInterpretStates6) (by kernel_rfl)) factInterpretStates8) factInterpretStates9) factInterpretStates10) factInterpretStates11) factInterpretStates12) factInterpretStates13) factInterpretStates14) factInterpretStates15) factInterpretStates16) factInterpretStates17) (by kernel_rfl)) (by kernel_rfl)) (by kernel_rfl)) (by kernel_rfl)) factInterpretStates22) (by kernel_rfl)) factInterpretStates24) factInterpretStates25) factInterpretStates26) factInterpretStates27) (by kernel_rfl)) factInterpretStates29) (by kernel_rfl)) (by kernel_rfl)
theorem instInterpretStates : Proofs.Tryz.f6.isInstance Tryz.pinned.checked.prog Rows.interpretStatesUptoRow.origin Rows.interpretStatesUptoRow.targs := of_decide_eq_true (by kernel_rfl)
theorem wrapInterpretStates : Proofs.Tryz.f6.isWrapper Tryz.pinned.checked.prog Rows.interpretStatesUptoRow.wrapper Rows.interpretStatesUptoRow.mainSum := by
 unfold Func.isWrapper
 first | (rw [if_pos (by decide +kernel)]; kernel_rfl) | (rw [if_neg (by decide +kernel)]; exact ⟨rfl, rfl⟩)
theorem goesInterpretStates : false = Rows.interpretStatesUptoRow.goesBy Tryz.pinned.checked.prog := by kernel_rfl
theorem wfInterpretStates : Rows.interpretStatesUptoRow.wfByText (Rows.OpenSpec.upto Rows.interpretStatesSpec) = true := by kernel_rfl
theorem mainInterpretStates : Tryz.pinned.checked.prog.mainIs = some (Rows.interpretStatesUptoCard.stood.harness.1, Rows.interpretStatesUptoCard.stood.harness.2.toList) := by kernel_rfl
theorem noStandInterpretStates (f : FuncId) (fn : Func) (hf : Tryz.pinned.checked.prog.funcNamed "midrange/midrangelaw14.InterpretStates" = some f) (hfn : Tryz.pinned.checked.prog.funcs[f]? = some fn) :
 false = Tryz.pinned.checked.prog.looks [] ∧ ∀ (j : Nat) t, fn.params[j]? = some t → Tryz.pinned.checked.prog.wantsStandIn t = false := by
 obtain rfl : f = 6 := Option.some.inj ((show Proofs.Tryz.prog.funcNamed "midrange/midrangelaw14.InterpretStates" = some 6 by kernel_rfl).symm.trans hf) |>.symm
 obtain rfl : fn = Proofs.Tryz.f6 := (Option.some.inj (Proofs.Tryz.func6.symm.trans hfn)).symm
 refine ⟨by kernel_rfl, fun j t ht => ?_⟩
 have h := (show (Proofs.Tryz.f6.params.all fun t => !Tryz.pinned.checked.prog.wantsStandIn t) = true by kernel_rfl)
 have h' := Array.all_eq_true.1 h j (Array.getElem?_eq_some_iff.1 ht).1
 rw [(Array.getElem?_eq_some_iff.1 ht).2] at h'
 simpa using h'
end
end Go.Proofs.YtmifhmfokbigiaaGreatDoor.M
