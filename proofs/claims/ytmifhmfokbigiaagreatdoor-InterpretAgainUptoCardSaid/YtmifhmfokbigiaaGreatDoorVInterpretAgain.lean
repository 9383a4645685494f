/- Closed facts of the row of InterpretAgain. -/
import Derived.Test.YtmifhmfokbigiaaGreatDoorCards
import Derived.Test.YtmifhmfokbigiaaGreatDoorTie
import Derived.WalkKit
import Derived.ProofKit
import Derived.OpenShut
import Derived.Deep.DeepHandedRow
import Derived.Deep.DeepWitnessRowRef
import Derived.Lay
import Derived.MakeChecks
namespace Go.Proofs.YtmifhmfokbigiaaGreatDoor.M
open Go
set_option linter.unusedVariables false
set_option maxRecDepth 100000
noncomputable section
theorem factInterpretAgain0 : Rows.interpretAgainUptoRow.wf (OpenSpec.ofChange (Rows.OpenSpec.upto Rows.interpretAgainSpec).bare) = true := by kernel_rfl
theorem factInterpretAgain1 : laidOutB Tryz.pinned.checked.prog = true := by kernel_rfl
theorem factInterpretAgain2 : mapsRowed Tryz.pinned.checked.prog = true := by kernel_rfl
theorem factInterpretAgain3 : Proofs.Tryz.f9.params.all (Tryz.pinned.checked.prog.readableRec ·) = true := by kernel_rfl
theorem factInterpretAgain4 : namedTie Tryz.pinned.checked.prog Rows.interpretAgainUptoRow.named (Rows.OpenSpec.upto Rows.interpretAgainSpec).bare.vars = true := by kernel_rfl
theorem factInterpretAgain6 : (Tryz.pinned.checked.prog.stops == []) = true := by kernel_rfl
theorem factInterpretAgain8 : (Tryz.pinned.checked.prog.stopKnobs == []) = true := by kernel_rfl
theorem factInterpretAgain9 : (Rows.interpretAgainUptoRow.inPlace == Tryz.pinned.checked.prog.inPlace 9) = true := by kernel_rfl
theorem factInterpretAgain10 : (Rows.interpretAgainUptoRow.unfollowed == Tryz.pinned.checked.prog.unfollowed 9) = true := by kernel_rfl
theorem factInterpretAgain11 : (Rows.interpretAgainUptoRow.recurses == Tryz.pinned.checked.prog.recurses 9) = true := by kernel_rfl
theorem factInterpretAgain12 : (Rows.interpretAgainUptoRow.named == Tryz.pinned.checked.prog.varsNamed 9) = true := by kernel_rfl
theorem factInterpretAgain13 : (Rows.interpretAgainUptoRow.maps == (Proofs.Tryz.f9.params.toList ++ (Rows.OpenSpec.upto Rows.interpretAgainSpec).bare.plain.varTypes Tryz.pinned.checked.prog).any (Tryz.pinned.checked.prog.mapsRec ·)) = true := by kernel_rfl
theorem factInterpretAgain14 : (Rows.interpretAgainUptoRow.ifaces == (Proofs.Tryz.f9.params.toList ++ (Rows.OpenSpec.upto Rows.interpretAgainSpec).bare.plain.varTypes Tryz.pinned.checked.prog).any (Tryz.pinned.checked.prog.ifacesRec ·)) = true := by kernel_rfl
theorem factInterpretAgain15 : (Rows.interpretAgainUptoRow.mapsOut == Tryz.pinned.checked.prog.mapsAmong Proofs.Tryz.f9.resultTypes.toList) = true := by kernel_rfl
theorem factInterpretAgain16 : (Rows.interpretAgainUptoRow.loops == (Proofs.Tryz.f9.params.toList ++ (Rows.OpenSpec.upto Rows.interpretAgainSpec).bare.plain.varTypes Tryz.pinned.checked.prog).any (Tryz.pinned.checked.prog.loopsFrom ·)) = true := by kernel_rfl
theorem factInterpretAgain17 : (Rows.interpretAgainUptoRow.wideKeys == (Proofs.Tryz.f9.params.toList ++ (Rows.OpenSpec.upto Rows.interpretAgainSpec).bare.plain.varTypes Tryz.pinned.checked.prog ++ Proofs.Tryz.f9.resultTypes.toList).any (Tryz.pinned.checked.prog.wideKeysFrom ·)) = true := by kernel_rfl
theorem factInterpretAgain22 : (Rows.interpretAgainUptoRow.plainKeys == Tryz.pinned.checked.prog.plainKeys) = true := by kernel_rfl
theorem factInterpretAgain24 : Tryz.pinned.checked.prog.stopsHeard = true := by kernel_rfl
theorem factInterpretAgain25 : Tryz.pinned.checked.prog.mayEnter = true := by kernel_rfl
theorem factInterpretAgain26 : (Rows.interpretAgainUptoRow.lifted == Tryz.pinned.checked.prog.liftsFinal) = true := by kernel_rfl
theorem factInterpretAgain27 : (Tryz.pinned.checked.prog.make == some Rows.interpretAgainUptoRow.make) = true := by kernel_rfl
theorem factInterpretAgain29 : (Rows.interpretAgainUptoRow.pinned == Rows.interpretAgainUptoRow.pinnedBy) = true := by kernel_rfl
theorem and2 {a b : Bool} (h : a = true) (h' : b = true) : (a && b) = true := by rw [h, h']; rfl
theorem factsInterpretAgain : joinedFacts Tryz.pinned.checked.prog 9 Proofs.Tryz.f9 (Rows.OpenSpec.upto Rows.interpretAgainSpec).bare Rows.interpretAgainUptoRow = true := and2 (and2 (and2 (and2 (and2 (and2 (and2 (and2 (and2 (and2 (and2 (and2 (and2 (and2 (and2 (and2 (and2 (and2 (and2 (and2 (and2 (and2 (and2 (and2 (and2 (and2 (and2 (and2 (and2 (and2 (and2 factInterpretAgain0 factInterpretAgain1) factInterpretAgain2) factInterpretAgain3) factInterpretAgain4) (by kernel_rfl)) factInterpretAgain6) (by kernel_rfl)) factInterpretAgain8) factInterpretAgain9) factInterpretAgain10) factInterpretAgain11) factInterpretAgain12) factInterpretAgain13) factInterpretAgain14) factInterpretAgain15) factInterpretAgain16) factInterpretAgain17) (by kernel_rfl)) (by kernel_rfl)) (by kernel_rfl)) (by kernel_rfl)) factInterpretAgain22) (by kernel_rfl)) factInterpretAgain24) factInterpretAgain25) factInterpretAgain26) factInterpretAgain27) (by kernel_rfl)) factInterpretAgain29) (by kernel_rfl)) (by kernel_rfl)
theorem instInterpretAgain : Proofs.Tryz.f9.isInstance Tryz.pinned.checked.prog Rows.interpretAgainUptoRow.origin Rows.interpretAgainUptoRow.targs := of_decide_eq_true (by kernel_rfl)
theorem wrapInterpretAgain : Proofs.Tryz.f9.isWrapper Tryz.pinned.checked.prog Rows.interpretAgainUptoRow.wrapper Rows.interpretAgainUptoRow.mainSum := by
 unfold Func.isWrapper
 first | (rw [if_pos (by decide +kernel)]; kernel_rfl) | (rw [if_neg (by decide +kernel)]; exact ⟨rfl, rfl⟩)
theorem goesInterpretAgain : false = Rows.interpretAgainUptoRow.goesBy Tryz.pinned.checked.prog := by kernel_rfl
theorem wfInterpretAgain : Rows.interpretAgainUptoRow.wfByText (Rows.OpenSpec.upto Rows.interpretAgainSpec) = true := by kernel_rfl
theorem mainInterpretAgain : Tryz.pinned.checked.prog.mainIs = some (Rows.interpretAgainUptoCard.stood.harness.1, Rows.interpretAgainUptoCard.stood.harness.2.toList) := by kernel_rfl
theorem noStandInterpretAgain (f : FuncId) (fn : Func) (hf : Tryz.pinned.checked.prog.funcNamed "midrange/midrangelaw14.InterpretAgain" = some f) (hfn : Tryz.pinned.checked.prog.funcs[f]? = some fn) :
 false = Tryz.pinned.checked.prog.looks [] ∧ ∀ (j : Nat) t, fn.params[j]? = some t → Tryz.pinned.checked.prog.wantsStandIn t = false := by
 obtain rfl : f = 9 := Option.some.inj ((show Proofs.Tryz.prog.funcNamed "midrange/midrangelaw14.InterpretAgain" = some 9 by kernel_rfl).symm.trans hf) |>.symm
 obtain rfl : fn = Proofs.Tryz.f9 := (Option.some.inj (Proofs.Tryz.func9.symm.trans hfn)).symm
 refine ⟨by kernel_rfl, fun j t ht => ?_⟩
 have h := (show (Proofs.Tryz.f9.params.all fun t => !Tryz.pinned.checked.prog.wantsStandIn t) = true by kernel_rfl)
 have h' := Array.all_eq_true.1 h j (Array.getElem?_eq_some_iff.1 ht).1
 rw [(Array.getElem?_eq_some_iff.1 ht).2] at h'
 simpa using h'
end
end Go.Proofs.YtmifhmfokbigiaaGreatDoor.M
