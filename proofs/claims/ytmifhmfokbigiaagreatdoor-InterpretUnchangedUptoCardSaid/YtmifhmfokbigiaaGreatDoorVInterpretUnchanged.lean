/- Closed facts of the row of InterpretUnchanged. -/
import Derived.Test.YtmifhmfokbigiaaGreatDoorCards
import Derived.Test.YtmifhmfokbigiaaGreatDoorTie
import Derived.WalkKit
import Derived.ProofKit
import Derived.OpenShut
import Derived.Deep.DeepHandedRow
import Derived.Deep.DeepWitnessRowRef
import Derived.Lay
import Derived.MakeChecks
namespace Go.Proofs.YtmifhmfokbigiaaGreatDoor.M
open Go
set_option linter.unusedVariables false
set_option maxRecDepth 100000
noncomputable section
theorem factInterpretUnchanged0 : Rows.interpretUnchangedUptoRow.wf (OpenSpec.ofChange (Rows.OpenSpec.upto Rows.interpretUnchangedSpec).bare) = true := by kernel_rfl
theorem factInterpretUnchanged1 : laidOutB Tryz.pinned.checked.prog = true := by kernel_rfl
theorem factInterpretUnchanged2 : mapsRowed Tryz.pinned.checked.prog = true := by kernel_rfl
theorem factInterpretUnchanged3 : Proofs.Tryz.f8.params.all (Tryz.pinned.checked.prog.readableRec ·) = true := by kernel_rfl
theorem factInterpretUnchanged4 : namedTie Tryz.pinned.checked.prog Rows.interpretUnchangedUptoRow.named (Rows.OpenSpec.upto Rows.interpretUnchangedSpec).bare.vars = true := by kernel_rfl
theorem factInterpretUnchanged6 : (Tryz.pinned.checked.prog.stops == []) = true := by kernel_rfl
theorem factInterpretUnchanged8 : (Tryz.pinned.checked.prog.stopKnobs == []) = true := by kernel_rfl
theorem factInterpretUnchanged9 : (Rows.interpretUnchangedUptoRow.inPlace == Tryz.pinned.checked.prog.inPlace 8) = true := by kernel_rfl
theorem factInterpretUnchanged10 : (Rows.interpretUnchangedUptoRow.unfollowed == Tryz.pinned.checked.prog.unfollowed 8) = true := by kernel_rfl
theorem factInterpretUnchanged11 : (Rows.interpretUnchangedUptoRow.recurses == Tryz.pinned.checked.prog.recurses 8) = true := by kernel_rfl
theorem factInterpretUnchanged12 : (Rows.interpretUnchangedUptoRow.named == Tryz.pinned.checked.prog.varsNamed 8) = true := by kernel_rfl
theorem factInterpretUnchanged13 : (Rows.interpretUnchangedUptoRow.maps == (Proofs.Tryz.f8.params.toList ++ (Rows.OpenSpec.upto Rows.interpretUnchangedSpec).bare.plain.varTypes Tryz.pinned.checked.prog).any (Tryz.pinned.checked.prog.mapsRec ·)) = true := by kernel_rfl
theorem factInterpretUnchanged14 : (Rows.interpretUnchangedUptoRow.ifaces == (Proofs.Tryz.f8.params.toList ++ (Rows.OpenSpec.upto Rows.interpretUnchangedSpec).bare.plain.varTypes Tryz.pinned.checked.prog).any (Tryz.pinned.checked.prog.ifacesRec ·)) = true := by kernel_rfl
theorem factInterpretUnchanged15 : (Rows.interpretUnchangedUptoRow.mapsOut == Tryz.pinned.checked.prog.mapsAmong Proofs.Tryz.f8.resultTypes.toList) = true := by kernel_rfl
theorem factInterpretUnchanged16 : (Rows.interpretUnchangedUptoRow.loops == (Proofs.Tryz.f8.params.toList ++ (Rows.OpenSpec.upto Rows.interpretUnchangedSpec).bare.plain.varTypes Tryz.pinned.checked.prog).any (Tryz.pinned.checked.prog.loopsFrom ·)) = true := by kernel_rfl
theorem factInterpretUnchanged17 : (Rows.interpretUnchangedUptoRow.wideKeys == (Proofs.Tryz.f8.params.toList ++ (Rows.OpenSpec.upto Rows.interpretUnchangedSpec).bare.plain.varTypes Tryz.pinned.checked.prog ++ Proofs.Tryz.f8.resultTypes.toList).any (Tryz.pinned.checked.prog.wideKeysFrom ·)) = true := by kernel_rfl
theorem factInterpretUnchanged22 : (Rows.interpretUnchangedUptoRow.plainKeys == Tryz.pinned.checked.prog.plainKeys) = true := by kernel_rfl
theorem factInterpretUnchanged24 : Tryz.pinned.checked.prog.stopsHeard = true := by kernel_rfl
theorem factInterpretUnchanged25 : Tryz.pinned.checked.prog.mayEnter = true := by kernel_rfl
theorem factInterpretUnchanged26 : (Rows.interpretUnchangedUptoRow.lifted == Tryz.pinned.checked.prog.liftsFinal) = true := by kernel_rfl
theorem factInterpretUnchanged27 : (Tryz.pinned.checked.prog.make == some Rows.interpretUnchangedUptoRow.make) = true := by kernel_rfl
theorem factInterpretUnchanged29 : (Rows.interpretUnchangedUptoRow.pinned == Rows.interpretUnchangedUptoRow.pinnedBy) = true := by kernel_rfl
theorem and2 {a b : Bool} (h : a = true) (h' : b = true) : (a && b) = true := by rw [h, h']; rfl
theorem factsInterpretUnchanged : joinedFacts Tryz.pinned.checked.prog 8 Proofs.Tryz.f8 (Rows.OpenSpec.upto Rows.interpretUnchangedSpec).bare Rows.interpretUnchangedUptoRow = true := and2 (and2 (and2 (and2 (and2 (and2 (and2 (and2 (and2 (and2 (and2 (and2 (and2 (and2 (and2 (and2 (and2 (and2 (and2 (and2 (and2 (and2 (and2 (and2 (and2 (and2 (and2 (and2 (and2 (and2 (and2 factInterpretUnchanged0 factInterpretUnchanged1) factInterpretUnchanged2) factInterpretUnchanged3) factInterpretUnchanged4) (by kernel_rfl)) factInterpretUnchanged6) (by kernel_rfl)) factInterpretUnchanged8) factInterpretUnchanged9) factInterpretUnchanged10) factInterpretUnchanged11) factInterpretUnchanged12) factInterpretUnchanged13) factInterpretUnchanged14) factInterpretUnchanged15) factInterpretUnchanged16) factInterpretUnchanged17) (by kernel_rfl)) (by kernel_rfl)) (by kernel_rfl)) (by kernel_rfl)) factInterpretUnchanged22) (by kernel_rfl)) factInterpretUnchanged24) factInterpretUnchanged25) factInterpretUnchanged26) factInterpretUnchanged27) (by kernel_rfl)) factInterpretUnchanged29) (by kernel_rfl)) (by kernel_rfl)
theorem instInterpretUnchanged : Proofs.Tryz.f8.isInstance Tryz.pinned.checked.prog Rows.interpretUnchangedUptoRow.origin Rows.interpretUnchangedUptoRow.targs := of_decide_eq_true (by kernel_rfl)
theorem wrapInterpretUnchanged : Proofs.Tryz.f8.isWrapper Tryz.pinned.checked.prog Rows.interpretUnchangedUptoRow.wrapper Rows.interpretUnchangedUptoRow.mainSum := by
 unfold Func.isWrapper
 first | (rw [if_pos (by decide +kernel)]; kernel_rfl) | (rw [if_neg (by decide +kernel)]; exact ⟨rfl, rfl⟩)
theorem goesInterpretUnchanged : false = Rows.interpretUnchangedUptoRow.goesBy Tryz.pinned.checked.prog := by kernel_rfl
theorem wfInterpretUnchanged : Rows.interpretUnchangedUptoRow.wfByText (Rows.OpenSpec.upto Rows.interpretUnchangedSpec) = true := by kernel_rfl
theorem mainInterpretUnchanged : Tryz.pinned.checked.prog.mainIs = some (Rows.interpretUnchangedUptoCard.stood.harness.1, Rows.interpretUnchangedUptoCard.stood.harness.2.toList) := by kernel_rfl
theorem noStandInterpretUnchanged (f : FuncId) (fn : Func) (hf : Tryz.pinned.checked.prog.funcNamed "midrange/midrangelaw14.InterpretUnchanged" = some f) (hfn : Tryz.pinned.checked.prog.funcs[f]? = some fn) :
 false = Tryz.pinned.checked.prog.looks [] ∧ ∀ (j : Nat) t, fn.params[j]? = some t → Tryz.pinned.checked.prog.wantsStandIn t = false := by
 obtain rfl : f = 8 := Option.some.inj ((show Proofs.Tryz.prog.funcNamed "midrange/midrangelaw14.InterpretUnchanged" = some 8 by kernel_rfl).symm.trans hf) |>.symm
 obtain rfl : fn = Proofs.Tryz.f8 := (Option.some.inj (Proofs.Tryz.func8.symm.trans hfn)).symm
 refine ⟨by kernel_rfl, fun j t ht => ?_⟩
 have h := (show (Proofs.Tryz.f8.params.all fun t => !Tryz.pinned.checked.prog.wantsStandIn t) = true by kernel_rfl)
 have h' := Array.all_eq_true.1 h j (Array.getElem?_eq_some_iff.1 ht).1
 rw [(Array.getElem?_eq_some_iff.1 ht).2] at h'
 simpa using h'
end
end Go.Proofs.YtmifhmfokbigiaaGreatDoor.M
