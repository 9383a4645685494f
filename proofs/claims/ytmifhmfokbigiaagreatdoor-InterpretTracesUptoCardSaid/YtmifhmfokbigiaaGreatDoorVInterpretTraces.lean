/- Closed facts of the row of InterpretTraces. -/
import Derived.Test.YtmifhmfokbigiaaGreatDoorCards
import Derived.Test.YtmifhmfokbigiaaGreatDoorTie
import Derived.WalkKit
import Derived.ProofKit
import Derived.OpenShut
import Derived.Deep.DeepHandedRow
import Derived.Deep.DeepWitnessRowRef
import Derived.Lay
import Derived.MakeChecks
namespace Go.Proofs.YtmifhmfokbigiaaGreatDoor.M
open Go
set_option linter.unusedVariables false
set_option maxRecDepth 100000
noncomputable section
theorem factInterpretTraces0 : Rows.interpretTracesUptoRow.wf (OpenSpec.ofChange (Rows.OpenSpec.upto Rows.interpretTracesSpec).bare) = true := by kernel_rfl
theorem factInterpretTraces1 : laidOutB Tryz.pinned.checked.prog = true := by kernel_rfl
theorem factInterpretTraces2 : mapsRowed Tryz.pinned.checked.prog = true := by kernel_rfl
theorem factInterpretTraces3 : Proofs.Tryz.f3.params.all (Tryz.pinned.checked.prog.readableRec ·) = true := by kernel_rfl
theorem factInterpretTraces4 : namedTie Tryz.pinned.checked.prog Rows.interpretTracesUptoRow.named (Rows.OpenSpec.upto Rows.interpretTracesSpec).bare.vars = true := by kernel_rfl
theorem factInterpretTraces6 : (Tryz.pinned.checked.prog.stops == []) = true := by kernel_rfl
theorem factInterpretTraces8 : (Tryz.pinned.checked.prog.stopKnobs == []) = true := by kernel_rfl
theorem factInterpretTraces9 : (Rows.interpretTracesUptoRow.inPlace == Tryz.pinned.checked.prog.inPlace 3) = true := by kernel_rfl
theorem factInterpretTraces10 : (Rows.interpretTracesUptoRow.unfollowed == Tryz.pinned.checked.prog.unfollowed 3) = true := by kernel_rfl
theorem factInterpretTraces11 : (Rows.interpretTracesUptoRow.recurses == Tryz.pinned.checked.prog.recurses 3) = true := by kernel_rfl
theorem factInterpretTraces12 : (Rows.interpretTracesUptoRow.named == Tryz.pinned.checked.prog.varsNamed 3) = true := by kernel_rfl
theorem factInterpretTraces13 : (Rows.interpretTracesUptoRow.maps == (Proofs.Tryz.f3.params.toList ++ (Rows.OpenSpec.upto Rows.interpretTracesSpec).bare.plain.varTypes Tryz.pinned.checked.prog).any (Tryz.pinned.checked.prog.mapsRec ·)) = true := by kernel_rfl
theorem factInterpretTraces14 : (Rows.interpretTracesUptoRow.ifaces == (Proofs.Tryz.f3.params.toList ++ (Rows.OpenSpec.upto Rows.interpretTracesSpec).bare.plain.varTypes Tryz.pinned.checked.prog).any (Tryz.pinned.checked.prog.ifacesRec ·)) = true := by kernel_rfl
theorem factInterpretTraces15 : (Rows.interpretTracesUptoRow.mapsOut == Tryz.pinned.checked.prog.mapsAmong Proofs.Tryz.f3.resultTypes.toList) = true := by kernel_rfl
theorem factInterpretTraces16 : (Rows.interpretTracesUptoRow.loops == (Proofs.Tryz.f3.params.toList ++ (Rows.OpenSpec.upto Rows.interpretTracesSpec).bare.plain.varTypes Tryz.pinned.checked.prog).any (Tryz.pinned.checked.prog.loopsFrom ·)) = true := by kernel_rfl
theorem factInterpretTraces17 : (Rows.interpretTracesUptoRow.wideKeys == (Proofs.Tryz.f3.params.toList ++ (Rows.OpenSpec.upto Rows.interpretTracesSpec).bare.plain.varTypes Tryz.pinned.checked.prog ++ Proofs.Tryz.f3.resultTypes.toList).any (Tryz.pinned.checked.prog.wideKeysFrom ·)) = true := by kernel_rfl
theorem factInterpretTraces22 : (Rows.interpretTracesUptoRow.plainKeys == Tryz.pinned.checked.prog.plainKeys) = true := by kernel_rfl
theorem factInterpretTraces24 : Tryz.pinned.checked.prog.stopsHeard = true := by kernel_rfl
theorem factInterpretTraces25 : Tryz.pinned.checked.prog.mayEnter = true := by kernel_rfl
theorem factInterpretTraces26 : (Rows.interpretTracesUptoRow.lifted == Tryz.pinned.checked.prog.liftsFinal) = true := by kernel_rfl
theorem factInterpretTraces27 : (Tryz.pinned.checked.prog.make == some Rows.interpretTracesUptoRow.make) = true := by kernel_rfl
theorem factInterpretTraces29 : (Rows.interpretTracesUptoRow.pinned == Rows.interpretTracesUptoRow.pinnedBy) = true := by kernel_rfl
theorem and2 {a b : Bool} (h : a = true) (h' : b = true) : (a && b) = true := by rw [h, h']; rfl
theorem factsInterpretTraces : joinedFacts Tryz.pinned.checked.prog 3 Proofs.Tryz.f3 (Rows.OpenSpec.upto Rows.interpretTracesSpec).bare Rows.interpretTracesUptoRow = true := and2 (and2 (and2 (and2 (and2 (and2 (and2 (and2 (and2 (and2 (and2 (and2 (and2 (and2 (and2 (and2 (and2 (and2 (and2 (and2 (and2 (and2 (and2 (and2 (and2 (and2 (and2 (and2 (and2 (and2 (and2 factInterpretTraces0 factInterpretTraces1) factInterpretTraces2) factInterpretTraces3) factInterpretTraces4) (by kernel_rfl)) factInterpretTraces6) (by kernel_rfl)) factInterpretTraces8) factInterpretTraces9) factInterpretTraces10) factInterpretTraces11) factInterpretTraces12) factInterpretTraces13) factInterpretTraces14) factInterpretTraces15) factInterpretTraces16) factInterpretTraces17) (by kernel_rfl)) (by kernel_rfl)) (by kernel_rfl)) (by kernel_rfl)) factInterpretTraces22) (by kernel_rfl)) factInterpretTraces24) factInterpretTraces25) factInterpretTraces26) factInterpretTraces27) (by kernel_rfl)) factInterpretTraces29) (by kernel_rfl)) (by kernel_rfl)
theorem instInterpretTraces : Proofs.Tryz.f3.isInstance Tryz.pinned.checked.prog Rows.interpretTracesUptoRow.origin Rows.interpretTracesUptoRow.targs := of_decide_eq_true (by kernel_rfl)
theorem wrapInterpretTraces : Proofs.Tryz.f3.isWrapper Tryz.pinned.checked.prog Rows.interpretTracesUptoRow.wrapper Rows.interpretTracesUptoRow.mainSum := by
 unfold Func.isWrapper
 first | (rw [if_pos (by decide +kernel)]; kernel_rfl) | (rw [if_neg (by decide +kernel)]; exact ⟨rfl, rfl⟩)
theorem goesInterpretTraces : false = Rows.interpretTracesUptoRow.goesBy Tryz.pinned.checked.prog := by kernel_rfl
theorem wfInterpretTraces : Rows.interpretTracesUptoRow.wfByText (Rows.OpenSpec.upto Rows.interpretTracesSpec) = true := by kernel_rfl
theorem mainInterpretTraces : Tryz.pinned.checked.prog.mainIs = some (Rows.interpretTracesUptoCard.stood.harness.1, Rows.interpretTracesUptoCard.stood.harness.2.toList) := by kernel_rfl
theorem noStandInterpretTraces (f : FuncId) (fn : Func) (hf : Tryz.pinned.checked.prog.funcNamed "midrange/midrangelaw14.InterpretTraces" = some f) (hfn : Tryz.pinned.checked.prog.funcs[f]? = some fn) :
 false = Tryz.pinned.checked.prog.looks [] ∧ ∀ (j : Nat) t, fn.params[j]? = some t → Tryz.pinned.checked.prog.wantsStandIn t = false := by
 obtain rfl : f = 3 := Option.some.inj ((show Proofs.Tryz.prog.funcNamed "midrange/midrangelaw14.InterpretTraces" = some 3 by kernel_rfl).symm.trans hf) |>.symm
 obtain rfl : fn = Proofs.Tryz.f3 := (Option.some.inj (Proofs.Tryz.func3.symm.trans hfn)).symm
 refine ⟨by kernel_rfl, fun j t ht => ?_⟩
 have h := (show (Proofs.Tryz.f3.params.all fun t => !Tryz.pinned.checked.prog.wantsStandIn t) = true by kernel_rfl)
 have h' := Array.all_eq_true.1 h j (Array.getElem?_eq_some_iff.1 ht).1
 rw [(Array.getElem?_eq_some_iff.1 ht).2] at h'
 simpa using h'
end
end Go.Proofs.YtmifhmfokbigiaaGreatDoor.M
