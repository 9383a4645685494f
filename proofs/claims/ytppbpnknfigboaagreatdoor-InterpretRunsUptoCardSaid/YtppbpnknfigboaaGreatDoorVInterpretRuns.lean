/- Closed facts of the row of InterpretRuns. -/
import Derived.Test.YtppbpnknfigboaaGreatDoorCards
import Derived.Test.YtppbpnknfigboaaGreatDoorTie
import Derived.WalkKit
import Derived.ProofKit
import Derived.OpenShut
import Derived.Deep.DeepHandedRow
import Derived.Deep.DeepWitnessRowRef
import Derived.Lay
import Derived.MakeChecks
namespace Go.Proofs.YtppbpnknfigboaaGreatDoor.M
open Go
set_option linter.unusedVariables false
set_option maxRecDepth 100000
noncomputable section
theorem factInterpretRuns0 : Rows.interpretRunsUptoRow.wf (OpenSpec.ofChange (Rows.OpenSpec.upto Rows.interpretRunsSpec).bare) = true := by kernel_rfl
theorem factInterpretRuns1 : laidOutB Tryz.pinned.checked.prog = true := by kernel_rfl
theorem factInterpretRuns2 : mapsRowed Tryz.pinned.checked.prog = true := by kernel_rfl
theorem factInterpretRuns3 : Proofs.Tryz.f7.params.all (Tryz.pinned.checked.prog.readableRec ·) = true := by kernel_rfl
theorem factInterpretRuns4 : namedTie Tryz.pinned.checked.prog Rows.interpretRunsUptoRow.named (Rows.OpenSpec.upto Rows.interpretRunsSpec).bare.vars = true := by kernel_rfl
theorem factInterpretRuns6 : (Tryz.pinned.checked.prog.stops == []) = true := by kernel_rfl
theorem factInterpretRuns8 : (Tryz.pinned.checked.prog.stopKnobs == []) = true := by kernel_rfl
theorem factInterpretRuns9 : (Rows.interpretRunsUptoRow.inPlace == Tryz.pinned.checked.prog.inPlace 7) = true := by kernel_rfl
theorem factInterpretRuns10 : (Rows.interpretRunsUptoRow.unfollowed == Tryz.pinned.checked.prog.unfollowed 7) = true := by kernel_rfl
theorem factInterpretRuns11 : (Rows.interpretRunsUptoRow.recurses == Tryz.pinned.checked.prog.recurses 7) = true := by kernel_rfl
theorem factInterpretRuns12 : (Rows.interpretRunsUptoRow.named == Tryz.pinned.checked.prog.varsNamed 7) = true := by kernel_rfl
theorem factInterpretRuns13 : (Rows.interpretRunsUptoRow.maps == (Proofs.Tryz.f7.params.toList ++ (Rows.OpenSpec.upto Rows.interpretRunsSpec).bare.plain.varTypes Tryz.pinned.checked.prog).any (Tryz.pinned.checked.prog.mapsRec ·)) = true := by kernel_rfl
theorem factInterpretRuns14 : (Rows.interpretRunsUptoRow.ifaces == (Proofs.Tryz.f7.params.toList ++ (Rows.OpenSpec.upto Rows.interpretRunsSpec).bare.plain.varTypes Tryz.pinned.checked.prog).any (Tryz.pinned.checked.prog.ifacesRec ·)) = true := by kernel_rfl
theorem factInterpretRuns15 : (Rows.interpretRunsUptoRow.mapsOut == Tryz.pinned.checked.prog.mapsAmong Proofs.Tryz.f7.resultTypes.toList) = true := by kernel_rfl
theorem factInterpretRuns16 : (Rows.interpretRunsUptoRow.loops == (Proofs.Tryz.f7.params.toList ++ (Rows.OpenSpec.upto Rows.interpretRunsSpec).bare.plain.varTypes Tryz.pinned.checked.prog).any (Tryz.pinned.checked.prog.loopsFrom ·)) = true := by kernel_rfl
theorem factInterpretRuns17 : (Rows.interpretRunsUptoRow.wideKeys == (Proofs.Tryz.f7.params.toList ++ (Rows.OpenSpec.upto Rows.interpretRunsSpec).bare.plain.varTypes Tryz.pinned.checked.prog ++ Proofs.Tryz.f7.resultTypes.toList).any (Tryz.pinned.checked.prog.wideKeysFrom ·)) = true := by kernel_rfl
theorem factInterpretRuns22 : (Rows.interpretRunsUptoRow.plainKeys == Tryz.pinned.checked.prog.plainKeys) = true := by kernel_rfl
theorem factInterpretRuns24 : Tryz.pinned.checked.prog.stopsHeard = true := by kernel_rfl
theorem factInterpretRuns25 : Tryz.pinned.checked.prog.mayEnter = true := by kernel_rfl
theorem factInterpretRuns26 : (Rows.interpretRunsUptoRow.lifted == Tryz.pinned.checked.prog.liftsFinal) = true := by kernel_rfl
theorem factInterpretRuns27 : (Tryz.pinned.checked.prog.make == some Rows.interpretRunsUptoRow.make) = true := by kernel_rfl
theorem factInterpretRuns29 : (Rows.interpretRunsUptoRow.pinned == Rows.interpretRunsUptoRow.pinnedBy) = true := by kernel_rfl
theorem and2 {a b : Bool} (h : a = true) (h' : b = true) : (a && b) = true := by rw [h, h']; rfl
theorem factsInterpretRuns : joinedFacts Tryz.pinned.checked.prog 7 Proofs.Tryz.f7 (Rows.OpenSpec.upto Rows.interpretRunsSpec).bare Rows.interpretRunsUptoRow = true := and2 (and2 (and2 (and2 (and2 (and2 (and2 (and2 (and2 (and2 (and2 (and2 (and2 (and2 (and2 (and2 (and2 (and2 (and2 (and2 (and2 (and2 (and2 (and2 (and2 (and2 (and2 (and2 (and2 (and2 (and2 factInterpretRuns0 factInterpretRuns1) factInterpretRuns2) factInterpretRuns3) factInterpretRuns4) (by kernel_rfl)) factInterpretRuns6) (by kernel_rfl)) factInterpretRuns8) factInterpretRuns9) factInterpretRuns10) factInterpretRuns11) factInterpretRuns12) factInterpretRuns13) factInterpretRuns14) factInterpretRuns15) factInterpretRuns16) factInterpretRuns17) (by kernel_rfl)) (by kernel_rfl)) (by kernel_rfl)) (by kernel_rfl)) factInterpretRuns22) (by kernel_rfl)) factInterpretRuns24) factInterpretRuns25) factInterpretRuns26) factInterpretRuns27) (by kernel_rfl)) factInterpretRuns29) (by kernel_rfl)) (by kernel_rfl)
theorem instInterpretRuns : Proofs.Tryz.f7.isInstance Tryz.pinned.checked.prog Rows.interpretRunsUptoRow.origin Rows.interpretRunsUptoRow.targs := of_decide_eq_true (by kernel_rfl)
theorem wrapInterpretRuns : Proofs.Tryz.f7.isWrapper Tryz.pinned.checked.prog Rows.interpretRunsUptoRow.wrapper Rows.interpretRunsUptoRow.mainSum := by
 unfold Func.isWrapper
 first | (rw [if_pos (by decide +kernel)]; kernel_rfl) | (rw [if_neg (by decide +kernel)]; exact ⟨rfl, rfl⟩)
theorem goesInterpretRuns : false = Rows.interpretRunsUptoRow.goesBy Tryz.pinned.checked.prog := by kernel_rfl
theorem wfInterpretRuns : Rows.interpretRunsUptoRow.wfByText (Rows.OpenSpec.upto Rows.interpretRunsSpec) = true := by kernel_rfl
theorem mainInterpretRuns : Tryz.pinned.checked.prog.mainIs = some (Rows.interpretRunsUptoCard.stood.harness.1, Rows.interpretRunsUptoCard.stood.harness.2.toList) := by kernel_rfl
theorem noStandInterpretRuns (f : FuncId) (fn : Func) (hf : Tryz.pinned.checked.prog.funcNamed "midrange/midrangelaw14.InterpretRuns" = some f) (hfn : Tryz.pinned.checked.prog.funcs[f]? = some fn) :
 false = Tryz.pinned.checked.prog.looks [] ∧ ∀ (j : Nat) t, fn.params[j]? = some t → Tryz.pinned.checked.prog.wantsStandIn t = false := by
 obtain rfl : f = 7 := Option.some.inj ((show Proofs.Tryz.prog.funcNamed "midrange/midrangelaw14.InterpretRuns" = some 7 by kernel_rfl).symm.trans hf) |>.symm
 obtain rfl : fn = Proofs.Tryz.f7 := (Option.some.inj (Proofs.Tryz.func7.symm.trans hfn)).symm
 refine ⟨by kernel_rfl, fun j t ht => ?_⟩
 have h := (show (Proofs.Tryz.f7.params.all fun t => !Tryz.pinned.checked.prog.wantsStandIn t) = true by kernel_rfl)
 have h' := Array.all_eq_true.1 h j (Array.getElem?_eq_some_iff.1 ht).1
 rw [(Array.getElem?_eq_some_iff.1 ht).2] at h'
 simpa using h'
end
end Go.Proofs.YtppbpnknfigboaaGreatDoor.M
