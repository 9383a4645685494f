/- Closed facts of the row of TranslateOptimizes. -/
import Derived.Test.YtblgefddnnlniaaGreatDoorCards
import Derived.Test.YtblgefddnnlniaaGreatDoorTie
import Derived.WalkKit
import Derived.ProofKit
import Derived.OpenShut
import Derived.Deep.DeepHandedRow
import Derived.Deep.DeepWitnessRowRef
import Derived.Lay
import Derived.MakeChecks
namespace Go.Proofs.YtblgefddnnlniaaGreatDoor.M
open Go
set_option linter.unusedVariables false
set_option maxRecDepth 100000
noncomputable section
theorem factTranslateOptimizes0 : Rows.translateOptimizesUptoRow.wf (OpenSpec.ofChange (Rows.OpenSpec.upto Rows.translateOptimizesSpec).bare) = true := by kernel_rfl
theorem factTranslateOptimizes1 : laidOutB Tryz.pinned.checked.prog = true := by kernel_rfl
theorem factTranslateOptimizes2 : mapsRowed Tryz.pinned.checked.prog = true := by kernel_rfl
theorem factTranslateOptimizes3 : Proofs.Tryz.f4.params.all (Tryz.pinned.checked.prog.readableRec ·) = true := by kernel_rfl
theorem factTranslateOptimizes4 : namedTie Tryz.pinned.checked.prog Rows.translateOptimizesUptoRow.named (Rows.OpenSpec.upto Rows.translateOptimizesSpec).bare.vars = true := by kernel_rfl
theorem factTranslateOptimizes6 : (Tryz.pinned.checked.prog.stops == []) = true := by kernel_rfl
theorem factTranslateOptimizes8 : (Tryz.pinned.checked.prog.stopKnobs == []) = true := by kernel_rfl
theorem factTranslateOptimizes9 : (Rows.translateOptimizesUptoRow.inPlace == Tryz.pinned.checked.prog.inPlace 4) = true := by kernel_rfl
theorem factTranslateOptimizes10 : (Rows.translateOptimizesUptoRow.unfollowed == Tryz.pinned.checked.prog.unfollowed 4) = true := by kernel_rfl
theorem factTranslateOptimizes11 : (Rows.translateOptimizesUptoRow.recurses == Tryz.pinned.checked.prog.recurses 4) = true := by kernel_rfl
theorem factTranslateOptimizes12 : (Rows.translateOptimizesUptoRow.named == Tryz.pinned.checked.prog.varsNamed 4) = true := by kernel_rfl
theorem factTranslateOptimizes13 : (Rows.translateOptimizesUptoRow.maps == (Proofs.Tryz.f4.params.toList ++ (Rows.OpenSpec.upto Rows.translateOptimizesSpec).bare.plain.varTypes Tryz.pinned.checked.prog).any (Tryz.pinned.checked.prog.mapsRec ·)) = true := by kernel_rfl
theorem factTranslateOptimizes14 : (Rows.translateOptimizesUptoRow.ifaces == (Proofs.Tryz.f4.params.toList ++ (Rows.OpenSpec.upto Rows.translateOptimizesSpec).bare.plain.varTypes Tryz.pinned.checked.prog).any (Tryz.pinned.checked.prog.ifacesRec ·)) = true := by kernel_rfl
theorem factTranslateOptimizes15 : (Rows.translateOptimizesUptoRow.mapsOut == Tryz.pinned.checked.prog.mapsAmong Proofs.Tryz.f4.resultTypes.toList) = true := by kernel_rfl
theorem factTranslateOptimizes16 : (Rows.translateOptimizesUptoRow.loops == (Proofs.Tryz.f4.params.toList ++ (Rows.OpenSpec.upto Rows.translateOptimizesSpec).bare.plain.varTypes Tryz.pinned.checked.prog).any (Tryz.pinned.checked.prog.loopsFrom ·)) = true := by kernel_rfl
theorem factTranslateOptimizes17 : (Rows.translateOptimizesUptoRow.wideKeys == (Proofs.Tryz.f4.params.toList ++ (Rows.OpenSpec.upto Rows.translateOptimizesSpec).bare.plain.varTypes Tryz.pinned.checked.prog ++ Proofs.Tryz.f4.resultTypes.toList).any (Tryz.pinned.checked.prog.wideKeysFrom ·)) = true := by kernel_rfl
theorem factTranslateOptimizes22 : (Rows.translateOptimizesUptoRow.plainKeys == Tryz.pinned.checked.prog.plainKeys) = true := by kernel_rfl
theorem factTranslateOptimizes24 : Tryz.pinned.checked.prog.stopsHeard = true := by kernel_rfl
theorem factTranslateOptimizes25 : Tryz.pinned.checked.prog.mayEnter = true := by kernel_rfl
theorem factTranslateOptimizes26 : (Rows.translateOptimizesUptoRow.lifted == Tryz.pinned.checked.prog.liftsFinal) = true := by kernel_rfl
theorem factTranslateOptimizes27 : (Tryz.pinned.checked.prog.make == some Rows.translateOptimizesUptoRow.make) = true := by kernel_rfl
theorem factTranslateOptimizes29 : (Rows.translateOptimizesUptoRow.pinned == Rows.translateOptimizesUptoRow.pinnedBy) = true := by kernel_rfl
theorem and2 {a b : Bool} (h : a = true) (h' : b = true) : (a && b) = true := by rw [h, h']; rfl
theorem factsTranslateOptimizes : joinedFacts Tryz.pinned.checked.prog 4 Proofs.Tryz.f4 (Rows.OpenSpec.upto Rows.translateOptimizesSpec).bare Rows.translateOptimizesUptoRow = true := and2 (and2 (and2 (and2 (and2 (and2 (and2 (and2 (and2 (and2 (and2 (and2 (and2 (and2 (and2 (and2 (and2 (and2 (and2 (and2 (and2 (and2 (and2 (and2 (and2 (and2 (and2 (and2 (and2 (and2 (and2 factTranslateOptimizes0 factTranslateOptimizes1) factTranslateOptimizes2) factTranslateOptimizes3) factTranslateOptimizes4) (by kernel_rfl)) factTranslateOptimizes6) (by kernel_rfl)) factTranslateOptimizes8) factTranslateOptimizes9) factTranslateOptimizes10) factTranslateOptimizes11) factTranslateOptimizes12) factTranslateOptimizes13) factTranslateOptimizes14) factTranslateOptimizes15) factTranslateOptimizes16) factTranslateOptimizes17) (by kernel_rfl)) (by kernel_rfl)) (by kernel_rfl)) (by kernel_rfl)) factTranslateOptimizes22) (by kernel_rfl)) factTranslateOptimizes24) factTranslateOptimizes25) factTranslateOptimizes26) factTranslateOptimizes27) (by kernel_rfl)) factTranslateOptimizes29) (by kernel_rfl)) (by kernel_rfl)
theorem instTranslateOptimizes : Proofs.Tryz.f4.isInstance Tryz.pinned.checked.prog Rows.translateOptimizesUptoRow.origin Rows.translateOptimizesUptoRow.targs := of_decide_eq_true (by kernel_rfl)
theorem wrapTranslateOptimizes : Proofs.Tryz.f4.isWrapper Tryz.pinned.checked.prog Rows.translateOptimizesUptoRow.wrapper Rows.translateOptimizesUptoRow.mainSum := by
 unfold Func.isWrapper
 first | (rw [if_pos (by decide +kernel)]; kernel_rfl) | (rw [if_neg (by decide +kernel)]; exact ⟨rfl, rfl⟩)
theorem goesTranslateOptimizes : false = Rows.translateOptimizesUptoRow.goesBy Tryz.pinned.checked.prog := by kernel_rfl
theorem wfTranslateOptimizes : Rows.translateOptimizesUptoRow.wfByText (Rows.OpenSpec.upto Rows.translateOptimizesSpec) = true := by kernel_rfl
theorem mainTranslateOptimizes : Tryz.pinned.checked.prog.mainIs = some (Rows.translateOptimizesUptoCard.stood.harness.1, Rows.translateOptimizesUptoCard.stood.harness.2.toList) := by kernel_rfl
theorem noStandTranslateOptimizes (f : FuncId) (fn : Func) (hf : Tryz.pinned.checked.prog.funcNamed "midrange/midrangelaw16.TranslateOptimizes" = some f) (hfn : Tryz.pinned.checked.prog.funcs[f]? = some fn) :
 false = Tryz.pinned.checked.prog.looks [] ∧ ∀ (j : Nat) t, fn.params[j]? = some t → Tryz.pinned.checked.prog.wantsStandIn t = false := by
 obtain rfl : f = 4 := Option.some.inj ((show Proofs.Tryz.prog.funcNamed "midrange/midrangelaw16.TranslateOptimizes" = some 4 by kernel_rfl).symm.trans hf) |>.symm
 obtain rfl : fn = Proofs.Tryz.f4 := (Option.some.inj (Proofs.Tryz.func4.symm.trans hfn)).symm
 refine ⟨by kernel_rfl, fun j t ht => ?_⟩
 have h := (show (Proofs.Tryz.f4.params.all fun t => !Tryz.pinned.checked.prog.wantsStandIn t) = true by kernel_rfl)
 have h' := Array.all_eq_true.1 h j (Array.getElem?_eq_some_iff.1 ht).1
 rw [(Array.getElem?_eq_some_iff.1 ht).2] at h'
 simpa using h'
end
end Go.Proofs.YtblgefddnnlniaaGreatDoor.M
