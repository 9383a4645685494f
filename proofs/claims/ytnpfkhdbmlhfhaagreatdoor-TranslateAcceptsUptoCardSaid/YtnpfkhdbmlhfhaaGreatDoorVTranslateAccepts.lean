/- Closed facts of the row of TranslateAccepts. -/
import Derived.Test.YtnpfkhdbmlhfhaaGreatDoorCards
import Derived.Test.YtnpfkhdbmlhfhaaGreatDoorTie
import Derived.WalkKit
import Derived.ProofKit
import Derived.OpenShut
import Derived.Deep.DeepHandedRow
import Derived.Deep.DeepWitnessRowRef
import Derived.Lay
import Derived.MakeChecks
namespace Go.Proofs.YtnpfkhdbmlhfhaaGreatDoor.M
open Go
set_option linter.unusedVariables false
set_option maxRecDepth 100000
noncomputable section
theorem factTranslateAccepts0 : Rows.translateAcceptsUptoRow.wf (OpenSpec.ofChange (Rows.OpenSpec.upto Rows.translateAcceptsSpec).bare) = true := by kernel_rfl
theorem factTranslateAccepts1 : laidOutB Tryz.pinned.checked.prog = true := by kernel_rfl
theorem factTranslateAccepts2 : mapsRowed Tryz.pinned.checked.prog = true := by kernel_rfl
theorem factTranslateAccepts3 : Proofs.Tryz.f6.params.all (Tryz.pinned.checked.prog.readableRec ·) = true := by kernel_rfl
theorem factTranslateAccepts4 : namedTie Tryz.pinned.checked.prog Rows.translateAcceptsUptoRow.named (Rows.OpenSpec.upto Rows.translateAcceptsSpec).bare.vars = true := by kernel_rfl
theorem factTranslateAccepts6 : (Tryz.pinned.checked.prog.stops == []) = true := by kernel_rfl
theorem factTranslateAccepts8 : (Tryz.pinned.checked.prog.stopKnobs == []) = true := by kernel_rfl
theorem factTranslateAccepts9 : (Rows.translateAcceptsUptoRow.inPlace == Tryz.pinned.checked.prog.inPlace 6) = true := by kernel_rfl
theorem factTranslateAccepts10 : (Rows.translateAcceptsUptoRow.unfollowed == Tryz.pinned.checked.prog.unfollowed 6) = true := by kernel_rfl
theorem factTranslateAccepts11 : (Rows.translateAcceptsUptoRow.recurses == Tryz.pinned.checked.prog.recurses 6) = true := by kernel_rfl
theorem factTranslateAccepts12 : (Rows.translateAcceptsUptoRow.named == Tryz.pinned.checked.prog.varsNamed 6) = true := by kernel_rfl
theorem factTranslateAccepts13 : (Rows.translateAcceptsUptoRow.maps == (Proofs.Tryz.f6.params.toList ++ (Rows.OpenSpec.upto Rows.translateAcceptsSpec).bare.plain.varTypes Tryz.pinned.checked.prog).any (Tryz.pinned.checked.prog.mapsRec ·)) = true := by kernel_rfl
theorem factTranslateAccepts14 : (Rows.translateAcceptsUptoRow.ifaces == (Proofs.Tryz.f6.params.toList ++ (Rows.OpenSpec.upto Rows.translateAcceptsSpec).bare.plain.varTypes Tryz.pinned.checked.prog).any (Tryz.pinned.checked.prog.ifacesRec ·)) = true := by kernel_rfl
theorem factTranslateAccepts15 : (Rows.translateAcceptsUptoRow.mapsOut == Tryz.pinned.checked.prog.mapsAmong Proofs.Tryz.f6.resultTypes.toList) = true := by kernel_rfl
theorem factTranslateAccepts16 : (Rows.translateAcceptsUptoRow.loops == (Proofs.Tryz.f6.params.toList ++ (Rows.OpenSpec.upto Rows.translateAcceptsSpec).bare.plain.varTypes Tryz.pinned.checked.prog).any (Tryz.pinned.checked.prog.loopsFrom ·)) = true := by kernel_rfl
theorem factTranslateAccepts17 : (Rows.translateAcceptsUptoRow.wideKeys == (Proofs.Tryz.f6.params.toList ++ (Rows.OpenSpec.upto Rows.translateAcceptsSpec).bare.plain.varTypes Tryz.pinned.checked.prog ++ Proofs.Tryz.f6.resultTypes.toList).any (Tryz.pinned.checked.prog.wideKeysFrom ·)) = true := by kernel_rfl
theorem factTranslateAccepts22 : (Rows.translateAcceptsUptoRow.plainKeys == Tryz.pinned.checked.prog.plainKeys) = true := by kernel_rfl
theorem factTranslateAccepts24 : Tryz.pinned.checked.prog.stopsHeard = true := by kernel_rfl
theorem factTranslateAccepts25 : Tryz.pinned.checked.prog.mayEnter = true := by kernel_rfl
theorem factTranslateAccepts26 : (Rows.translateAcceptsUptoRow.lifted == Tryz.pinned.checked.prog.liftsFinal) = true := by kernel_rfl
theorem factTranslateAccepts27 : (Tryz.pinned.checked.prog.make == some Rows.translateAcceptsUptoRow.make) = true := by kernel_rfl
theorem factTranslateAccepts29 : (Rows.translateAcceptsUptoRow.pinned == Rows.translateAcceptsUptoRow.pinnedBy) = true := by kernel_rfl
theorem and2 {a b : Bool} (h : a = true) (h' : b = true) : (a && b) = true := by rw [h, h']; rfl
theorem factsTranslateAccepts : joinedFacts Tryz.pinned.checked.prog 6 Proofs.Tryz.f6 (Rows.OpenSpec.upto Rows.translateAcceptsSpec).bare Rows.translateAcceptsUptoRow = true := and2 (and2 (and2 (and2 (and2 (and2 (and2 (and2 (and2 (and2 (and2 (and2 (and2 (and2 (and2 (and2 (and2 (and2 (and2 (and2 (and2 (and2 (and2 (and2 (and2 (and2 (and2 (and2 (and2 (and2 (and2 factTranslateAccepts0 factTranslateAccepts1) factTranslateAccepts2) factTranslateAccepts3) factTranslateAccepts4) (by kernel_rfl)) factTranslateAccepts6) (by kernel_rfl)) factTranslateAccepts8) factTranslateAccepts9) factTranslateAccepts10) factTranslateAccepts11) factTranslateAccepts12) factTranslateAccepts13) factTranslateAccepts14) factTranslateAccepts15) factTranslateAccepts16) factTranslateAccepts17) (by kernel_rfl)) (by kernel_rfl)) (by kernel_rfl)) (by kernel_rfl)) factTranslateAccepts22) (by kernel_rfl)) factTranslateAccepts24) factTranslateAccepts25) factTranslateAccepts26) factTranslateAccepts27) (by kernel_rfl)) factTranslateAccepts29) (by kernel_rfl)) (by kernel_rfl)
theorem instTranslateAccepts : Proofs.Tryz.f6.isInstance Tryz.pinned.checked.prog Rows.translateAcceptsUptoRow.origin Rows.translateAcceptsUptoRow.targs := of_decide_eq_true (by kernel_rfl)
theorem wrapTranslateAccepts : Proofs.Tryz.f6.isWrapper Tryz.pinned.checked.prog Rows.translateAcceptsUptoRow.wrapper Rows.translateAcceptsUptoRow.mainSum := by
 unfold Func.isWrapper
 first | (rw [if_pos (by decide +kernel)]; kernel_rfl) | (rw [if_neg (by decide +kernel)]; exact ⟨rfl, rfl⟩)
theorem goesTranslateAccepts : false = Rows.translateAcceptsUptoRow.goesBy Tryz.pinned.checked.prog := by kernel_rfl
theorem wfTranslateAccepts : Rows.translateAcceptsUptoRow.wfByText (Rows.OpenSpec.upto Rows.translateAcceptsSpec) = true := by kernel_rfl
theorem mainTranslateAccepts : Tryz.pinned.checked.prog.mainIs = some (Rows.translateAcceptsUptoCard.stood.harness.1, Rows.translateAcceptsUptoCard.stood.harness.2.toList) := by kernel_rfl
theorem noStandTranslateAccepts (f : FuncId) (fn : Func) (hf : Tryz.pinned.checked.prog.funcNamed "midrange/midrangelaw16.TranslateAccepts" = some f) (hfn : Tryz.pinned.checked.prog.funcs[f]? = some fn) :
 false = Tryz.pinned.checked.prog.looks [] ∧ ∀ (j : Nat) t, fn.params[j]? = some t → Tryz.pinned.checked.prog.wantsStandIn t = false := by
 obtain rfl : f = 6 := Option.some.inj ((show Proofs.Tryz.prog.funcNamed "midrange/midrangelaw16.TranslateAccepts" = some 6 by kernel_rfl).symm.trans hf) |>.symm
 obtain rfl : fn = Proofs.Tryz.f6 := (Option.some.inj (Proofs.Tryz.func6.symm.trans hfn)).symm
 refine ⟨by kernel_rfl, fun j t ht => ?_⟩
 have h := (show (Proofs.Tryz.f6.params.all fun t => !Tryz.pinned.checked.prog.wantsStandIn t) = true by kernel_rfl)
 have h' := Array.all_eq_true.1 h j (Array.getElem?_eq_some_iff.1 ht).1
 rw [(Array.getElem?_eq_some_iff.1 ht).2] at h'
 simpa using h'
end
end Go.Proofs.YtnpfkhdbmlhfhaaGreatDoor.M
