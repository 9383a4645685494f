/- Closed facts of the row of TranslateMaps. -/
import Derived.Test.YtnpfkhdbmlhfhaaGreatDoorCards
import Derived.Test.YtnpfkhdbmlhfhaaGreatDoorTie
import Derived.WalkKit
import Derived.ProofKit
import Derived.OpenShut
import Derived.Deep.DeepHandedRow
import Derived.Deep.DeepWitnessRowRef
import Derived.Lay
import Derived.MakeChecks
namespace Go.Proofs.YtnpfkhdbmlhfhaaGreatDoor.M
open Go
set_option linter.unusedVariables false
set_option maxRecDepth 100000
noncomputable section
theorem factTranslateMaps0 : Rows.translateMapsUptoRow.wf (OpenSpec.ofChange (Rows.OpenSpec.upto Rows.translateMapsSpec).bare) = true := by kernel_rfl
theorem factTranslateMaps1 : laidOutB Tryz.pinned.checked.prog = true := by kernel_rfl
theorem factTranslateMaps2 : mapsRowed Tryz.pinned.checked.prog = true := by kernel_rfl
theorem factTranslateMaps3 : Proofs.Tryz.f5.params.all (Tryz.pinned.checked.prog.readableRec ·) = true := by kernel_rfl
theorem factTranslateMaps4 : namedTie Tryz.pinned.checked.prog Rows.translateMapsUptoRow.named (Rows.OpenSpec.upto Rows.translateMapsSpec).bare.vars = true := by kernel_rfl
theorem factTranslateMaps6 : (Tryz.pinned.checked.prog.stops == []) = true := by kernel_rfl
theorem factTranslateMaps8 : (Tryz.pinned.checked.prog.stopKnobs == []) = true := by kernel_rfl
theorem factTranslateMaps9 : (Rows.translateMapsUptoRow.inPlace == Tryz.pinned.checked.prog.inPlace 5) = true := by kernel_rfl
theorem factTranslateMaps10 : (Rows.translateMapsUptoRow.unfollowed == Tryz.pinned.checked.prog.unfollowed 5) = true := by kernel_rfl
theorem factTranslateMaps11 : (Rows.translateMapsUptoRow.recurses == Tryz.pinned.checked.prog.recurses 5) = true := by kernel_rfl
theorem factTranslateMaps12 : (Rows.translateMapsUptoRow.named == Tryz.pinned.checked.prog.varsNamed 5) = true := by kernel_rfl
theorem factTranslateMaps13 : (Rows.translateMapsUptoRow.maps == (Proofs.Tryz.f5.params.toList ++ (Rows.OpenSpec.upto Rows.translateMapsSpec).bare.plain.varTypes Tryz.pinned.checked.prog).any (Tryz.pinned.checked.prog.mapsRec ·)) = true := by kernel_rfl
theorem factTranslateMaps14 : (Rows.translateMapsUptoRow.ifaces == (Proofs.Tryz.f5.params.toList ++ (Rows.OpenSpec.upto Rows.translateMapsSpec).bare.plain.varTypes Tryz.pinned.checked.prog).any (Tryz.pinned.checked.prog.ifacesRec ·)) = true := by kernel_rfl
theorem factTranslateMaps15 : (Rows.translateMapsUptoRow.mapsOut == Tryz.pinned.checked.prog.mapsAmong Proofs.Tryz.f5.resultTypes.toList) = true := by kernel_rfl
theorem factTranslateMaps16 : (Rows.translateMapsUptoRow.loops == (Proofs.Tryz.f5.params.toList ++ (Rows.OpenSpec.upto Rows.translateMapsSpec).bare.plain.varTypes Tryz.pinned.checked.prog).any (Tryz.pinned.checked.prog.loopsFrom ·)) = true := by kernel_rfl
theorem factTranslateMaps17 : (Rows.translateMapsUptoRow.wideKeys == (Proofs.Tryz.f5.params.toList ++ (Rows.OpenSpec.upto Rows.translateMapsSpec).bare.plain.varTypes Tryz.pinned.checked.prog ++ Proofs.Tryz.f5.resultTypes.toList).any (Tryz.pinned.checked.prog.wideKeysFrom ·)) = true := by kernel_rfl
theorem factTranslateMaps22 : (Rows.translateMapsUptoRow.plainKeys == Tryz.pinned.checked.prog.plainKeys) = true := by kernel_rfl
theorem factTranslateMaps24 : Tryz.pinned.checked.prog.stopsHeard = true := by kernel_rfl
theorem factTranslateMaps25 : Tryz.pinned.checked.prog.mayEnter = true := by kernel_rfl
theorem factTranslateMaps26 : (Rows.translateMapsUptoRow.lifted == Tryz.pinned.checked.prog.liftsFinal) = true := by kernel_rfl
theorem factTranslateMaps27 : (Tryz.pinned.checked.prog.make == some Rows.translateMapsUptoRow.make) = true := by kernel_rfl
theorem factTranslateMaps29 : (Rows.translateMapsUptoRow.pinned == Rows.translateMapsUptoRow.pinnedBy) = true := by kernel_rfl
theorem and2 {a b : Bool} (h : a = true) (h' : b = true) : (a && b) = true := by rw [h, h']; rfl
theorem factsTranslateMaps : joinedFacts Tryz.pinned.checked.prog 5 Proofs.Tryz.f5 (Rows.OpenSpec.upto Rows.translateMapsSpec).bare Rows.translateMapsUptoRow = true := and2 (and2 (and2 (and2 (and2 (and2 (and2 (and2 (and2 (and2 (and2 (and2 (and2 (and2 (and2 (and2 (and2 (and2 (and2 (and2 (and2 (and2 (and2 (and2 (and2 (and2 (and2 (and2 (and2 (and2 (and2 factTranslateMaps0 factTranslateMaps1) factTranslateMaps2) factTranslateMaps3) factTranslateMaps4) (by kernel_rfl)) factTranslateMaps6) (by kernel_rfl)) factTranslateMaps8) factTranslateMaps9) factTranslateMaps10) factTranslateMaps11) factTranslateMaps12) factTranslateMaps13) factTranslateMaps14) factTranslateMaps15) factTranslateMaps16) factTranslateMaps17) (by kernel_rfl)) (by kernel_rfl)) (by kernel_rfl)) (by kernel_rfl)) factTranslateMaps22) (by kernel_rfl)) factTranslateMaps24) factTranslateMaps25) factTranslateMaps26) factTranslateMaps27) (by kernel_rfl)) factTranslateMaps29) (by kernel_rfl)) (by kernel_rfl)
theorem instTranslateMaps : Proofs.Tryz.f5.isInstance Tryz.pinned.checked.prog Rows.translateMapsUptoRow.origin Rows.translateMapsUptoRow.targs := of_decide_eq_true (by kernel_rfl)
theorem wrapTranslateMaps : Proofs.Tryz.f5.isWrapper Tryz.pinned.checked.prog Rows.translateMapsUptoRow.wrapper Rows.translateMapsUptoRow.mainSum := by
 unfold Func.isWrapper
 first | (rw [if_pos (by decide +kernel)]; kernel_rfl) | (rw [if_neg (by decide +kernel)]; exact ⟨rfl, rfl⟩)
theorem goesTranslateMaps : false = Rows.translateMapsUptoRow.goesBy Tryz.pinned.checked.prog := by kernel_rfl
theorem wfTranslateMaps : Rows.translateMapsUptoRow.wfByText (Rows.OpenSpec.upto Rows.translateMapsSpec) = true := by kernel_rfl
theorem mainTranslateMaps : Tryz.pinned.checked.prog.mainIs = some (Rows.translateMapsUptoCard.stood.harness.1, Rows.translateMapsUptoCard.stood.harness.2.toList) := by kernel_rfl
theorem noStandTranslateMaps (f : FuncId) (fn : Func) (hf : Tryz.pinned.checked.prog.funcNamed "midrange/midrangelaw16.TranslateMaps" = some f) (hfn : Tryz.pinned.checked.prog.funcs[f]? = some fn) :
 false = Tryz.pinned.checked.prog.looks [] ∧ ∀ (j : Nat) t, fn.params[j]? = some t → Tryz.pinned.checked.prog.wantsStandIn t = false := by
 obtain rfl : f = 5 := Option.some.inj ((show Proofs.Tryz.prog.funcNamed "midrange/midrangelaw16.TranslateMaps" = some 5 by kernel_rfl).symm.trans hf) |>.symm
 obtain rfl : fn = Proofs.Tryz.f5 := (Option.some.inj (Proofs.Tryz.func5.symm.trans hfn)).symm
 refine ⟨by kernel_rfl, fun j t ht => ?_⟩
 have h := (show (Proofs.Tryz.f5.params.all fun t => !Tryz.pinned.checked.prog.wantsStandIn t) = true by kernel_rfl)
 have h' := Array.all_eq_true.1 h j (Array.getElem?_eq_some_iff.1 ht).1
 rw [(Array.getElem?_eq_some_iff.1 ht).2] at h'
 simpa using h'
end
end Go.Proofs.YtnpfkhdbmlhfhaaGreatDoor.M
