/- Closed facts of the row of TranslateProofs. -/
import Derived.Test.YtblgefddnnlniaaGreatDoorCards
import Derived.Test.YtblgefddnnlniaaGreatDoorTie
import Derived.WalkKit
import Derived.ProofKit
import Derived.OpenShut
import Derived.Deep.DeepHandedRow
import Derived.Deep.DeepWitnessRowRef
import Derived.Lay
import Derived.MakeChecks
namespace Go.Proofs.YtblgefddnnlniaaGreatDoor.M
open Go
set_option linter.unusedVariables false
set_option maxRecDepth 100000
noncomputable section
theorem factTranslateProofs0 : Rows.translateProofsUptoRow.wf (OpenSpec.ofChange (Rows.OpenSpec.upto Rows.translateProofsSpec).bare) = true := by kernel_rfl
theorem factTranslateProofs1 : laidOutB Tryz.pinned.checked.prog = true := by kernel_rfl
theorem factTranslateProofs2 : mapsRowed Tryz.pinned.checked.prog = true := by kernel_rfl
theorem factTranslateProofs3 : Proofs.Tryz.f5.params.all (Tryz.pinned.checked.prog.readableRec ·) = true := by kernel_rfl
theorem factTranslateProofs4 : namedTie Tryz.pinned.checked.prog Rows.translateProofsUptoRow.named (Rows.OpenSpec.upto Rows.translateProofsSpec).bare.vars = true := by kernel_rfl
theorem factTranslateProofs6 : (Tryz.pinned.checked.prog.stops == []) = true := by kernel_rfl
theorem factTranslateProofs8 : (Tryz.pinned.checked.prog.stopKnobs == []) = true := by kernel_rfl
theorem factTranslateProofs9 : (Rows.translateProofsUptoRow.inPlace == Tryz.pinned.checked.prog.inPlace 5) = true := by kernel_rfl
theorem factTranslateProofs10 : (Rows.translateProofsUptoRow.unfollowed == Tryz.pinned.checked.prog.unfollowed 5) = true := by kernel_rfl
theorem factTranslateProofs11 : (Rows.translateProofsUptoRow.recurses == Tryz.pinned.checked.prog.recurses 5) = true := by kernel_rfl
theorem factTranslateProofs12 : (Rows.translateProofsUptoRow.named == Tryz.pinned.checked.prog.varsNamed 5) = true := by kernel_rfl
theorem factTranslateProofs13 : (Rows.translateProofsUptoRow.maps == (Proofs.Tryz.f5.params.toList ++ (Rows.OpenSpec.upto Rows.translateProofsSpec).bare.plain.varTypes Tryz.pinned.checked.prog).any (Tryz.pinned.checked.prog.mapsRec ·)) = true := by kernel_rfl
theorem factTranslateProofs14 : (Rows.translateProofsUptoRow.ifaces == (Proofs.Tryz.f5.params.toList ++ (Rows.OpenSpec.upto Rows.translateProofsSpec).bare.plain.varTypes Tryz.pinned.checked.prog).any (Tryz.pinned.checked.prog.ifacesRec ·)) = true := by kernel_rfl
theorem factTranslateProofs15 : (Rows.translateProofsUptoRow.mapsOut == Tryz.pinned.checked.prog.mapsAmong Proofs.Tryz.f5.resultTypes.toList) = true := by kernel_rfl
theorem factTranslateProofs16 : (Rows.translateProofsUptoRow.loops == (Proofs.Tryz.f5.params.toList ++ (Rows.OpenSpec.upto Rows.translateProofsSpec).bare.plain.varTypes Tryz.pinned.checked.prog).any (Tryz.pinned.checked.prog.loopsFrom ·)) = true := by kernel_rfl
theorem factTranslateProofs17 : (Rows.translateProofsUptoRow.wideKeys == (Proofs.Tryz.f5.params.toList ++ (Rows.OpenSpec.upto Rows.translateProofsSpec).bare.plain.varTypes Tryz.pinned.checked.prog ++ Proofs.Tryz.f5.resultTypes.toList).any (Tryz.pinned.checked.prog.wideKeysFrom ·)) = true := by kernel_rfl
theorem factTranslateProofs22 : (Rows.translateProofsUptoRow.plainKeys == Tryz.pinned.checked.prog.plainKeys) = true := by kernel_rfl
theorem factTranslateProofs24 : Tryz.pinned.checked.prog.stopsHeard = true := by kernel_rfl
theorem factTranslateProofs25 : Tryz.pinned.checked.prog.mayEnter = true := by kernel_rfl
theorem factTranslateProofs26 : (Rows.translateProofsUptoRow.lifted == Tryz.pinned.checked.prog.liftsFinal) = true := by kernel_rfl
theorem factTranslateProofs27 : (Tryz.pinned.checked.prog.make == some Rows.translateProofsUptoRow.make) = true := by kernel_rfl
theorem factTranslateProofs29 : (Rows.translateProofsUptoRow.pinned == Rows.translateProofsUptoRow.pinnedBy) = true := by kernel_rfl
theorem and2 {a b : Bool} (h : a = true) (h' : b = true) : (a && b) = true := by rw [h, h']; rfl
theorem factsTranslateProofs : joinedFacts Tryz.pinned.checked.prog 5 Proofs.Tryz.f5 (Rows.OpenSpec.upto Rows.translateProofsSpec).bare Rows.translateProofsUptoRow = true := and2 (and2 (and2 (and2 (and2 (and2 (and2 (and2 (and2 (and2 (and2 (and2 (and2 (and2 (and2 (and2 (and2 (and2 (and2 (and2 (and2 (and2 (and2 (and2 (and2 (and2 (and2 (and2 (and2 (and2 (and2 factTranslateProofs0 factTranslateProofs1) factTranslateProofs2) factTranslateProofs3) factTranslateProofs4) (by kernel_rfl)) factTranslateProofs6) (by kernel_rfl)) factTranslateProofs8) factTranslateProofs9) factTranslateProofs10) factTranslateProofs11) factTranslateProofs12) factTranslateProofs13) factTranslateProofs14) factTranslateProofs15) factTranslateProofs16) factTranslateProofs17) (by kernel_rfl)) (by kernel_rfl)) (by kernel_rfl)) (by kernel_rfl)) factTranslateProofs22) (by kernel_rfl)) factTranslateProofs24) factTranslateProofs25) factTranslateProofs26) factTranslateProofs27) (by kernel_rfl)) factTranslateProofs29) (by kernel_rfl)) (by kernel_rfl)
theorem instTranslateProofs : Proofs.Tryz.f5.isInstance Tryz.pinned.checked.prog Rows.translateProofsUptoRow.origin Rows.translateProofsUptoRow.targs := of_decide_eq_true (by kernel_rfl)
theorem wrapTranslateProofs : Proofs.Tryz.f5.isWrapper Tryz.pinned.checked.prog Rows.translateProofsUptoRow.wrapper Rows.translateProofsUptoRow.mainSum := by
 unfold Func.isWrapper
 first | (rw [if_pos (by decide +kernel)]; kernel_rfl) | (rw [if_neg (by decide +kernel)]; exact ⟨rfl, rfl⟩)
theorem goesTranslateProofs : false = Rows.translateProofsUptoRow.goesBy Tryz.pinned.checked.prog := by kernel_rfl
theorem wfTranslateProofs : Rows.translateProofsUptoRow.wfByText (Rows.OpenSpec.upto Rows.translateProofsSpec) = true := by kernel_rfl
theorem mainTranslateProofs : Tryz.pinned.checked.prog.mainIs = some (Rows.translateProofsUptoCard.stood.harness.1, Rows.translateProofsUptoCard.stood.harness.2.toList) := by kernel_rfl
theorem noStandTranslateProofs (f : FuncId) (fn : Func) (hf : Tryz.pinned.checked.prog.funcNamed "midrange/midrangelaw16.TranslateProofs" = some f) (hfn : Tryz.pinned.checked.prog.funcs[f]? = some fn) :
 false = Tryz.pinned.checked.prog.looks [] ∧ ∀ (j : Nat) t, fn.params[j]? = some t → Tryz.pinned.checked.prog.wantsStandIn t = false := by
 obtain rfl : f = 5 := Option.some.inj ((show Proofs.Tryz.prog.funcNamed "midrange/midrangelaw16.TranslateProofs" = some 5 by kernel_rfl).symm.trans hf) |>.symm
 obtain rfl : fn = Proofs.Tryz.f5 := (Option.some.inj (Proofs.Tryz.func5.symm.trans hfn)).symm
 refine ⟨by kernel_rfl, fun j t ht => ?_⟩
 have h := (show (Proofs.Tryz.f5.params.all fun t => !Tryz.pinned.checked.prog.wantsStandIn t) = true by kernel_rfl)
 have h' := Array.all_eq_true.1 h j (Array.getElem?_eq_some_iff.1 ht).1
 rw [(Array.getElem?_eq_some_iff.1 ht).2] at h'
 simpa using h'
end
end Go.Proofs.YtblgefddnnlniaaGreatDoor.M
