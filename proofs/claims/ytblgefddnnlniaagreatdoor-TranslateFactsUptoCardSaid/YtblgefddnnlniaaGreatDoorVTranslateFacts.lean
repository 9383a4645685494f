/- Closed facts of the row of TranslateFacts. -/
import Derived.Test.YtblgefddnnlniaaGreatDoorCards
import Derived.Test.YtblgefddnnlniaaGreatDoorTie
import Derived.WalkKit
import Derived.ProofKit
import Derived.OpenShut
import Derived.Deep.DeepHandedRow
import Derived.Deep.DeepWitnessRowRef
import Derived.Lay
import Derived.MakeChecks
namespace Go.Proofs.YtblgefddnnlniaaGreatDoor.M
open Go
set_option linter.unusedVariables false
set_option maxRecDepth 100000
noncomputable section
theorem factTranslateFacts0 : Rows.translateFactsUptoRow.wf (OpenSpec.ofChange (Rows.OpenSpec.upto Rows.translateFactsSpec).bare) = true := by kernel_rfl
theorem factTranslateFacts1 : laidOutB Tryz.pinned.checked.prog = true := by kernel_rfl
theorem factTranslateFacts2 : mapsRowed Tryz.pinned.checked.prog = true := by kernel_rfl
theorem factTranslateFacts3 : Proofs.Tryz.f3.params.all (Tryz.pinned.checked.prog.readableRec ·) = true := by kernel_rfl
theorem factTranslateFacts4 : namedTie Tryz.pinned.checked.prog Rows.translateFactsUptoRow.named (Rows.OpenSpec.upto Rows.translateFactsSpec).bare.vars = true := by kernel_rfl
theorem factTranslateFacts6 : (Tryz.pinned.checked.prog.stops == []) = true := by kernel_rfl
theorem factTranslateFacts8 : (Tryz.pinned.checked.prog.stopKnobs == []) = true := by kernel_rfl
theorem factTranslateFacts9 : (Rows.translateFactsUptoRow.inPlace == Tryz.pinned.checked.prog.inPlace 3) = true := by kernel_rfl
theorem factTranslateFacts10 : (Rows.translateFactsUptoRow.unfollowed == Tryz.pinned.checked.prog.unfollowed 3) = true := by kernel_rfl
theorem factTranslateFacts11 : (Rows.translateFactsUptoRow.recurses == Tryz.pinned.checked.prog.recurses 3) = true := by kernel_rfl
theorem factTranslateFacts12 : (Rows.translateFactsUptoRow.named == Tryz.pinned.checked.prog.varsNamed 3) = true := by kernel_rfl
theorem factTranslateFacts13 : (Rows.translateFactsUptoRow.maps == (Proofs.Tryz.f3.params.toList ++ (Rows.OpenSpec.upto Rows.translateFactsSpec).bare.plain.varTypes Tryz.pinned.checked.prog).any (Tryz.pinned.checked.prog.mapsRec ·)) = true := by kernel_rfl
theorem factTranslateFacts14 : (Rows.translateFactsUptoRow.ifaces == (Proofs.Tryz.f3.params.toList ++ (Rows.OpenSpec.upto Rows.translateFactsSpec).bare.plain.varTypes Tryz.pinned.checked.prog).any (Tryz.pinned.checked.prog.ifacesRec ·)) = true := by kernel_rfl
theorem factTranslateFacts15 : (Rows.translateFactsUptoRow.mapsOut == Tryz.pinned.checked.prog.mapsAmong Proofs.Tryz.f3.resultTypes.toList) = true := by kernel_rfl
theorem factTranslateFacts16 : (Rows.translateFactsUptoRow.loops == (Proofs.Tryz.f3.params.toList ++ (Rows.OpenSpec.upto Rows.translateFactsSpec).bare.plain.varTypes Tryz.pinned.checked.prog).any (Tryz.pinned.checked.prog.loopsFrom ·)) = true := by kernel_rfl
theorem factTranslateFacts17 : (Rows.translateFactsUptoRow.wideKeys == (Proofs.Tryz.f3.params.toList ++ (Rows.OpenSpec.upto Rows.translateFactsSpec).bare.plain.varTypes Tryz.pinned.checked.prog ++ Proofs.Tryz.f3.resultTypes.toList).any (Tryz.pinned.checked.prog.wideKeysFrom ·)) = true := by kernel_rfl
theorem factTranslateFacts22 : (Rows.translateFactsUptoRow.plainKeys == Tryz.pinned.checked.prog.plainKeys) = true := by kernel_rfl
theorem factTranslateFacts24 : Tryz.pinned.checked.prog.stopsHeard = true := by kernel_rfl
theorem factTranslateFacts25 : Tryz.pinned.checked.prog.mayEnter = true := by kernel_rfl
theorem factTranslateFacts26 : (Rows.translateFactsUptoRow.lifted == Tryz.pinned.checked.prog.liftsFinal) = true := by kernel_rfl
theorem factTranslateFacts27 : (Tryz.pinned.checked.prog.make == some Rows.translateFactsUptoRow.make) = true := by kernel_rfl
theorem factTranslateFacts29 : (Rows.translateFactsUptoRow.pinned == Rows.translateFactsUptoRow.pinnedBy) = true := by kernel_rfl
theorem and2 {a b : Bool} (h : a = true) (h' : b = true) : (a && b) = true := by rw [h, h']; rfl
theorem factsTranslateFacts : joinedFacts Tryz.pinned.checked.prog 3 Proofs.Tryz.f3 (Rows.OpenSpec.upto Rows.translateFactsSpec).bare Rows.translateFactsUptoRow = true := and2 (and2 (and2 (and2 (and2 (and2 (and2 (and2 (and2 (and2 (and2 (and2 (and2 (and2 (and2 (and2 (and2 (and2 (and2 (and2 (and2 (and2 (and2 (and2 (and2 (and2 (and2 (and2 (and2 (and2 (and2 factTranslateFacts0 factTranslateFacts1) factTranslateFacts2) factTranslateFacts3) factTranslateFacts4) (by kernel_rfl)) factTranslateFacts6) (by kernel_rfl)) factTranslateFacts8) factTranslateFacts9) factTranslateFacts10) factTranslateFacts11) factTranslateFacts12) factTranslateFacts13) factTranslateFacts14) factTranslateFacts15) factTranslateFacts16) factTranslateFacts17) (by kernel_rfl)) (by kernel_rfl)) (by kernel_rfl)) (by kernel_rfl)) factTranslateFacts22) (by kernel_rfl)) factTranslateFacts24) factTranslateFacts25) factTranslateFacts26) factTranslateFacts27) (by kernel_rfl)) factTranslateFacts29) (by kernel_rfl)) (by kernel_rfl)
theorem instTranslateFacts : Proofs.Tryz.f3.isInstance Tryz.pinned.checked.prog Rows.translateFactsUptoRow.origin Rows.translateFactsUptoRow.targs := of_decide_eq_true (by kernel_rfl)
theorem wrapTranslateFacts : Proofs.Tryz.f3.isWrapper Tryz.pinned.checked.prog Rows.translateFactsUptoRow.wrapper Rows.translateFactsUptoRow.mainSum := by
 unfold Func.isWrapper
 first | (rw [if_pos (by decide +kernel)]; kernel_rfl) | (rw [if_neg (by decide +kernel)]; exact ⟨rfl, rfl⟩)
theorem goesTranslateFacts : false = Rows.translateFactsUptoRow.goesBy Tryz.pinned.checked.prog := by kernel_rfl
theorem wfTranslateFacts : Rows.translateFactsUptoRow.wfByText (Rows.OpenSpec.upto Rows.translateFactsSpec) = true := by kernel_rfl
theorem mainTranslateFacts : Tryz.pinned.checked.prog.mainIs = some (Rows.translateFactsUptoCard.stood.harness.1, Rows.translateFactsUptoCard.stood.harness.2.toList) := by kernel_rfl
theorem noStandTranslateFacts (f : FuncId) (fn : Func) (hf : Tryz.pinned.checked.prog.funcNamed "midrange/midrangelaw16.TranslateFacts" = some f) (hfn : Tryz.pinned.checked.prog.funcs[f]? = some fn) :
 false = Tryz.pinned.checked.prog.looks [] ∧ ∀ (j : Nat) t, fn.params[j]? = some t → Tryz.pinned.checked.prog.wantsStandIn t = false := by
 obtain rfl : f = 3 := Option.some.inj ((show Proofs.Tryz.prog.funcNamed "midrange/midrangelaw16.TranslateFacts" = some 3 by kernel_rfl).symm.trans hf) |>.symm
 obtain rfl : fn = Proofs.Tryz.f3 := (Option.some.inj (Proofs.Tryz.func3.symm.trans hfn)).symm
 refine ⟨by kernel_rfl, fun j t ht => ?_⟩
 have h := (show (Proofs.Tryz.f3.params.all fun t => !Tryz.pinned.checked.prog.wantsStandIn t) = true by kernel_rfl)
 have h' := Array.all_eq_true.1 h j (Array.getElem?_eq_some_iff.1 ht).1
 rw [(Array.getElem?_eq_some_iff.1 ht).2] at h'
 simpa using h'
end
end Go.Proofs.YtblgefddnnlniaaGreatDoor.M
