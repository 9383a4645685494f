/- Closed facts of the row of TranslateLess. -/
import Derived.Test.YtnpfkhdbmlhfhaaGreatDoorCards
import Derived.Test.YtnpfkhdbmlhfhaaGreatDoorTie
import Derived.WalkKit
import Derived.ProofKit
import Derived.OpenShut
import Derived.Deep.DeepHandedRow
import Derived.Deep.DeepWitnessRowRef
import Derived.Lay
import Derived.MakeChecks
namespace Go.Proofs.YtnpfkhdbmlhfhaaGreatDoor.M
open Go
set_option linter.unusedVariables false
set_option maxRecDepth 100000
noncomputable section
theorem factTranslateLess0 : Rows.translateLessUptoRow.wf (OpenSpec.ofChange (Rows.OpenSpec.upto Rows.translateLessSpec).bare) = true := by kernel_rfl
theorem factTranslateLess1 : laidOutB Tryz.pinned.checked.prog = true := by kernel_rfl
theorem factTranslateLess2 : mapsRowed Tryz.pinned.checked.prog = true := by kernel_rfl
theorem factTranslateLess3 : Proofs.Tryz.f4.params.all (Tryz.pinned.checked.prog.readableRec ·) = true := by kernel_rfl
theorem factTranslateLess4 : namedTie Tryz.pinned.checked.prog Rows.translateLessUptoRow.named (Rows.OpenSpec.upto Rows.translateLessSpec).bare.vars = true := by kernel_rfl
theorem factTranslateLess6 : (Tryz.pinned.checked.prog.stops == []) = true := by kernel_rfl
theorem factTranslateLess8 : (Tryz.pinned.checked.prog.stopKnobs == []) = true := by kernel_rfl
theorem factTranslateLess9 : (Rows.translateLessUptoRow.inPlace == Tryz.pinned.checked.prog.inPlace 4) = true := by kernel_rfl
theorem factTranslateLess10 : (Rows.translateLessUptoRow.unfollowed == Tryz.pinned.checked.prog.unfollowed 4) = true := by kernel_rfl
theorem factTranslateLess11 : (Rows.translateLessUptoRow.recurses == Tryz.pinned.checked.prog.recurses 4) = true := by kernel_rfl
theorem factTranslateLess12 : (Rows.translateLessUptoRow.named == Tryz.pinned.checked.prog.varsNamed 4) = true := by kernel_rfl
theorem factTranslateLess13 : (Rows.translateLessUptoRow.maps == (Proofs.Tryz.f4.params.toList ++ (Rows.OpenSpec.upto Rows.translateLessSpec).bare.plain.varTypes Tryz.pinned.checked.prog).any (Tryz.pinned.checked.prog.mapsRec ·)) = true := by kernel_rfl
theorem factTranslateLess14 : (Rows.translateLessUptoRow.ifaces == (Proofs.Tryz.f4.params.toList ++ (Rows.OpenSpec.upto Rows.translateLessSpec).bare.plain.varTypes Tryz.pinned.checked.prog).any (Tryz.pinned.checked.prog.ifacesRec ·)) = true := by kernel_rfl
theorem factTranslateLess15 : (Rows.translateLessUptoRow.mapsOut == Tryz.pinned.checked.prog.mapsAmong Proofs.Tryz.f4.resultTypes.toList) = true := by kernel_rfl
theorem factTranslateLess16 : (Rows.translateLessUptoRow.loops == (Proofs.Tryz.f4.params.toList ++ (Rows.OpenSpec.upto Rows.translateLessSpec).bare.plain.varTypes Tryz.pinned.checked.prog).any (Tryz.pinned.checked.prog.loopsFrom ·)) = true := by kernel_rfl
theorem factTranslateLess17 : (Rows.translateLessUptoRow.wideKeys == (Proofs.Tryz.f4.params.toList ++ (Rows.OpenSpec.upto Rows.translateLessSpec).bare.plain.varTypes Tryz.pinned.checked.prog ++ Proofs.Tryz.f4.resultTypes.toList).any (Tryz.pinned.checked.prog.wideKeysFrom ·)) = true := by kernel_rfl
theorem factTranslateLess22 : (Rows.translateLessUptoRow.plainKeys == Tryz.pinned.checked.prog.plainKeys) = true := by kernel_rfl
theorem factTranslateLess24 : Tryz.pinned.checked.prog.stopsHeard = true := by kernel_rfl
theorem factTranslateLess25 : Tryz.pinned.checked.prog.mayEnter = true := by kernel_rfl
theorem factTranslateLess26 : (Rows.translateLessUptoRow.lifted == Tryz.pinned.checked.prog.liftsFinal) = true := by kernel_rfl
theorem factTranslateLess27 : (Tryz.pinned.checked.prog.make == some Rows.translateLessUptoRow.make) = true := by kernel_rfl
theorem factTranslateLess29 : (Rows.translateLessUptoRow.pinned == Rows.translateLessUptoRow.pinnedBy) = true := by kernel_rfl
theorem and2 {a b : Bool} (h : a = true) (h' : b = true) : (a && b) = true := by rw [h, h']; rfl
theorem factsTranslateLess : joinedFacts Tryz.pinned.checked.prog 4 Proofs.Tryz.f4 (Rows.OpenSpec.upto Rows.translateLessSpec).bare Rows.translateLessUptoRow = true := and2 (and2 (and2 (and2 (and2 (and2 (and2 (and2 (and2 (and2 (and2 (and2 (and2 (and2 (and2 (and2 (and2 (and2 (and2 (and2 (and2 (and2 (and2 (and2 (and2 (and2 (and2 (and2 (and2 (and2 (and2 factTranslateLess0 factTranslateLess1) factTranslateLess2) factTranslateLess3) factTranslateLess4) (by kernel_rfl)) factTranslateLess6) (by kernel_rfl)) factTranslateLess8) factTranslateLess9) factTranslateLess10) factTranslateLess11) factTranslateLess12) factTranslateLess13) factTranslateLess14) factTranslateLess15) factTranslateLess16) factTranslateLess17) (by kernel_rfl)) (by kernel_rfl)) (by kernel_rfl)) (by kernel_rfl)) factTranslateLess22) (by kernel_rfl)) factTranslateLess24) factTranslateLess25) factTranslateLess26) factTranslateLess27) (by kernel_rfl)) factTranslateLess29) (by kernel_rfl)) (by kernel_rfl)
theorem instTranslateLess : Proofs.Tryz.f4.isInstance Tryz.pinned.checked.prog Rows.translateLessUptoRow.origin Rows.translateLessUptoRow.targs := of_decide_eq_true (by kernel_rfl)
theorem wrapTranslateLess : Proofs.Tryz.f4.isWrapper Tryz.pinned.checked.prog Rows.translateLessUptoRow.wrapper Rows.translateLessUptoRow.mainSum := by
 unfold Func.isWrapper
 first | (rw [if_pos (by decide +kernel)]; kernel_rfl) | (rw [if_neg (by decide +kernel)]; exact ⟨rfl, rfl⟩)
theorem goesTranslateLess : false = Rows.translateLessUptoRow.goesBy Tryz.pinned.checked.prog := by kernel_rfl
theorem wfTranslateLess : Rows.translateLessUptoRow.wfByText (Rows.OpenSpec.upto Rows.translateLessSpec) = true := by kernel_rfl
theorem mainTranslateLess : Tryz.pinned.checked.prog.mainIs = some (Rows.translateLessUptoCard.stood.harness.1, Rows.translateLessUptoCard.stood.harness.2.toList) := by kernel_rfl
theorem noStandTranslateLess (f : FuncId) (fn : Func) (hf : Tryz.pinned.checked.prog.funcNamed "midrange/midrangelaw16.TranslateLess" = some f) (hfn : Tryz.pinned.checked.prog.funcs[f]? = some fn) :
 false = Tryz.pinned.checked.prog.looks [] ∧ ∀ (j : Nat) t, fn.params[j]? = some t → Tryz.pinned.checked.prog.wantsStandIn t = false := by
 obtain rfl : f = 4 := Option.some.inj ((show Proofs.Tryz.prog.funcNamed "midrange/midrangelaw16.TranslateLess" = some 4 by kernel_rfl).symm.trans hf) |>.symm
 obtain rfl : fn = Proofs.Tryz.f4 := (Option.some.inj (Proofs.Tryz.func4.symm.trans hfn)).symm
 refine ⟨by kernel_rfl, fun j t ht => ?_⟩
 have h := (show (Proofs.Tryz.f4.params.all fun t => !Tryz.pinned.checked.prog.wantsStandIn t) = true by kernel_rfl)
 have h' := Array.all_eq_true.1 h j (Array.getElem?_eq_some_iff.1 ht).1
 rw [(Array.getElem?_eq_some_iff.1 ht).2] at h'
 simpa using h'
end
end Go.Proofs.YtnpfkhdbmlhfhaaGreatDoor.M
