/- Closed facts of the row of InterpretTags. -/
import Derived.Test.YtmifhmfokbigiaaGreatDoorCards
import Derived.Test.YtmifhmfokbigiaaGreatDoorTie
import Derived.WalkKit
import Derived.ProofKit
import Derived.OpenShut
import Derived.Deep.DeepHandedRow
import Derived.Deep.DeepWitnessRowRef
import Derived.Lay
import Derived.MakeChecks
namespace Go.Proofs.YtmifhmfokbigiaaGreatDoor.M
open Go
set_option linter.unusedVariables false
set_option maxRecDepth 100000
noncomputable section
theorem factInterpretTags0 : Rows.interpretTagsUptoRow.wf (OpenSpec.ofChange (Rows.OpenSpec.upto Rows.interpretTagsSpec).bare) = true := by kernel_rfl
theorem factInterpretTags1 : laidOutB Tryz.pinned.checked.prog = true := by kernel_rfl
theorem factInterpretTags2 : mapsRowed Tryz.pinned.checked.prog = true := by kernel_rfl
theorem factInterpretTags3 : Proofs.Tryz.f4.params.all (Tryz.pinned.checked.prog.readableRec ·) = true := by kernel_rfl
theorem factInterpretTags4 : namedTie Tryz.pinned.checked.prog Rows.interpretTagsUptoRow.named (Rows.OpenSpec.upto Rows.interpretTagsSpec).bare.vars = true := by kernel_rfl
theorem factInterpretTags6 : (Tryz.pinned.checked.prog.stops == []) = true := by kernel_rfl
theorem factInterpretTags8 : (Tryz.pinned.checked.prog.stopKnobs == []) = true := by kernel_rfl
theorem factInterpretTags9 : (Rows.interpretTagsUptoRow.inPlace == Tryz.pinned.checked.prog.inPlace 4) = true := by kernel_rfl
theorem factInterpretTags10 : (Rows.interpretTagsUptoRow.unfollowed == Tryz.pinned.checked.prog.unfollowed 4) = true := by kernel_rfl
theorem factInterpretTags11 : (Rows.interpretTagsUptoRow.recurses == Tryz.pinned.checked.prog.recurses 4) = true := by kernel_rfl
theorem factInterpretTags12 : (Rows.interpretTagsUptoRow.named == Tryz.pinned.checked.prog.varsNamed 4) = true := by kernel_rfl
theorem factInterpretTags13 : (Rows.interpretTagsUptoRow.maps == (Proofs.Tryz.f4.params.toList ++ (Rows.OpenSpec.upto Rows.interpretTagsSpec).bare.plain.varTypes Tryz.pinned.checked.prog).any (Tryz.pinned.checked.prog.mapsRec ·)) = true := by kernel_rfl
theorem factInterpretTags14 : (Rows.interpretTagsUptoRow.ifaces == (Proofs.Tryz.f4.params.toList ++ (Rows.OpenSpec.upto Rows.interpretTagsSpec).bare.plain.varTypes Tryz.pinned.checked.prog).any (Tryz.pinned.checked.prog.ifacesRec ·)) = true := by kernel_rfl
theorem factInterpretTags15 : (Rows.interpretTagsUptoRow.mapsOut == Tryz.pinned.checked.prog.mapsAmong Proofs.Tryz.f4.resultTypes.toList) = true := by kernel_rfl
theorem factInterpretTags16 : (Rows.interpretTagsUptoRow.loops == (Proofs.Tryz.f4.params.toList ++ (Rows.OpenSpec.upto Rows.interpretTagsSpec).bare.plain.varTypes Tryz.pinned.checked.prog).any (Tryz.pinned.checked.prog.loopsFrom ·)) = true := by kernel_rfl
theorem factInterpretTags17 : (Rows.interpretTagsUptoRow.wideKeys == (Proofs.Tryz.f4.params.toList ++ (Rows.OpenSpec.upto Rows.interpretTagsSpec).bare.plain.varTypes Tryz.pinned.checked.prog ++ Proofs.Tryz.f4.resultTypes.toList).any (Tryz.pinned.checked.prog.wideKeysFrom ·)) = true := by kernel_rfl
theorem factInterpretTags22 : (Rows.interpretTagsUptoRow.plainKeys == Tryz.pinned.checked.prog.plainKeys) = true := by kernel_rfl
theorem factInterpretTags24 : Tryz.pinned.checked.prog.stopsHeard = true := by kernel_rfl
theorem factInterpretTags25 : Tryz.pinned.checked.prog.mayEnter = true := by kernel_rfl
theorem factInterpretTags26 : (Rows.interpretTagsUptoRow.lifted == Tryz.pinned.checked.prog.liftsFinal) = true := by kernel_rfl
theorem factInterpretTags27 : (Tryz.pinned.checked.prog.make == some Rows.interpretTagsUptoRow.make) = true := by kernel_rfl
theorem factInterpretTags29 : (Rows.interpretTagsUptoRow.pinned == Rows.interpretTagsUptoRow.pinnedBy) = true := by kernel_rfl
theorem and2 {a b : Bool} (h : a = true) (h' : b = true) : (a && b) = true := by rw [h, h']; rfl
theorem factsInterpretTags : joinedFacts Tryz.pinned.checked.prog 4 Proofs.Tryz.f4 (Rows.OpenSpec.upto Rows.interpretTagsSpec).bare Rows.interpretTagsUptoRow = true := and2 (and2 (and2 (and2 (and2 (and2 (and2 (and2 (and2 (and2 (and2 (and2 (and2 (and2 (and2 (and2 (and2 (and2 (and2 (and2 (and2 (and2 (and2 (and2 (and2 (and2 (and2 (and2 (and2 (and2 (and2 factInterpretTags0 factInterpretTags1) factInterpretTags2) factInterpretTags3) factInterpretTags4) (by kernel_rfl)) factInterpretTags6) (by kernel_rfl)) factInterpretTags8) factInterpretTags9) factInterpretTags10) factInterpretTags11) factInterpretTags12) factInterpretTags13) factInterpretTags14) factInterpretTags15) factInterpretTags16) factInterpretTags17) (by kernel_rfl)) (by kernel_rfl)) (by kernel_rfl)) (by kernel_rfl)) factInterpretTags22) (by kernel_rfl)) factInterpretTags24) factInterpretTags25) factInterpretTags26) factInterpretTags27) (by kernel_rfl)) factInterpretTags29) (by kernel_rfl)) (by kernel_rfl)
theorem instInterpretTags : Proofs.Tryz.f4.isInstance Tryz.pinned.checked.prog Rows.interpretTagsUptoRow.origin Rows.interpretTagsUptoRow.targs := of_decide_eq_true (by kernel_rfl)
theorem wrapInterpretTags : Proofs.Tryz.f4.isWrapper Tryz.pinned.checked.prog Rows.interpretTagsUptoRow.wrapper Rows.interpretTagsUptoRow.mainSum := by
 unfold Func.isWrapper
 first | (rw [if_pos (by decide +kernel)]; kernel_rfl) | (rw [if_neg (by decide +kernel)]; exact ⟨rfl, rfl⟩)
theorem goesInterpretTags : false = Rows.interpretTagsUptoRow.goesBy Tryz.pinned.checked.prog := by kernel_rfl
theorem wfInterpretTags : Rows.interpretTagsUptoRow.wfByText (Rows.OpenSpec.upto Rows.interpretTagsSpec) = true := by kernel_rfl
theorem mainInterpretTags : Tryz.pinned.checked.prog.mainIs = some (Rows.interpretTagsUptoCard.stood.harness.1, Rows.interpretTagsUptoCard.stood.harness.2.toList) := by kernel_rfl
theorem noStandInterpretTags (f : FuncId) (fn : Func) (hf : Tryz.pinned.checked.prog.funcNamed "midrange/midrangelaw14.InterpretTags" = some f) (hfn : Tryz.pinned.checked.prog.funcs[f]? = some fn) :
 false = Tryz.pinned.checked.prog.looks [] ∧ ∀ (j : Nat) t, fn.params[j]? = some t → Tryz.pinned.checked.prog.wantsStandIn t = false := by
 obtain rfl : f = 4 := Option.some.inj ((show Proofs.Tryz.prog.funcNamed "midrange/midrangelaw14.InterpretTags" = some 4 by kernel_rfl).symm.trans hf) |>.symm
 obtain rfl : fn = Proofs.Tryz.f4 := (Option.some.inj (Proofs.Tryz.func4.symm.trans hfn)).symm
 refine ⟨by kernel_rfl, fun j t ht => ?_⟩
 have h := (show (Proofs.Tryz.f4.params.all fun t => !Tryz.pinned.checked.prog.wantsStandIn t) = true by kernel_rfl)
 have h' := Array.all_eq_true.1 h j (Array.getElem?_eq_some_iff.1 ht).1
 rw [(Array.getElem?_eq_some_iff.1 ht).2] at h'
 simpa using h'
end
end Go.Proofs.YtmifhmfokbigiaaGreatDoor.M
