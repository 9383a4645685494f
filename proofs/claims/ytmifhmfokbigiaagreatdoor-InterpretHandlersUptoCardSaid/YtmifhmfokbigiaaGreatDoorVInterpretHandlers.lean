/- Closed facts of the row of InterpretHandlers. -/
import Derived.Test.YtmifhmfokbigiaaGreatDoorCards
import Derived.Test.YtmifhmfokbigiaaGreatDoorTie
import Derived.WalkKit
import Derived.ProofKit
import Derived.OpenShut
import Derived.Deep.DeepHandedRow
import Derived.Deep.DeepWitnessRowRef
import Derived.Lay
import Derived.MakeChecks
namespace Go.Proofs.YtmifhmfokbigiaaGreatDoor.M
open Go
set_option linter.unusedVariables false
set_option maxRecDepth 100000
noncomputable section
theorem factInterpretHandlers0 : Rows.interpretHandlersUptoRow.wf (OpenSpec.ofChange (Rows.OpenSpec.upto Rows.interpretHandlersSpec).bare) = true := by kernel_rfl
theorem factInterpretHandlers1 : laidOutB Tryz.pinned.checked.prog = true := by kernel_rfl
theorem factInterpretHandlers2 : mapsRowed Tryz.pinned.checked.prog = true := by kernel_rfl
theorem factInterpretHandlers3 : Proofs.Tryz.f5.params.all (Tryz.pinned.checked.prog.readableRec ·) = true := by kernel_rfl
theorem factInterpretHandlers4 : namedTie Tryz.pinned.checked.prog Rows.interpretHandlersUptoRow.named (Rows.OpenSpec.upto Rows.interpretHandlersSpec).bare.vars = true := by kernel_rfl
theorem factInterpretHandlers6 : (Tryz.pinned.checked.prog.stops == []) = true := by kernel_rfl
theorem factInterpretHandlers8 : (Tryz.pinned.checked.prog.stopKnobs == []) = true := by kernel_rfl
theorem factInterpretHandlers9 : (Rows.interpretHandlersUptoRow.inPlace == Tryz.pinned.checked.prog.inPlace 5) = true := by kernel_rfl
theorem factInterpretHandlers10 : (Rows.interpretHandlersUptoRow.unfollowed == Tryz.pinned.checked.prog.unfollowed 5) = true := by kernel_rfl
theorem factInterpretHandlers11 : (Rows.interpretHandlersUptoRow.recurses == Tryz.pinned.checked.prog.recurses 5) = true := by kernel_rfl
theorem factInterpretHandlers12 : (Rows.interpretHandlersUptoRow.named == Tryz.pinned.checked.prog.varsNamed 5) = true := by kernel_rfl
theorem factInterpretHandlers13 : (Rows.interpretHandlersUptoRow.maps == (Proofs.Tryz.f5.params.toList ++ (Rows.OpenSpec.upto Rows.interpretHandlersSpec).bare.plain.varTypes Tryz.pinned.checked.prog).any (Tryz.pinned.checked.prog.mapsRec ·)) = true := by kernel_rfl
theorem factInterpretHandlers14 : (Rows.interpretHandlersUptoRow.ifaces == (Proofs.Tryz.f5.params.toList ++ (Rows.OpenSpec.upto Rows.interpretHandlersSpec).bare.plain.varTypes Tryz.pinned.checked.prog).any (Tryz.pinned.checked.prog.ifacesRec ·)) = true := by kernel_rfl
theorem factInterpretHandlers15 : (Rows.interpretHandlersUptoRow.mapsOut == Tryz.pinned.checked.prog.mapsAmong Proofs.Tryz.f5.resultTypes.toList) = true := by kernel_rfl
theorem factInterpretHandlers16 : (Rows.interpretHandlersUptoRow.loops == (Proofs.Tryz.f5.params.toList ++ (Rows.OpenSpec.upto Rows.interpretHandlersSpec).bare.plain.varTypes Tryz.pinned.checked.prog).any (Tryz.pinned.checked.prog.loopsFrom ·)) = true := by kernel_rfl
theorem factInterpretHandlers17 : (Rows.interpretHandlersUptoRow.wideKeys == (Proofs.Tryz.f5.params.toList ++ (Rows.OpenSpec.upto Rows.interpretHandlersSpec).bare.plain.varTypes Tryz.pinned.checked.prog ++ Proofs.Tryz.f5.resultTypes.toList).any (Tryz.pinned.checked.prog.wideKeysFrom ·)) = true := by kernel_rfl
theorem factInterpretHandlers22 : (Rows.interpretHandlersUptoRow.plainKeys == Tryz.pinned.checked.prog.plainKeys) = true := by kernel_rfl
theorem factInterpretHandlers24 : Tryz.pinned.checked.prog.stopsHeard = true := by kernel_rfl
theorem factInterpretHandlers25 : Tryz.pinned.checked.prog.mayEnter = true := by kernel_rfl
theorem factInterpretHandlers26 : (Rows.interpretHandlersUptoRow.lifted == Tryz.pinned.checked.prog.liftsFinal) = true := by kernel_rfl
theorem factInterpretHandlers27 : (Tryz.pinned.checked.prog.make == some Rows.interpretHandlersUptoRow.make) = true := by kernel_rfl
theorem factInterpretHandlers29 : (Rows.interpretHandlersUptoRow.pinned == Rows.interpretHandlersUptoRow.pinnedBy) = true := by kernel_rfl
theorem and2 {a b : Bool} (h : a = true) (h' : b = true) : (a && b) = true := by rw [h, h']; rfl
theorem factsInterpretHandlers : joinedFacts Tryz.pinned.checked.prog 5 Proofs.Tryz.f5 (Rows.OpenSpec.upto Rows.interpretHandlersSpec).bare Rows.interpretHandlersUptoRow = true := and2 (and2 (and2 (and2 (and2 (and2 (and2 (and2 (and2 (and2 (and2 (and2 (and2 (and2 (and2 (and2 (and2 (and2 (and2 (and2 (and2 (and2 (and2 (and2 (and2 (and2 (and2 (and2 (and2 (and2 (and2 factInterpretHandlers0 factInterpretHandlers1) factInterpretHandlers2) factInterpretHandlers3) factInterpretHandlers4) (by kernel_rfl)) factInterpretHandlers6) (by kernel_rfl)) factInterpretHandlers8) factInterpretHandlers9) factInterpretHandlers10) factInterpretHandlers11) factInterpretHandlers12) factInterpretHandlers13) factInterpretHandlers14) factInterpretHandlers15) factInterpretHandlers16) factInterpretHandlers17) (by kernel_rfl)) (by kernel_rfl)) (by kernel_rfl)) (by kernel_rfl)) factInterpretHandlers22) (by kernel_rfl)) factInterpretHandlers24) factInterpretHandlers25) factInterpretHandlers26) factInterpretHandlers27) (by kernel_rfl)) factInterpretHandlers29) (by kernel_rfl)) (by kernel_rfl)
theorem instInterpretHandlers : Proofs.Tryz.f5.isInstance Tryz.pinned.checked.prog Rows.interpretHandlersUptoRow.origin Rows.interpretHandlersUptoRow.targs := of_decide_eq_true (by kernel_rfl)
theorem wrapInterpretHandlers : Proofs.Tryz.f5.isWrapper Tryz.pinned.checked.prog Rows.interpretHandlersUptoRow.wrapper Rows.interpretHandlersUptoRow.mainSum := by
 unfold Func.isWrapper
 first | (rw [if_pos (by decide +kernel)]; kernel_rfl) | (rw [if_neg (by decide +kernel)]; exact ⟨rfl, rfl⟩)
theorem goesInterpretHandlers : false = Rows.interpretHandlersUptoRow.goesBy Tryz.pinned.checked.prog := by kernel_rfl
theorem wfInterpretHandlers : Rows.interpretHandlersUptoRow.wfByText (Rows.OpenSpec.upto Rows.interpretHandlersSpec) = true := by kernel_rfl
theorem mainInterpretHandlers : Tryz.pinned.checked.prog.mainIs = some (Rows.interpretHandlersUptoCard.stood.harness.1, Rows.interpretHandlersUptoCard.stood.harness.2.toList) := by kernel_rfl
theorem noStandInterpretHandlers (f : FuncId) (fn : Func) (hf : Tryz.pinned.checked.prog.funcNamed "midrange/midrangelaw14.InterpretHandlers" = some f) (hfn : Tryz.pinned.checked.prog.funcs[f]? = some fn) :
 false = Tryz.pinned.checked.prog.looks [] ∧ ∀ (j : Nat) t, fn.params[j]? = some t → Tryz.pinned.checked.prog.wantsStandIn t = false := by
 obtain rfl : f = 5 := Option.some.inj ((show Proofs.Tryz.prog.funcNamed "midrange/midrangelaw14.InterpretHandlers" = some 5 by kernel_rfl).symm.trans hf) |>.symm
 obtain rfl : fn = Proofs.Tryz.f5 := (Option.some.inj (Proofs.Tryz.func5.symm.trans hfn)).symm
 refine ⟨by kernel_rfl, fun j t ht => ?_⟩
 have h := (show (Proofs.Tryz.f5.params.all fun t => !Tryz.pinned.checked.prog.wantsStandIn t) = true by kernel_rfl)
 have h' := Array.all_eq_true.1 h j (Array.getElem?_eq_some_iff.1 ht).1
 rw [(Array.getElem?_eq_some_iff.1 ht).2] at h'
 simpa using h'
end
end Go.Proofs.YtmifhmfokbigiaaGreatDoor.M
