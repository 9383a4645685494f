/- Closed facts of the row of HardwarePorts. -/
import Derived.Test.YtppbpnknfigboaaGreatDoorCards
import Derived.Test.YtppbpnknfigboaaGreatDoorTie
import Derived.WalkKit
import Derived.ProofKit
import Derived.OpenShut
import Derived.Deep.DeepHandedRow
import Derived.Deep.DeepWitnessRowRef
import Derived.Lay
import Derived.MakeChecks
namespace Go.Proofs.YtppbpnknfigboaaGreatDoor.M
open Go
set_option linter.unusedVariables false
set_option maxRecDepth 100000
theorem factHardwarePorts0 : Rows.hardwarePortsUptoRow.wf (OpenSpec.ofChange (Rows.OpenSpec.upto Rows.hardwarePortsSpec).bare) = true := by kernel_rfl
theorem factHardwarePorts1 : laidOutB Tryz.pinned.checked.prog = true := by kernel_rfl
theorem factHardwarePorts2 : mapsRowed Tryz.pinned.checked.prog = true := by kernel_rfl
theorem factHardwarePorts3 : Proofs.Tryz.f5.params.all (Tryz.pinned.checked.prog.readableRec ·) = true := by kernel_rfl
theorem factHardwarePorts4 : namedTie Tryz.pinned.checked.prog Rows.hardwarePortsUptoRow.named (Rows.OpenSpec.upto Rows.hardwarePortsSpec).bare.vars = true := by kernel_rfl
theorem factHardwarePorts6 : (Tryz.pinned.checked.prog.stops == []) = true := by kernel_rfl
theorem factHardwarePorts8 : (Tryz.pinned.checked.prog.stopKnobs == []) = true := by kernel_rfl
theorem factHardwarePorts9 : (Rows.hardwarePortsUptoRow.inPlace == Tryz.pinned.checked.prog.inPlace 5) = true := by kernel_rfl
theorem factHardwarePorts10 : (Rows.hardwarePortsUptoRow.unfollowed == Tryz.pinned.checked.prog.unfollowed 5) = true := by kernel_rfl
theorem factHardwarePorts11 : (Rows.hardwarePortsUptoRow.recurses == Tryz.pinned.checked.prog.recurses 5) = true := by kernel_rfl
theorem factHardwarePorts12 : (Rows.hardwarePortsUptoRow.named == Tryz.pinned.checked.prog.varsNamed 5) = true := by kernel_rfl
theorem factHardwarePorts13 : (Rows.hardwarePortsUptoRow.maps == (Proofs.Tryz.f5.params.toList ++ (Rows.OpenSpec.upto Rows.hardwarePortsSpec).bare.plain.varTypes Tryz.pinned.checked.prog).any (Tryz.pinned.checked.prog.mapsRec ·)) = true := by kernel_rfl
theorem factHardwarePorts14 : (Rows.hardwarePortsUptoRow.ifaces == (Proofs.Tryz.f5.params.toList ++ (Rows.OpenSpec.upto Rows.hardwarePortsSpec).bare.plain.varTypes Tryz.pinned.checked.prog).any (Tryz.pinned.checked.prog.ifacesRec ·)) = true := by kernel_rfl
theorem factHardwarePorts15 : (Rows.hardwarePortsUptoRow.mapsOut == Tryz.pinned.checked.prog.mapsAmong Proofs.Tryz.f5.resultTypes.toList) = true := by kernel_rfl
theorem factHardwarePorts16 : (Rows.hardwarePortsUptoRow.loops == (Proofs.Tryz.f5.params.toList ++ (Rows.OpenSpec.upto Rows.hardwarePortsSpec).bare.plain.varTypes Tryz.pinned.checked.prog).any (Tryz.pinned.checked.prog.loopsFrom ·)) = true := by kernel_rfl
theorem factHardwarePorts17 : (Rows.hardwarePortsUptoRow.wideKeys == (Proofs.Tryz.f5.params.toList ++ (Rows.OpenSpec.upto Rows.hardwarePortsSpec).bare.plain.varTypes Tryz.pinned.checked.prog ++ Proofs.Tryz.f5.resultTypes.toList).any (Tryz.pinned.checked.prog.wideKeysFrom ·)) = true := by kernel_rfl
theorem factHardwarePorts22 : (Rows.hardwarePortsUptoRow.plainKeys == Tryz.pinned.checked.prog.plainKeys) = true := by kernel_rfl
theorem factHardwarePorts24 : Tryz.pinned.checked.prog.stopsHeard = true := by kernel_rfl
theorem factHardwarePorts25 : Tryz.pinned.checked.prog.mayEnter = true := by kernel_rfl
theorem factHardwarePorts26 : (Rows.hardwarePortsUptoRow.lifted == Tryz.pinned.checked.prog.liftsFinal) = true := by kernel_rfl
theorem factHardwarePorts27 : (Tryz.pinned.checked.prog.make == some Rows.hardwarePortsUptoRow.make) = true := by kernel_rfl
theorem factHardwarePorts29 : (Rows.hardwarePortsUptoRow.pinned == Rows.hardwarePortsUptoRow.pinnedBy) = true := by kernel_rfl
theorem and2 {a b : Bool} (h : a = true) (h' : b = true) : (a && b) = true := by rw [h, h']; rfl
theorem factsHardwarePorts : joinedFacts Tryz.pinned.checked.prog 5 Proofs.Tryz.f5 (Rows.OpenSpec.upto Rows.hardwarePortsSpec).bare Rows.hardwarePortsUptoRow = true := and2 (and2 (and2 (and2 (and2 (and2 (and2 (and2 (and2 (and2 (and2 (and2 (and2 (and2 (and2 (and2 (and2 (and2 (and2 (and2 (and2 (and2 (and2 (and2 (and2 (and2 (and2 (and2 (and2 (and2 (and2 factHardwarePorts0 factHardwarePorts1) factHardwarePorts2) factHardwarePorts3) factHardwarePorts4) (by kernel_rfl)) factHardwarePorts6) (by kernel_rfl)) factHardwarePorts8) factHardwarePorts9) factHardwarePorts10) factHardwarePorts11) factHardwarePorts12) factHardwarePorts13) factHardwarePorts14) factHardwarePorts15) factHardwarePorts16) factHardwarePorts17) (by kernel_rfl)) (by kernel_rfl)) (by kernel_rfl)) (by kernel_rfl)) factHardwarePorts22) (by kernel_rfl)) factHardwarePorts24) factHardwarePorts25) factHardwarePorts26) factHardwarePorts27) (by kernel_rfl)) factHardwarePorts29) (by kernel_rfl)) (by kernel_rfl)
theorem instHardwarePorts : Proofs.Tryz.f5.isInstance Tryz.pinned.checked.prog Rows.hardwarePortsUptoRow.origin Rows.hardwarePortsUptoRow.targs := of_decide_eq_true (by kernel_rfl)
theorem wrapHardwarePorts : Proofs.Tryz.f5.isWrapper Tryz.pinned.checked.prog Rows.hardwarePortsUptoRow.wrapper Rows.hardwarePortsUptoRow.mainSum := by
  unfold Func.isWrapper
  first | (rw [if_pos (by decide +kernel)]; kernel_rfl) | (rw [if_neg (by decide +kernel)]; exact ⟨rfl, rfl⟩)
theorem goesHardwarePorts : false = Rows.hardwarePortsUptoRow.goesBy Tryz.pinned.checked.prog := by kernel_rfl
theorem wfHardwarePorts : Rows.hardwarePortsUptoRow.wfByText (Rows.OpenSpec.upto Rows.hardwarePortsSpec) = true := by kernel_rfl
theorem mainHardwarePorts : Tryz.pinned.checked.prog.mainIs = some (Rows.hardwarePortsUptoCard.stood.harness.1, Rows.hardwarePortsUptoCard.stood.harness.2.toList) := by kernel_rfl
theorem noStandHardwarePorts (f : FuncId) (fn : Func) (hf : Tryz.pinned.checked.prog.funcNamed "midrange/midrangelaw15.HardwarePorts" = some f) (hfn : Tryz.pinned.checked.prog.funcs[f]? = some fn) :
    false = Tryz.pinned.checked.prog.looks [] ∧ ∀ (j : Nat) t, fn.params[j]? = some t → Tryz.pinned.checked.prog.wantsStandIn t = false := by
  obtain rfl : f = 5 := Option.some.inj ((show Proofs.Tryz.prog.funcNamed "midrange/midrangelaw15.HardwarePorts" = some 5 by kernel_rfl).symm.trans hf) |>.symm
  obtain rfl : fn = Proofs.Tryz.f5 := (Option.some.inj (Proofs.Tryz.func5.symm.trans hfn)).symm
  refine ⟨by kernel_rfl, fun j t ht => ?_⟩
  have h := (show (Proofs.Tryz.f5.params.all fun t => !Tryz.pinned.checked.prog.wantsStandIn t) = true by kernel_rfl)
  have h' := Array.all_eq_true.1 h j (Array.getElem?_eq_some_iff.1 ht).1
  rw [(Array.getElem?_eq_some_iff.1 ht).2] at h'
  simpa using h'
end Go.Proofs.YtppbpnknfigboaaGreatDoor.M
