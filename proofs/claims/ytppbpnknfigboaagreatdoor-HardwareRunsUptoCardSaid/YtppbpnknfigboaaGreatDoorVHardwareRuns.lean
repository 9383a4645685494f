/- Closed facts of the row of HardwareRuns. -/
import Derived.Test.YtppbpnknfigboaaGreatDoorCards
import Derived.Test.YtppbpnknfigboaaGreatDoorTie
import Derived.WalkKit
import Derived.ProofKit
import Derived.OpenShut
import Derived.Deep.DeepHandedRow
import Derived.Deep.DeepWitnessRowRef
import Derived.Lay
import Derived.MakeChecks
namespace Go.Proofs.YtppbpnknfigboaaGreatDoor.M
open Go
set_option linter.unusedVariables false
set_option maxRecDepth 100000
noncomputable section
theorem zwz : Rows.hardwareRunsUptoRow.wf (OpenSpec.ofChange (Rows.OpenSpec.upto Rows.hardwareRunsSpec).bare) = true := by kernel_rfl
theorem zwy : laidOutB Tryz.pinned.checked.prog = true := by kernel_rfl
theorem zwx : mapsRowed Tryz.pinned.checked.prog = true := by kernel_rfl
theorem zww : Proofs.Tryz.f4.params.all (Tryz.pinned.checked.prog.readableRec ·) = true := by kernel_rfl
theorem zwv : namedTie Tryz.pinned.checked.prog Rows.hardwareRunsUptoRow.named (Rows.OpenSpec.upto Rows.hardwareRunsSpec).bare.vars = true := by kernel_rfl
theorem zwu : (Tryz.pinned.checked.prog.stops == []) = true := by kernel_rfl
theorem zwt : (Tryz.pinned.checked.prog.stopKnobs == []) = true := by kernel_rfl
theorem zws : (Rows.hardwareRunsUptoRow.inPlace == Tryz.pinned.checked.prog.inPlace 4) = true := by kernel_rfl
theorem zvt : (Rows.hardwareRunsUptoRow.unfollowed == Tryz.pinned.checked.prog.unfollowed 4) = true := by kernel_rfl
theorem zvs : (Rows.hardwareRunsUptoRow.recurses == Tryz.pinned.checked.prog.recurses 4) = true := by kernel_rfl
theorem zvr : (Rows.hardwareRunsUptoRow.named == Tryz.pinned.checked.prog.varsNamed 4) = true := by kernel_rfl
theorem zvq : (Rows.hardwareRunsUptoRow.maps == (Proofs.Tryz.f4.params.toList ++ (Rows.OpenSpec.upto Rows.hardwareRunsSpec).bare.plain.varTypes Tryz.pinned.checked.prog).any (Tryz.pinned.checked.prog.mapsRec ·)) = true := by kernel_rfl
theorem zvp : (Rows.hardwareRunsUptoRow.ifaces == (Proofs.Tryz.f4.params.toList ++ (Rows.OpenSpec.upto Rows.hardwareRunsSpec).bare.plain.varTypes Tryz.pinned.checked.prog).any (Tryz.pinned.checked.prog.ifacesRec ·)) = true := by kernel_rfl
theorem zvo : (Rows.hardwareRunsUptoRow.mapsOut == Tryz.pinned.checked.prog.mapsAmong Proofs.Tryz.f4.resultTypes.toList) = true := by kernel_rfl
theorem zvn : (Rows.hardwareRunsUptoRow.loops == (Proofs.Tryz.f4.params.toList ++ (Rows.OpenSpec.upto Rows.hardwareRunsSpec).bare.plain.varTypes Tryz.pinned.checked.prog).any (Tryz.pinned.checked.prog.loopsFrom ·)) = true := by kernel_rfl
theorem zvm : (Rows.hardwareRunsUptoRow.wideKeys == (Proofs.Tryz.f4.params.toList ++ (Rows.OpenSpec.upto Rows.hardwareRunsSpec).bare.plain.varTypes Tryz.pinned.checked.prog ++ Proofs.Tryz.f4.resultTypes.toList).any (Tryz.pinned.checked.prog.wideKeysFrom ·)) = true := by kernel_rfl
theorem zvl : (Rows.hardwareRunsUptoRow.plainKeys == Tryz.pinned.checked.prog.plainKeys) = true := by kernel_rfl
theorem zvk : Tryz.pinned.checked.prog.stopsHeard = true := by kernel_rfl
theorem zvj : Tryz.pinned.checked.prog.mayEnter = true := by kernel_rfl
theorem zvi : (Rows.hardwareRunsUptoRow.lifted == Tryz.pinned.checked.prog.liftsFinal) = true := by kernel_rfl
theorem zvh : (Tryz.pinned.checked.prog.make == some Rows.hardwareRunsUptoRow.make) = true := by kernel_rfl
theorem zvg : (Rows.hardwareRunsUptoRow.pinned == Rows.hardwareRunsUptoRow.pinnedBy) = true := by kernel_rfl
theorem zgc {a b : Bool} (h : a = true) (h' : b = true) : (a && b) = true := by rw [h, h']; rfl
theorem zwr : joinedFacts Tryz.pinned.checked.prog 4 Proofs.Tryz.f4 (Rows.OpenSpec.upto Rows.hardwareRunsSpec).bare Rows.hardwareRunsUptoRow = true := zgc (zgc (zgc (zgc (zgc (zgc (zgc (zgc (zgc (zgc (zgc (zgc (zgc (zgc (zgc (zgc (zgc (zgc (zgc (zgc (zgc (zgc (zgc (zgc (zgc (zgc (zgc (zgc (zgc (zgc (zgc zwz zwy) zwx) zww) zwv) (by kernel_rfl)) zwu) (by kernel_rfl)) zwt) zws) zvt) zvs) zvr) zvq) zvp) zvo) zvn) zvm) (by kernel_rfl)) (by kernel_rfl)) (by kernel_rfl)) (by kernel_rfl)) zvl) (by kernel_rfl)) zvk) zvj) zvi) zvh) (by kernel_rfl)) zvg) (by kernel_rfl)) (by kernel_rfl)
theorem zyk : Proofs.Tryz.f4.isInstance Tryz.pinned.checked.prog Rows.hardwareRunsUptoRow.origin Rows.hardwareRunsUptoRow.targs := of_decide_eq_true (by kernel_rfl)
theorem zxo : Proofs.Tryz.f4.isWrapper Tryz.pinned.checked.prog Rows.hardwareRunsUptoRow.wrapper Rows.hardwareRunsUptoRow.mainSum := by
 unfold Func.isWrapper
 first | (rw [if_pos (by decide +kernel)]; kernel_rfl) | (rw [if_neg (by decide +kernel)]; exact ⟨rfl, rfl⟩)
theorem zyp : false = Rows.hardwareRunsUptoRow.goesBy Tryz.pinned.checked.prog := by kernel_rfl
theorem zz8 : Rows.hardwareRunsUptoRow.wfByText (Rows.OpenSpec.upto Rows.hardwareRunsSpec) = true := by kernel_rfl
theorem zyi : Tryz.pinned.checked.prog.mainIs = some (Rows.hardwareRunsUptoCard.stood.harness.1, Rows.hardwareRunsUptoCard.stood.harness.2.toList) := by kernel_rfl
theorem zt8 (f : FuncId) (fn : Func) (hf : Tryz.pinned.checked.prog.funcNamed "midrange/midrangelaw15.HardwareRuns" = some f) (hfn : Tryz.pinned.checked.prog.funcs[f]? = some fn) :
 false = Tryz.pinned.checked.prog.looks [] ∧ ∀ (j : Nat) t, fn.params[j]? = some t → Tryz.pinned.checked.prog.wantsStandIn t = false := by
 obtain rfl : f = 4 := Option.some.inj ((show Proofs.Tryz.prog.funcNamed "midrange/midrangelaw15.HardwareRuns" = some 4 by kernel_rfl).symm.trans hf) |>.symm
 obtain rfl : fn = Proofs.Tryz.f4 := (Option.some.inj (Proofs.Tryz.func4.symm.trans hfn)).symm
 refine ⟨by kernel_rfl, fun j t ht => ?_⟩
 have h := (show (Proofs.Tryz.f4.params.all fun t => !Tryz.pinned.checked.prog.wantsStandIn t) = true by kernel_rfl)
 have h' := Array.all_eq_true.1 h j (Array.getElem?_eq_some_iff.1 ht).1
 rw [(Array.getElem?_eq_some_iff.1 ht).2] at h'
 simpa using h'
end
end Go.Proofs.YtppbpnknfigboaaGreatDoor.M
