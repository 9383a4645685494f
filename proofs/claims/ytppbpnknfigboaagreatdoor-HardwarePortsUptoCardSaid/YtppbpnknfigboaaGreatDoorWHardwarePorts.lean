/- The row and the card of HardwarePorts, of the plain law. -/
import Derived.Test.YtppbpnknfigboaaGreatDoorF3
import Derived.Test.YtppbpnknfigboaaGreatDoorR
import Derived.Test.YtppbpnknfigboaaGreatDoorVHardwarePorts
import Derived.Test.YtppbpnknfigboaaGreatDoorCards
import Derived.Test.YtppbpnknfigboaaGreatDoorTie
import Derived.WalkKit
import Derived.ProofKit
import Derived.OpenShut
import Derived.Deep.DeepHandedRow
import Derived.Deep.DeepWitnessRowRef
import Derived.Lay
import Derived.MakeChecks
namespace Go.Proofs.YtppbpnknfigboaaGreatDoor.M
open Go Go.Amx
set_option linter.unusedVariables false
set_option maxRecDepth 100000
/-- What is left to show: the plain law. -/
noncomputable def PlainHardwarePorts : Prop := ∀ (a0 : HwModel) (a1 : HwCode), Wft En 1048576 Ty.HwModel a0 → Wft En 1048576 Ty.HwCode a1 → ∃ N, law15_HardwarePorts N a0 a1 = some true
theorem ownHardwarePorts : ownKnob Proofs.Tryz.prog.godebug = none := by kernel_rfl
theorem contractHardwarePorts (plain : PlainHardwarePorts) (H : Type) (enc : TypeId × Go.Value → H) (W : World) (base : Nat) (args : Array Go.Value) (ds gs : List (DataW H)) (before : List MemPlace)
    (hval : ∀ (j : Nat) t v, Proofs.Tryz.f5.params[j]? = some t → args[j]? = some v → Go.Value.okWide Proofs.Tryz.prog W .any base t v)
    (hW : DataW.Whole enc Proofs.Tryz.prog Proofs.Tryz.f5.params.toList Rows.hardwarePortsSpec.vars false W args.toList ds gs before) (hL : laidMetH Proofs.Tryz.prog Rows.hardwarePortsUptoRow.laid W) (hb : Rows.uptoBulkAll (ds ++ gs) ≤ 1048576) :
    Calls Proofs.Tryz.prog 5 args W fun e W' => ∃ v, e = .returned v ∧ Rows.hardwarePortsSpec.post enc Proofs.Tryz.prog Proofs.Tryz.f5 false true false false W args v W' :=
  post_of_meets (C := C0) claws (bt := 4) (ps := [(23, Ty.HwModel), (30, Ty.HwCode)]) rfl rfl Proofs.Tryz.underlying4 (all_cons par_23 (all_cons par_30 all_nil)) (fun {H} => Rows.uptoBulk (H := H)) bulk_ok 1048576
    (fun es h1 h2 => by
      have k0 : es.map (·.ty) = [Ty.HwModel, Ty.HwCode] := h1
      obtain ⟨a0, es0, e0, k1⟩ := dyn_cons k0
      subst e0
      obtain ⟨a1, es1, e1, k2⟩ := dyn_cons k1
      subst e1
      have kn := List.map_eq_nil_iff.1 k2
      subst kn
      obtain ⟨N, hN⟩ := plain a0 a1 (h2 _ (.head _)) (h2 _ (.tail _ (.head _)))
      exact ⟨law15_HardwarePorts.ct N, true, Meets.ctx (C := law15_HardwarePorts.cx N) (C' := C0) rfl rfl rfl (law15_HardwarePorts.meets N), rfl, hN, rfl⟩)
    rfl (fun ds h => by
      match ds, h with
      | [d1, d2], _ => exact ⟨rfl, rfl, rfl⟩) hval hW (gok_of elaws (globs := globs) rfl (laid := Rows.hardwarePortsUptoRow.laid) (by kernel_rfl) (by rw [MakeChecks.laidMetH_plain _ _ _ (by kernel_rfl)] at hL; exact hL))
    (fun d hd => Nat.le_trans (bulk_le (ds ++ gs) d (List.mem_append_left _ hd)) hb)
theorem readsHardwarePorts (os : Os) {H : Type} (enc : TypeId × Go.Value → H) : ∃ places, DataW.whole enc Proofs.Tryz.prog ((World.laidAll Proofs.Tryz.prog os Rows.hardwarePortsUptoRow.laid).forCall (fun _ _ => 0) ⟨#[], #[Go.Value.agg #[.int .i64 0, .bool false, .bool false], Go.Value.agg #[.string ⟨#[]⟩, .slice none 0 0, .slice none 0 0, .slice none 0 0]], []⟩).memory Proofs.Tryz.f5.params.toList Rows.hardwarePortsSpec.vars false (#[Go.Value.agg #[.int .i64 0, .bool false, .bool false], Go.Value.agg #[.string ⟨#[]⟩, .slice none 0 0, .slice none 0 0, .slice none 0 0]] : Array Go.Value).toList 12 = some ([.agg [.lit (.int .i64 0), .lit (.bool false), .lit (.bool false)], .agg [.agg [.lit (.string []), .nil], .nil, .nil]], [], places) :=
  ⟨[], by kernel_rfl⟩
theorem liftedHardwarePorts (plain : PlainHardwarePorts) (os : Os) (started : os.Started) (H : Type) (enc : TypeId × Go.Value → H) (F : Stop.Interp) :
    ReturnsInHanded {} Proofs.Tryz.checked os 5 .any ((Rows.OpenSpec.upto Rows.hardwarePortsSpec).preRow enc Proofs.Tryz.prog Proofs.Tryz.f5 Rows.hardwarePortsUptoRow.domain false Rows.hardwarePortsUptoRow.laid) (((Rows.OpenSpec.upto Rows.hardwarePortsSpec).at F).post enc Proofs.Tryz.prog Proofs.Tryz.f5 false true false false) := by
  obtain ⟨places, hx⟩ := readsHardwarePorts os enc
  refine returnsInHanded_of_row (C := Proofs.Tryz.checked) (s := Rows.OpenSpec.upto Rows.hardwarePortsSpec) ownHardwarePorts started (by kernel_rfl) Proofs.Tryz.func5
    (witness_row_atRef (enc := enc) (C := Proofs.Tryz.checked) false (World.laidAll Proofs.Tryz.prog os Rows.hardwarePortsUptoRow.laid) #[Go.Value.agg #[.int .i64 0, .bool false, .bool false], Go.Value.agg #[.string ⟨#[]⟩, .slice none 0 0, .slice none 0 0, .slice none 0 0]] (World.laidAll_os _ _ _) (by kernel_rfl) (by kernel_rfl) (by kernel_rfl)
      (OpenSpec.preRow_of_cond 12 hx (by kernel_rfl) (fun k hk => by cases hk; kernel_rfl) (by kernel_rfl) (laidMet_laidAll #[Go.Value.agg #[.int .i64 0, .bool false, .bool false], Go.Value.agg #[.string ⟨#[]⟩, .slice none 0 0, .slice none 0 0, .slice none 0 0]] (by kernel_rfl) (by kernel_rfl)))) ?_
  intro W base args ds gs before hval hW _ hcond _ hL _ _
  exact contractHardwarePorts plain H enc W base args ds gs before hval hW hL (of_decide_eq_true (hcond _ rfl))
theorem saidHardwarePorts (plain : PlainHardwarePorts) : Rows.HardwarePortsUptoSaid :=
  OpenClaim.holds_of_cond 5 Proofs.Tryz.f5 rfl rfl rfl rfl rfl rfl rfl ⟨rfl, rfl, rfl, rfl, rfl⟩ rfl rfl rfl rfl rfl (by kernel_rfl) Proofs.Tryz.func5 factsHardwarePorts instHardwarePorts wrapHardwarePorts
    (fun os started H enc _ F => by rw [OpenClaim.pre_eq_preRow]; exact liftedHardwarePorts plain os started H enc F)
theorem cardHardwarePorts (plain : PlainHardwarePorts) : Rows.HardwarePortsUptoCardSaid :=
  Claim7.holds_tied_plain_at .later [] _ _ _ _ (saidHardwarePorts plain) (fun _ h => by cases h) wfHardwarePorts (fun _ h => by cases h) hardwarePortsUpto_row_tie rfl ⟨rfl, rfl⟩ mainHardwarePorts rfl noStandHardwarePorts goesHardwarePorts
end Go.Proofs.YtppbpnknfigboaaGreatDoor.M
