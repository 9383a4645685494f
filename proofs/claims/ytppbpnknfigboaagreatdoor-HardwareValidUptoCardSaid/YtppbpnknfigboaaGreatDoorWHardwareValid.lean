/- The row and the card of HardwareValid, of the plain law. -/
import Derived.Test.YtppbpnknfigboaaGreatDoorF1
import Derived.Test.YtppbpnknfigboaaGreatDoorR
import Derived.Test.YtppbpnknfigboaaGreatDoorVHardwareValid
import Derived.Test.YtppbpnknfigboaaGreatDoorCards
import Derived.Test.YtppbpnknfigboaaGreatDoorTie
import Derived.WalkKit
import Derived.ProofKit
import Derived.OpenShut
import Derived.Deep.DeepHandedRow
import Derived.Deep.DeepWitnessRowRef
import Derived.Lay
import Derived.MakeChecks
namespace Go.Proofs.YtppbpnknfigboaaGreatDoor.M
open Go Go.Amx
set_option linter.unusedVariables false
set_option maxRecDepth 100000
noncomputable section
def zh1 : Prop := ∀ (a0 : zI) (a1 : zF), Wft En 1048576 Ty.zI a0 → Wft En 1048576 Ty.zF a1 → ∃ N, za2 N a0 a1 = some true
theorem zx6 : ownKnob Proofs.Tryz.prog.godebug = none := by kernel_rfl
theorem zs3 (plain : zh1) (H : Type) (enc : TypeId × Go.Value → H) (W : World) (base : Nat) (args : Array Go.Value) (ds gs : List (DataW H)) (before : List MemPlace)
 (hval : ∀ (j : Nat) t v, Proofs.Tryz.f10.params[j]? = some t → args[j]? = some v → Go.Value.okWide Proofs.Tryz.prog W .any base t v)
 (hW : DataW.Whole enc Proofs.Tryz.prog Proofs.Tryz.f10.params.toList Rows.hardwareValidSpec.vars false W args.toList ds gs before) (hL : laidMetH Proofs.Tryz.prog Rows.hardwareValidUptoRow.laid W) (hb : Rows.uptoBulkAll (ds ++ gs) ≤ 1048576) :
 Calls Proofs.Tryz.prog 10 args W fun e W' => ∃ v, e = .returned v ∧ Rows.hardwareValidSpec.post enc Proofs.Tryz.prog Proofs.Tryz.f10 false true false false W args v W' :=
 z1h (C := C0) zwo (bt := 4) (ps := [(23, Ty.zI), (30, Ty.zF)]) rfl rfl Proofs.Tryz.underlying4 (all_cons zad5 (all_cons zad4 zdg)) (fun {H} => Rows.uptoBulk (H := H)) zacw 1048576
  (fun es h1 h2 => by
   have k0 : es.map (·.ty) = [Ty.zI, Ty.zF] := h1; obtain ⟨a0, es0, e0, k1⟩ := z34 k0; subst e0; obtain ⟨a1, es1, e1, k2⟩ := z34 k1; subst e1; have kn := List.map_eq_nil_iff.1 k2; subst kn; obtain ⟨N, hN⟩ := plain a0 a1 (h2 _ (.head _)) (h2 _ (.tail _ (.head _))); exact ⟨(za2.k N).t, true, zii.ctx (C := K0) (C' := C0) rfl rfl rfl (za2.k N).m, rfl, hN, rfl⟩)
  rfl (fun ds h => by
   match ds, h with
   | [d1, d2], _ => exact ⟨rfl, rfl, rfl⟩) hval hW (zaeo zl6 (globs := globs) rfl (laid := Rows.hardwareValidUptoRow.laid) (by kernel_rfl) (by rw [MakeChecks.laidMetH_plain _ _ _ (by kernel_rfl)] at hL; exact hL))
  (fun d hd => Nat.le_trans (zwq (ds ++ gs) d (List.mem_append_left _ hd)) hb)
theorem zvb (os : Os) {H : Type} (enc : TypeId × Go.Value → H) : ∃ znw, DataW.whole enc Proofs.Tryz.prog ((World.laidAll Proofs.Tryz.prog os Rows.hardwareValidUptoRow.laid).forCall (fun _ _ => 0) ⟨#[], #[Go.Value.agg #[.int .i64 0, .bool false, .bool false], Go.Value.agg #[.string ⟨#[]⟩, .slice none 0 0, .slice none 0 0, .slice none 0 0]], []⟩).memory Proofs.Tryz.f10.params.toList Rows.hardwareValidSpec.vars false (#[Go.Value.agg #[.int .i64 0, .bool false, .bool false], Go.Value.agg #[.string ⟨#[]⟩, .slice none 0 0, .slice none 0 0, .slice none 0 0]] : Array Go.Value).toList 12 = some ([.agg [.lit (.int .i64 0), .lit (.bool false), .lit (.bool false)], .agg [.agg [.lit (.string []), .nil], .nil, .nil]], [], znw) :=
 ⟨[], by kernel_rfl⟩
theorem zuq (plain : zh1) (os : Os) (started : os.Started) (H : Type) (enc : TypeId × Go.Value → H) (F : Stop.Interp) :
 ReturnsInHanded {} Proofs.Tryz.checked os 10 .any ((Rows.OpenSpec.upto Rows.hardwareValidSpec).preRow enc Proofs.Tryz.prog Proofs.Tryz.f10 Rows.hardwareValidUptoRow.domain false Rows.hardwareValidUptoRow.laid) (((Rows.OpenSpec.upto Rows.hardwareValidSpec).at F).post enc Proofs.Tryz.prog Proofs.Tryz.f10 false true false false) := by
 obtain ⟨znw, hx⟩ := zvb os enc
 refine returnsInHanded_of_row (C := Proofs.Tryz.checked) (s := Rows.OpenSpec.upto Rows.hardwareValidSpec) zx6 started (by kernel_rfl) Proofs.Tryz.func10
  (witness_row_atRef (enc := enc) (C := Proofs.Tryz.checked) false (World.laidAll Proofs.Tryz.prog os Rows.hardwareValidUptoRow.laid) #[Go.Value.agg #[.int .i64 0, .bool false, .bool false], Go.Value.agg #[.string ⟨#[]⟩, .slice none 0 0, .slice none 0 0, .slice none 0 0]] (World.laidAll_os _ _ _) (by kernel_rfl) (by kernel_rfl) (by kernel_rfl)
   (OpenSpec.preRow_of_cond 12 hx (by kernel_rfl) (fun k hk => by cases hk; kernel_rfl) (by kernel_rfl) (laidMet_laidAll #[Go.Value.agg #[.int .i64 0, .bool false, .bool false], Go.Value.agg #[.string ⟨#[]⟩, .slice none 0 0, .slice none 0 0, .slice none 0 0]] (by kernel_rfl) (by kernel_rfl)))) ?_
 intro W base args ds gs before hval hW _ hcond _ hL _ _
 exact zs3 plain H enc W base args ds gs before hval hW hL (of_decide_eq_true (hcond _ rfl))
theorem zwt (plain : zh1) : Rows.HardwareValidUptoSaid :=
 OpenClaim.holds_of_cond 10 Proofs.Tryz.f10 rfl rfl rfl rfl rfl rfl rfl ⟨rfl, rfl, rfl, rfl, rfl⟩ rfl rfl rfl rfl rfl (by kernel_rfl) Proofs.Tryz.func10 factsHardwareValid instHardwareValid wrapHardwareValid
  (fun os started H enc _ F => by rw [OpenClaim.pre_eq_preRow]; exact zuq plain os started H enc F)
theorem cardHardwareValid (plain : zh1) : Rows.HardwareValidUptoCardSaid :=
 Claim7.holds_tied_plain_at .later [] _ _ _ _ (zwt plain) (fun _ h => by cases h) wfHardwareValid (fun _ h => by cases h) hardwareValidUpto_row_tie rfl ⟨rfl, rfl⟩ mainHardwareValid rfl noStandHardwareValid goesHardwareValid
end
end Go.Proofs.YtppbpnknfigboaaGreatDoor.M
