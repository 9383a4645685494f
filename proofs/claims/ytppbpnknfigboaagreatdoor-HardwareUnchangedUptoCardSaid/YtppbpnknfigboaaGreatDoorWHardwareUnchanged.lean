/- The row and the card of HardwareUnchanged, of the plain law. -/
import Derived.Test.YtppbpnknfigboaaGreatDoorF1
import Derived.Test.YtppbpnknfigboaaGreatDoorR
import Derived.Test.YtppbpnknfigboaaGreatDoorVHardwareUnchanged
import Derived.Test.YtppbpnknfigboaaGreatDoorCards
import Derived.Test.YtppbpnknfigboaaGreatDoorTie
import Derived.WalkKit
import Derived.ProofKit
import Derived.OpenShut
import Derived.Deep.DeepHandedRow
import Derived.Deep.DeepWitnessRowRef
import Derived.Lay
import Derived.MakeChecks
namespace Go.Proofs.YtppbpnknfigboaaGreatDoor.M
open Go Go.Amx
set_option linter.unusedVariables false
set_option maxRecDepth 100000
noncomputable section
def zge : Prop := ∀ (a0 : zI) (a1 : zF) (a2 : zA), Wft En 1048576 Ty.zI a0 → Wft En 1048576 Ty.zF a1 → Wft En 1048576 Ty.zA a2 → ∃ N, zak N a0 a1 a2 = some true
theorem zt7 : ownKnob Proofs.Tryz.prog.godebug = none := by kernel_rfl
theorem zqo (plain : zge) (H : Type) (enc : TypeId × Go.Value → H) (W : World) (base : Nat) (args : Array Go.Value) (ds gs : List (DataW H)) (before : List MemPlace)
 (hval : ∀ (j : Nat) t v, Proofs.Tryz.f11.params[j]? = some t → args[j]? = some v → Go.Value.okWide Proofs.Tryz.prog W .any base t v)
 (hW : DataW.Whole enc Proofs.Tryz.prog Proofs.Tryz.f11.params.toList Rows.hardwareUnchangedSpec.vars false W args.toList ds gs before) (hL : laidMetH Proofs.Tryz.prog Rows.hardwareUnchangedUptoRow.laid W) (hb : Rows.uptoBulkAll (ds ++ gs) ≤ 1048576) :
 Calls Proofs.Tryz.prog 11 args W fun e W' => ∃ v, e = .returned v ∧ Rows.hardwareUnchangedSpec.post enc Proofs.Tryz.prog Proofs.Tryz.f11 false true false false W args v W' :=
 z1p (C := C0) zwy (bt := 4) (ps := [(23, Ty.zI), (30, Ty.zF), (71, Ty.zA)]) rfl rfl Proofs.Tryz.underlying4 (all_cons zaeh (all_cons zaeg (all_cons zaef zc3))) (fun {H} => Rows.uptoBulk (H := H)) zac8 1048576
  (fun es h1 h2 => by
   have k0 : es.map (·.ty) = [Ty.zI, Ty.zF, Ty.zA] := h1; obtain ⟨a0, es0, e0, k1⟩ := zym k0; subst e0; obtain ⟨a1, es1, e1, k2⟩ := zym k1; subst e1; obtain ⟨a2, es2, e2, k3⟩ := zym k2; subst e2; have kn := List.map_eq_nil_iff.1 k3; subst kn; obtain ⟨N, hN⟩ := plain a0 a1 a2 (h2 _ (.head _)) (h2 _ (.tail _ (.head _))) (h2 _ (.tail _ (.tail _ (.head _)))); exact ⟨(zak.k N).t, true, zil.ctx (C := K0) (C' := C0) rfl rfl rfl (zak.k N).m, rfl, hN, rfl⟩)
  rfl (fun ds h => by
   match ds, h with
   | [d1, d2, d3], _ => exact ⟨rfl, rfl, rfl⟩) hval hW (zaex zjs (globs := globs) rfl (laid := Rows.hardwareUnchangedUptoRow.laid) (by kernel_rfl) (by rw [MakeChecks.laidMetH_plain _ _ _ (by kernel_rfl)] at hL; exact hL))
  (fun d hd => Nat.le_trans (zw0 (ds ++ gs) d (List.mem_append_left _ hd)) hb)
theorem zsp (os : Os) {H : Type} (enc : TypeId × Go.Value → H) : ∃ zn0, DataW.whole enc Proofs.Tryz.prog ((World.laidAll Proofs.Tryz.prog os Rows.hardwareUnchangedUptoRow.laid).forCall (fun _ _ => 0) ⟨#[], #[Go.Value.agg #[.int .i64 0, .bool false, .bool false], Go.Value.agg #[.string ⟨#[]⟩, .slice none 0 0, .slice none 0 0, .slice none 0 0], Go.Value.agg #[.slice none 0 0, .int .i64 0, .string ⟨#[]⟩, .slice none 0 0, .int .i64 0, .slice none 0 0, .slice none 0 0, .int .i64 0, .int .i64 0, .int .i64 0, .int .i64 0]], []⟩).memory Proofs.Tryz.f11.params.toList Rows.hardwareUnchangedSpec.vars false (#[Go.Value.agg #[.int .i64 0, .bool false, .bool false], Go.Value.agg #[.string ⟨#[]⟩, .slice none 0 0, .slice none 0 0, .slice none 0 0], Go.Value.agg #[.slice none 0 0, .int .i64 0, .string ⟨#[]⟩, .slice none 0 0, .int .i64 0, .slice none 0 0, .slice none 0 0, .int .i64 0, .int .i64 0, .int .i64 0, .int .i64 0]] : Array Go.Value).toList 12 = some ([.agg [.lit (.int .i64 0), .lit (.bool false), .lit (.bool false)], .agg [.agg [.lit (.string []), .nil], .nil, .nil], .agg [.nil, .lit (.int .i64 0), .agg [.lit (.string []), .nil], .lit (.int .i64 0), .nil, .nil, .lit (.int .i64 0), .lit (.int .i64 0), .lit (.int .i64 0), .lit (.int .i64 0)]], [], zn0) :=
 ⟨[], by kernel_rfl⟩
theorem zrt (plain : zge) (os : Os) (started : os.Started) (H : Type) (enc : TypeId × Go.Value → H) (F : Stop.Interp) :
 ReturnsInHanded {} Proofs.Tryz.checked os 11 .any ((Rows.OpenSpec.upto Rows.hardwareUnchangedSpec).preRow enc Proofs.Tryz.prog Proofs.Tryz.f11 Rows.hardwareUnchangedUptoRow.domain false Rows.hardwareUnchangedUptoRow.laid) (((Rows.OpenSpec.upto Rows.hardwareUnchangedSpec).at F).post enc Proofs.Tryz.prog Proofs.Tryz.f11 false true false false) := by
 obtain ⟨zn0, hx⟩ := zsp os enc
 refine returnsInHanded_of_row (C := Proofs.Tryz.checked) (s := Rows.OpenSpec.upto Rows.hardwareUnchangedSpec) zt7 started (by kernel_rfl) Proofs.Tryz.func11
  (witness_row_atRef (enc := enc) (C := Proofs.Tryz.checked) false (World.laidAll Proofs.Tryz.prog os Rows.hardwareUnchangedUptoRow.laid) #[Go.Value.agg #[.int .i64 0, .bool false, .bool false], Go.Value.agg #[.string ⟨#[]⟩, .slice none 0 0, .slice none 0 0, .slice none 0 0], Go.Value.agg #[.slice none 0 0, .int .i64 0, .string ⟨#[]⟩, .slice none 0 0, .int .i64 0, .slice none 0 0, .slice none 0 0, .int .i64 0, .int .i64 0, .int .i64 0, .int .i64 0]] (World.laidAll_os _ _ _) (by kernel_rfl) (by kernel_rfl) (by kernel_rfl)
   (OpenSpec.preRow_of_cond 12 hx (by kernel_rfl) (fun k hk => by cases hk; kernel_rfl) (by kernel_rfl) (laidMet_laidAll #[Go.Value.agg #[.int .i64 0, .bool false, .bool false], Go.Value.agg #[.string ⟨#[]⟩, .slice none 0 0, .slice none 0 0, .slice none 0 0], Go.Value.agg #[.slice none 0 0, .int .i64 0, .string ⟨#[]⟩, .slice none 0 0, .int .i64 0, .slice none 0 0, .slice none 0 0, .int .i64 0, .int .i64 0, .int .i64 0, .int .i64 0]] (by kernel_rfl) (by kernel_rfl)))) ?_
 intro W base args ds gs before hval hW _ hcond _ hL _ _
 exact zqo plain H enc W base args ds gs before hval hW hL (of_decide_eq_true (hcond _ rfl))
theorem zs2 (plain : zge) : Rows.HardwareUnchangedUptoSaid :=
 OpenClaim.holds_of_cond 11 Proofs.Tryz.f11 rfl rfl rfl rfl rfl rfl rfl ⟨rfl, rfl, rfl, rfl, rfl⟩ rfl rfl rfl rfl rfl (by kernel_rfl) Proofs.Tryz.func11 factsHardwareUnchanged instHardwareUnchanged wrapHardwareUnchanged
  (fun os started H enc _ F => by rw [OpenClaim.pre_eq_preRow]; exact zrt plain os started H enc F)
theorem cardHardwareUnchanged (plain : zge) : Rows.HardwareUnchangedUptoCardSaid :=
 Claim7.holds_tied_plain_at .later [] _ _ _ _ (zs2 plain) (fun _ h => by cases h) wfHardwareUnchanged (fun _ h => by cases h) hardwareUnchangedUpto_row_tie rfl ⟨rfl, rfl⟩ mainHardwareUnchanged rfl noStandHardwareUnchanged goesHardwareUnchanged
end
end Go.Proofs.YtppbpnknfigboaaGreatDoor.M
