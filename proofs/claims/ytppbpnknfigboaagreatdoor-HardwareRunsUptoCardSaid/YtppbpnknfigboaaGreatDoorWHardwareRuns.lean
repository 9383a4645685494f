/- The row and the card of HardwareRuns, of the plain law. -/
import Derived.Test.YtppbpnknfigboaaGreatDoorF2
import Derived.Test.YtppbpnknfigboaaGreatDoorR
import Derived.Test.YtppbpnknfigboaaGreatDoorVHardwareRuns
import Derived.Test.YtppbpnknfigboaaGreatDoorCards
import Derived.Test.YtppbpnknfigboaaGreatDoorTie
import Derived.WalkKit
import Derived.ProofKit
import Derived.OpenShut
import Derived.Deep.DeepHandedRow
import Derived.Deep.DeepWitnessRowRef
import Derived.Lay
import Derived.MakeChecks
namespace Go.Proofs.YtppbpnknfigboaaGreatDoor.M
open Go Go.Amx
set_option linter.unusedVariables false
set_option maxRecDepth 100000
noncomputable section
def zh3 : Prop := ∀ (a0 : HwModel) (a1 : HwCode), Wft En 1048576 Ty.HwModel a0 → Wft En 1048576 Ty.HwCode a1 → ∃ N, zgg N a0 a1 = some true
theorem zzk : ownKnob Proofs.Tryz.prog.godebug = none := by kernel_rfl
theorem ztu (plain : zh3) (H : Type) (enc : TypeId × Go.Value → H) (W : World) (base : Nat) (args : Array Go.Value) (ds gs : List (DataW H)) (before : List MemPlace)
 (hval : ∀ (j : Nat) t v, Proofs.Tryz.f4.params[j]? = some t → args[j]? = some v → Go.Value.okWide Proofs.Tryz.prog W .any base t v)
 (hW : DataW.Whole enc Proofs.Tryz.prog Proofs.Tryz.f4.params.toList Rows.hardwareRunsSpec.vars false W args.toList ds gs before) (hL : laidMetH Proofs.Tryz.prog Rows.hardwareRunsUptoRow.laid W) (hb : Rows.uptoBulkAll (ds ++ gs) ≤ 1048576) :
 Calls Proofs.Tryz.prog 4 args W fun e W' => ∃ v, e = .returned v ∧ Rows.hardwareRunsSpec.post enc Proofs.Tryz.prog Proofs.Tryz.f4 false true false false W args v W' :=
 z1m (C := C0) zwl (bt := 4) (ps := [(23, Ty.HwModel), (30, Ty.HwCode)]) rfl rfl Proofs.Tryz.underlying4 (all_cons zade (all_cons zadd zdg)) (fun {H} => Rows.uptoBulk (H := H)) zab6 1048576
  (fun es h1 h2 => by
   have k0 : es.map (·.ty) = [Ty.HwModel, Ty.HwCode] := h1; obtain ⟨a0, es0, e0, k1⟩ := z3x k0; subst e0; obtain ⟨a1, es1, e1, k2⟩ := z3x k1; subst e1; have kn := List.map_eq_nil_iff.1 k2; subst kn; obtain ⟨N, hN⟩ := plain a0 a1 (h2 _ (.head _)) (h2 _ (.tail _ (.head _))); exact ⟨(zgg.k N).t, true, zhm.ctx (C := K0) (C' := C0) rfl rfl rfl (zgg.k N).m, rfl, hN, rfl⟩)
  rfl (fun ds h => by
   match ds, h with
   | [d1, d2], _ => exact ⟨rfl, rfl, rfl⟩) hval hW (zadu zls (globs := globs) rfl (laid := Rows.hardwareRunsUptoRow.laid) (by kernel_rfl) (by rw [MakeChecks.laidMetH_plain _ _ _ (by kernel_rfl)] at hL; exact hL))
  (fun d hd => Nat.le_trans (zwn (ds ++ gs) d (List.mem_append_left _ hd)) hb)
theorem zwq (os : Os) {H : Type} (enc : TypeId × Go.Value → H) : ∃ zne, DataW.whole enc Proofs.Tryz.prog ((World.laidAll Proofs.Tryz.prog os Rows.hardwareRunsUptoRow.laid).forCall (fun _ _ => 0) ⟨#[], #[Go.Value.agg #[.int .i64 0, .bool false, .bool false], Go.Value.agg #[.string ⟨#[]⟩, .slice none 0 0, .slice none 0 0, .slice none 0 0]], []⟩).memory Proofs.Tryz.f4.params.toList Rows.hardwareRunsSpec.vars false (#[Go.Value.agg #[.int .i64 0, .bool false, .bool false], Go.Value.agg #[.string ⟨#[]⟩, .slice none 0 0, .slice none 0 0, .slice none 0 0]] : Array Go.Value).toList 12 = some ([.agg [.lit (.int .i64 0), .lit (.bool false), .lit (.bool false)], .agg [.agg [.lit (.string []), .nil], .nil, .nil]], [], zne) :=
 ⟨[], by kernel_rfl⟩
theorem zu8 (plain : zh3) (os : Os) (started : os.Started) (H : Type) (enc : TypeId × Go.Value → H) (F : Stop.Interp) :
 ReturnsInHanded {} Proofs.Tryz.checked os 4 .any ((Rows.OpenSpec.upto Rows.hardwareRunsSpec).preRow enc Proofs.Tryz.prog Proofs.Tryz.f4 Rows.hardwareRunsUptoRow.domain false Rows.hardwareRunsUptoRow.laid) (((Rows.OpenSpec.upto Rows.hardwareRunsSpec).at F).post enc Proofs.Tryz.prog Proofs.Tryz.f4 false true false false) := by
 obtain ⟨zne, hx⟩ := zwq os enc
 refine returnsInHanded_of_row (C := Proofs.Tryz.checked) (s := Rows.OpenSpec.upto Rows.hardwareRunsSpec) zzk started (by kernel_rfl) Proofs.Tryz.func4
  (witness_row_atRef (enc := enc) (C := Proofs.Tryz.checked) false (World.laidAll Proofs.Tryz.prog os Rows.hardwareRunsUptoRow.laid) #[Go.Value.agg #[.int .i64 0, .bool false, .bool false], Go.Value.agg #[.string ⟨#[]⟩, .slice none 0 0, .slice none 0 0, .slice none 0 0]] (World.laidAll_os _ _ _) (by kernel_rfl) (by kernel_rfl) (by kernel_rfl)
   (OpenSpec.preRow_of_cond 12 hx (by kernel_rfl) (fun k hk => by cases hk; kernel_rfl) (by kernel_rfl) (laidMet_laidAll #[Go.Value.agg #[.int .i64 0, .bool false, .bool false], Go.Value.agg #[.string ⟨#[]⟩, .slice none 0 0, .slice none 0 0, .slice none 0 0]] (by kernel_rfl) (by kernel_rfl)))) ?_
 intro W base args ds gs before hval hW _ hcond _ hL _ _
 exact ztu plain H enc W base args ds gs before hval hW hL (of_decide_eq_true (hcond _ rfl))
theorem zxx (plain : zh3) : Rows.HardwareRunsUptoSaid :=
 OpenClaim.holds_of_cond 4 Proofs.Tryz.f4 rfl rfl rfl rfl rfl rfl rfl ⟨rfl, rfl, rfl, rfl, rfl⟩ rfl rfl rfl rfl rfl (by kernel_rfl) Proofs.Tryz.func4 zwr zyk zxo
  (fun os started H enc _ F => by rw [OpenClaim.pre_eq_preRow]; exact zu8 plain os started H enc F)
theorem cardHardwareRuns (plain : zh3) : Rows.HardwareRunsUptoCardSaid :=
 Claim7.holds_tied_plain_at .later [] _ _ _ _ (zxx plain) (fun _ h => by cases h) zz8 (fun _ h => by cases h) hardwareRunsUpto_row_tie rfl ⟨rfl, rfl⟩ zyi rfl zt8 zyp
end
end Go.Proofs.YtppbpnknfigboaaGreatDoor.M
