/- The row and the card of HardwareStates, of the plain law. -/
import Derived.Test.YtppbpnknfigboaaGreatDoorF1
import Derived.Test.YtppbpnknfigboaaGreatDoorR
import Derived.Test.YtppbpnknfigboaaGreatDoorVHardwareStates
import Derived.Test.YtppbpnknfigboaaGreatDoorCards
import Derived.Test.YtppbpnknfigboaaGreatDoorTie
import Derived.WalkKit
import Derived.ProofKit
import Derived.OpenShut
import Derived.Deep.DeepHandedRow
import Derived.Deep.DeepWitnessRowRef
import Derived.Lay
import Derived.MakeChecks
namespace Go.Proofs.YtppbpnknfigboaaGreatDoor.M
open Go Go.Amx
set_option linter.unusedVariables false
set_option maxRecDepth 100000
noncomputable section
def ze2 : Prop := ∀ (a0 : HwModel) (a1 : HwCode) (a2 : HwState), Wft En 1048576 Ty.HwModel a0 → Wft En 1048576 Ty.HwCode a1 → Wft En 1048576 Ty.HwState a2 → ∃ N, zds N a0 a1 a2 = some true
theorem zq3 : ownKnob Proofs.Tryz.prog.godebug = none := by kernel_rfl
theorem znu (plain : ze2) (H : Type) (enc : TypeId × Go.Value → H) (W : World) (base : Nat) (args : Array Go.Value) (ds gs : List (DataW H)) (before : List MemPlace)
 (hval : ∀ (j : Nat) t v, Proofs.Tryz.f8.params[j]? = some t → args[j]? = some v → Go.Value.okWide Proofs.Tryz.prog W .any base t v)
 (hW : DataW.Whole enc Proofs.Tryz.prog Proofs.Tryz.f8.params.toList Rows.hardwareStatesSpec.vars false W args.toList ds gs before) (hL : laidMetH Proofs.Tryz.prog Rows.hardwareStatesUptoRow.laid W) (hb : Rows.uptoBulkAll (ds ++ gs) ≤ 1048576) :
 Calls Proofs.Tryz.prog 8 args W fun e W' => ∃ v, e = .returned v ∧ Rows.hardwareStatesSpec.post enc Proofs.Tryz.prog Proofs.Tryz.f8 false true false false W args v W' :=
 zub (C := C0) zqy (bt := 4) (ps := [(23, Ty.HwModel), (30, Ty.HwCode), (71, Ty.HwState)]) rfl rfl Proofs.Tryz.underlying4 (all_cons z3c (all_cons z3b (all_cons z3a zbq))) (fun {H} => Rows.uptoBulk (H := H)) z2u 1048576
  (fun es h1 h2 => by
   have k0 : es.map (·.ty) = [Ty.HwModel, Ty.HwCode, Ty.HwState] := h1; obtain ⟨a0, es0, e0, k1⟩ := zr8 k0; subst e0; obtain ⟨a1, es1, e1, k2⟩ := zr8 k1; subst e1; obtain ⟨a2, es2, e2, k3⟩ := zr8 k2; subst e2; have kn := List.map_eq_nil_iff.1 k3; subst kn; obtain ⟨N, hN⟩ := plain a0 a1 a2 (h2 _ (.head _)) (h2 _ (.tail _ (.head _))) (h2 _ (.tail _ (.tail _ (.head _)))); exact ⟨(zds.k N).t, true, zf2.ctx (C := K0) (C' := C0) rfl rfl rfl (zds.k N).m, rfl, hN, rfl⟩)
  rfl (fun ds h => by
   match ds, h with
   | [d1, d2, d3], _ => exact ⟨rfl, rfl, rfl⟩) hval hW (z3p zgx (globs := globs) rfl (laid := Rows.hardwareStatesUptoRow.laid) (by kernel_rfl) (by rw [MakeChecks.laidMetH_plain _ _ _ (by kernel_rfl)] at hL; exact hL))
  (fun d hd => Nat.le_trans (zq0 (ds ++ gs) d (List.mem_append_left _ hd)) hb)
theorem zpj (os : Os) {H : Type} (enc : TypeId × Go.Value → H) : ∃ zke, DataW.whole enc Proofs.Tryz.prog ((World.laidAll Proofs.Tryz.prog os Rows.hardwareStatesUptoRow.laid).forCall (fun _ _ => 0) ⟨#[], #[Go.Value.agg #[.int .i64 0, .bool false, .bool false], Go.Value.agg #[.string ⟨#[]⟩, .slice none 0 0, .slice none 0 0, .slice none 0 0], Go.Value.agg #[.slice none 0 0, .int .i64 0, .string ⟨#[]⟩, .slice none 0 0, .int .i64 0, .slice none 0 0, .slice none 0 0, .int .i64 0, .int .i64 0, .int .i64 0, .int .i64 0]], []⟩).memory Proofs.Tryz.f8.params.toList Rows.hardwareStatesSpec.vars false (#[Go.Value.agg #[.int .i64 0, .bool false, .bool false], Go.Value.agg #[.string ⟨#[]⟩, .slice none 0 0, .slice none 0 0, .slice none 0 0], Go.Value.agg #[.slice none 0 0, .int .i64 0, .string ⟨#[]⟩, .slice none 0 0, .int .i64 0, .slice none 0 0, .slice none 0 0, .int .i64 0, .int .i64 0, .int .i64 0, .int .i64 0]] : Array Go.Value).toList 12 = some ([.agg [.lit (.int .i64 0), .lit (.bool false), .lit (.bool false)], .agg [.agg [.lit (.string []), .nil], .nil, .nil], .agg [.nil, .lit (.int .i64 0), .agg [.lit (.string []), .nil], .lit (.int .i64 0), .nil, .nil, .lit (.int .i64 0), .lit (.int .i64 0), .lit (.int .i64 0), .lit (.int .i64 0)]], [], zke) :=
 ⟨[], by kernel_rfl⟩
theorem zox (plain : ze2) (os : Os) (started : os.Started) (H : Type) (enc : TypeId × Go.Value → H) (F : Stop.Interp) :
 ReturnsInHanded {} Proofs.Tryz.checked os 8 .any ((Rows.OpenSpec.upto Rows.hardwareStatesSpec).preRow enc Proofs.Tryz.prog Proofs.Tryz.f8 Rows.hardwareStatesUptoRow.domain false Rows.hardwareStatesUptoRow.laid) (((Rows.OpenSpec.upto Rows.hardwareStatesSpec).at F).post enc Proofs.Tryz.prog Proofs.Tryz.f8 false true false false) := by
 obtain ⟨zke, hx⟩ := zpj os enc
 refine returnsInHanded_of_row (C := Proofs.Tryz.checked) (s := Rows.OpenSpec.upto Rows.hardwareStatesSpec) zq3 started (by kernel_rfl) Proofs.Tryz.func8
  (witness_row_atRef (enc := enc) (C := Proofs.Tryz.checked) false (World.laidAll Proofs.Tryz.prog os Rows.hardwareStatesUptoRow.laid) #[Go.Value.agg #[.int .i64 0, .bool false, .bool false], Go.Value.agg #[.string ⟨#[]⟩, .slice none 0 0, .slice none 0 0, .slice none 0 0], Go.Value.agg #[.slice none 0 0, .int .i64 0, .string ⟨#[]⟩, .slice none 0 0, .int .i64 0, .slice none 0 0, .slice none 0 0, .int .i64 0, .int .i64 0, .int .i64 0, .int .i64 0]] (World.laidAll_os _ _ _) (by kernel_rfl) (by kernel_rfl) (by kernel_rfl)
   (OpenSpec.preRow_of_cond 12 hx (by kernel_rfl) (fun k hk => by cases hk; kernel_rfl) (by kernel_rfl) (laidMet_laidAll #[Go.Value.agg #[.int .i64 0, .bool false, .bool false], Go.Value.agg #[.string ⟨#[]⟩, .slice none 0 0, .slice none 0 0, .slice none 0 0], Go.Value.agg #[.slice none 0 0, .int .i64 0, .string ⟨#[]⟩, .slice none 0 0, .int .i64 0, .slice none 0 0, .slice none 0 0, .int .i64 0, .int .i64 0, .int .i64 0, .int .i64 0]] (by kernel_rfl) (by kernel_rfl)))) ?_
 intro W base args ds gs before hval hW _ hcond _ hL _ _
 exact znu plain H enc W base args ds gs before hval hW hL (of_decide_eq_true (hcond _ rfl))
theorem zpv (plain : ze2) : Rows.HardwareStatesUptoSaid :=
 OpenClaim.holds_of_cond 8 Proofs.Tryz.f8 rfl rfl rfl rfl rfl rfl rfl ⟨rfl, rfl, rfl, rfl, rfl⟩ rfl rfl rfl rfl rfl (by kernel_rfl) Proofs.Tryz.func8 factsHardwareStates instHardwareStates wrapHardwareStates
  (fun os started H enc _ F => by rw [OpenClaim.pre_eq_preRow]; exact zox plain os started H enc F)
theorem cardHardwareStates (plain : ze2) : Rows.HardwareStatesUptoCardSaid :=
 Claim7.holds_tied_plain_at .later [] _ _ _ _ (zpv plain) (fun _ h => by cases h) wfHardwareStates (fun _ h => by cases h) hardwareStatesUpto_row_tie rfl ⟨rfl, rfl⟩ mainHardwareStates rfl noStandHardwareStates goesHardwareStates
end
end Go.Proofs.YtppbpnknfigboaaGreatDoor.M
