/- The row and the card of HardwareSteps, of the plain law. -/
import Derived.Test.YtppbpnknfigboaaGreatDoorF2
import Derived.Test.YtppbpnknfigboaaGreatDoorR
import Derived.Test.YtppbpnknfigboaaGreatDoorVHardwareSteps
import Derived.Test.YtppbpnknfigboaaGreatDoorCards
import Derived.Test.YtppbpnknfigboaaGreatDoorTie
import Derived.WalkKit
import Derived.ProofKit
import Derived.OpenShut
import Derived.Deep.DeepHandedRow
import Derived.Deep.DeepWitnessRowRef
import Derived.Lay
import Derived.MakeChecks
namespace Go.Proofs.YtppbpnknfigboaaGreatDoor.M
open Go Go.Amx
set_option linter.unusedVariables false
set_option maxRecDepth 100000
noncomputable section
def zil : Prop := ∀ (a0 : zJ) (a1 : zG) (a2 : zA), Wft En 1048576 Ty.zJ a0 → Wft En 1048576 Ty.zG a1 → Wft En 1048576 Ty.zA a2 → ∃ N, zf5 N a0 a1 a2 = some true
theorem zya : ownKnob Proofs.Tryz.prog.godebug = none := by kernel_rfl
theorem zs8 (plain : zil) (H : Type) (enc : TypeId × Go.Value → H) (W : World) (base : Nat) (args : Array Go.Value) (ds gs : List (DataW H)) (before : List MemPlace)
 (hval : ∀ (j : Nat) t v, Proofs.Tryz.f9.params[j]? = some t → args[j]? = some v → Go.Value.okWide Proofs.Tryz.prog W .any base t v)
 (hW : DataW.Whole enc Proofs.Tryz.prog Proofs.Tryz.f9.params.toList Rows.hardwareStepsSpec.vars false W args.toList ds gs before) (hL : laidMetH Proofs.Tryz.prog Rows.hardwareStepsUptoRow.laid W) (hb : Rows.uptoBulkAll (ds ++ gs) ≤ 1048576) :
 Calls Proofs.Tryz.prog 9 args W fun e W' => ∃ v, e = .returned v ∧ Rows.hardwareStepsSpec.post enc Proofs.Tryz.prog Proofs.Tryz.f9 false true false false W args v W' :=
 z1j (C := C0) zwt (bt := 4) (ps := [(23, Ty.zJ), (30, Ty.zG), (71, Ty.zA)]) rfl rfl Proofs.Tryz.underlying4 (all_cons zaeb (all_cons zaea (all_cons zad9 zdg))) (fun {H} => Rows.uptoBulk (H := H)) zac2 1048576
  (fun es h1 h2 => by
   have k0 : es.map (·.ty) = [Ty.zJ, Ty.zG, Ty.zA] := h1; obtain ⟨a0, es0, e0, k1⟩ := zyk k0; subst e0; obtain ⟨a1, es1, e1, k2⟩ := zyk k1; subst e1; obtain ⟨a2, es2, e2, k3⟩ := zyk k2; subst e2; have kn := List.map_eq_nil_iff.1 k3; subst kn; obtain ⟨N, hN⟩ := plain a0 a1 a2 (h2 _ (.head _)) (h2 _ (.tail _ (.head _))) (h2 _ (.tail _ (.tail _ (.head _)))); exact ⟨(zf5.k N).t, true, zh8.ctx (C := K0) (C' := C0) rfl rfl rfl (zf5.k N).m, rfl, hN, rfl⟩)
  rfl (fun ds h => by
   match ds, h with
   | [d1, d2, d3], _ => exact ⟨rfl, rfl, rfl⟩) hval hW (zaet zj5 (globs := globs) rfl (laid := Rows.hardwareStepsUptoRow.laid) (by kernel_rfl) (by rw [MakeChecks.laidMetH_plain _ _ _ (by kernel_rfl)] at hL; exact hL))
  (fun d hd => Nat.le_trans (zwv (ds ++ gs) d (List.mem_append_left _ hd)) hb)
theorem zvf (os : Os) {H : Type} (enc : TypeId × Go.Value → H) : ∃ zob, DataW.whole enc Proofs.Tryz.prog ((World.laidAll Proofs.Tryz.prog os Rows.hardwareStepsUptoRow.laid).forCall (fun _ _ => 0) ⟨#[], #[Go.Value.agg #[.int .i64 0, .bool false, .bool false], Go.Value.agg #[.string ⟨#[]⟩, .slice none 0 0, .slice none 0 0, .slice none 0 0], Go.Value.agg #[.slice none 0 0, .int .i64 0, .string ⟨#[]⟩, .slice none 0 0, .int .i64 0, .slice none 0 0, .slice none 0 0, .int .i64 0, .int .i64 0, .int .i64 0, .int .i64 0]], []⟩).memory Proofs.Tryz.f9.params.toList Rows.hardwareStepsSpec.vars false (#[Go.Value.agg #[.int .i64 0, .bool false, .bool false], Go.Value.agg #[.string ⟨#[]⟩, .slice none 0 0, .slice none 0 0, .slice none 0 0], Go.Value.agg #[.slice none 0 0, .int .i64 0, .string ⟨#[]⟩, .slice none 0 0, .int .i64 0, .slice none 0 0, .slice none 0 0, .int .i64 0, .int .i64 0, .int .i64 0, .int .i64 0]] : Array Go.Value).toList 12 = some ([.agg [.lit (.int .i64 0), .lit (.bool false), .lit (.bool false)], .agg [.agg [.lit (.string []), .nil], .nil, .nil], .agg [.nil, .lit (.int .i64 0), .agg [.lit (.string []), .nil], .lit (.int .i64 0), .nil, .nil, .lit (.int .i64 0), .lit (.int .i64 0), .lit (.int .i64 0), .lit (.int .i64 0)]], [], zob) :=
 ⟨[], by kernel_rfl⟩
theorem zut (plain : zil) (os : Os) (started : os.Started) (H : Type) (enc : TypeId × Go.Value → H) (F : Stop.Interp) :
 ReturnsInHanded {} Proofs.Tryz.checked os 9 .any ((Rows.OpenSpec.upto Rows.hardwareStepsSpec).preRow enc Proofs.Tryz.prog Proofs.Tryz.f9 Rows.hardwareStepsUptoRow.domain false Rows.hardwareStepsUptoRow.laid) (((Rows.OpenSpec.upto Rows.hardwareStepsSpec).at F).post enc Proofs.Tryz.prog Proofs.Tryz.f9 false true false false) := by
 obtain ⟨zob, hx⟩ := zvf os enc
 refine returnsInHanded_of_row (C := Proofs.Tryz.checked) (s := Rows.OpenSpec.upto Rows.hardwareStepsSpec) zya started (by kernel_rfl) Proofs.Tryz.func9
  (witness_row_atRef (enc := enc) (C := Proofs.Tryz.checked) false (World.laidAll Proofs.Tryz.prog os Rows.hardwareStepsUptoRow.laid) #[Go.Value.agg #[.int .i64 0, .bool false, .bool false], Go.Value.agg #[.string ⟨#[]⟩, .slice none 0 0, .slice none 0 0, .slice none 0 0], Go.Value.agg #[.slice none 0 0, .int .i64 0, .string ⟨#[]⟩, .slice none 0 0, .int .i64 0, .slice none 0 0, .slice none 0 0, .int .i64 0, .int .i64 0, .int .i64 0, .int .i64 0]] (World.laidAll_os _ _ _) (by kernel_rfl) (by kernel_rfl) (by kernel_rfl)
   (OpenSpec.preRow_of_cond 12 hx (by kernel_rfl) (fun k hk => by cases hk; kernel_rfl) (by kernel_rfl) (laidMet_laidAll #[Go.Value.agg #[.int .i64 0, .bool false, .bool false], Go.Value.agg #[.string ⟨#[]⟩, .slice none 0 0, .slice none 0 0, .slice none 0 0], Go.Value.agg #[.slice none 0 0, .int .i64 0, .string ⟨#[]⟩, .slice none 0 0, .int .i64 0, .slice none 0 0, .slice none 0 0, .int .i64 0, .int .i64 0, .int .i64 0, .int .i64 0]] (by kernel_rfl) (by kernel_rfl)))) ?_
 intro W base args ds gs before hval hW _ hcond _ hL _ _
 exact zs8 plain H enc W base args ds gs before hval hW hL (of_decide_eq_true (hcond _ rfl))
theorem zwy (plain : zil) : Rows.HardwareStepsUptoSaid :=
 OpenClaim.holds_of_cond 9 Proofs.Tryz.f9 rfl rfl rfl rfl rfl rfl rfl ⟨rfl, rfl, rfl, rfl, rfl⟩ rfl rfl rfl rfl rfl (by kernel_rfl) Proofs.Tryz.func9 factsHardwareSteps instHardwareSteps wrapHardwareSteps
  (fun os started H enc _ F => by rw [OpenClaim.pre_eq_preRow]; exact zut plain os started H enc F)
theorem cardHardwareSteps (plain : zil) : Rows.HardwareStepsUptoCardSaid :=
 Claim7.holds_tied_plain_at .later [] _ _ _ _ (zwy plain) (fun _ h => by cases h) wfHardwareSteps (fun _ h => by cases h) hardwareStepsUpto_row_tie rfl ⟨rfl, rfl⟩ mainHardwareSteps rfl noStandHardwareSteps goesHardwareSteps
end
end Go.Proofs.YtppbpnknfigboaaGreatDoor.M
