/- The row and the card of HardwareLarger, of the plain law. -/
import Derived.Test.YtppbpnknfigboaaGreatDoorF1
import Derived.Test.YtppbpnknfigboaaGreatDoorR
import Derived.Test.YtppbpnknfigboaaGreatDoorVHardwareLarger
import Derived.Test.YtppbpnknfigboaaGreatDoorCards
import Derived.Test.YtppbpnknfigboaaGreatDoorTie
import Derived.WalkKit
import Derived.ProofKit
import Derived.OpenShut
import Derived.Deep.DeepHandedRow
import Derived.Deep.DeepWitnessRowRef
import Derived.Lay
import Derived.MakeChecks
namespace Go.Proofs.YtppbpnknfigboaaGreatDoor.M
open Go Go.Amx
set_option linter.unusedVariables false
set_option maxRecDepth 100000
noncomputable section
def zha : Prop := ∀ (a0 : zH) (a1 : zH) (a2 : zG), Wft En 1048576 Ty.zH a0 → Wft En 1048576 Ty.zH a1 → Wft En 1048576 Ty.zG a2 → ∃ N, zfp N a0 a1 a2 = some true
theorem zw8 : ownKnob Proofs.Tryz.prog.godebug = none := by kernel_rfl
theorem zss (plain : zha) (H : Type) (enc : TypeId × Go.Value → H) (W : World) (base : Nat) (args : Array Go.Value) (ds gs : List (DataW H)) (before : List MemPlace)
 (hval : ∀ (j : Nat) t v, Proofs.Tryz.f6.params[j]? = some t → args[j]? = some v → Go.Value.okWide Proofs.Tryz.prog W .any base t v)
 (hW : DataW.Whole enc Proofs.Tryz.prog Proofs.Tryz.f6.params.toList Rows.hardwareLargerSpec.vars false W args.toList ds gs before) (hL : laidMetH Proofs.Tryz.prog Rows.hardwareLargerUptoRow.laid W) (hb : Rows.uptoBulkAll (ds ++ gs) ≤ 1048576) :
 Calls Proofs.Tryz.prog 6 args W fun e W' => ∃ v, e = .returned v ∧ Rows.hardwareLargerSpec.post enc Proofs.Tryz.prog Proofs.Tryz.f6 false true false false W args v W' :=
 z1w (C := C0) zw3 (bt := 4) (ps := [(23, Ty.zH), (23, Ty.zH), (30, Ty.zG)]) rfl rfl Proofs.Tryz.underlying4 (all_cons z8f (all_cons z8f (all_cons zadw zc8))) (fun {H} => Rows.uptoBulk (H := H)) zacq 1048576
  (fun es h1 h2 => by
   have k0 : es.map (·.ty) = [Ty.zH, Ty.zH, Ty.zG] := h1; obtain ⟨a0, es0, e0, k1⟩ := zyu k0; subst e0; obtain ⟨a1, es1, e1, k2⟩ := zyu k1; subst e1; obtain ⟨a2, es2, e2, k3⟩ := zyu k2; subst e2; have kn := List.map_eq_nil_iff.1 k3; subst kn; obtain ⟨N, hN⟩ := plain a0 a1 a2 (h2 _ (.head _)) (h2 _ (.tail _ (.head _))) (h2 _ (.tail _ (.tail _ (.head _)))); exact ⟨(zfp.k N).t, true, zij.ctx (C := K0) (C' := C0) rfl rfl rfl (zfp.k N).m, rfl, hN, rfl⟩)
  rfl (fun ds h => by
   match ds, h with
   | [d1, d2, d3], _ => exact ⟨rfl, rfl, rfl⟩) hval hW (zaea zl5 (globs := globs) rfl (laid := Rows.hardwareLargerUptoRow.laid) (by kernel_rfl) (by rw [MakeChecks.laidMetH_plain _ _ _ (by kernel_rfl)] at hL; exact hL))
  (fun d hd => Nat.le_trans (zw5 (ds ++ gs) d (List.mem_append_left _ hd)) hb)
theorem zu3 (os : Os) {H : Type} (enc : TypeId × Go.Value → H) : ∃ znt, DataW.whole enc Proofs.Tryz.prog ((World.laidAll Proofs.Tryz.prog os Rows.hardwareLargerUptoRow.laid).forCall (fun _ _ => 0) ⟨#[], #[Go.Value.agg #[.int .i64 0, .bool false, .bool false], Go.Value.agg #[.int .i64 0, .bool false, .bool false], Go.Value.agg #[.string ⟨#[]⟩, .slice none 0 0, .slice none 0 0, .slice none 0 0]], []⟩).memory Proofs.Tryz.f6.params.toList Rows.hardwareLargerSpec.vars false (#[Go.Value.agg #[.int .i64 0, .bool false, .bool false], Go.Value.agg #[.int .i64 0, .bool false, .bool false], Go.Value.agg #[.string ⟨#[]⟩, .slice none 0 0, .slice none 0 0, .slice none 0 0]] : Array Go.Value).toList 12 = some ([.agg [.lit (.int .i64 0), .lit (.bool false), .lit (.bool false)], .agg [.lit (.int .i64 0), .lit (.bool false), .lit (.bool false)], .agg [.agg [.lit (.string []), .nil], .nil, .nil]], [], znt) :=
 ⟨[], by kernel_rfl⟩
theorem zt8 (plain : zha) (os : Os) (started : os.Started) (H : Type) (enc : TypeId × Go.Value → H) (F : Stop.Interp) :
 ReturnsInHanded {} Proofs.Tryz.checked os 6 .any ((Rows.OpenSpec.upto Rows.hardwareLargerSpec).preRow enc Proofs.Tryz.prog Proofs.Tryz.f6 Rows.hardwareLargerUptoRow.domain false Rows.hardwareLargerUptoRow.laid) (((Rows.OpenSpec.upto Rows.hardwareLargerSpec).at F).post enc Proofs.Tryz.prog Proofs.Tryz.f6 false true false false) := by
 obtain ⟨znt, hx⟩ := zu3 os enc
 refine returnsInHanded_of_row (C := Proofs.Tryz.checked) (s := Rows.OpenSpec.upto Rows.hardwareLargerSpec) zw8 started (by kernel_rfl) Proofs.Tryz.func6
  (witness_row_atRef (enc := enc) (C := Proofs.Tryz.checked) false (World.laidAll Proofs.Tryz.prog os Rows.hardwareLargerUptoRow.laid) #[Go.Value.agg #[.int .i64 0, .bool false, .bool false], Go.Value.agg #[.int .i64 0, .bool false, .bool false], Go.Value.agg #[.string ⟨#[]⟩, .slice none 0 0, .slice none 0 0, .slice none 0 0]] (World.laidAll_os _ _ _) (by kernel_rfl) (by kernel_rfl) (by kernel_rfl)
   (OpenSpec.preRow_of_cond 12 hx (by kernel_rfl) (fun k hk => by cases hk; kernel_rfl) (by kernel_rfl) (laidMet_laidAll #[Go.Value.agg #[.int .i64 0, .bool false, .bool false], Go.Value.agg #[.int .i64 0, .bool false, .bool false], Go.Value.agg #[.string ⟨#[]⟩, .slice none 0 0, .slice none 0 0, .slice none 0 0]] (by kernel_rfl) (by kernel_rfl)))) ?_
 intro W base args ds gs before hval hW _ hcond _ hL _ _
 exact zss plain H enc W base args ds gs before hval hW hL (of_decide_eq_true (hcond _ rfl))
theorem zvh (plain : zha) : Rows.HardwareLargerUptoSaid :=
 OpenClaim.holds_of_cond 6 Proofs.Tryz.f6 rfl rfl rfl rfl rfl rfl rfl ⟨rfl, rfl, rfl, rfl, rfl⟩ rfl rfl rfl rfl rfl (by kernel_rfl) Proofs.Tryz.func6 factsHardwareLarger instHardwareLarger wrapHardwareLarger
  (fun os started H enc _ F => by rw [OpenClaim.pre_eq_preRow]; exact zt8 plain os started H enc F)
theorem cardHardwareLarger (plain : zha) : Rows.HardwareLargerUptoCardSaid :=
 Claim7.holds_tied_plain_at .later [] _ _ _ _ (zvh plain) (fun _ h => by cases h) wfHardwareLarger (fun _ h => by cases h) hardwareLargerUpto_row_tie rfl ⟨rfl, rfl⟩ mainHardwareLarger rfl noStandHardwareLarger goesHardwareLarger
end
end Go.Proofs.YtppbpnknfigboaaGreatDoor.M
