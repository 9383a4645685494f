/- The row and the card of TranslateMaps, of the plain law. -/
import Derived.Test.YtnpfkhdbmlhfhaaGreatDoorF2
import Derived.Test.YtnpfkhdbmlhfhaaGreatDoorR
import Derived.Test.YtnpfkhdbmlhfhaaGreatDoorVTranslateMaps
import Derived.Test.YtnpfkhdbmlhfhaaGreatDoorCards
import Derived.Test.YtnpfkhdbmlhfhaaGreatDoorTie
import Derived.WalkKit
import Derived.ProofKit
import Derived.OpenShut
import Derived.Deep.DeepHandedRow
import Derived.Deep.DeepWitnessRowRef
import Derived.Lay
import Derived.MakeChecks
namespace Go.Proofs.YtnpfkhdbmlhfhaaGreatDoor.M
open Go Go.Amx
set_option linter.unusedVariables false
set_option maxRecDepth 100000
noncomputable section
def zg4 : Prop := ∀ (a0 : zD) (a1 : Translation), Wft En 1048576 Ty.zD a0 → Wft En 1048576 Ty.Translation a1 → ∃ N, zfg N a0 a1 = some true
theorem zuw : ownKnob Proofs.Tryz.prog.godebug = none := by kernel_rfl
theorem zqs (plain : zg4) (H : Type) (enc : TypeId × Go.Value → H) (W : World) (base : Nat) (args : Array Go.Value) (ds gs : List (DataW H)) (before : List MemPlace)
 (hval : ∀ (j : Nat) t v, Proofs.Tryz.f5.params[j]? = some t → args[j]? = some v → Go.Value.okWide Proofs.Tryz.prog W .any base t v)
 (hW : DataW.Whole enc Proofs.Tryz.prog Proofs.Tryz.f5.params.toList Rows.translateMapsSpec.vars false W args.toList ds gs before) (hL : laidMetH Proofs.Tryz.prog Rows.translateMapsUptoRow.laid W) (hb : Rows.uptoBulkAll (ds ++ gs) ≤ 1048576) :
 Calls Proofs.Tryz.prog 5 args W fun e W' => ∃ v, e = .returned v ∧ Rows.translateMapsSpec.post enc Proofs.Tryz.prog Proofs.Tryz.f5 false true false false W args v W' :=
 zxt (C := C0) zx3 (bt := 4) (ps := [(60, Ty.zD), (64, Ty.Translation)]) rfl rfl Proofs.Tryz.underlying4 (all_cons z9e (all_cons z9d zdp)) (fun {H} => Rows.uptoBulk (H := H)) z8e 1048576
  (fun es h1 h2 => by
   have k0 : es.map (·.ty) = [Ty.zD, Ty.Translation] := h1; obtain ⟨a0, es0, e0, k1⟩ := zz2 k0; subst e0; obtain ⟨a1, es1, e1, k2⟩ := zz2 k1; subst e1; have kn := List.map_eq_nil_iff.1 k2; subst kn; obtain ⟨N, hN⟩ := plain a0 a1 (h2 _ (.head _)) (h2 _ (.tail _ (.head _))); exact ⟨(zfg.k N).t, true, zh9.ctx (C := K0) (C' := C0) rfl rfl rfl (zfg.k N).m, rfl, hN, rfl⟩)
  rfl (fun ds h => by
   match ds, h with
   | [d1, d2], _ => exact ⟨rfl, rfl, rfl⟩) hval hW (z9o zfz (globs := globs) rfl (laid := Rows.translateMapsUptoRow.laid) (by kernel_rfl) (by rw [MakeChecks.laidMetH_plain _ _ _ (by kernel_rfl)] at hL; exact hL))
  (fun d hd => Nat.le_trans (ztu (ds ++ gs) d (List.mem_append_left _ hd)) hb)
theorem zsy (os : Os) {H : Type} (enc : TypeId × Go.Value → H) : ∃ zmi, DataW.whole enc Proofs.Tryz.prog ((World.laidAll Proofs.Tryz.prog os Rows.translateMapsUptoRow.laid).forCall (fun _ _ => 0) ⟨#[], #[Go.Value.agg #[.slice none 0 0, .slice none 0 0, .slice none 0 0], Go.Value.agg #[.int .i64 0, .bool false, .bool false, .string ⟨#[]⟩, .slice none 0 0, .slice none 0 0, .slice none 0 0, .slice none 0 0]], []⟩).memory Proofs.Tryz.f5.params.toList Rows.translateMapsSpec.vars false (#[Go.Value.agg #[.slice none 0 0, .slice none 0 0, .slice none 0 0], Go.Value.agg #[.int .i64 0, .bool false, .bool false, .string ⟨#[]⟩, .slice none 0 0, .slice none 0 0, .slice none 0 0, .slice none 0 0]] : Array Go.Value).toList 12 = some ([.agg [.nil, .nil, .nil], .agg [.agg [.lit (.int .i64 0), .lit (.bool false), .lit (.bool false)], .agg [.agg [.lit (.string []), .nil], .nil, .nil], .agg [.nil]]], [], zmi) :=
 ⟨[], by kernel_rfl⟩
theorem zsk (plain : zg4) (os : Os) (started : os.Started) (H : Type) (enc : TypeId × Go.Value → H) (F : Stop.Interp) :
 ReturnsInHanded {} Proofs.Tryz.checked os 5 .any ((Rows.OpenSpec.upto Rows.translateMapsSpec).preRow enc Proofs.Tryz.prog Proofs.Tryz.f5 Rows.translateMapsUptoRow.domain false Rows.translateMapsUptoRow.laid) (((Rows.OpenSpec.upto Rows.translateMapsSpec).at F).post enc Proofs.Tryz.prog Proofs.Tryz.f5 false true false false) := by
 obtain ⟨zmi, hx⟩ := zsy os enc
 refine returnsInHanded_of_row (C := Proofs.Tryz.checked) (s := Rows.OpenSpec.upto Rows.translateMapsSpec) zuw started (by kernel_rfl) Proofs.Tryz.func5
  (witness_row_atRef (enc := enc) (C := Proofs.Tryz.checked) false (World.laidAll Proofs.Tryz.prog os Rows.translateMapsUptoRow.laid) #[Go.Value.agg #[.slice none 0 0, .slice none 0 0, .slice none 0 0], Go.Value.agg #[.int .i64 0, .bool false, .bool false, .string ⟨#[]⟩, .slice none 0 0, .slice none 0 0, .slice none 0 0, .slice none 0 0]] (World.laidAll_os _ _ _) (by kernel_rfl) (by kernel_rfl) (by kernel_rfl)
   (OpenSpec.preRow_of_cond 12 hx (by kernel_rfl) (fun k hk => by cases hk; kernel_rfl) (by kernel_rfl) (laidMet_laidAll #[Go.Value.agg #[.slice none 0 0, .slice none 0 0, .slice none 0 0], Go.Value.agg #[.int .i64 0, .bool false, .bool false, .string ⟨#[]⟩, .slice none 0 0, .slice none 0 0, .slice none 0 0, .slice none 0 0]] (by kernel_rfl) (by kernel_rfl)))) ?_
 intro W base args ds gs before hval hW _ hcond _ hL _ _
 exact zqs plain H enc W base args ds gs before hval hW hL (of_decide_eq_true (hcond _ rfl))
theorem ztw (plain : zg4) : Rows.TranslateMapsUptoSaid :=
 OpenClaim.holds_of_cond 5 Proofs.Tryz.f5 rfl rfl rfl rfl rfl rfl rfl ⟨rfl, rfl, rfl, rfl, rfl⟩ rfl rfl rfl rfl rfl (by kernel_rfl) Proofs.Tryz.func5 factsTranslateMaps instTranslateMaps wrapTranslateMaps
  (fun os started H enc _ F => by rw [OpenClaim.pre_eq_preRow]; exact zsk plain os started H enc F)
theorem cardTranslateMaps (plain : zg4) : Rows.TranslateMapsUptoCardSaid :=
 Claim7.holds_tied_plain_at .later [] _ _ _ _ (ztw plain) (fun _ h => by cases h) wfTranslateMaps (fun _ h => by cases h) translateMapsUpto_row_tie rfl ⟨rfl, rfl⟩ mainTranslateMaps rfl noStandTranslateMaps goesTranslateMaps
end
end Go.Proofs.YtnpfkhdbmlhfhaaGreatDoor.M
