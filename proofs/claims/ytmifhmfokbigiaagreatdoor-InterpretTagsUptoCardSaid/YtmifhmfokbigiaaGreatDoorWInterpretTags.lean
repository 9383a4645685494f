/- The row and the card of InterpretTags, of the plain law. -/
import Derived.Test.YtmifhmfokbigiaaGreatDoorF1
import Derived.Test.YtmifhmfokbigiaaGreatDoorR
import Derived.Test.YtmifhmfokbigiaaGreatDoorVInterpretTags
import Derived.Test.YtmifhmfokbigiaaGreatDoorCards
import Derived.Test.YtmifhmfokbigiaaGreatDoorTie
import Derived.WalkKit
import Derived.ProofKit
import Derived.OpenShut
import Derived.Deep.DeepHandedRow
import Derived.Deep.DeepWitnessRowRef
import Derived.Lay
import Derived.MakeChecks
namespace Go.Proofs.YtmifhmfokbigiaaGreatDoor.M
open Go Go.Amx
set_option linter.unusedVariables false
set_option maxRecDepth 100000
noncomputable section
def ziz : Prop := ∀ (a0 : zB), Wft En 1048576 Ty.zB a0 → ∃ N, zf N a0 = some true
theorem z2w : ownKnob Proofs.Tryz.prog.godebug = none := by kernel_rfl
theorem zw0 (plain : ziz) (H : Type) (enc : TypeId × Go.Value → H) (W : World) (base : Nat) (args : Array Go.Value) (ds gs : List (DataW H)) (before : List MemPlace)
 (hval : ∀ (j : Nat) t v, Proofs.Tryz.f4.params[j]? = some t → args[j]? = some v → Go.Value.okWide Proofs.Tryz.prog W .any base t v)
 (hW : DataW.Whole enc Proofs.Tryz.prog Proofs.Tryz.f4.params.toList Rows.interpretTagsSpec.vars false W args.toList ds gs before) (hL : laidMetH Proofs.Tryz.prog Rows.interpretTagsUptoRow.laid W) (hb : Rows.uptoBulkAll (ds ++ gs) ≤ 1048576) :
 Calls Proofs.Tryz.prog 4 args W fun e W' => ∃ v, e = .returned v ∧ Rows.interpretTagsSpec.post enc Proofs.Tryz.prog Proofs.Tryz.f4 false true false false W args v W' :=
 zwn (C := C0) z4q (bt := 4) (ps := [(26, Ty.zB)]) rfl rfl Proofs.Tryz.underlying4 (all_cons zae6 zdb) (fun {H} => Rows.uptoBulk (H := H)) zaeb 1048576
  (fun es h1 h2 => by
   have k0 : es.map (·.ty) = [Ty.zB] := h1; obtain ⟨a0, es0, e0, k1⟩ := zac2 k0; subst e0; have kn := List.map_eq_nil_iff.1 k1; subst kn; obtain ⟨N, hN⟩ := plain a0 (h2 _ (.head _)); exact ⟨(zf.k N).t, true, zgv.ctx (C := K0) (C' := C0) rfl rfl rfl (zf.k N).m, rfl, hN, rfl⟩)
  rfl (fun ds h => by
   match ds, h with
   | [d1], _ => exact ⟨rfl, rfl, rfl⟩) hval hW (z7d zpd (globs := globs) rfl (laid := Rows.interpretTagsUptoRow.laid) (by kernel_rfl) (by rw [MakeChecks.laidMetH_plain _ _ _ (by kernel_rfl)] at hL; exact hL))
  (fun d hd => Nat.le_trans (z1r (ds ++ gs) d (List.mem_append_left _ hd)) hb)
theorem zz6 (os : Os) {H : Type} (enc : TypeId × Go.Value → H) : ∃ zls, DataW.whole enc Proofs.Tryz.prog ((World.laidAll Proofs.Tryz.prog os Rows.interpretTagsUptoRow.laid).forCall (fun _ _ => 0) ⟨#[], #[Go.Value.agg #[.slice none 0 0, .slice none 0 0, .slice none 0 0]], []⟩).memory Proofs.Tryz.f4.params.toList Rows.interpretTagsSpec.vars false (#[Go.Value.agg #[.slice none 0 0, .slice none 0 0, .slice none 0 0]] : Array Go.Value).toList 12 = some ([.agg [.nil, .nil, .nil]], [], zls) :=
 ⟨[], by kernel_rfl⟩
theorem zze (plain : ziz) (os : Os) (started : os.Started) (H : Type) (enc : TypeId × Go.Value → H) (F : Stop.Interp) :
 ReturnsInHanded {} Proofs.Tryz.checked os 4 .any ((Rows.OpenSpec.upto Rows.interpretTagsSpec).preRow enc Proofs.Tryz.prog Proofs.Tryz.f4 Rows.interpretTagsUptoRow.domain false Rows.interpretTagsUptoRow.laid) (((Rows.OpenSpec.upto Rows.interpretTagsSpec).at F).post enc Proofs.Tryz.prog Proofs.Tryz.f4 false true false false) := by
 obtain ⟨zls, hx⟩ := zz6 os enc
 refine returnsInHanded_of_row (C := Proofs.Tryz.checked) (s := Rows.OpenSpec.upto Rows.interpretTagsSpec) z2w started (by kernel_rfl) Proofs.Tryz.func4
  (witness_row_atRef (enc := enc) (C := Proofs.Tryz.checked) false (World.laidAll Proofs.Tryz.prog os Rows.interpretTagsUptoRow.laid) #[Go.Value.agg #[.slice none 0 0, .slice none 0 0, .slice none 0 0]] (World.laidAll_os _ _ _) (by kernel_rfl) (by kernel_rfl) (by kernel_rfl)
   (OpenSpec.preRow_of_cond 12 hx (by kernel_rfl) (fun k hk => by cases hk; kernel_rfl) (by kernel_rfl) (laidMet_laidAll #[Go.Value.agg #[.slice none 0 0, .slice none 0 0, .slice none 0 0]] (by kernel_rfl) (by kernel_rfl)))) ?_
 intro W base args ds gs before hval hW _ hcond _ hL _ _
 exact zw0 plain H enc W base args ds gs before hval hW hL (of_decide_eq_true (hcond _ rfl))
theorem z1x (plain : ziz) : Rows.InterpretTagsUptoSaid :=
 OpenClaim.holds_of_cond 4 Proofs.Tryz.f4 rfl rfl rfl rfl rfl rfl rfl ⟨rfl, rfl, rfl, rfl, rfl⟩ rfl rfl rfl rfl rfl (by kernel_rfl) Proofs.Tryz.func4 factsInterpretTags instInterpretTags wrapInterpretTags
  (fun os started H enc _ F => by rw [OpenClaim.pre_eq_preRow]; exact zze plain os started H enc F)
theorem cardInterpretTags (plain : ziz) : Rows.InterpretTagsUptoCardSaid :=
 Claim7.holds_tied_plain_at .later [] _ _ _ _ (z1x plain) (fun _ h => by cases h) wfInterpretTags (fun _ h => by cases h) interpretTagsUpto_row_tie rfl ⟨rfl, rfl⟩ mainInterpretTags rfl noStandInterpretTags goesInterpretTags
end
end Go.Proofs.YtmifhmfokbigiaaGreatDoor.M
