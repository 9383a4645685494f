/- The row and the card of TranslateProofs, of the plain law. -/
import Derived.Test.YtblgefddnnlniaaGreatDoorF1
import Derived.Test.YtblgefddnnlniaaGreatDoorR
import Derived.Test.YtblgefddnnlniaaGreatDoorVTranslateProofs
import Derived.Test.YtblgefddnnlniaaGreatDoorCards
import Derived.Test.YtblgefddnnlniaaGreatDoorTie
import Derived.WalkKit
import Derived.ProofKit
import Derived.OpenShut
import Derived.Deep.DeepHandedRow
import Derived.Deep.DeepWitnessRowRef
import Derived.Lay
import Derived.MakeChecks
namespace Go.Proofs.YtblgefddnnlniaaGreatDoor.M
open Go Go.Amx
set_option linter.unusedVariables false
set_option maxRecDepth 100000
noncomputable section
def zfi : Prop := ∀ (a0 : zI) (a1 : zF) (a2 : List (List zA)), Wft En 1048576 Ty.zI a0 → Wft En 1048576 Ty.zF a1 → Wft En 1048576 (Ty.sl (Ty.sl Ty.zA)) a2 → ∃ N, zd3 N a0 a1 a2 = some true
theorem zrc : ownKnob Proofs.Tryz.prog.godebug = none := by kernel_rfl
theorem znv (plain : zfi) (H : Type) (enc : TypeId × Go.Value → H) (W : World) (base : Nat) (args : Array Go.Value) (ds gs : List (DataW H)) (before : List MemPlace)
 (hval : ∀ (j : Nat) t v, Proofs.Tryz.f5.params[j]? = some t → args[j]? = some v → Go.Value.okWide Proofs.Tryz.prog W .any base t v)
 (hW : DataW.Whole enc Proofs.Tryz.prog Proofs.Tryz.f5.params.toList Rows.translateProofsSpec.vars false W args.toList ds gs before) (hL : laidMetH Proofs.Tryz.prog Rows.translateProofsUptoRow.laid W) (hb : Rows.uptoBulkAll (ds ++ gs) ≤ 1048576) :
 Calls Proofs.Tryz.prog 5 args W fun e W' => ∃ v, e = .returned v ∧ Rows.translateProofsSpec.post enc Proofs.Tryz.prog Proofs.Tryz.f5 false true false false W args v W' :=
 zvi (C := C0) zvp (bt := 4) (ps := [(23, Ty.zI), (30, Ty.zF), (33, (Ty.sl (Ty.sl Ty.zA)))]) rfl rfl Proofs.Tryz.underlying4 (all_cons z4u (all_cons z4t (all_cons z4s all_nil))) (fun {H} => Rows.uptoBulk (H := H)) z4a 1048576
  (fun es h1 h2 => by
   have k0 : es.map (·.ty) = [Ty.zI, Ty.zF, (Ty.sl (Ty.sl Ty.zA))] := h1; obtain ⟨a0, es0, e0, k1⟩ := ztb k0; subst e0; obtain ⟨a1, es1, e1, k2⟩ := ztb k1; subst e1; obtain ⟨a2, es2, e2, k3⟩ := ztb k2; subst e2; have kn := List.map_eq_nil_iff.1 k3; subst kn; obtain ⟨N, hN⟩ := plain a0 a1 a2 (h2 _ (.head _)) (h2 _ (.tail _ (.head _))) (h2 _ (.tail _ (.tail _ (.head _)))); exact ⟨(zd3.k N).t, true, zhk.ctx (C := K0) (C' := C0) rfl rfl rfl (zd3.k N).m, rfl, hN, rfl⟩)
  rfl (fun ds h => by
   match ds, h with
   | [d1, d2, d3], _ => exact ⟨rfl, rfl, rfl⟩) hval hW (z43 zie (globs := globs) rfl (laid := Rows.translateProofsUptoRow.laid) (by kernel_rfl) (by rw [MakeChecks.laidMetH_plain _ _ _ (by kernel_rfl)] at hL; exact hL))
  (fun d hd => Nat.le_trans (zr0 (ds ++ gs) d (List.mem_append_left _ hd)) hb)
theorem zpy (os : Os) {H : Type} (enc : TypeId × Go.Value → H) : ∃ zlk, DataW.whole enc Proofs.Tryz.prog ((World.laidAll Proofs.Tryz.prog os Rows.translateProofsUptoRow.laid).forCall (fun _ _ => 0) ⟨#[], #[Go.Value.agg #[.int .i64 0, .bool false, .bool false], Go.Value.agg #[.string ⟨#[]⟩, .slice none 0 0, .slice none 0 0, .slice none 0 0], Go.Value.slice none 0 0], []⟩).memory Proofs.Tryz.f5.params.toList Rows.translateProofsSpec.vars false (#[Go.Value.agg #[.int .i64 0, .bool false, .bool false], Go.Value.agg #[.string ⟨#[]⟩, .slice none 0 0, .slice none 0 0, .slice none 0 0], Go.Value.slice none 0 0] : Array Go.Value).toList 12 = some ([.agg [.lit (.int .i64 0), .lit (.bool false), .lit (.bool false)], .agg [.agg [.lit (.string []), .nil], .nil, .nil], .nil], [], zlk) :=
 ⟨[], by kernel_rfl⟩
theorem zpa (plain : zfi) (os : Os) (started : os.Started) (H : Type) (enc : TypeId × Go.Value → H) (F : Stop.Interp) :
 ReturnsInHanded {} Proofs.Tryz.checked os 5 .any ((Rows.OpenSpec.upto Rows.translateProofsSpec).preRow enc Proofs.Tryz.prog Proofs.Tryz.f5 Rows.translateProofsUptoRow.domain false Rows.translateProofsUptoRow.laid) (((Rows.OpenSpec.upto Rows.translateProofsSpec).at F).post enc Proofs.Tryz.prog Proofs.Tryz.f5 false true false false) := by
 obtain ⟨zlk, hx⟩ := zpy os enc
 refine returnsInHanded_of_row (C := Proofs.Tryz.checked) (s := Rows.OpenSpec.upto Rows.translateProofsSpec) zrc started (by kernel_rfl) Proofs.Tryz.func5
  (witness_row_atRef (enc := enc) (C := Proofs.Tryz.checked) false (World.laidAll Proofs.Tryz.prog os Rows.translateProofsUptoRow.laid) #[Go.Value.agg #[.int .i64 0, .bool false, .bool false], Go.Value.agg #[.string ⟨#[]⟩, .slice none 0 0, .slice none 0 0, .slice none 0 0], Go.Value.slice none 0 0] (World.laidAll_os _ _ _) (by kernel_rfl) (by kernel_rfl) (by kernel_rfl)
   (OpenSpec.preRow_of_cond 12 hx (by kernel_rfl) (fun k hk => by cases hk; kernel_rfl) (by kernel_rfl) (laidMet_laidAll #[Go.Value.agg #[.int .i64 0, .bool false, .bool false], Go.Value.agg #[.string ⟨#[]⟩, .slice none 0 0, .slice none 0 0, .slice none 0 0], Go.Value.slice none 0 0] (by kernel_rfl) (by kernel_rfl)))) ?_
 intro W base args ds gs before hval hW _ hcond _ hL _ _
 exact znv plain H enc W base args ds gs before hval hW hL (of_decide_eq_true (hcond _ rfl))
theorem zqv (plain : zfi) : Rows.TranslateProofsUptoSaid :=
 OpenClaim.holds_of_cond 5 Proofs.Tryz.f5 rfl rfl rfl rfl rfl rfl rfl ⟨rfl, rfl, rfl, rfl, rfl⟩ rfl rfl rfl rfl rfl (by kernel_rfl) Proofs.Tryz.func5 factsTranslateProofs instTranslateProofs wrapTranslateProofs
  (fun os started H enc _ F => by rw [OpenClaim.pre_eq_preRow]; exact zpa plain os started H enc F)
theorem cardTranslateProofs (plain : zfi) : Rows.TranslateProofsUptoCardSaid :=
 Claim7.holds_tied_plain_at .later [] _ _ _ _ (zqv plain) (fun _ h => by cases h) wfTranslateProofs (fun _ h => by cases h) translateProofsUpto_row_tie rfl ⟨rfl, rfl⟩ mainTranslateProofs rfl noStandTranslateProofs goesTranslateProofs
end
end Go.Proofs.YtblgefddnnlniaaGreatDoor.M
