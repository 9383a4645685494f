/- The row and the card of TranslateFacts, of the plain law. -/
import Derived.Test.YtblgefddnnlniaaGreatDoorF1
import Derived.Test.YtblgefddnnlniaaGreatDoorR
import Derived.Test.YtblgefddnnlniaaGreatDoorVTranslateFacts
import Derived.Test.YtblgefddnnlniaaGreatDoorCards
import Derived.Test.YtblgefddnnlniaaGreatDoorTie
import Derived.WalkKit
import Derived.ProofKit
import Derived.OpenShut
import Derived.Deep.DeepHandedRow
import Derived.Deep.DeepWitnessRowRef
import Derived.Lay
import Derived.MakeChecks
namespace Go.Proofs.YtblgefddnnlniaaGreatDoor.M
open Go Go.Amx
set_option linter.unusedVariables false
set_option maxRecDepth 100000
noncomputable section
def zft : Prop := ∀ (a0 : zI) (a1 : zF), Wft En 1048576 Ty.zI a0 → Wft En 1048576 Ty.zF a1 → ∃ N, zeh N a0 a1 = some true
theorem zr5 : ownKnob Proofs.Tryz.prog.godebug = none := by kernel_rfl
theorem zop (plain : zft) (H : Type) (enc : TypeId × Go.Value → H) (W : World) (base : Nat) (args : Array Go.Value) (ds gs : List (DataW H)) (before : List MemPlace)
 (hval : ∀ (j : Nat) t v, Proofs.Tryz.f3.params[j]? = some t → args[j]? = some v → Go.Value.okWide Proofs.Tryz.prog W .any base t v)
 (hW : DataW.Whole enc Proofs.Tryz.prog Proofs.Tryz.f3.params.toList Rows.translateFactsSpec.vars false W args.toList ds gs before) (hL : laidMetH Proofs.Tryz.prog Rows.translateFactsUptoRow.laid W) (hb : Rows.uptoBulkAll (ds ++ gs) ≤ 1048576) :
 Calls Proofs.Tryz.prog 3 args W fun e W' => ∃ v, e = .returned v ∧ Rows.translateFactsSpec.post enc Proofs.Tryz.prog Proofs.Tryz.f3 false true false false W args v W' :=
 zvp (C := C0) zvx (bt := 4) (ps := [(23, Ty.zI), (30, Ty.zF)]) rfl rfl Proofs.Tryz.underlying4 (all_cons z5o (all_cons z5n all_nil)) (fun {H} => Rows.uptoBulk (H := H)) z42 1048576
  (fun es h1 h2 => by
   have k0 : es.map (·.ty) = [Ty.zI, Ty.zF] := h1; obtain ⟨a0, es0, e0, k1⟩ := zxk k0; subst e0; obtain ⟨a1, es1, e1, k2⟩ := zxk k1; subst e1; have kn := List.map_eq_nil_iff.1 k2; subst kn; obtain ⟨N, hN⟩ := plain a0 a1 (h2 _ (.head _)) (h2 _ (.tail _ (.head _))); exact ⟨(zeh.k N).t, true, zhh.ctx (C := K0) (C' := C0) rfl rfl rfl (zeh.k N).m, rfl, hN, rfl⟩)
  rfl (fun ds h => by
   match ds, h with
   | [d1, d2], _ => exact ⟨rfl, rfl, rfl⟩) hval hW (z5x zj2 (globs := globs) rfl (laid := Rows.translateFactsUptoRow.laid) (by kernel_rfl) (by rw [MakeChecks.laidMetH_plain _ _ _ (by kernel_rfl)] at hL; exact hL))
  (fun d hd => Nat.le_trans (zr2 (ds ++ gs) d (List.mem_append_left _ hd)) hb)
theorem zqu (os : Os) {H : Type} (enc : TypeId × Go.Value → H) : ∃ zle, DataW.whole enc Proofs.Tryz.prog ((World.laidAll Proofs.Tryz.prog os Rows.translateFactsUptoRow.laid).forCall (fun _ _ => 0) ⟨#[], #[Go.Value.agg #[.int .i64 0, .bool false, .bool false], Go.Value.agg #[.string ⟨#[]⟩, .slice none 0 0, .slice none 0 0, .slice none 0 0]], []⟩).memory Proofs.Tryz.f3.params.toList Rows.translateFactsSpec.vars false (#[Go.Value.agg #[.int .i64 0, .bool false, .bool false], Go.Value.agg #[.string ⟨#[]⟩, .slice none 0 0, .slice none 0 0, .slice none 0 0]] : Array Go.Value).toList 12 = some ([.agg [.lit (.int .i64 0), .lit (.bool false), .lit (.bool false)], .agg [.agg [.lit (.string []), .nil], .nil, .nil]], [], zle) :=
 ⟨[], by kernel_rfl⟩
theorem zp6 (plain : zft) (os : Os) (started : os.Started) (H : Type) (enc : TypeId × Go.Value → H) (F : Stop.Interp) :
 ReturnsInHanded {} Proofs.Tryz.checked os 3 .any ((Rows.OpenSpec.upto Rows.translateFactsSpec).preRow enc Proofs.Tryz.prog Proofs.Tryz.f3 Rows.translateFactsUptoRow.domain false Rows.translateFactsUptoRow.laid) (((Rows.OpenSpec.upto Rows.translateFactsSpec).at F).post enc Proofs.Tryz.prog Proofs.Tryz.f3 false true false false) := by
 obtain ⟨zle, hx⟩ := zqu os enc
 refine returnsInHanded_of_row (C := Proofs.Tryz.checked) (s := Rows.OpenSpec.upto Rows.translateFactsSpec) zr5 started (by kernel_rfl) Proofs.Tryz.func3
  (witness_row_atRef (enc := enc) (C := Proofs.Tryz.checked) false (World.laidAll Proofs.Tryz.prog os Rows.translateFactsUptoRow.laid) #[Go.Value.agg #[.int .i64 0, .bool false, .bool false], Go.Value.agg #[.string ⟨#[]⟩, .slice none 0 0, .slice none 0 0, .slice none 0 0]] (World.laidAll_os _ _ _) (by kernel_rfl) (by kernel_rfl) (by kernel_rfl)
   (OpenSpec.preRow_of_cond 12 hx (by kernel_rfl) (fun k hk => by cases hk; kernel_rfl) (by kernel_rfl) (laidMet_laidAll #[Go.Value.agg #[.int .i64 0, .bool false, .bool false], Go.Value.agg #[.string ⟨#[]⟩, .slice none 0 0, .slice none 0 0, .slice none 0 0]] (by kernel_rfl) (by kernel_rfl)))) ?_
 intro W base args ds gs before hval hW _ hcond _ hL _ _
 exact zop plain H enc W base args ds gs before hval hW hL (of_decide_eq_true (hcond _ rfl))
theorem zq6 (plain : zft) : Rows.TranslateFactsUptoSaid :=
 OpenClaim.holds_of_cond 3 Proofs.Tryz.f3 rfl rfl rfl rfl rfl rfl rfl ⟨rfl, rfl, rfl, rfl, rfl⟩ rfl rfl rfl rfl rfl (by kernel_rfl) Proofs.Tryz.func3 factsTranslateFacts instTranslateFacts wrapTranslateFacts
  (fun os started H enc _ F => by rw [OpenClaim.pre_eq_preRow]; exact zp6 plain os started H enc F)
theorem cardTranslateFacts (plain : zft) : Rows.TranslateFactsUptoCardSaid :=
 Claim7.holds_tied_plain_at .later [] _ _ _ _ (zq6 plain) (fun _ h => by cases h) wfTranslateFacts (fun _ h => by cases h) translateFactsUpto_row_tie rfl ⟨rfl, rfl⟩ mainTranslateFacts rfl noStandTranslateFacts goesTranslateFacts
end
end Go.Proofs.YtblgefddnnlniaaGreatDoor.M
