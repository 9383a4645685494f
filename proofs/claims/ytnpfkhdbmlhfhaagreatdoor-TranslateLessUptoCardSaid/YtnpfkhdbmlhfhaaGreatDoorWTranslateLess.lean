/- The row and the card of TranslateLess, of the plain law. -/
import Derived.Test.YtnpfkhdbmlhfhaaGreatDoorF1
import Derived.Test.YtnpfkhdbmlhfhaaGreatDoorR
import Derived.Test.YtnpfkhdbmlhfhaaGreatDoorVTranslateLess
import Derived.Test.YtnpfkhdbmlhfhaaGreatDoorCards
import Derived.Test.YtnpfkhdbmlhfhaaGreatDoorTie
import Derived.WalkKit
import Derived.ProofKit
import Derived.OpenShut
import Derived.Deep.DeepHandedRow
import Derived.Deep.DeepWitnessRowRef
import Derived.Lay
import Derived.MakeChecks
namespace Go.Proofs.YtnpfkhdbmlhfhaaGreatDoor.M
open Go Go.Amx
set_option linter.unusedVariables false
set_option maxRecDepth 100000
noncomputable section
def zgk : Prop := ∀ (a0 : zI) (a1 : zF), Wft En 1048576 Ty.zI a0 → Wft En 1048576 Ty.zF a1 → ∃ N, zat N a0 a1 = some true
theorem zty : ownKnob Proofs.Tryz.prog.godebug = none := by kernel_rfl
theorem zpy (plain : zgk) (H : Type) (enc : TypeId × Go.Value → H) (W : World) (base : Nat) (args : Array Go.Value) (ds gs : List (DataW H)) (before : List MemPlace)
 (hval : ∀ (j : Nat) t v, Proofs.Tryz.f4.params[j]? = some t → args[j]? = some v → Go.Value.okWide Proofs.Tryz.prog W .any base t v)
 (hW : DataW.Whole enc Proofs.Tryz.prog Proofs.Tryz.f4.params.toList Rows.translateLessSpec.vars false W args.toList ds gs before) (hL : laidMetH Proofs.Tryz.prog Rows.translateLessUptoRow.laid W) (hb : Rows.uptoBulkAll (ds ++ gs) ≤ 1048576) :
 Calls Proofs.Tryz.prog 4 args W fun e W' => ∃ v, e = .returned v ∧ Rows.translateLessSpec.post enc Proofs.Tryz.prog Proofs.Tryz.f4 false true false false W args v W' :=
 zww (C := C0) zw6 (bt := 4) (ps := [(23, Ty.zI), (30, Ty.zF)]) rfl rfl Proofs.Tryz.underlying4 (all_cons z73 (all_cons z72 all_nil)) (fun {H} => Rows.uptoBulk (H := H)) z7f 1048576
  (fun es h1 h2 => by
   have k0 : es.map (·.ty) = [Ty.zI, Ty.zF] := h1; obtain ⟨a0, es0, e0, k1⟩ := zyy k0; subst e0; obtain ⟨a1, es1, e1, k2⟩ := zyy k1; subst e1; have kn := List.map_eq_nil_iff.1 k2; subst kn; obtain ⟨N, hN⟩ := plain a0 a1 (h2 _ (.head _)) (h2 _ (.tail _ (.head _))); exact ⟨(zat.k N).t, true, zhl.ctx (C := K0) (C' := C0) rfl rfl rfl (zat.k N).m, rfl, hN, rfl⟩)
  rfl (fun ds h => by
   match ds, h with
   | [d1, d2], _ => exact ⟨rfl, rfl, rfl⟩) hval hW (z8f zke (globs := globs) rfl (laid := Rows.translateLessUptoRow.laid) (by kernel_rfl) (by rw [MakeChecks.laidMetH_plain _ _ _ (by kernel_rfl)] at hL; exact hL))
  (fun d hd => Nat.le_trans (zsu (ds ++ gs) d (List.mem_append_left _ hd)) hb)
theorem zrz (os : Os) {H : Type} (enc : TypeId × Go.Value → H) : ∃ zlq, DataW.whole enc Proofs.Tryz.prog ((World.laidAll Proofs.Tryz.prog os Rows.translateLessUptoRow.laid).forCall (fun _ _ => 0) ⟨#[], #[Go.Value.agg #[.int .i64 0, .bool false, .bool false], Go.Value.agg #[.string ⟨#[]⟩, .slice none 0 0, .slice none 0 0, .slice none 0 0]], []⟩).memory Proofs.Tryz.f4.params.toList Rows.translateLessSpec.vars false (#[Go.Value.agg #[.int .i64 0, .bool false, .bool false], Go.Value.agg #[.string ⟨#[]⟩, .slice none 0 0, .slice none 0 0, .slice none 0 0]] : Array Go.Value).toList 12 = some ([.agg [.lit (.int .i64 0), .lit (.bool false), .lit (.bool false)], .agg [.agg [.lit (.string []), .nil], .nil, .nil]], [], zlq) :=
 ⟨[], by kernel_rfl⟩
theorem zrm (plain : zgk) (os : Os) (started : os.Started) (H : Type) (enc : TypeId × Go.Value → H) (F : Stop.Interp) :
 ReturnsInHanded {} Proofs.Tryz.checked os 4 .any ((Rows.OpenSpec.upto Rows.translateLessSpec).preRow enc Proofs.Tryz.prog Proofs.Tryz.f4 Rows.translateLessUptoRow.domain false Rows.translateLessUptoRow.laid) (((Rows.OpenSpec.upto Rows.translateLessSpec).at F).post enc Proofs.Tryz.prog Proofs.Tryz.f4 false true false false) := by
 obtain ⟨zlq, hx⟩ := zrz os enc
 refine returnsInHanded_of_row (C := Proofs.Tryz.checked) (s := Rows.OpenSpec.upto Rows.translateLessSpec) zty started (by kernel_rfl) Proofs.Tryz.func4
  (witness_row_atRef (enc := enc) (C := Proofs.Tryz.checked) false (World.laidAll Proofs.Tryz.prog os Rows.translateLessUptoRow.laid) #[Go.Value.agg #[.int .i64 0, .bool false, .bool false], Go.Value.agg #[.string ⟨#[]⟩, .slice none 0 0, .slice none 0 0, .slice none 0 0]] (World.laidAll_os _ _ _) (by kernel_rfl) (by kernel_rfl) (by kernel_rfl)
   (OpenSpec.preRow_of_cond 12 hx (by kernel_rfl) (fun k hk => by cases hk; kernel_rfl) (by kernel_rfl) (laidMet_laidAll #[Go.Value.agg #[.int .i64 0, .bool false, .bool false], Go.Value.agg #[.string ⟨#[]⟩, .slice none 0 0, .slice none 0 0, .slice none 0 0]] (by kernel_rfl) (by kernel_rfl)))) ?_
 intro W base args ds gs before hval hW _ hcond _ hL _ _
 exact zpy plain H enc W base args ds gs before hval hW hL (of_decide_eq_true (hcond _ rfl))
theorem zsw (plain : zgk) : Rows.TranslateLessUptoSaid :=
 OpenClaim.holds_of_cond 4 Proofs.Tryz.f4 rfl rfl rfl rfl rfl rfl rfl ⟨rfl, rfl, rfl, rfl, rfl⟩ rfl rfl rfl rfl rfl (by kernel_rfl) Proofs.Tryz.func4 factsTranslateLess instTranslateLess wrapTranslateLess
  (fun os started H enc _ F => by rw [OpenClaim.pre_eq_preRow]; exact zrm plain os started H enc F)
theorem cardTranslateLess (plain : zgk) : Rows.TranslateLessUptoCardSaid :=
 Claim7.holds_tied_plain_at .later [] _ _ _ _ (zsw plain) (fun _ h => by cases h) wfTranslateLess (fun _ h => by cases h) translateLessUpto_row_tie rfl ⟨rfl, rfl⟩ mainTranslateLess rfl noStandTranslateLess goesTranslateLess
end
end Go.Proofs.YtnpfkhdbmlhfhaaGreatDoor.M
