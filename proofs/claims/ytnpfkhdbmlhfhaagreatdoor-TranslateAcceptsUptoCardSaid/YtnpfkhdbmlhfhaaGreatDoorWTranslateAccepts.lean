/- The row and the card of TranslateAccepts, of the plain law. -/
import Derived.Test.YtnpfkhdbmlhfhaaGreatDoorF2
import Derived.Test.YtnpfkhdbmlhfhaaGreatDoorR
import Derived.Test.YtnpfkhdbmlhfhaaGreatDoorVTranslateAccepts
import Derived.Test.YtnpfkhdbmlhfhaaGreatDoorCards
import Derived.Test.YtnpfkhdbmlhfhaaGreatDoorTie
import Derived.WalkKit
import Derived.ProofKit
import Derived.OpenShut
import Derived.Deep.DeepHandedRow
import Derived.Deep.DeepWitnessRowRef
import Derived.Lay
import Derived.MakeChecks
namespace Go.Proofs.YtnpfkhdbmlhfhaaGreatDoor.M
open Go Go.Amx
set_option linter.unusedVariables false
set_option maxRecDepth 100000
noncomputable section
def zfq : Prop := ∀ (a0 : Optimization), Wft En 1048576 Ty.Optimization a0 → ∃ N, zd9 N a0 = some true
theorem zro : ownKnob Proofs.Tryz.prog.godebug = none := by kernel_rfl
theorem zog (plain : zfq) (H : Type) (enc : TypeId × Go.Value → H) (W : World) (base : Nat) (args : Array Go.Value) (ds gs : List (DataW H)) (before : List MemPlace)
 (hval : ∀ (j : Nat) t v, Proofs.Tryz.f6.params[j]? = some t → args[j]? = some v → Go.Value.okWide Proofs.Tryz.prog W .any base t v)
 (hW : DataW.Whole enc Proofs.Tryz.prog Proofs.Tryz.f6.params.toList Rows.translateAcceptsSpec.vars false W args.toList ds gs before) (hL : laidMetH Proofs.Tryz.prog Rows.translateAcceptsUptoRow.laid W) (hb : Rows.uptoBulkAll (ds ++ gs) ≤ 1048576) :
 Calls Proofs.Tryz.prog 6 args W fun e W' => ∃ v, e = .returned v ∧ Rows.translateAcceptsSpec.post enc Proofs.Tryz.prog Proofs.Tryz.f6 false true false false W args v W' :=
 zwh (C := C0) zwp (bt := 4) (ps := [(75, Ty.Optimization)]) rfl rfl Proofs.Tryz.underlying4 (all_cons z6o all_nil) (fun {H} => Rows.uptoBulk (H := H)) z56 1048576
  (fun es h1 h2 => by
   have k0 : es.map (·.ty) = [Ty.Optimization] := h1; obtain ⟨a0, es0, e0, k1⟩ := z30 k0; subst e0; have kn := List.map_eq_nil_iff.1 k1; subst kn; obtain ⟨N, hN⟩ := plain a0 (h2 _ (.head _)); exact ⟨(zd9.k N).t, true, zh5.ctx (C := K0) (C' := C0) rfl rfl rfl (zd9.k N).m, rfl, hN, rfl⟩)
  rfl (fun ds h => by
   match ds, h with
   | [d1], _ => exact ⟨rfl, rfl, rfl⟩) hval hW (z6y zg5 (globs := globs) rfl (laid := Rows.translateAcceptsUptoRow.laid) (by kernel_rfl) (by rw [MakeChecks.laidMetH_plain _ _ _ (by kernel_rfl)] at hL; exact hL))
  (fun d hd => Nat.le_trans (zsu (ds ++ gs) d (List.mem_append_left _ hd)) hb)
theorem zpx (os : Os) {H : Type} (enc : TypeId × Go.Value → H) : ∃ zl4, DataW.whole enc Proofs.Tryz.prog ((World.laidAll Proofs.Tryz.prog os Rows.translateAcceptsUptoRow.laid).forCall (fun _ _ => 0) ⟨#[], #[Go.Value.agg #[.int .i64 0, .bool false, .bool false, .string ⟨#[]⟩, .slice none 0 0, .slice none 0 0, .slice none 0 0, .string ⟨#[]⟩, .slice none 0 0, .slice none 0 0, .slice none 0 0, .slice none 0 0, .slice none 0 0]], []⟩).memory Proofs.Tryz.f6.params.toList Rows.translateAcceptsSpec.vars false (#[Go.Value.agg #[.int .i64 0, .bool false, .bool false, .string ⟨#[]⟩, .slice none 0 0, .slice none 0 0, .slice none 0 0, .string ⟨#[]⟩, .slice none 0 0, .slice none 0 0, .slice none 0 0, .slice none 0 0, .slice none 0 0]] : Array Go.Value).toList 12 = some ([.agg [.agg [.lit (.int .i64 0), .lit (.bool false), .lit (.bool false)], .agg [.agg [.lit (.string []), .nil], .nil, .nil], .agg [.agg [.lit (.string []), .nil], .nil, .nil], .agg [.nil, .nil]]], [], zl4) :=
 ⟨[], by kernel_rfl⟩
theorem zpl (plain : zfq) (os : Os) (started : os.Started) (H : Type) (enc : TypeId × Go.Value → H) (F : Stop.Interp) :
 ReturnsInHanded {} Proofs.Tryz.checked os 6 .any ((Rows.OpenSpec.upto Rows.translateAcceptsSpec).preRow enc Proofs.Tryz.prog Proofs.Tryz.f6 Rows.translateAcceptsUptoRow.domain false Rows.translateAcceptsUptoRow.laid) (((Rows.OpenSpec.upto Rows.translateAcceptsSpec).at F).post enc Proofs.Tryz.prog Proofs.Tryz.f6 false true false false) := by
 obtain ⟨zl4, hx⟩ := zpx os enc
 refine returnsInHanded_of_row (C := Proofs.Tryz.checked) (s := Rows.OpenSpec.upto Rows.translateAcceptsSpec) zro started (by kernel_rfl) Proofs.Tryz.func6
  (witness_row_atRef (enc := enc) (C := Proofs.Tryz.checked) false (World.laidAll Proofs.Tryz.prog os Rows.translateAcceptsUptoRow.laid) #[Go.Value.agg #[.int .i64 0, .bool false, .bool false, .string ⟨#[]⟩, .slice none 0 0, .slice none 0 0, .slice none 0 0, .string ⟨#[]⟩, .slice none 0 0, .slice none 0 0, .slice none 0 0, .slice none 0 0, .slice none 0 0]] (World.laidAll_os _ _ _) (by kernel_rfl) (by kernel_rfl) (by kernel_rfl)
   (OpenSpec.preRow_of_cond 12 hx (by kernel_rfl) (fun k hk => by cases hk; kernel_rfl) (by kernel_rfl) (laidMet_laidAll #[Go.Value.agg #[.int .i64 0, .bool false, .bool false, .string ⟨#[]⟩, .slice none 0 0, .slice none 0 0, .slice none 0 0, .string ⟨#[]⟩, .slice none 0 0, .slice none 0 0, .slice none 0 0, .slice none 0 0, .slice none 0 0]] (by kernel_rfl) (by kernel_rfl)))) ?_
 intro W base args ds gs before hval hW _ hcond _ hL _ _
 exact zog plain H enc W base args ds gs before hval hW hL (of_decide_eq_true (hcond _ rfl))
theorem zqn (plain : zfq) : Rows.TranslateAcceptsUptoSaid :=
 OpenClaim.holds_of_cond 6 Proofs.Tryz.f6 rfl rfl rfl rfl rfl rfl rfl ⟨rfl, rfl, rfl, rfl, rfl⟩ rfl rfl rfl rfl rfl (by kernel_rfl) Proofs.Tryz.func6 factsTranslateAccepts instTranslateAccepts wrapTranslateAccepts
  (fun os started H enc _ F => by rw [OpenClaim.pre_eq_preRow]; exact zpl plain os started H enc F)
theorem cardTranslateAccepts (plain : zfq) : Rows.TranslateAcceptsUptoCardSaid :=
 Claim7.holds_tied_plain_at .later [] _ _ _ _ (zqn plain) (fun _ h => by cases h) wfTranslateAccepts (fun _ h => by cases h) translateAcceptsUpto_row_tie rfl ⟨rfl, rfl⟩ mainTranslateAccepts rfl noStandTranslateAccepts goesTranslateAccepts
end
end Go.Proofs.YtnpfkhdbmlhfhaaGreatDoor.M
