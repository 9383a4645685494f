/- The row and the card of InterpretUnchanged, of the plain law. -/
import Derived.Test.YtmifhmfokbigiaaGreatDoorF1
import Derived.Test.YtmifhmfokbigiaaGreatDoorR
import Derived.Test.YtmifhmfokbigiaaGreatDoorVInterpretUnchanged
import Derived.Test.YtmifhmfokbigiaaGreatDoorCards
import Derived.Test.YtmifhmfokbigiaaGreatDoorTie
import Derived.WalkKit
import Derived.ProofKit
import Derived.OpenShut
import Derived.Deep.DeepHandedRow
import Derived.Deep.DeepWitnessRowRef
import Derived.Lay
import Derived.MakeChecks
namespace Go.Proofs.YtmifhmfokbigiaaGreatDoor.M
open Go Go.Amx
set_option linter.unusedVariables false
set_option maxRecDepth 100000
noncomputable section
def zhd : Prop := ∀ (a0 : zB) (a1 : zC), Wft En 1048576 Ty.zB a0 → Wft En 1048576 Ty.zC a1 → ∃ N, zet N a0 a1 = some true
theorem zx0 : ownKnob Proofs.Tryz.prog.godebug = none := by kernel_rfl
theorem zvb (plain : zhd) (H : Type) (enc : TypeId × Go.Value → H) (W : World) (base : Nat) (args : Array Go.Value) (ds gs : List (DataW H)) (before : List MemPlace)
 (hval : ∀ (j : Nat) t v, Proofs.Tryz.f8.params[j]? = some t → args[j]? = some v → Go.Value.okWide Proofs.Tryz.prog W .any base t v)
 (hW : DataW.Whole enc Proofs.Tryz.prog Proofs.Tryz.f8.params.toList Rows.interpretUnchangedSpec.vars false W args.toList ds gs before) (hL : laidMetH Proofs.Tryz.prog Rows.interpretUnchangedUptoRow.laid W) (hb : Rows.uptoBulkAll (ds ++ gs) ≤ 1048576) :
 Calls Proofs.Tryz.prog 8 args W fun e W' => ∃ v, e = .returned v ∧ Rows.interpretUnchangedSpec.post enc Proofs.Tryz.prog Proofs.Tryz.f8 false true false false W args v W' :=
 zwn (C := C0) z5f (bt := 4) (ps := [(26, Ty.zB), (44, Ty.zC)]) rfl rfl Proofs.Tryz.underlying4 (all_cons zaf5 (all_cons zaf4 zdb)) (fun {H} => Rows.uptoBulk (H := H)) zafa 1048576
  (fun es h1 h2 => by
   have k0 : es.map (·.ty) = [Ty.zB, Ty.zC] := h1; obtain ⟨a0, es0, e0, k1⟩ := z9m k0; subst e0; obtain ⟨a1, es1, e1, k2⟩ := z9m k1; subst e1; have kn := List.map_eq_nil_iff.1 k2; subst kn; obtain ⟨N, hN⟩ := plain a0 a1 (h2 _ (.head _)) (h2 _ (.tail _ (.head _))); exact ⟨(zet.k N).t, true, zgv.ctx (C := K0) (C' := C0) rfl rfl rfl (zet.k N).m, rfl, hN, rfl⟩)
  rfl (fun ds h => by
   match ds, h with
   | [d1, d2], _ => exact ⟨rfl, rfl, rfl⟩) hval hW (z7d zm2 (globs := globs) rfl (laid := Rows.interpretUnchangedUptoRow.laid) (by kernel_rfl) (by rw [MakeChecks.laidMetH_plain _ _ _ (by kernel_rfl)] at hL; exact hL))
  (fun d hd => Nat.le_trans (z2s (ds ++ gs) d (List.mem_append_left _ hd)) hb)
theorem zwt (os : Os) {H : Type} (enc : TypeId × Go.Value → H) : ∃ zls, DataW.whole enc Proofs.Tryz.prog ((World.laidAll Proofs.Tryz.prog os Rows.interpretUnchangedUptoRow.laid).forCall (fun _ _ => 0) ⟨#[], #[Go.Value.agg #[.slice none 0 0, .slice none 0 0, .slice none 0 0], Go.Value.agg #[.string ⟨#[]⟩, .slice none 0 0, .int .i64 0, .slice none 0 0, .slice none 0 0, .int .i64 0, .int .i64 0, .int .i64 0]], []⟩).memory Proofs.Tryz.f8.params.toList Rows.interpretUnchangedSpec.vars false (#[Go.Value.agg #[.slice none 0 0, .slice none 0 0, .slice none 0 0], Go.Value.agg #[.string ⟨#[]⟩, .slice none 0 0, .int .i64 0, .slice none 0 0, .slice none 0 0, .int .i64 0, .int .i64 0, .int .i64 0]] : Array Go.Value).toList 12 = some ([.agg [.nil, .nil, .nil], .agg [.agg [.lit (.string []), .nil], .lit (.int .i64 0), .nil, .nil, .lit (.int .i64 0), .lit (.int .i64 0), .lit (.int .i64 0)]], [], zls) :=
 ⟨[], by kernel_rfl⟩
theorem zwh (plain : zhd) (os : Os) (started : os.Started) (H : Type) (enc : TypeId × Go.Value → H) (F : Stop.Interp) :
 ReturnsInHanded {} Proofs.Tryz.checked os 8 .any ((Rows.OpenSpec.upto Rows.interpretUnchangedSpec).preRow enc Proofs.Tryz.prog Proofs.Tryz.f8 Rows.interpretUnchangedUptoRow.domain false Rows.interpretUnchangedUptoRow.laid) (((Rows.OpenSpec.upto Rows.interpretUnchangedSpec).at F).post enc Proofs.Tryz.prog Proofs.Tryz.f8 false true false false) := by
 obtain ⟨zls, hx⟩ := zwt os enc
 refine returnsInHanded_of_row (C := Proofs.Tryz.checked) (s := Rows.OpenSpec.upto Rows.interpretUnchangedSpec) zx0 started (by kernel_rfl) Proofs.Tryz.func8
  (witness_row_atRef (enc := enc) (C := Proofs.Tryz.checked) false (World.laidAll Proofs.Tryz.prog os Rows.interpretUnchangedUptoRow.laid) #[Go.Value.agg #[.slice none 0 0, .slice none 0 0, .slice none 0 0], Go.Value.agg #[.string ⟨#[]⟩, .slice none 0 0, .int .i64 0, .slice none 0 0, .slice none 0 0, .int .i64 0, .int .i64 0, .int .i64 0]] (World.laidAll_os _ _ _) (by kernel_rfl) (by kernel_rfl) (by kernel_rfl)
   (OpenSpec.preRow_of_cond 12 hx (by kernel_rfl) (fun k hk => by cases hk; kernel_rfl) (by kernel_rfl) (laidMet_laidAll #[Go.Value.agg #[.slice none 0 0, .slice none 0 0, .slice none 0 0], Go.Value.agg #[.string ⟨#[]⟩, .slice none 0 0, .int .i64 0, .slice none 0 0, .slice none 0 0, .int .i64 0, .int .i64 0, .int .i64 0]] (by kernel_rfl) (by kernel_rfl)))) ?_
 intro W base args ds gs before hval hW _ hcond _ hL _ _
 exact zvb plain H enc W base args ds gs before hval hW hL (of_decide_eq_true (hcond _ rfl))
theorem zw7 (plain : zhd) : Rows.InterpretUnchangedUptoSaid :=
 OpenClaim.holds_of_cond 8 Proofs.Tryz.f8 rfl rfl rfl rfl rfl rfl rfl ⟨rfl, rfl, rfl, rfl, rfl⟩ rfl rfl rfl rfl rfl (by kernel_rfl) Proofs.Tryz.func8 factsInterpretUnchanged instInterpretUnchanged wrapInterpretUnchanged
  (fun os started H enc _ F => by rw [OpenClaim.pre_eq_preRow]; exact zwh plain os started H enc F)
theorem cardInterpretUnchanged (plain : zhd) : Rows.InterpretUnchangedUptoCardSaid :=
 Claim7.holds_tied_plain_at .later [] _ _ _ _ (zw7 plain) (fun _ h => by cases h) wfInterpretUnchanged (fun _ h => by cases h) interpretUnchangedUpto_row_tie rfl ⟨rfl, rfl⟩ mainInterpretUnchanged rfl noStandInterpretUnchanged goesInterpretUnchanged
end
end Go.Proofs.YtmifhmfokbigiaaGreatDoor.M
