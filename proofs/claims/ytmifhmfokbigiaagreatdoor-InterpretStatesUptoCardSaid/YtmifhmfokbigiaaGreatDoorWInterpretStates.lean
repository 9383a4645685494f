/- The row and the card of InterpretStates, of the plain law. -/
import Derived.Test.YtmifhmfokbigiaaGreatDoorF1
import Derived.Test.YtmifhmfokbigiaaGreatDoorR
import Derived.Test.YtmifhmfokbigiaaGreatDoorVInterpretStates
import Derived.Test.YtmifhmfokbigiaaGreatDoorCards
import Derived.Test.YtmifhmfokbigiaaGreatDoorTie
import Derived.WalkKit
import Derived.ProofKit
import Derived.OpenShut
import Derived.Deep.DeepHandedRow
import Derived.Deep.DeepWitnessRowRef
import Derived.Lay
import Derived.MakeChecks
namespace Go.Proofs.YtmifhmfokbigiaaGreatDoor.M
open Go Go.Amx
set_option linter.unusedVariables false
set_option maxRecDepth 100000
noncomputable section
def zfl : Prop := ∀ (a0 : zB) (a1 : zD), Wft En 1048576 Ty.zB a0 → Wft En 1048576 Ty.zD a1 → ∃ N, zd2 N a0 a1 = some true
theorem zrz : ownKnob Proofs.Tryz.prog.godebug = none := by kernel_rfl
theorem zoa (plain : zfl) (H : Type) (enc : TypeId × Go.Value → H) (W : World) (base : Nat) (args : Array Go.Value) (ds gs : List (DataW H)) (before : List MemPlace)
 (hval : ∀ (j : Nat) t v, Proofs.Tryz.f6.params[j]? = some t → args[j]? = some v → Go.Value.okWide Proofs.Tryz.prog W .any base t v)
 (hW : DataW.Whole enc Proofs.Tryz.prog Proofs.Tryz.f6.params.toList Rows.interpretStatesSpec.vars false W args.toList ds gs before) (hL : laidMetH Proofs.Tryz.prog Rows.interpretStatesUptoRow.laid W) (hb : Rows.uptoBulkAll (ds ++ gs) ≤ 1048576) :
 Calls Proofs.Tryz.prog 6 args W fun e W' => ∃ v, e = .returned v ∧ Rows.interpretStatesSpec.post enc Proofs.Tryz.prog Proofs.Tryz.f6 false true false false W args v W' :=
 zwn (C := C0) zu6 (bt := 4) (ps := [(26, Ty.zB), (44, Ty.zD)]) rfl rfl Proofs.Tryz.underlying4 (all_cons z65 (all_cons z64 zdb)) (fun {H} => Rows.uptoBulk (H := H)) z6j 1048576
  (fun es h1 h2 => by
   have k0 : es.map (·.ty) = [Ty.zB, Ty.zD] := h1; obtain ⟨a0, es0, e0, k1⟩ := zyt k0; subst e0; obtain ⟨a1, es1, e1, k2⟩ := zyt k1; subst e1; have kn := List.map_eq_nil_iff.1 k2; subst kn; obtain ⟨N, hN⟩ := plain a0 a1 (h2 _ (.head _)) (h2 _ (.tail _ (.head _))); exact ⟨(zd2.k N).t, true, zgv.ctx (C := K0) (C' := C0) rfl rfl rfl (zd2.k N).m, rfl, hN, rfl⟩)
  rfl (fun ds h => by
   match ds, h with
   | [d1, d2], _ => exact ⟨rfl, rfl, rfl⟩) hval hW (z7d zia (globs := globs) rfl (laid := Rows.interpretStatesUptoRow.laid) (by kernel_rfl) (by rw [MakeChecks.laidMetH_plain _ _ _ (by kernel_rfl)] at hL; exact hL))
  (fun d hd => Nat.le_trans (zsr (ds ++ gs) d (List.mem_append_left _ hd)) hb)
theorem zp8 (os : Os) {H : Type} (enc : TypeId × Go.Value → H) : ∃ zls, DataW.whole enc Proofs.Tryz.prog ((World.laidAll Proofs.Tryz.prog os Rows.interpretStatesUptoRow.laid).forCall (fun _ _ => 0) ⟨#[], #[Go.Value.agg #[.slice none 0 0, .slice none 0 0, .slice none 0 0], Go.Value.agg #[.string ⟨#[]⟩, .slice none 0 0, .int .i64 0, .slice none 0 0, .slice none 0 0, .int .i64 0, .int .i64 0, .int .i64 0]], []⟩).memory Proofs.Tryz.f6.params.toList Rows.interpretStatesSpec.vars false (#[Go.Value.agg #[.slice none 0 0, .slice none 0 0, .slice none 0 0], Go.Value.agg #[.string ⟨#[]⟩, .slice none 0 0, .int .i64 0, .slice none 0 0, .slice none 0 0, .int .i64 0, .int .i64 0, .int .i64 0]] : Array Go.Value).toList 12 = some ([.agg [.nil, .nil, .nil], .agg [.agg [.lit (.string []), .nil], .lit (.int .i64 0), .nil, .nil, .lit (.int .i64 0), .lit (.int .i64 0), .lit (.int .i64 0)]], [], zls) :=
 ⟨[], by kernel_rfl⟩
theorem zpq (plain : zfl) (os : Os) (started : os.Started) (H : Type) (enc : TypeId × Go.Value → H) (F : Stop.Interp) :
 ReturnsInHanded {} Proofs.Tryz.checked os 6 .any ((Rows.OpenSpec.upto Rows.interpretStatesSpec).preRow enc Proofs.Tryz.prog Proofs.Tryz.f6 Rows.interpretStatesUptoRow.domain false Rows.interpretStatesUptoRow.laid) (((Rows.OpenSpec.upto Rows.interpretStatesSpec).at F).post enc Proofs.Tryz.prog Proofs.Tryz.f6 false true false false) := by
 obtain ⟨zls, hx⟩ := zp8 os enc
 refine returnsInHanded_of_row (C := Proofs.Tryz.checked) (s := Rows.OpenSpec.upto Rows.interpretStatesSpec) zrz started (by kernel_rfl) Proofs.Tryz.func6
  (witness_row_atRef (enc := enc) (C := Proofs.Tryz.checked) false (World.laidAll Proofs.Tryz.prog os Rows.interpretStatesUptoRow.laid) #[Go.Value.agg #[.slice none 0 0, .slice none 0 0, .slice none 0 0], Go.Value.agg #[.string ⟨#[]⟩, .slice none 0 0, .int .i64 0, .slice none 0 0, .slice none 0 0, .int .i64 0, .int .i64 0, .int .i64 0]] (World.laidAll_os _ _ _) (by kernel_rfl) (by kernel_rfl) (by kernel_rfl)
   (OpenSpec.preRow_of_cond 12 hx (by kernel_rfl) (fun k hk => by cases hk; kernel_rfl) (by kernel_rfl) (laidMet_laidAll #[Go.Value.agg #[.slice none 0 0, .slice none 0 0, .slice none 0 0], Go.Value.agg #[.string ⟨#[]⟩, .slice none 0 0, .int .i64 0, .slice none 0 0, .slice none 0 0, .int .i64 0, .int .i64 0, .int .i64 0]] (by kernel_rfl) (by kernel_rfl)))) ?_
 intro W base args ds gs before hval hW _ hcond _ hL _ _
 exact zoa plain H enc W base args ds gs before hval hW hL (of_decide_eq_true (hcond _ rfl))
theorem zrd (plain : zfl) : Rows.InterpretStatesUptoSaid :=
 OpenClaim.holds_of_cond 6 Proofs.Tryz.f6 rfl rfl rfl rfl rfl rfl rfl ⟨rfl, rfl, rfl, rfl, rfl⟩ rfl rfl rfl rfl rfl (by kernel_rfl) Proofs.Tryz.func6 factsInterpretStates instInterpretStates wrapInterpretStates
  (fun os started H enc _ F => by rw [OpenClaim.pre_eq_preRow]; exact zpq plain os started H enc F)
theorem cardInterpretStates (plain : zfl) : Rows.InterpretStatesUptoCardSaid :=
 Claim7.holds_tied_plain_at .later [] _ _ _ _ (zrd plain) (fun _ h => by cases h) wfInterpretStates (fun _ h => by cases h) interpretStatesUpto_row_tie rfl ⟨rfl, rfl⟩ mainInterpretStates rfl noStandInterpretStates goesInterpretStates
end
end Go.Proofs.YtmifhmfokbigiaaGreatDoor.M
