/- The row and the card of InterpretAgain, of the plain law. -/
import Derived.Test.YtmifhmfokbigiaaGreatDoorF1
import Derived.Test.YtmifhmfokbigiaaGreatDoorR
import Derived.Test.YtmifhmfokbigiaaGreatDoorVInterpretAgain
import Derived.Test.YtmifhmfokbigiaaGreatDoorCards
import Derived.Test.YtmifhmfokbigiaaGreatDoorTie
import Derived.WalkKit
import Derived.ProofKit
import Derived.OpenShut
import Derived.Deep.DeepHandedRow
import Derived.Deep.DeepWitnessRowRef
import Derived.Lay
import Derived.MakeChecks
namespace Go.Proofs.YtmifhmfokbigiaaGreatDoor.M
open Go Go.Amx
set_option linter.unusedVariables false
set_option maxRecDepth 100000
noncomputable section
def zjj : Prop := ∀ (a0 : zB), Wft En 1048576 Ty.zB a0 → ∃ N, za8 N a0 = some true
theorem z3u : ownKnob Proofs.Tryz.prog.godebug = none := by kernel_rfl
theorem zxv (plain : zjj) (H : Type) (enc : TypeId × Go.Value → H) (W : World) (base : Nat) (args : Array Go.Value) (ds gs : List (DataW H)) (before : List MemPlace)
 (hval : ∀ (j : Nat) t v, Proofs.Tryz.f9.params[j]? = some t → args[j]? = some v → Go.Value.okWide Proofs.Tryz.prog W .any base t v)
 (hW : DataW.Whole enc Proofs.Tryz.prog Proofs.Tryz.f9.params.toList Rows.interpretAgainSpec.vars false W args.toList ds gs before) (hL : laidMetH Proofs.Tryz.prog Rows.interpretAgainUptoRow.laid W) (hb : Rows.uptoBulkAll (ds ++ gs) ≤ 1048576) :
 Calls Proofs.Tryz.prog 9 args W fun e W' => ∃ v, e = .returned v ∧ Rows.interpretAgainSpec.post enc Proofs.Tryz.prog Proofs.Tryz.f9 false true false false W args v W' :=
 zwn (C := C0) z55 (bt := 4) (ps := [(26, Ty.zB)]) rfl rfl Proofs.Tryz.underlying4 (all_cons zagp zdb) (fun {H} => Rows.uptoBulk (H := H)) zafr 1048576
  (fun es h1 h2 => by
   have k0 : es.map (·.ty) = [Ty.zB] := h1; obtain ⟨a0, es0, e0, k1⟩ := zaed k0; subst e0; have kn := List.map_eq_nil_iff.1 k1; subst kn; obtain ⟨N, hN⟩ := plain a0 (h2 _ (.head _)); exact ⟨(za8.k N).t, true, zgv.ctx (C := K0) (C' := C0) rfl rfl rfl (za8.k N).m, rfl, hN, rfl⟩)
  rfl (fun ds h => by
   match ds, h with
   | [d1], _ => exact ⟨rfl, rfl, rfl⟩) hval hW (z7d zqp (globs := globs) rfl (laid := Rows.interpretAgainUptoRow.laid) (by kernel_rfl) (by rw [MakeChecks.laidMetH_plain _ _ _ (by kernel_rfl)] at hL; exact hL))
  (fun d hd => Nat.le_trans (z3q (ds ++ gs) d (List.mem_append_left _ hd)) hb)
theorem z07 (os : Os) {H : Type} (enc : TypeId × Go.Value → H) : ∃ zls, DataW.whole enc Proofs.Tryz.prog ((World.laidAll Proofs.Tryz.prog os Rows.interpretAgainUptoRow.laid).forCall (fun _ _ => 0) ⟨#[], #[Go.Value.agg #[.slice none 0 0, .slice none 0 0, .slice none 0 0]], []⟩).memory Proofs.Tryz.f9.params.toList Rows.interpretAgainSpec.vars false (#[Go.Value.agg #[.slice none 0 0, .slice none 0 0, .slice none 0 0]] : Array Go.Value).toList 12 = some ([.agg [.nil, .nil, .nil]], [], zls) :=
 ⟨[], by kernel_rfl⟩
theorem zz1 (plain : zjj) (os : Os) (started : os.Started) (H : Type) (enc : TypeId × Go.Value → H) (F : Stop.Interp) :
 ReturnsInHanded {} Proofs.Tryz.checked os 9 .any ((Rows.OpenSpec.upto Rows.interpretAgainSpec).preRow enc Proofs.Tryz.prog Proofs.Tryz.f9 Rows.interpretAgainUptoRow.domain false Rows.interpretAgainUptoRow.laid) (((Rows.OpenSpec.upto Rows.interpretAgainSpec).at F).post enc Proofs.Tryz.prog Proofs.Tryz.f9 false true false false) := by
 obtain ⟨zls, hx⟩ := z07 os enc
 refine returnsInHanded_of_row (C := Proofs.Tryz.checked) (s := Rows.OpenSpec.upto Rows.interpretAgainSpec) z3u started (by kernel_rfl) Proofs.Tryz.func9
  (witness_row_atRef (enc := enc) (C := Proofs.Tryz.checked) false (World.laidAll Proofs.Tryz.prog os Rows.interpretAgainUptoRow.laid) #[Go.Value.agg #[.slice none 0 0, .slice none 0 0, .slice none 0 0]] (World.laidAll_os _ _ _) (by kernel_rfl) (by kernel_rfl) (by kernel_rfl)
   (OpenSpec.preRow_of_cond 12 hx (by kernel_rfl) (fun k hk => by cases hk; kernel_rfl) (by kernel_rfl) (laidMet_laidAll #[Go.Value.agg #[.slice none 0 0, .slice none 0 0, .slice none 0 0]] (by kernel_rfl) (by kernel_rfl)))) ?_
 intro W base args ds gs before hval hW _ hcond _ hL _ _
 exact zxv plain H enc W base args ds gs before hval hW hL (of_decide_eq_true (hcond _ rfl))
theorem z1m (plain : zjj) : Rows.InterpretAgainUptoSaid :=
 OpenClaim.holds_of_cond 9 Proofs.Tryz.f9 rfl rfl rfl rfl rfl rfl rfl ⟨rfl, rfl, rfl, rfl, rfl⟩ rfl rfl rfl rfl rfl (by kernel_rfl) Proofs.Tryz.func9 factsInterpretAgain instInterpretAgain wrapInterpretAgain
  (fun os started H enc _ F => by rw [OpenClaim.pre_eq_preRow]; exact zz1 plain os started H enc F)
theorem cardInterpretAgain (plain : zjj) : Rows.InterpretAgainUptoCardSaid :=
 Claim7.holds_tied_plain_at .later [] _ _ _ _ (z1m plain) (fun _ h => by cases h) wfInterpretAgain (fun _ h => by cases h) interpretAgainUpto_row_tie rfl ⟨rfl, rfl⟩ mainInterpretAgain rfl noStandInterpretAgain goesInterpretAgain
end
end Go.Proofs.YtmifhmfokbigiaaGreatDoor.M
