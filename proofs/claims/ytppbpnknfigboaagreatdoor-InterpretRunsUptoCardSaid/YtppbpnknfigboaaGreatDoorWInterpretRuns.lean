/- The row and the card of InterpretRuns, of the plain law. -/
import Derived.Test.YtppbpnknfigboaaGreatDoorF1
import Derived.Test.YtppbpnknfigboaaGreatDoorR
import Derived.Test.YtppbpnknfigboaaGreatDoorVInterpretRuns
import Derived.Test.YtppbpnknfigboaaGreatDoorCards
import Derived.Test.YtppbpnknfigboaaGreatDoorTie
import Derived.WalkKit
import Derived.ProofKit
import Derived.OpenShut
import Derived.Deep.DeepHandedRow
import Derived.Deep.DeepWitnessRowRef
import Derived.Lay
import Derived.MakeChecks
namespace Go.Proofs.YtppbpnknfigboaaGreatDoor.M
open Go Go.Amx
set_option linter.unusedVariables false
set_option maxRecDepth 100000
noncomputable section
def zh2 : Prop := ∀ (a0 : zB), Wft En 1048576 Ty.zB a0 → ∃ N, zf5 N a0 = some true
theorem zyj : ownKnob Proofs.Tryz.prog.godebug = none := by kernel_rfl
theorem zs2 (plain : zh2) (H : Type) (enc : TypeId × Go.Value → H) (W : World) (base : Nat) (args : Array Go.Value) (ds gs : List (DataW H)) (before : List MemPlace)
 (hval : ∀ (j : Nat) t v, Proofs.Tryz.f7.params[j]? = some t → args[j]? = some v → Go.Value.okWide Proofs.Tryz.prog W .any base t v)
 (hW : DataW.Whole enc Proofs.Tryz.prog Proofs.Tryz.f7.params.toList Rows.interpretRunsSpec.vars false W args.toList ds gs before) (hL : laidMetH Proofs.Tryz.prog Rows.interpretRunsUptoRow.laid W) (hb : Rows.uptoBulkAll (ds ++ gs) ≤ 1048576) :
 Calls Proofs.Tryz.prog 7 args W fun e W' => ∃ v, e = .returned v ∧ Rows.interpretRunsSpec.post enc Proofs.Tryz.prog Proofs.Tryz.f7 false true false false W args v W' :=
 z2a (C := C0) zz7 (bt := 4) (ps := [(58, Ty.zB)]) rfl rfl Proofs.Tryz.underlying4 (all_cons zaep ze0) (fun {H} => Rows.uptoBulk (H := H)) zadh 1048576
  (fun es h1 h2 => by
   have k0 : es.map (·.ty) = [Ty.zB] := h1; obtain ⟨a0, es0, e0, k1⟩ := zabj k0; subst e0; have kn := List.map_eq_nil_iff.1 k1; subst kn; obtain ⟨N, hN⟩ := plain a0 (h2 _ (.head _)); exact ⟨(zf5.k N).t, true, zh5.ctx (C := K0) (C' := C0) rfl rfl rfl (zf5.k N).m, rfl, hN, rfl⟩)
  rfl (fun ds h => by
   match ds, h with
   | [d1], _ => exact ⟨rfl, rfl, rfl⟩) hval hW (zae4 zmt (globs := globs) rfl (laid := Rows.interpretRunsUptoRow.laid) (by kernel_rfl) (by rw [MakeChecks.laidMetH_plain _ _ _ (by kernel_rfl)] at hL; exact hL))
  (fun d hd => Nat.le_trans (zw5 (ds ++ gs) d (List.mem_append_left _ hd)) hb)
theorem zvr (os : Os) {H : Type} (enc : TypeId × Go.Value → H) : ∃ znw, DataW.whole enc Proofs.Tryz.prog ((World.laidAll Proofs.Tryz.prog os Rows.interpretRunsUptoRow.laid).forCall (fun _ _ => 0) ⟨#[], #[Go.Value.agg #[.slice none 0 0, .slice none 0 0, .slice none 0 0]], []⟩).memory Proofs.Tryz.f7.params.toList Rows.interpretRunsSpec.vars false (#[Go.Value.agg #[.slice none 0 0, .slice none 0 0, .slice none 0 0]] : Array Go.Value).toList 12 = some ([.agg [.nil, .nil, .nil]], [], znw) :=
 ⟨[], by kernel_rfl⟩
theorem zu6 (plain : zh2) (os : Os) (started : os.Started) (H : Type) (enc : TypeId × Go.Value → H) (F : Stop.Interp) :
 ReturnsInHanded {} Proofs.Tryz.checked os 7 .any ((Rows.OpenSpec.upto Rows.interpretRunsSpec).preRow enc Proofs.Tryz.prog Proofs.Tryz.f7 Rows.interpretRunsUptoRow.domain false Rows.interpretRunsUptoRow.laid) (((Rows.OpenSpec.upto Rows.interpretRunsSpec).at F).post enc Proofs.Tryz.prog Proofs.Tryz.f7 false true false false) := by
 obtain ⟨znw, hx⟩ := zvr os enc
 refine returnsInHanded_of_row (C := Proofs.Tryz.checked) (s := Rows.OpenSpec.upto Rows.interpretRunsSpec) zyj started (by kernel_rfl) Proofs.Tryz.func7
  (witness_row_atRef (enc := enc) (C := Proofs.Tryz.checked) false (World.laidAll Proofs.Tryz.prog os Rows.interpretRunsUptoRow.laid) #[Go.Value.agg #[.slice none 0 0, .slice none 0 0, .slice none 0 0]] (World.laidAll_os _ _ _) (by kernel_rfl) (by kernel_rfl) (by kernel_rfl)
   (OpenSpec.preRow_of_cond 12 hx (by kernel_rfl) (fun k hk => by cases hk; kernel_rfl) (by kernel_rfl) (laidMet_laidAll #[Go.Value.agg #[.slice none 0 0, .slice none 0 0, .slice none 0 0]] (by kernel_rfl) (by kernel_rfl)))) ?_
 intro W base args ds gs before hval hW _ hcond _ hL _ _
 exact zs2 plain H enc W base args ds gs before hval hW hL (of_decide_eq_true (hcond _ rfl))
theorem zw8 (plain : zh2) : Rows.InterpretRunsUptoSaid :=
 OpenClaim.holds_of_cond 7 Proofs.Tryz.f7 rfl rfl rfl rfl rfl rfl rfl ⟨rfl, rfl, rfl, rfl, rfl⟩ rfl rfl rfl rfl rfl (by kernel_rfl) Proofs.Tryz.func7 factsInterpretRuns instInterpretRuns wrapInterpretRuns
  (fun os started H enc _ F => by rw [OpenClaim.pre_eq_preRow]; exact zu6 plain os started H enc F)
theorem cardInterpretRuns (plain : zh2) : Rows.InterpretRunsUptoCardSaid :=
 Claim7.holds_tied_plain_at .later [] _ _ _ _ (zw8 plain) (fun _ h => by cases h) wfInterpretRuns (fun _ h => by cases h) interpretRunsUpto_row_tie rfl ⟨rfl, rfl⟩ mainInterpretRuns rfl noStandInterpretRuns goesInterpretRuns
end
end Go.Proofs.YtppbpnknfigboaaGreatDoor.M
