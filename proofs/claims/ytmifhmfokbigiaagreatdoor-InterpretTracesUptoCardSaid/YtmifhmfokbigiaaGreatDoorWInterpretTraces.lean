/- The row and the card of InterpretTraces, of the plain law. -/
import Derived.Test.YtmifhmfokbigiaaGreatDoorF1
import Derived.Test.YtmifhmfokbigiaaGreatDoorR
import Derived.Test.YtmifhmfokbigiaaGreatDoorVInterpretTraces
import Derived.Test.YtmifhmfokbigiaaGreatDoorCards
import Derived.Test.YtmifhmfokbigiaaGreatDoorTie
import Derived.WalkKit
import Derived.ProofKit
import Derived.OpenShut
import Derived.Deep.DeepHandedRow
import Derived.Deep.DeepWitnessRowRef
import Derived.Lay
import Derived.MakeChecks
namespace Go.Proofs.YtmifhmfokbigiaaGreatDoor.M
open Go Go.Amx
set_option linter.unusedVariables false
set_option maxRecDepth 100000
noncomputable section
def zg9 : Prop := ∀ (a0 : zB) (a1 : Int), Wft En 1048576 Ty.zB a0 → Wft En 1048576 (Ty.int .i64) a1 → ∃ N, zar N a0 a1 = some true
theorem zvy : ownKnob Proofs.Tryz.prog.godebug = none := by kernel_rfl
theorem zrk (plain : zg9) (H : Type) (enc : TypeId × Go.Value → H) (W : World) (base : Nat) (args : Array Go.Value) (ds gs : List (DataW H)) (before : List MemPlace)
 (hval : ∀ (j : Nat) t v, Proofs.Tryz.f3.params[j]? = some t → args[j]? = some v → Go.Value.okWide Proofs.Tryz.prog W .any base t v)
 (hW : DataW.Whole enc Proofs.Tryz.prog Proofs.Tryz.f3.params.toList Rows.interpretTracesSpec.vars false W args.toList ds gs before) (hL : laidMetH Proofs.Tryz.prog Rows.interpretTracesUptoRow.laid W) (hb : Rows.uptoBulkAll (ds ++ gs) ≤ 1048576) :
 Calls Proofs.Tryz.prog 3 args W fun e W' => ∃ v, e = .returned v ∧ Rows.interpretTracesSpec.post enc Proofs.Tryz.prog Proofs.Tryz.f3 false true false false W args v W' :=
 z1w (C := C0) zzw (bt := 4) (ps := [(26, Ty.zB), (3, (Ty.int .i64))]) rfl rfl Proofs.Tryz.underlying4 (all_cons zaea (all_cons zafw ze5)) (fun {H} => Rows.uptoBulk (H := H)) zac5 1048576
  (fun es h1 h2 => by
   have k0 : es.map (·.ty) = [Ty.zB, (Ty.int .i64)] := h1; obtain ⟨a0, es0, e0, k1⟩ := z4a k0; subst e0; obtain ⟨a1, es1, e1, k2⟩ := z4a k1; subst e1; have kn := List.map_eq_nil_iff.1 k2; subst kn; obtain ⟨N, hN⟩ := plain a0 a1 (h2 _ (.head _)) (h2 _ (.tail _ (.head _))); exact ⟨(zar.k N).t, true, zib.ctx (C := K0) (C' := C0) rfl rfl rfl (zar.k N).m, rfl, hN, rfl⟩)
  rfl (fun ds h => by
   match ds, h with
   | [d1, d2], _ => exact ⟨rfl, rfl, rfl⟩) hval hW (zaeo zm0 (globs := globs) rfl (laid := Rows.interpretTracesUptoRow.laid) (by kernel_rfl) (by rw [MakeChecks.laidMetH_plain _ _ _ (by kernel_rfl)] at hL; exact hL))
  (fun d hd => Nat.le_trans (zw1 (ds ++ gs) d (List.mem_append_left _ hd)) hb)
theorem ztn (os : Os) {H : Type} (enc : TypeId × Go.Value → H) : ∃ zn2, DataW.whole enc Proofs.Tryz.prog ((World.laidAll Proofs.Tryz.prog os Rows.interpretTracesUptoRow.laid).forCall (fun _ _ => 0) ⟨#[], #[Go.Value.agg #[.slice none 0 0, .slice none 0 0, .slice none 0 0], Go.Value.int .i64 0], []⟩).memory Proofs.Tryz.f3.params.toList Rows.interpretTracesSpec.vars false (#[Go.Value.agg #[.slice none 0 0, .slice none 0 0, .slice none 0 0], Go.Value.int .i64 0] : Array Go.Value).toList 12 = some ([.agg [.nil, .nil, .nil], .lit (.int .i64 0)], [], zn2) :=
 ⟨[], by kernel_rfl⟩
theorem zs0 (plain : zg9) (os : Os) (started : os.Started) (H : Type) (enc : TypeId × Go.Value → H) (F : Stop.Interp) :
 ReturnsInHanded {} Proofs.Tryz.checked os 3 .any ((Rows.OpenSpec.upto Rows.interpretTracesSpec).preRow enc Proofs.Tryz.prog Proofs.Tryz.f3 Rows.interpretTracesUptoRow.domain false Rows.interpretTracesUptoRow.laid) (((Rows.OpenSpec.upto Rows.interpretTracesSpec).at F).post enc Proofs.Tryz.prog Proofs.Tryz.f3 false true false false) := by
 obtain ⟨zn2, hx⟩ := ztn os enc
 refine returnsInHanded_of_row (C := Proofs.Tryz.checked) (s := Rows.OpenSpec.upto Rows.interpretTracesSpec) zvy started (by kernel_rfl) Proofs.Tryz.func3
  (witness_row_atRef (enc := enc) (C := Proofs.Tryz.checked) false (World.laidAll Proofs.Tryz.prog os Rows.interpretTracesUptoRow.laid) #[Go.Value.agg #[.slice none 0 0, .slice none 0 0, .slice none 0 0], Go.Value.int .i64 0] (World.laidAll_os _ _ _) (by kernel_rfl) (by kernel_rfl) (by kernel_rfl)
   (OpenSpec.preRow_of_cond 12 hx (by kernel_rfl) (fun k hk => by cases hk; kernel_rfl) (by kernel_rfl) (laidMet_laidAll #[Go.Value.agg #[.slice none 0 0, .slice none 0 0, .slice none 0 0], Go.Value.int .i64 0] (by kernel_rfl) (by kernel_rfl)))) ?_
 intro W base args ds gs before hval hW _ hcond _ hL _ _
 exact zrk plain H enc W base args ds gs before hval hW hL (of_decide_eq_true (hcond _ rfl))
theorem zu4 (plain : zg9) : Rows.InterpretTracesUptoSaid :=
 OpenClaim.holds_of_cond 3 Proofs.Tryz.f3 rfl rfl rfl rfl rfl rfl rfl ⟨rfl, rfl, rfl, rfl, rfl⟩ rfl rfl rfl rfl rfl (by kernel_rfl) Proofs.Tryz.func3 factsInterpretTraces instInterpretTraces wrapInterpretTraces
  (fun os started H enc _ F => by rw [OpenClaim.pre_eq_preRow]; exact zs0 plain os started H enc F)
theorem cardInterpretTraces (plain : zg9) : Rows.InterpretTracesUptoCardSaid :=
 Claim7.holds_tied_plain_at .later [] _ _ _ _ (zu4 plain) (fun _ h => by cases h) wfInterpretTraces (fun _ h => by cases h) interpretTracesUpto_row_tie rfl ⟨rfl, rfl⟩ mainInterpretTraces rfl noStandInterpretTraces goesInterpretTraces
end
end Go.Proofs.YtmifhmfokbigiaaGreatDoor.M
