/- The row and the card of InterpretHandlers, of the plain law. -/
import Derived.Test.YtmifhmfokbigiaaGreatDoorF1
import Derived.Test.YtmifhmfokbigiaaGreatDoorR
import Derived.Test.YtmifhmfokbigiaaGreatDoorVInterpretHandlers
import Derived.Test.YtmifhmfokbigiaaGreatDoorCards
import Derived.Test.YtmifhmfokbigiaaGreatDoorTie
import Derived.WalkKit
import Derived.ProofKit
import Derived.OpenShut
import Derived.Deep.DeepHandedRow
import Derived.Deep.DeepWitnessRowRef
import Derived.Lay
import Derived.MakeChecks
namespace Go.Proofs.YtmifhmfokbigiaaGreatDoor.M
open Go Go.Amx
set_option linter.unusedVariables false
set_option maxRecDepth 100000
noncomputable section
def zd9 : Prop := ∀ (a0 : zB) (a1 : Int) (a2 : Int), Wft En 1048576 Ty.zB a0 → Wft En 1048576 (Ty.int .i64) a1 → Wft En 1048576 (Ty.int .i64) a2 → ∃ N, zcp N a0 a1 a2 = some true
theorem zpa : ownKnob Proofs.Tryz.prog.godebug = none := by kernel_rfl
theorem zl7 (plain : zd9) (H : Type) (enc : TypeId × Go.Value → H) (W : World) (base : Nat) (args : Array Go.Value) (ds gs : List (DataW H)) (before : List MemPlace)
 (hval : ∀ (j : Nat) t v, Proofs.Tryz.f5.params[j]? = some t → args[j]? = some v → Go.Value.okWide Proofs.Tryz.prog W .any base t v)
 (hW : DataW.Whole enc Proofs.Tryz.prog Proofs.Tryz.f5.params.toList Rows.interpretHandlersSpec.vars false W args.toList ds gs before) (hL : laidMetH Proofs.Tryz.prog Rows.interpretHandlersUptoRow.laid W) (hb : Rows.uptoBulkAll (ds ++ gs) ≤ 1048576) :
 Calls Proofs.Tryz.prog 5 args W fun e W' => ∃ v, e = .returned v ∧ Rows.interpretHandlersSpec.post enc Proofs.Tryz.prog Proofs.Tryz.f5 false true false false W args v W' :=
 zu5 (C := C0) ztr (bt := 4) (ps := [(26, Ty.zB), (3, (Ty.int .i64)), (3, (Ty.int .i64))]) rfl rfl Proofs.Tryz.underlying4 (all_cons z39 (all_cons z2e (all_cons z2e zc3))) (fun {H} => Rows.uptoBulk (H := H)) z3o 1048576
  (fun es h1 h2 => by
   have k0 : es.map (·.ty) = [Ty.zB, (Ty.int .i64), (Ty.int .i64)] := h1; obtain ⟨a0, es0, e0, k1⟩ := zsr k0; subst e0; obtain ⟨a1, es1, e1, k2⟩ := zsr k1; subst e1; obtain ⟨a2, es2, e2, k3⟩ := zsr k2; subst e2; have kn := List.map_eq_nil_iff.1 k3; subst kn; obtain ⟨N, hN⟩ := plain a0 a1 a2 (h2 _ (.head _)) (h2 _ (.tail _ (.head _))) (h2 _ (.tail _ (.tail _ (.head _)))); exact ⟨(zcp.k N).t, true, zga.ctx (C := K0) (C' := C0) rfl rfl rfl (zcp.k N).m, rfl, hN, rfl⟩)
  rfl (fun ds h => by
   match ds, h with
   | [d1, d2, d3], _ => exact ⟨rfl, rfl, rfl⟩) hval hW (z4g zje (globs := globs) rfl (laid := Rows.interpretHandlersUptoRow.laid) (by kernel_rfl) (by rw [MakeChecks.laidMetH_plain _ _ _ (by kernel_rfl)] at hL; exact hL))
  (fun d hd => Nat.le_trans (zrj (ds ++ gs) d (List.mem_append_left _ hd)) hb)
theorem znw (os : Os) {H : Type} (enc : TypeId × Go.Value → H) : ∃ zka, DataW.whole enc Proofs.Tryz.prog ((World.laidAll Proofs.Tryz.prog os Rows.interpretHandlersUptoRow.laid).forCall (fun _ _ => 0) ⟨#[], #[Go.Value.agg #[.slice none 0 0, .slice none 0 0, .slice none 0 0], Go.Value.int .i64 0, Go.Value.int .i64 0], []⟩).memory Proofs.Tryz.f5.params.toList Rows.interpretHandlersSpec.vars false (#[Go.Value.agg #[.slice none 0 0, .slice none 0 0, .slice none 0 0], Go.Value.int .i64 0, Go.Value.int .i64 0] : Array Go.Value).toList 12 = some ([.agg [.nil, .nil, .nil], .lit (.int .i64 0), .lit (.int .i64 0)], [], zka) :=
 ⟨[], by kernel_rfl⟩
theorem zmz (plain : zd9) (os : Os) (started : os.Started) (H : Type) (enc : TypeId × Go.Value → H) (F : Stop.Interp) :
 ReturnsInHanded {} Proofs.Tryz.checked os 5 .any ((Rows.OpenSpec.upto Rows.interpretHandlersSpec).preRow enc Proofs.Tryz.prog Proofs.Tryz.f5 Rows.interpretHandlersUptoRow.domain false Rows.interpretHandlersUptoRow.laid) (((Rows.OpenSpec.upto Rows.interpretHandlersSpec).at F).post enc Proofs.Tryz.prog Proofs.Tryz.f5 false true false false) := by
 obtain ⟨zka, hx⟩ := znw os enc
 refine returnsInHanded_of_row (C := Proofs.Tryz.checked) (s := Rows.OpenSpec.upto Rows.interpretHandlersSpec) zpa started (by kernel_rfl) Proofs.Tryz.func5
  (witness_row_atRef (enc := enc) (C := Proofs.Tryz.checked) false (World.laidAll Proofs.Tryz.prog os Rows.interpretHandlersUptoRow.laid) #[Go.Value.agg #[.slice none 0 0, .slice none 0 0, .slice none 0 0], Go.Value.int .i64 0, Go.Value.int .i64 0] (World.laidAll_os _ _ _) (by kernel_rfl) (by kernel_rfl) (by kernel_rfl)
   (OpenSpec.preRow_of_cond 12 hx (by kernel_rfl) (fun k hk => by cases hk; kernel_rfl) (by kernel_rfl) (laidMet_laidAll #[Go.Value.agg #[.slice none 0 0, .slice none 0 0, .slice none 0 0], Go.Value.int .i64 0, Go.Value.int .i64 0] (by kernel_rfl) (by kernel_rfl)))) ?_
 intro W base args ds gs before hval hW _ hcond _ hL _ _
 exact zl7 plain H enc W base args ds gs before hval hW hL (of_decide_eq_true (hcond _ rfl))
theorem zn9 (plain : zd9) : Rows.InterpretHandlersUptoSaid :=
 OpenClaim.holds_of_cond 5 Proofs.Tryz.f5 rfl rfl rfl rfl rfl rfl rfl ⟨rfl, rfl, rfl, rfl, rfl⟩ rfl rfl rfl rfl rfl (by kernel_rfl) Proofs.Tryz.func5 factsInterpretHandlers instInterpretHandlers wrapInterpretHandlers
  (fun os started H enc _ F => by rw [OpenClaim.pre_eq_preRow]; exact zmz plain os started H enc F)
theorem cardInterpretHandlers (plain : zd9) : Rows.InterpretHandlersUptoCardSaid :=
 Claim7.holds_tied_plain_at .later [] _ _ _ _ (zn9 plain) (fun _ h => by cases h) wfInterpretHandlers (fun _ h => by cases h) interpretHandlersUpto_row_tie rfl ⟨rfl, rfl⟩ mainInterpretHandlers rfl noStandInterpretHandlers goesInterpretHandlers
end
end Go.Proofs.YtmifhmfokbigiaaGreatDoor.M
