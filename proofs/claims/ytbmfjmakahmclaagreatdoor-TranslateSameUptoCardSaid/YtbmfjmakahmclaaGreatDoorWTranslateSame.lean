/- The row and the card of TranslateSame, of the plain law. -/
import Derived.Test.YtbmfjmakahmclaaGreatDoorF2
import Derived.Test.YtbmfjmakahmclaaGreatDoorR
import Derived.Test.YtbmfjmakahmclaaGreatDoorVTranslateSame
import Derived.Test.YtbmfjmakahmclaaGreatDoorCards
import Derived.Test.YtbmfjmakahmclaaGreatDoorTie
import Derived.WalkKit
import Derived.ProofKit
import Derived.OpenShut
import Derived.Deep.DeepHandedRow
import Derived.Deep.DeepWitnessRowRef
import Derived.Lay
import Derived.MakeChecks
namespace Go.Proofs.YtbmfjmakahmclaaGreatDoor.M
open Go Go.Amx
set_option linter.unusedVariables false
set_option maxRecDepth 100000
noncomputable section
def zja:Prop:=∀(a0:Optimization),Wft En 1048576 Ty.Optimization a0→∃N,zg3 N a0=some true
theorem z0m:ownKnob Proofs.Tryz.prog.godebug=none:=by kernel_rfl
theorem zuz (plain:zja) (H:Type) (enc:TypeId × Go.Value→H) (W:World) (base:Nat) (args:Array Go.Value) (ds gs:List (DataW H)) (before:List MemPlace)
 (hval:∀(j:Nat) t v,Proofs.Tryz.f4.params[j]?=some t→args[j]?=some v→Go.Value.okWide Proofs.Tryz.prog W .any base t v)
 (hW:DataW.Whole enc Proofs.Tryz.prog Proofs.Tryz.f4.params.toList Rows.translateSameSpec.vars false W args.toList ds gs before) (hL:laidMetH Proofs.Tryz.prog Rows.translateSameUptoRow.laid W) (hb:Rows.uptoBulkAll (ds++gs)≤1048576):
 Calls Proofs.Tryz.prog 4 args W fun e W'=>∃v,e= .returned v∧Rows.translateSameSpec.post enc Proofs.Tryz.prog Proofs.Tryz.f4 false true false false W args v W':=
 z4t (C:=C0) zwm (bt:=4) (ps:=[(64,Ty.Optimization)]) rfl rfl Proofs.Tryz.underlying4 (all_cons zai7 all_nil) (fun {H}=>Rows.uptoBulk (H:=H)) zahx 1048576
  (fun es h1 h2=>by
   have k0:es.map (·.ty)=[Ty.Optimization]:=h1;obtain⟨a0,es0,e0,k1⟩:=zae6 k0;subst e0;have kn:=List.map_eq_nil_iff.1 k1;subst kn;obtain⟨N,hN⟩:=plain a0 (h2 _ (.head _));exact⟨(zg3.k N).t,true,zif.ctx (C:=K0) (C':=C0) rfl rfl rfl (zg3.k N).m,rfl,hN,rfl⟩)
  rfl (fun ds h=>by
   match ds,h with
   | [d1],_=>exact⟨rfl,rfl,rfl⟩) hval hW (zajp zjo (globs:=globs) rfl (laid:=Rows.translateSameUptoRow.laid) (by kernel_rfl) (by rw [MakeChecks.laidMetH_plain _ _ _ (by kernel_rfl)]at hL;exact hL))
  (fun d hd=>Nat.le_trans (zy8 (ds++gs) d (List.mem_append_left _ hd)) hb)
theorem zxs (os:Os) {H:Type} (enc:TypeId × Go.Value→H):∃zpl,DataW.whole enc Proofs.Tryz.prog ((World.laidAll Proofs.Tryz.prog os Rows.translateSameUptoRow.laid).forCall (fun _ _=>0) ⟨#[], #[Go.Value.agg #[.int .i64 0,.bool false,.bool false,.string ⟨#[]⟩,.slice none 0 0,.slice none 0 0,.slice none 0 0,.string ⟨#[]⟩,.slice none 0 0,.slice none 0 0,.slice none 0 0,.slice none 0 0,.slice none 0 0]],[]⟩).memory Proofs.Tryz.f4.params.toList Rows.translateSameSpec.vars false (#[Go.Value.agg #[.int .i64 0,.bool false,.bool false,.string ⟨#[]⟩,.slice none 0 0,.slice none 0 0,.slice none 0 0,.string ⟨#[]⟩,.slice none 0 0,.slice none 0 0,.slice none 0 0,.slice none 0 0,.slice none 0 0]]:Array Go.Value).toList 12=some ([.agg [.agg [.lit (.int .i64 0),.lit (.bool false),.lit (.bool false)],.agg [.agg [.lit (.string []),.nil],.nil,.nil],.agg [.agg [.lit (.string []),.nil],.nil,.nil],.agg [.nil,.nil]]],[],zpl):=
 ⟨[],by kernel_rfl⟩
theorem zw8 (plain:zja) (os:Os) (started:os.Started) (H:Type) (enc:TypeId × Go.Value→H) (F:Stop.Interp):
 ReturnsInHanded {} Proofs.Tryz.checked os 4 .any ((Rows.OpenSpec.upto Rows.translateSameSpec).preRow enc Proofs.Tryz.prog Proofs.Tryz.f4 Rows.translateSameUptoRow.domain false Rows.translateSameUptoRow.laid) (((Rows.OpenSpec.upto Rows.translateSameSpec).at F).post enc Proofs.Tryz.prog Proofs.Tryz.f4 false true false false):=by
 obtain⟨zpl,hx⟩:=zxs os enc
 refine returnsInHanded_of_row (C:=Proofs.Tryz.checked) (s:=Rows.OpenSpec.upto Rows.translateSameSpec) z0m started (by kernel_rfl) Proofs.Tryz.func4
  (witness_row_atRef (enc:=enc) (C:=Proofs.Tryz.checked) false (World.laidAll Proofs.Tryz.prog os Rows.translateSameUptoRow.laid) #[Go.Value.agg #[.int .i64 0,.bool false,.bool false,.string ⟨#[]⟩,.slice none 0 0,.slice none 0 0,.slice none 0 0,.string ⟨#[]⟩,.slice none 0 0,.slice none 0 0,.slice none 0 0,.slice none 0 0,.slice none 0 0]] (World.laidAll_os _ _ _) (by kernel_rfl) (by kernel_rfl) (by kernel_rfl)
   (OpenSpec.preRow_of_cond 12 hx (by kernel_rfl) (fun k hk=>by cases hk;kernel_rfl) (by kernel_rfl) (laidMet_laidAll #[Go.Value.agg #[.int .i64 0,.bool false,.bool false,.string ⟨#[]⟩,.slice none 0 0,.slice none 0 0,.slice none 0 0,.string ⟨#[]⟩,.slice none 0 0,.slice none 0 0,.slice none 0 0,.slice none 0 0,.slice none 0 0]] (by kernel_rfl) (by kernel_rfl)))) ?_
 intro W base args ds gs before hval hW _ hcond _ hL _ _
 exact zuz plain H enc W base args ds gs before hval hW hL (of_decide_eq_true (hcond _ rfl))
theorem zzb (plain:zja):Rows.TranslateSameUptoSaid:=
 OpenClaim.holds_of_cond 4 Proofs.Tryz.f4 rfl rfl rfl rfl rfl rfl rfl ⟨rfl,rfl,rfl,rfl,rfl⟩ rfl rfl rfl rfl rfl (by kernel_rfl) Proofs.Tryz.func4 factsTranslateSame instTranslateSame wrapTranslateSame
  (fun os started H enc _ F=>by rw [OpenClaim.pre_eq_preRow];exact zw8 plain os started H enc F)
theorem cardTranslateSame (plain:zja):Rows.TranslateSameUptoCardSaid:=
 Claim7.holds_tied_plain_at .later [] _ _ _ _ (zzb plain) (fun _ h=>by cases h) wfTranslateSame (fun _ h=>by cases h) translateSameUpto_row_tie rfl ⟨rfl,rfl⟩ mainTranslateSame rfl noStandTranslateSame goesTranslateSame
end
end Go.Proofs.YtbmfjmakahmclaaGreatDoor.M
