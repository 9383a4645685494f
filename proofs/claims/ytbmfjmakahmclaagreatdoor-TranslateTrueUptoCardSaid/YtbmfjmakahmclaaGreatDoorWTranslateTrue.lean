/- The row and the card of TranslateTrue, of the plain law. -/
import Derived.Test.YtbmfjmakahmclaaGreatDoorF2
import Derived.Test.YtbmfjmakahmclaaGreatDoorR
import Derived.Test.YtbmfjmakahmclaaGreatDoorVTranslateTrue
import Derived.Test.YtbmfjmakahmclaaGreatDoorCards
import Derived.Test.YtbmfjmakahmclaaGreatDoorTie
import Derived.WalkKit
import Derived.ProofKit
import Derived.OpenShut
import Derived.Deep.DeepHandedRow
import Derived.Deep.DeepWitnessRowRef
import Derived.Lay
import Derived.MakeChecks
namespace Go.Proofs.YtbmfjmakahmclaaGreatDoor.M
open Go Go.Amx
set_option linter.unusedVariables false
set_option maxRecDepth 100000
noncomputable section
def zis:Prop:=∀(a0:zJ) (a1:zH),Wft En 1048576 Ty.zJ a0→Wft En 1048576 Ty.zH a1→∃N,zu N a0 a1=some true
theorem zz7:ownKnob Proofs.Tryz.prog.godebug=none:=by kernel_rfl
theorem zuu (plain:zis) (H:Type) (enc:TypeId × Go.Value→H) (W:World) (base:Nat) (args:Array Go.Value) (ds gs:List (DataW H)) (before:List MemPlace)
 (hval:∀(j:Nat) t v,Proofs.Tryz.f3.params[j]?=some t→args[j]?=some v→Go.Value.okWide Proofs.Tryz.prog W .any base t v)
 (hW:DataW.Whole enc Proofs.Tryz.prog Proofs.Tryz.f3.params.toList Rows.translateTrueSpec.vars false W args.toList ds gs before) (hL:laidMetH Proofs.Tryz.prog Rows.translateTrueUptoRow.laid W) (hb:Rows.uptoBulkAll (ds++gs)≤1048576):
 Calls Proofs.Tryz.prog 3 args W fun e W'=>∃v,e= .returned v∧Rows.translateTrueSpec.post enc Proofs.Tryz.prog Proofs.Tryz.f3 false true false false W args v W':=
 z3o (C:=C0) z3x (bt:=4) (ps:=[(23,Ty.zJ),(30,Ty.zH)]) rfl rfl Proofs.Tryz.underlying4 (all_cons zagv (all_cons zagu all_nil)) (fun {H}=>Rows.uptoBulk (H:=H)) zafn 1048576
  (fun es h1 h2=>by
   have k0:es.map (·.ty)=[Ty.zJ,Ty.zH]:=h1;obtain⟨a0,es0,e0,k1⟩:=z58 k0;subst e0;obtain⟨a1,es1,e1,k2⟩:=z58 k1;subst e1;have kn:=List.map_eq_nil_iff.1 k2;subst kn;obtain⟨N,hN⟩:=plain a0 a1 (h2 _ (.head _)) (h2 _ (.tail _ (.head _)));exact⟨(zu.k N).t,true,ziv.ctx (C:=K0) (C':=C0) rfl rfl rfl (zu.k N).m,rfl,hN,rfl⟩)
  rfl (fun ds h=>by
   match ds,h with
   | [d1,d2],_=>exact⟨rfl,rfl,rfl⟩) hval hW (zag6 znr (globs:=globs) rfl (laid:=Rows.translateTrueUptoRow.laid) (by kernel_rfl) (by rw [MakeChecks.laidMetH_plain _ _ _ (by kernel_rfl)]at hL;exact hL))
  (fun d hd=>Nat.le_trans (zyn (ds++gs) d (List.mem_append_left _ hd)) hb)
theorem zxc (os:Os) {H:Type} (enc:TypeId × Go.Value→H):∃zpb,DataW.whole enc Proofs.Tryz.prog ((World.laidAll Proofs.Tryz.prog os Rows.translateTrueUptoRow.laid).forCall (fun _ _=>0) ⟨#[], #[Go.Value.agg #[.int .i64 0,.bool false,.bool false],Go.Value.agg #[.string ⟨#[]⟩,.slice none 0 0,.slice none 0 0,.slice none 0 0]],[]⟩).memory Proofs.Tryz.f3.params.toList Rows.translateTrueSpec.vars false (#[Go.Value.agg #[.int .i64 0,.bool false,.bool false],Go.Value.agg #[.string ⟨#[]⟩,.slice none 0 0,.slice none 0 0,.slice none 0 0]]:Array Go.Value).toList 12=some ([.agg [.lit (.int .i64 0),.lit (.bool false),.lit (.bool false)],.agg [.agg [.lit (.string []),.nil],.nil,.nil]],[],zpb):=
 ⟨[],by kernel_rfl⟩
theorem zwr (plain:zis) (os:Os) (started:os.Started) (H:Type) (enc:TypeId × Go.Value→H) (F:Stop.Interp):
 ReturnsInHanded {} Proofs.Tryz.checked os 3 .any ((Rows.OpenSpec.upto Rows.translateTrueSpec).preRow enc Proofs.Tryz.prog Proofs.Tryz.f3 Rows.translateTrueUptoRow.domain false Rows.translateTrueUptoRow.laid) (((Rows.OpenSpec.upto Rows.translateTrueSpec).at F).post enc Proofs.Tryz.prog Proofs.Tryz.f3 false true false false):=by
 obtain⟨zpb,hx⟩:=zxc os enc
 refine returnsInHanded_of_row (C:=Proofs.Tryz.checked) (s:=Rows.OpenSpec.upto Rows.translateTrueSpec) zz7 started (by kernel_rfl) Proofs.Tryz.func3
  (witness_row_atRef (enc:=enc) (C:=Proofs.Tryz.checked) false (World.laidAll Proofs.Tryz.prog os Rows.translateTrueUptoRow.laid) #[Go.Value.agg #[.int .i64 0,.bool false,.bool false],Go.Value.agg #[.string ⟨#[]⟩,.slice none 0 0,.slice none 0 0,.slice none 0 0]] (World.laidAll_os _ _ _) (by kernel_rfl) (by kernel_rfl) (by kernel_rfl)
   (OpenSpec.preRow_of_cond 12 hx (by kernel_rfl) (fun k hk=>by cases hk;kernel_rfl) (by kernel_rfl) (laidMet_laidAll #[Go.Value.agg #[.int .i64 0,.bool false,.bool false],Go.Value.agg #[.string ⟨#[]⟩,.slice none 0 0,.slice none 0 0,.slice none 0 0]] (by kernel_rfl) (by kernel_rfl)))) ?_
 intro W base args ds gs before hval hW _ hcond _ hL _ _
 exact zuu plain H enc W base args ds gs before hval hW hL (of_decide_eq_true (hcond _ rfl))
theorem zyr (plain:zis):Rows.TranslateTrueUptoSaid:=
 OpenClaim.holds_of_cond 3 Proofs.Tryz.f3 rfl rfl rfl rfl rfl rfl rfl ⟨rfl,rfl,rfl,rfl,rfl⟩ rfl rfl rfl rfl rfl (by kernel_rfl) Proofs.Tryz.func3 factsTranslateTrue instTranslateTrue wrapTranslateTrue
  (fun os started H enc _ F=>by rw [OpenClaim.pre_eq_preRow];exact zwr plain os started H enc F)
theorem cardTranslateTrue (plain:zis):Rows.TranslateTrueUptoCardSaid:=
 Claim7.holds_tied_plain_at .later [] _ _ _ _ (zyr plain) (fun _ h=>by cases h) wfTranslateTrue (fun _ h=>by cases h) translateTrueUpto_row_tie rfl ⟨rfl,rfl⟩ mainTranslateTrue rfl noStandTranslateTrue goesTranslateTrue
end
end Go.Proofs.YtbmfjmakahmclaaGreatDoor.M
