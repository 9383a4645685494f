/- Closed facts of the row of TranslateTrue. -/
import Derived.Test.YtbmfjmakahmclaaGreatDoorCards
import Derived.Test.YtbmfjmakahmclaaGreatDoorTie
import Derived.WalkKit
import Derived.ProofKit
import Derived.OpenShut
import Derived.Deep.DeepHandedRow
import Derived.Deep.DeepWitnessRowRef
import Derived.Lay
import Derived.MakeChecks
namespace Go.Proofs.YtbmfjmakahmclaaGreatDoor.M
open Go
set_option linter.unusedVariables false
set_option maxRecDepth 100000
noncomputable section
theorem factTranslateTrue0:Rows.translateTrueUptoRow.wf (OpenSpec.ofChange (Rows.OpenSpec.upto Rows.translateTrueSpec).bare)=true:=by kernel_rfl
theorem factTranslateTrue1:laidOutB Tryz.pinned.checked.prog=true:=by kernel_rfl
theorem factTranslateTrue2:mapsRowed Tryz.pinned.checked.prog=true:=by kernel_rfl
theorem factTranslateTrue3:Proofs.Tryz.f3.params.all (Tryz.pinned.checked.prog.readableRec ·)=true:=by kernel_rfl
theorem factTranslateTrue4:namedTie Tryz.pinned.checked.prog Rows.translateTrueUptoRow.named (Rows.OpenSpec.upto Rows.translateTrueSpec).bare.vars=true:=by kernel_rfl
theorem factTranslateTrue6:(Tryz.pinned.checked.prog.stops==[])=true:=by kernel_rfl
theorem factTranslateTrue8:(Tryz.pinned.checked.prog.stopKnobs==[])=true:=by kernel_rfl
theorem factTranslateTrue9:(Rows.translateTrueUptoRow.inPlace==Tryz.pinned.checked.prog.inPlace 3)=true:=by kernel_rfl
theorem factTranslateTrue10:(Rows.translateTrueUptoRow.unfollowed==Tryz.pinned.checked.prog.unfollowed 3)=true:=by kernel_rfl
theorem factTranslateTrue11:(Rows.translateTrueUptoRow.recurses==Tryz.pinned.checked.prog.recurses 3)=true:=by kernel_rfl
theorem factTranslateTrue12:(Rows.translateTrueUptoRow.named==Tryz.pinned.checked.prog.varsNamed 3)=true:=by kernel_rfl
theorem factTranslateTrue13:(Rows.translateTrueUptoRow.maps==(Proofs.Tryz.f3.params.toList++(Rows.OpenSpec.upto Rows.translateTrueSpec).bare.plain.varTypes Tryz.pinned.checked.prog).any (Tryz.pinned.checked.prog.mapsRec ·))=true:=by kernel_rfl
theorem factTranslateTrue14:(Rows.translateTrueUptoRow.ifaces==(Proofs.Tryz.f3.params.toList++(Rows.OpenSpec.upto Rows.translateTrueSpec).bare.plain.varTypes Tryz.pinned.checked.prog).any (Tryz.pinned.checked.prog.ifacesRec ·))=true:=by kernel_rfl
theorem factTranslateTrue15:(Rows.translateTrueUptoRow.mapsOut==Tryz.pinned.checked.prog.mapsAmong Proofs.Tryz.f3.resultTypes.toList)=true:=by kernel_rfl
theorem factTranslateTrue16:(Rows.translateTrueUptoRow.loops==(Proofs.Tryz.f3.params.toList++(Rows.OpenSpec.upto Rows.translateTrueSpec).bare.plain.varTypes Tryz.pinned.checked.prog).any (Tryz.pinned.checked.prog.loopsFrom ·))=true:=by kernel_rfl
theorem factTranslateTrue17:(Rows.translateTrueUptoRow.wideKeys==(Proofs.Tryz.f3.params.toList++(Rows.OpenSpec.upto Rows.translateTrueSpec).bare.plain.varTypes Tryz.pinned.checked.prog++Proofs.Tryz.f3.resultTypes.toList).any (Tryz.pinned.checked.prog.wideKeysFrom ·))=true:=by kernel_rfl
theorem factTranslateTrue22:(Rows.translateTrueUptoRow.plainKeys==Tryz.pinned.checked.prog.plainKeys)=true:=by kernel_rfl
theorem factTranslateTrue24:Tryz.pinned.checked.prog.stopsHeard=true:=by kernel_rfl
theorem factTranslateTrue25:Tryz.pinned.checked.prog.mayEnter=true:=by kernel_rfl
theorem factTranslateTrue26:(Rows.translateTrueUptoRow.lifted==Tryz.pinned.checked.prog.liftsFinal)=true:=by kernel_rfl
theorem factTranslateTrue27:(Tryz.pinned.checked.prog.make==some Rows.translateTrueUptoRow.make)=true:=by kernel_rfl
theorem factTranslateTrue29:(Rows.translateTrueUptoRow.pinned==Rows.translateTrueUptoRow.pinnedBy)=true:=by kernel_rfl
theorem and2 {a b:Bool} (h:a=true) (h':b=true):(a&&b)=true:=by rw [h,h'];rfl
theorem factsTranslateTrue:joinedFacts Tryz.pinned.checked.prog 3 Proofs.Tryz.f3 (Rows.OpenSpec.upto Rows.translateTrueSpec).bare Rows.translateTrueUptoRow=true:=and2 (and2 (and2 (and2 (and2 (and2 (and2 (and2 (and2 (and2 (and2 (and2 (and2 (and2 (and2 (and2 (and2 (and2 (and2 (and2 (and2 (and2 (and2 (and2 (and2 (and2 (and2 (and2 (and2 (and2 (and2 factTranslateTrue0 factTranslateTrue1) factTranslateTrue2) factTranslateTrue3) factTranslateTrue4) (by kernel_rfl)) factTranslateTrue6) (by kernel_rfl)) factTranslateTrue8) factTranslateTrue9) factTranslateTrue10) factTranslateTrue11) factTranslateTrue12) factTranslateTrue13) factTranslateTrue14) factTranslateTrue15) factTranslateTrue16) factTranslateTrue17) (by kernel_rfl)) (by kernel_rfl)) (by kernel_rfl)) (by kernel_rfl)) factTranslateTrue22) (by kernel_rfl)) factTranslateTrue24) factTranslateTrue25) factTranslateTrue26) factTranslateTrue27) (by kernel_rfl)) factTranslateTrue29) (by kernel_rfl)) (by kernel_rfl)
theorem instTranslateTrue:Proofs.Tryz.f3.isInstance Tryz.pinned.checked.prog Rows.translateTrueUptoRow.origin Rows.translateTrueUptoRow.targs:=of_decide_eq_true (by kernel_rfl)
theorem wrapTranslateTrue:Proofs.Tryz.f3.isWrapper Tryz.pinned.checked.prog Rows.translateTrueUptoRow.wrapper Rows.translateTrueUptoRow.mainSum:=by
 unfold Func.isWrapper
 first|(rw [if_pos (by decide+kernel)];kernel_rfl)|(rw [if_neg (by decide+kernel)];exact⟨rfl,rfl⟩)
theorem goesTranslateTrue:false=Rows.translateTrueUptoRow.goesBy Tryz.pinned.checked.prog:=by kernel_rfl
theorem wfTranslateTrue:Rows.translateTrueUptoRow.wfByText (Rows.OpenSpec.upto Rows.translateTrueSpec)=true:=by kernel_rfl
theorem mainTranslateTrue:Tryz.pinned.checked.prog.mainIs=some (Rows.translateTrueUptoCard.stood.harness.1,Rows.translateTrueUptoCard.stood.harness.2.toList):=by kernel_rfl
theorem noStandTranslateTrue (f:FuncId) (fn:Func) (hf:Tryz.pinned.checked.prog.funcNamed "midrange/midrangelaw16.TranslateTrue" =some f) (hfn:Tryz.pinned.checked.prog.funcs[f]?=some fn):
 false=Tryz.pinned.checked.prog.looks []∧∀(j:Nat) t,fn.params[j]?=some t→Tryz.pinned.checked.prog.wantsStandIn t=false:=by
 obtain rfl:f=3:=Option.some.inj ((show Proofs.Tryz.prog.funcNamed "midrange/midrangelaw16.TranslateTrue" =some 3 by kernel_rfl).symm.trans hf)|>.symm
 obtain rfl:fn=Proofs.Tryz.f3:=(Option.some.inj (Proofs.Tryz.func3.symm.trans hfn)).symm
 refine⟨by kernel_rfl,fun j t ht=> ?_⟩
 have h:=(show(Proofs.Tryz.f3.params.all fun t=> !Tryz.pinned.checked.prog.wantsStandIn t)=true by kernel_rfl)
 have h':=Array.all_eq_true.1 h j (Array.getElem?_eq_some_iff.1 ht).1
 rw [(Array.getElem?_eq_some_iff.1 ht).2]at h'
 simpa using h'
end
end Go.Proofs.YtbmfjmakahmclaaGreatDoor.M
