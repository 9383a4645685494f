/- Closed facts of the row of TranslateSame. -/
import Derived.Test.YtbmfjmakahmclaaGreatDoorCards
import Derived.Test.YtbmfjmakahmclaaGreatDoorTie
import Derived.WalkKit
import Derived.ProofKit
import Derived.OpenShut
import Derived.Deep.DeepHandedRow
import Derived.Deep.DeepWitnessRowRef
import Derived.Lay
import Derived.MakeChecks
namespace Go.Proofs.YtbmfjmakahmclaaGreatDoor.M
open Go
set_option linter.unusedVariables false
set_option maxRecDepth 100000
noncomputable section
theorem factTranslateSame0:Rows.translateSameUptoRow.wf (OpenSpec.ofChange (Rows.OpenSpec.upto Rows.translateSameSpec).bare)=true:=by kernel_rfl
theorem factTranslateSame1:laidOutB Tryz.pinned.checked.prog=true:=by kernel_rfl
theorem factTranslateSame2:mapsRowed Tryz.pinned.checked.prog=true:=by kernel_rfl
theorem factTranslateSame3:Proofs.Tryz.f4.params.all (Tryz.pinned.checked.prog.readableRec ·)=true:=by kernel_rfl
theorem factTranslateSame4:namedTie Tryz.pinned.checked.prog Rows.translateSameUptoRow.named (Rows.OpenSpec.upto Rows.translateSameSpec).bare.vars=true:=by kernel_rfl
theorem factTranslateSame6:(Tryz.pinned.checked.prog.stops==[])=true:=by kernel_rfl
theorem factTranslateSame8:(Tryz.pinned.checked.prog.stopKnobs==[])=true:=by kernel_rfl
theorem factTranslateSame9:(Rows.translateSameUptoRow.inPlace==Tryz.pinned.checked.prog.inPlace 4)=true:=by kernel_rfl
theorem factTranslateSame10:(Rows.translateSameUptoRow.unfollowed==Tryz.pinned.checked.prog.unfollowed 4)=true:=by kernel_rfl
theorem factTranslateSame11:(Rows.translateSameUptoRow.recurses==Tryz.pinned.checked.prog.recurses 4)=true:=by kernel_rfl
theorem factTranslateSame12:(Rows.translateSameUptoRow.named==Tryz.pinned.checked.prog.varsNamed 4)=true:=by kernel_rfl
theorem factTranslateSame13:(Rows.translateSameUptoRow.maps==(Proofs.Tryz.f4.params.toList++(Rows.OpenSpec.upto Rows.translateSameSpec).bare.plain.varTypes Tryz.pinned.checked.prog).any (Tryz.pinned.checked.prog.mapsRec ·))=true:=by kernel_rfl
theorem factTranslateSame14:(Rows.translateSameUptoRow.ifaces==(Proofs.Tryz.f4.params.toList++(Rows.OpenSpec.upto Rows.translateSameSpec).bare.plain.varTypes Tryz.pinned.checked.prog).any (Tryz.pinned.checked.prog.ifacesRec ·))=true:=by kernel_rfl
theorem factTranslateSame15:(Rows.translateSameUptoRow.mapsOut==Tryz.pinned.checked.prog.mapsAmong Proofs.Tryz.f4.resultTypes.toList)=true:=by kernel_rfl
theorem factTranslateSame16:(Rows.translateSameUptoRow.loops==(Proofs.Tryz.f4.params.toList++(Rows.OpenSpec.upto Rows.translateSameSpec).bare.plain.varTypes Tryz.pinned.checked.prog).any (Tryz.pinned.checked.prog.loopsFrom ·))=true:=by kernel_rfl
theorem factTranslateSame17:(Rows.translateSameUptoRow.wideKeys==(Proofs.Tryz.f4.params.toList++(Rows.OpenSpec.upto Rows.translateSameSpec).bare.plain.varTypes Tryz.pinned.checked.prog++Proofs.Tryz.f4.resultTypes.toList).any (Tryz.pinned.checked.prog.wideKeysFrom ·))=true:=by kernel_rfl
theorem factTranslateSame22:(Rows.translateSameUptoRow.plainKeys==Tryz.pinned.checked.prog.plainKeys)=true:=by kernel_rfl
theorem factTranslateSame24:Tryz.pinned.checked.prog.stopsHeard=true:=by kernel_rfl
theorem factTranslateSame25:Tryz.pinned.checked.prog.mayEnter=true:=by kernel_rfl
theorem factTranslateSame26:(Rows.translateSameUptoRow.lifted==Tryz.pinned.checked.prog.liftsFinal)=true:=by kernel_rfl
theorem factTranslateSame27:(Tryz.pinned.checked.prog.make==some Rows.translateSameUptoRow.make)=true:=by kernel_rfl
theorem factTranslateSame29:(Rows.translateSameUptoRow.pinned==Rows.translateSameUptoRow.pinnedBy)=true:=by kernel_rfl
theorem and2 {a b:Bool} (h:a=true) (h':b=true):(a&&b)=true:=by rw [h,h'];rfl
theorem factsTranslateSame:joinedFacts Tryz.pinned.checked.prog 4 Proofs.Tryz.f4 (Rows.OpenSpec.upto Rows.translateSameSpec).bare Rows.translateSameUptoRow=true:=and2 (and2 (and2 (and2 (and2 (and2 (and2 (and2 (and2 (and2 (and2 (and2 (and2 (and2 (and2 (and2 (and2 (and2 (and2 (and2 (and2 (and2 (and2 (and2 (and2 (and2 (and2 (and2 (and2 (and2 (and2 factTranslateSame0 factTranslateSame1) factTranslateSame2) factTranslateSame3) factTranslateSame4) (by kernel_rfl)) factTranslateSame6) (by kernel_rfl)) factTranslateSame8) factTranslateSame9) factTranslateSame10) factTranslateSame11) factTranslateSame12) factTranslateSame13) factTranslateSame14) factTranslateSame15) factTranslateSame16) factTranslateSame17) (by kernel_rfl)) (by kernel_rfl)) (by kernel_rfl)) (by kernel_rfl)) factTranslateSame22) (by kernel_rfl)) factTranslateSame24) factTranslateSame25) factTranslateSame26) factTranslateSame27) (by kernel_rfl)) factTranslateSame29) (by kernel_rfl)) (by kernel_rfl)
theorem instTranslateSame:Proofs.Tryz.f4.isInstance Tryz.pinned.checked.prog Rows.translateSameUptoRow.origin Rows.translateSameUptoRow.targs:=of_decide_eq_true (by kernel_rfl)
theorem wrapTranslateSame:Proofs.Tryz.f4.isWrapper Tryz.pinned.checked.prog Rows.translateSameUptoRow.wrapper Rows.translateSameUptoRow.mainSum:=by
 unfold Func.isWrapper
 first|(rw [if_pos (by decide+kernel)];kernel_rfl)|(rw [if_neg (by decide+kernel)];exact⟨rfl,rfl⟩)
theorem goesTranslateSame:false=Rows.translateSameUptoRow.goesBy Tryz.pinned.checked.prog:=by kernel_rfl
theorem wfTranslateSame:Rows.translateSameUptoRow.wfByText (Rows.OpenSpec.upto Rows.translateSameSpec)=true:=by kernel_rfl
theorem mainTranslateSame:Tryz.pinned.checked.prog.mainIs=some (Rows.translateSameUptoCard.stood.harness.1,Rows.translateSameUptoCard.stood.harness.2.toList):=by kernel_rfl
theorem noStandTranslateSame (f:FuncId) (fn:Func) (hf:Tryz.pinned.checked.prog.funcNamed "midrange/midrangelaw16.TranslateSame" =some f) (hfn:Tryz.pinned.checked.prog.funcs[f]?=some fn):
 false=Tryz.pinned.checked.prog.looks []∧∀(j:Nat) t,fn.params[j]?=some t→Tryz.pinned.checked.prog.wantsStandIn t=false:=by
 obtain rfl:f=4:=Option.some.inj ((show Proofs.Tryz.prog.funcNamed "midrange/midrangelaw16.TranslateSame" =some 4 by kernel_rfl).symm.trans hf)|>.symm
 obtain rfl:fn=Proofs.Tryz.f4:=(Option.some.inj (Proofs.Tryz.func4.symm.trans hfn)).symm
 refine⟨by kernel_rfl,fun j t ht=> ?_⟩
 have h:=(show(Proofs.Tryz.f4.params.all fun t=> !Tryz.pinned.checked.prog.wantsStandIn t)=true by kernel_rfl)
 have h':=Array.all_eq_true.1 h j (Array.getElem?_eq_some_iff.1 ht).1
 rw [(Array.getElem?_eq_some_iff.1 ht).2]at h'
 simpa using h'
end
end Go.Proofs.YtbmfjmakahmclaaGreatDoor.M
