/- Arguments that read as data are typed. -/
import Derived.Test.YtbmfjmakahmclaaGreatDoorA4
import Derived.Test.YtbmfjmakahmclaaGreatDoorU
import Derived.Test.YtbmfjmakahmclaaGreatDoorRows
namespace Go.Proofs.YtbmfjmakahmclaaGreatDoor.M
open Go Go.Amx
set_option linter.unusedVariables false
set_option maxRecDepth 100000
noncomputable section
def C0:Ctx U:=zpo [] [] [] [] [] [] [] []
theorem zjl:zh1 C0 3 (Ty.int .i64):=zai3 (k:= .i64) (by kernel_rfl) rfl fun n=>⟨n,rfl⟩
theorem z2z:zh1 C0 4 Ty.bool:=zagx (by kernel_rfl) rfl fun n=>⟨n,rfl⟩
theorem zalm:zh1 C0 23 Ty.zK:=zi2 zjo (ps:=[(3,(Ty.int .i64)),(4,Ty.bool),(4,Ty.bool)]) Proofs.Tryz.underlying23 (by kernel_rfl) (by kernel_rfl) rfl (all_cons zjl (all_cons z2z (all_cons z2z all_nil))) fun y=>⟨⟨y.1,y.2.1,y.2.2⟩,rfl⟩
theorem rd_9:zh1 C0 9 Ty.str:=zai2 (by kernel_rfl) rfl fun n=>⟨n,rfl⟩
theorem zall:zh1 C0 24 (Ty.sl Ty.bool):=zp5 zjo (e:=4) (by kernel_rfl) (by kernel_rfl) z2z
theorem zalk:zh1 C0 26 Ty.Storage:=zi2 zjo (ps:=[(9,Ty.str),(24,(Ty.sl Ty.bool))]) Proofs.Tryz.underlying26 (by kernel_rfl) (by kernel_rfl) rfl (all_cons rd_9 (all_cons zall all_nil)) fun y=>⟨⟨y.1,y.2⟩,rfl⟩
theorem zafp:zh1 C0 89 Ty.zN:=zi2 zjo (ps:=[(4,Ty.bool),(3,(Ty.int .i64)),(3,(Ty.int .i64))]) Proofs.Tryz.underlying89 (by kernel_rfl) (by kernel_rfl) rfl (all_cons z2z (all_cons zjl (all_cons zjl all_nil))) fun y=>⟨⟨y.1,y.2.1,y.2.2⟩,rfl⟩
theorem zaav:zh1 C0 47 Ty.DataType:=zi2 zjo (ps:=[(3,(Ty.int .i64)),(3,(Ty.int .i64)),(3,(Ty.int .i64))]) Proofs.Tryz.underlying47 (by kernel_rfl) (by kernel_rfl) rfl (all_cons zjl (all_cons zjl (all_cons zjl all_nil))) fun y=>⟨⟨y.1,y.2.1,y.2.2⟩,rfl⟩
theorem zald:zh1 C0 54 Ty.Number:=zi2 zjo (ps:=[(3,(Ty.int .i64)),(3,(Ty.int .i64))]) Proofs.Tryz.underlying54 (by kernel_rfl) (by kernel_rfl) rfl (all_cons zjl (all_cons zjl all_nil)) fun y=>⟨⟨y.1,y.2⟩,rfl⟩
theorem zala:zh1 C0 91 Ty.zA:=zi2 zjo (ps:=[(3,(Ty.int .i64)),(3,(Ty.int .i64)),(3,(Ty.int .i64)),(3,(Ty.int .i64)),(3,(Ty.int .i64)),(89,Ty.zN),(89,Ty.zN),(47,Ty.DataType),(47,Ty.DataType),(4,Ty.bool),(4,Ty.bool),(54,Ty.Number),(9,Ty.str),(9,Ty.str),(3,(Ty.int .i64)),(3,(Ty.int .i64)),(3,(Ty.int .i64)),(3,(Ty.int .i64))]) Proofs.Tryz.underlying91 (by kernel_rfl) (by kernel_rfl) rfl (all_cons zjl (all_cons zjl (all_cons zjl (all_cons zjl (all_cons zjl (all_cons zafp (all_cons zafp (all_cons zaav (all_cons zaav (all_cons z2z (all_cons z2z (all_cons zald (all_cons rd_9 (all_cons rd_9 (all_cons zjl (all_cons zjl (all_cons zjl (all_cons zjl all_nil)))))))))))))))))) fun y=>⟨⟨y.1,y.2.1,y.2.2.1,y.2.2.2.1,y.2.2.2.2.1,y.2.2.2.2.2.1,y.2.2.2.2.2.2.1,y.2.2.2.2.2.2.2.1,y.2.2.2.2.2.2.2.2.1,y.2.2.2.2.2.2.2.2.2.1,y.2.2.2.2.2.2.2.2.2.2.1,y.2.2.2.2.2.2.2.2.2.2.2.1,y.2.2.2.2.2.2.2.2.2.2.2.2.1,y.2.2.2.2.2.2.2.2.2.2.2.2.2.1,y.2.2.2.2.2.2.2.2.2.2.2.2.2.2.1,y.2.2.2.2.2.2.2.2.2.2.2.2.2.2.2.1,y.2.2.2.2.2.2.2.2.2.2.2.2.2.2.2.2.1,y.2.2.2.2.2.2.2.2.2.2.2.2.2.2.2.2.2⟩,rfl⟩
theorem zalj:zh1 C0 27 (Ty.sl Ty.zA):=zp5 zjo (e:=91) (by kernel_rfl) (by kernel_rfl) zala
theorem zai4:zh1 C0 116 Ty.zT:=zi2 zjo (ps:=[(3,(Ty.int .i64)),(3,(Ty.int .i64)),(3,(Ty.int .i64)),(3,(Ty.int .i64))]) Proofs.Tryz.underlying116 (by kernel_rfl) (by kernel_rfl) rfl (all_cons zjl (all_cons zjl (all_cons zjl (all_cons zjl all_nil)))) fun y=>⟨⟨y.1,y.2.1,y.2.2.1,y.2.2.2⟩,rfl⟩
theorem zali:zh1 C0 28 (Ty.sl Ty.zT):=zp5 zjo (e:=116) (by kernel_rfl) (by kernel_rfl) zai4
theorem zafq:zh1 C0 30 Ty.zH:=zi2 zjo (ps:=[(26,Ty.Storage),(27,(Ty.sl Ty.zA)),(28,(Ty.sl Ty.zT))]) Proofs.Tryz.underlying30 (by kernel_rfl) (by kernel_rfl) rfl (all_cons zalk (all_cons zalj (all_cons zali all_nil))) fun y=>⟨⟨y.1,y.2.1,y.2.2⟩,rfl⟩
theorem zale:zh1 C0 49 Ty.zD:=zi2 zjo (ps:=[(3,(Ty.int .i64)),(47,Ty.DataType),(3,(Ty.int .i64))]) Proofs.Tryz.underlying49 (by kernel_rfl) (by kernel_rfl) rfl (all_cons zjl (all_cons zaav (all_cons zjl all_nil))) fun y=>⟨⟨y.1,y.2.1,y.2.2⟩,rfl⟩
theorem zalf:zh1 C0 45 (Ty.sl Ty.zD):=zp5 zjo (e:=49) (by kernel_rfl) (by kernel_rfl) zale
theorem zalh:zh1 C0 34 (Ty.sl (Ty.sl Ty.zD)):=zp5 zjo (e:=45) (by kernel_rfl) (by kernel_rfl) zalf
theorem zalg:zh1 C0 40 (Ty.sl (Ty.int .i64)):=zp5 zjo (e:=3) (by kernel_rfl) (by kernel_rfl) zjl
theorem zalc:zh1 C0 62 Ty.yA:=zi2 zjo (ps:=[(34,(Ty.sl (Ty.sl Ty.zD))),(40,(Ty.sl (Ty.int .i64)))]) Proofs.Tryz.underlying62 (by kernel_rfl) (by kernel_rfl) rfl (all_cons zalh (all_cons zalg all_nil)) fun y=>⟨⟨y.1,y.2⟩,rfl⟩
theorem zalb:zh1 C0 64 Ty.Optimization:=zi2 zjo (ps:=[(23,Ty.zK),(30,Ty.zH),(30,Ty.zH),(62,Ty.yA)]) Proofs.Tryz.underlying64 (by kernel_rfl) (by kernel_rfl) rfl (all_cons zalm (all_cons zafq (all_cons zafq (all_cons zalc all_nil)))) fun y=>⟨⟨y.1,y.2.1,y.2.2.1,y.2.2.2⟩,rfl⟩
theorem zai7:ParOk C0 (64,Ty.Optimization):=⟨zalb,by kernel_rfl,⟨_,Proofs.Tryz.underlying64,.inr (.inr (.inr (.inr ⟨_,rfl⟩)))⟩⟩
theorem zafc {H:Type} (d:DataW H):1≤Rows.uptoBulk d:=by
 cases d with
 | lit l=>cases l<;>simp [Rows.uptoBulk]
 | _=>simp [Rows.uptoBulk]
theorem zy8 {H:Type}:∀(l:List (DataW H)) d,d∈l→Rows.uptoBulk d≤Rows.uptoBulkAll l
 | [],d,h=>by simp at h
 | e::l,d,h=>by
  simp only [Rows.uptoBulkAll];rcases List.mem_cons.1 h with rfl|h
  · omega
  · have:=zy8 l d h;omega
theorem z75 {H:Type}:∀(l:List (DataW H)),l.length≤Rows.uptoBulkAll l
 | []=>by simp
 | e::l=>by
  simp only [Rows.uptoBulkAll,List.length_cons];have:=z75 l;have:=zafc e;omega
theorem zahx:Bulk (fun {H}=>Rows.uptoBulk (H:=H)) where
 str:=fun l=>by simp [Rows.uptoBulk]
 len:=fun es sp=>by have:=z75 es;simp only [Rows.uptoBulk];omega
 elem:=fun es sp d h=>by have:=zy8 es d h;simp only [Rows.uptoBulk];omega
 part:=fun es d h=>by have:=zy8 es d h;simp only [Rows.uptoBulk];omega
theorem zae6 {t:Ty} {ts:List Ty} {es:List (Dyn U)} (h:es.map (·.ty)=t::ts):∃(x:den t) (es':List (Dyn U)),es=⟨t,x⟩::es'∧es'.map (·.ty)=ts:=by
 cases es with
 | nil=>simp at h
 | cons e es=>
  simp only [List.map_cons,List.cons.injEq]at h;obtain⟨rfl,h2⟩:=h;exact⟨e.val,es,rfl,h2⟩
end
end Go.Proofs.YtbmfjmakahmclaaGreatDoor.M
