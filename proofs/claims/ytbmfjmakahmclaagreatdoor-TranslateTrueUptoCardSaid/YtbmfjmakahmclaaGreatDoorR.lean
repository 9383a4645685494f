/- Arguments that read as data are typed. -/
import Derived.Test.YtbmfjmakahmclaaGreatDoorA4
import Derived.Test.YtbmfjmakahmclaaGreatDoorU
import Derived.Test.YtbmfjmakahmclaaGreatDoorRows
namespace Go.Proofs.YtbmfjmakahmclaaGreatDoor.M
open Go Go.Amx
set_option linter.unusedVariables false
set_option maxRecDepth 100000
noncomputable section
def C0:Ctx U:=ztv [] [] [] [] [] [] [] []
theorem zkx:zj7 C0 3 (Ty.int .i64):=zago (k:= .i64) (by kernel_rfl) rfl fun n=>⟨n,rfl⟩
theorem z2a:zj7 C0 4 Ty.bool:=zaer (by kernel_rfl) rfl fun n=>⟨n,rfl⟩
theorem zaja:zj7 C0 23 Ty.zJ:=zlo znr (ps:=[(3,(Ty.int .i64)),(4,Ty.bool),(4,Ty.bool)]) Proofs.Tryz.underlying23 (by kernel_rfl) (by kernel_rfl) rfl (all_cons zkx (all_cons z2a (all_cons z2a all_nil))) fun y=>⟨⟨y.1,y.2.1,y.2.2⟩,rfl⟩
theorem rd_9:zj7 C0 9 Ty.str:=zagn (by kernel_rfl) rfl fun n=>⟨n,rfl⟩
theorem zai9:zj7 C0 24 (Ty.sl Ty.bool):=zz2 znr (e:=4) (by kernel_rfl) (by kernel_rfl) z2a
theorem zai8:zj7 C0 26 Ty.Storage:=zlo znr (ps:=[(9,Ty.str),(24,(Ty.sl Ty.bool))]) Proofs.Tryz.underlying26 (by kernel_rfl) (by kernel_rfl) rfl (all_cons rd_9 (all_cons zai9 all_nil)) fun y=>⟨⟨y.1,y.2⟩,rfl⟩
theorem zady:zj7 C0 89 Ty.zN:=zlo znr (ps:=[(4,Ty.bool),(3,(Ty.int .i64)),(3,(Ty.int .i64))]) Proofs.Tryz.underlying89 (by kernel_rfl) (by kernel_rfl) rfl (all_cons z2a (all_cons zkx (all_cons zkx all_nil))) fun y=>⟨⟨y.1,y.2.1,y.2.2⟩,rfl⟩
theorem zadz:zj7 C0 47 Ty.DataType:=zlo znr (ps:=[(3,(Ty.int .i64)),(3,(Ty.int .i64)),(3,(Ty.int .i64))]) Proofs.Tryz.underlying47 (by kernel_rfl) (by kernel_rfl) rfl (all_cons zkx (all_cons zkx (all_cons zkx all_nil))) fun y=>⟨⟨y.1,y.2.1,y.2.2⟩,rfl⟩
theorem zai4:zj7 C0 54 Ty.Number:=zlo znr (ps:=[(3,(Ty.int .i64)),(3,(Ty.int .i64))]) Proofs.Tryz.underlying54 (by kernel_rfl) (by kernel_rfl) rfl (all_cons zkx (all_cons zkx all_nil)) fun y=>⟨⟨y.1,y.2⟩,rfl⟩
theorem zai3:zj7 C0 91 Ty.zB:=zlo znr (ps:=[(3,(Ty.int .i64)),(3,(Ty.int .i64)),(3,(Ty.int .i64)),(3,(Ty.int .i64)),(3,(Ty.int .i64)),(89,Ty.zN),(89,Ty.zN),(47,Ty.DataType),(47,Ty.DataType),(4,Ty.bool),(4,Ty.bool),(54,Ty.Number),(9,Ty.str),(9,Ty.str),(3,(Ty.int .i64)),(3,(Ty.int .i64)),(3,(Ty.int .i64)),(3,(Ty.int .i64))]) Proofs.Tryz.underlying91 (by kernel_rfl) (by kernel_rfl) rfl (all_cons zkx (all_cons zkx (all_cons zkx (all_cons zkx (all_cons zkx (all_cons zady (all_cons zady (all_cons zadz (all_cons zadz (all_cons z2a (all_cons z2a (all_cons zai4 (all_cons rd_9 (all_cons rd_9 (all_cons zkx (all_cons zkx (all_cons zkx (all_cons zkx all_nil)))))))))))))))))) fun y=>⟨⟨y.1,y.2.1,y.2.2.1,y.2.2.2.1,y.2.2.2.2.1,y.2.2.2.2.2.1,y.2.2.2.2.2.2.1,y.2.2.2.2.2.2.2.1,y.2.2.2.2.2.2.2.2.1,y.2.2.2.2.2.2.2.2.2.1,y.2.2.2.2.2.2.2.2.2.2.1,y.2.2.2.2.2.2.2.2.2.2.2.1,y.2.2.2.2.2.2.2.2.2.2.2.2.1,y.2.2.2.2.2.2.2.2.2.2.2.2.2.1,y.2.2.2.2.2.2.2.2.2.2.2.2.2.2.1,y.2.2.2.2.2.2.2.2.2.2.2.2.2.2.2.1,y.2.2.2.2.2.2.2.2.2.2.2.2.2.2.2.2.1,y.2.2.2.2.2.2.2.2.2.2.2.2.2.2.2.2.2⟩,rfl⟩
theorem zai7:zj7 C0 27 (Ty.sl Ty.zB):=zz2 znr (e:=91) (by kernel_rfl) (by kernel_rfl) zai3
theorem zagp:zj7 C0 116 Ty.zT:=zlo znr (ps:=[(3,(Ty.int .i64)),(3,(Ty.int .i64)),(3,(Ty.int .i64)),(3,(Ty.int .i64))]) Proofs.Tryz.underlying116 (by kernel_rfl) (by kernel_rfl) rfl (all_cons zkx (all_cons zkx (all_cons zkx (all_cons zkx all_nil)))) fun y=>⟨⟨y.1,y.2.1,y.2.2.1,y.2.2.2⟩,rfl⟩
theorem zai6:zj7 C0 28 (Ty.sl Ty.zT):=zz2 znr (e:=116) (by kernel_rfl) (by kernel_rfl) zagp
theorem zai5:zj7 C0 30 Ty.zH:=zlo znr (ps:=[(26,Ty.Storage),(27,(Ty.sl Ty.zB)),(28,(Ty.sl Ty.zT))]) Proofs.Tryz.underlying30 (by kernel_rfl) (by kernel_rfl) rfl (all_cons zai8 (all_cons zai7 (all_cons zai6 all_nil))) fun y=>⟨⟨y.1,y.2.1,y.2.2⟩,rfl⟩
theorem zagv:ParOk C0 (23,Ty.zJ):=⟨zaja,by kernel_rfl,⟨_,Proofs.Tryz.underlying23,.inr (.inr (.inr (.inr ⟨_,rfl⟩)))⟩⟩
theorem zagu:ParOk C0 (30,Ty.zH):=⟨zai5,by kernel_rfl,⟨_,Proofs.Tryz.underlying30,.inr (.inr (.inr (.inr ⟨_,rfl⟩)))⟩⟩
theorem zadl {H:Type} (d:DataW H):1≤Rows.uptoBulk d:=by
 cases d with
 | lit l=>cases l<;>simp [Rows.uptoBulk]
 | _=>simp [Rows.uptoBulk]
theorem zyn {H:Type}:∀(l:List (DataW H)) d,d∈l→Rows.uptoBulk d≤Rows.uptoBulkAll l
 | [],d,h=>by simp at h
 | e::l,d,h=>by
  simp only [Rows.uptoBulkAll];rcases List.mem_cons.1 h with rfl|h
  · omega
  · have:=zyn l d h;omega
theorem z6g {H:Type}:∀(l:List (DataW H)),l.length≤Rows.uptoBulkAll l
 | []=>by simp
 | e::l=>by
  simp only [Rows.uptoBulkAll,List.length_cons];have:=z6g l;have:=zadl e;omega
theorem zafn:Bulk (fun {H}=>Rows.uptoBulk (H:=H)) where
 str:=fun l=>by simp [Rows.uptoBulk]
 len:=fun es sp=>by have:=z6g es;simp only [Rows.uptoBulk];omega
 elem:=fun es sp d h=>by have:=zyn es d h;simp only [Rows.uptoBulk];omega
 part:=fun es d h=>by have:=zyn es d h;simp only [Rows.uptoBulk];omega
theorem z58 {t:Ty} {ts:List Ty} {es:List (Dyn U)} (h:es.map (·.ty)=t::ts):∃(x:den t) (es':List (Dyn U)),es=⟨t,x⟩::es'∧es'.map (·.ty)=ts:=by
 cases es with
 | nil=>simp at h
 | cons e es=>
  simp only [List.map_cons,List.cons.injEq]at h;obtain⟨rfl,h2⟩:=h;exact⟨e.val,es,rfl,h2⟩
end
end Go.Proofs.YtbmfjmakahmclaaGreatDoor.M
