/- Arguments that read as data are typed. -/
import Derived.Test.YtmifhmfokbigiaaGreatDoorA3
import Derived.Test.YtmifhmfokbigiaaGreatDoorU
import Derived.Test.YtmifhmfokbigiaaGreatDoorRows
namespace Go.Proofs.YtmifhmfokbigiaaGreatDoor.M
open Go Go.Amx
set_option linter.unusedVariables false
set_option maxRecDepth 100000
noncomputable section
def C0 : Ctx U := zt6 [] [] [] [] [] [] [] []
theorem znz : zkj C0 3 (Ty.int .i64) := zad5 (k := .i64) (by kernel_rfl) rfl fun n => ⟨n, rfl⟩
theorem rd_9 : zkj C0 9 Ty.str := zad4 (by kernel_rfl) rfl fun n => ⟨n, rfl⟩
theorem zafj : zkj C0 77 Ty.DataType := zng zm0 (ps := [(3, (Ty.int .i64)), (3, (Ty.int .i64)), (3, (Ty.int .i64))]) Proofs.Tryz.underlying77 (by kernel_rfl) (by kernel_rfl) rfl (all_cons znz (all_cons znz (all_cons znz ze5))) fun y => ⟨⟨y.1, y.2.1, y.2.2⟩, rfl⟩
theorem zafi : zkj C0 79 Ty.Value := zng zm0 (ps := [(3, (Ty.int .i64)), (9, Ty.str)]) Proofs.Tryz.underlying79 (by kernel_rfl) (by kernel_rfl) rfl (all_cons znz (all_cons rd_9 ze5)) fun y => ⟨⟨y.1, y.2⟩, rfl⟩
theorem zafh : zkj C0 81 Ty.zF := zng zm0 (ps := [(9, Ty.str), (3, (Ty.int .i64)), (77, Ty.DataType), (79, Ty.Value), (9, Ty.str), (3, (Ty.int .i64)), (3, (Ty.int .i64))]) Proofs.Tryz.underlying81 (by kernel_rfl) (by kernel_rfl) rfl (all_cons rd_9 (all_cons znz (all_cons zafj (all_cons zafi (all_cons rd_9 (all_cons znz (all_cons znz ze5))))))) fun y => ⟨⟨y.1, y.2.1, y.2.2.1, y.2.2.2.1, y.2.2.2.2.1, y.2.2.2.2.2.1, y.2.2.2.2.2.2⟩, rfl⟩
theorem zafp : zkj C0 22 (Ty.sl Ty.zF) := zto zm0 (e := 81) (by kernel_rfl) (by kernel_rfl) zafh
theorem zafl : zkj C0 41 (Ty.sl (Ty.int .i64)) := zto zm0 (e := 3) (by kernel_rfl) (by kernel_rfl) znz
theorem zafk : zkj C0 47 Ty.zI := zng zm0 (ps := [(3, (Ty.int .i64)), (41, (Ty.sl (Ty.int .i64)))]) Proofs.Tryz.underlying47 (by kernel_rfl) (by kernel_rfl) rfl (all_cons znz (all_cons zafl ze5)) fun y => ⟨⟨y.1, y.2⟩, rfl⟩
theorem zafo : zkj C0 23 (Ty.sl Ty.zI) := zto zm0 (e := 47) (by kernel_rfl) (by kernel_rfl) zafk
theorem zafg : zkj C0 94 Ty.zN := zng zm0 (ps := [(3, (Ty.int .i64)), (3, (Ty.int .i64)), (3, (Ty.int .i64)), (3, (Ty.int .i64))]) Proofs.Tryz.underlying94 (by kernel_rfl) (by kernel_rfl) rfl (all_cons znz (all_cons znz (all_cons znz (all_cons znz ze5)))) fun y => ⟨⟨y.1, y.2.1, y.2.2.1, y.2.2.2⟩, rfl⟩
theorem zafn : zkj C0 24 (Ty.sl Ty.zN) := zto zm0 (e := 94) (by kernel_rfl) (by kernel_rfl) zafg
theorem zafm : zkj C0 26 Ty.zB := zng zm0 (ps := [(22, (Ty.sl Ty.zF)), (23, (Ty.sl Ty.zI)), (24, (Ty.sl Ty.zN))]) Proofs.Tryz.underlying26 (by kernel_rfl) (by kernel_rfl) rfl (all_cons zafp (all_cons zafo (all_cons zafn ze5))) fun y => ⟨⟨y.1, y.2.1, y.2.2⟩, rfl⟩
theorem zafw : ParOk C0 (3, (Ty.int .i64)) := ⟨znz, by kernel_rfl, ⟨_, Proofs.Tryz.underlying3, .inr (.inr (.inl ⟨_, rfl⟩))⟩⟩
theorem zaea : ParOk C0 (26, Ty.zB) := ⟨zafm, by kernel_rfl, ⟨_, Proofs.Tryz.underlying26, .inr (.inr (.inr (.inr ⟨_, rfl⟩)))⟩⟩
theorem zabd {H : Type} (d : DataW H) : 1 ≤ Rows.uptoBulk d := by
 cases d with
 | lit l => cases l <;> simp [Rows.uptoBulk]
 | _ => simp [Rows.uptoBulk]
theorem zw1 {H : Type} : ∀ (l : List (DataW H)) d, d ∈ l → Rows.uptoBulk d ≤ Rows.uptoBulkAll l
 | [], d, h => by simp at h
 | e :: l, d, h => by
  simp only [Rows.uptoBulkAll]; rcases List.mem_cons.1 h with rfl | h
  · omega
  · have := zw1 l d h; omega
theorem z4g {H : Type} : ∀ (l : List (DataW H)), l.length ≤ Rows.uptoBulkAll l
 | [] => by simp
 | e :: l => by
  simp only [Rows.uptoBulkAll, List.length_cons]; have := z4g l; have := zabd e; omega
theorem zac5 : Bulk (fun {H} => Rows.uptoBulk (H := H)) where
 str := fun l => by simp [Rows.uptoBulk]
 len := fun es sp => by have := z4g es; simp only [Rows.uptoBulk]; omega
 elem := fun es sp d h => by have := zw1 es d h; simp only [Rows.uptoBulk]; omega
 part := fun es d h => by have := zw1 es d h; simp only [Rows.uptoBulk]; omega
theorem z4a {t : Ty} {ts : List Ty} {es : List (Dyn U)} (h : es.map (·.ty) = t :: ts) : ∃ (x : den t) (es' : List (Dyn U)), es = ⟨t, x⟩ :: es' ∧ es'.map (·.ty) = ts := by
 cases es with
 | nil => simp at h
 | cons e es =>
  simp only [List.map_cons, List.cons.injEq] at h; obtain ⟨rfl, h2⟩ := h; exact ⟨e.val, es, rfl, h2⟩
end
end Go.Proofs.YtmifhmfokbigiaaGreatDoor.M
