/- Arguments that read as data are typed. -/
import Derived.Test.YtmifhmfokbigiaaGreatDoorA4
import Derived.Test.YtmifhmfokbigiaaGreatDoorU
import Derived.Test.YtmifhmfokbigiaaGreatDoorRows
namespace Go.Proofs.YtmifhmfokbigiaaGreatDoor.M
open Go Go.Amx
set_option linter.unusedVariables false
set_option maxRecDepth 100000
noncomputable section
def C0 : Ctx U := zx5 [] [] [] [] [] [] [] []
theorem rd_9 : zgk C0 9 Ty.str := z6z (by kernel_rfl) rfl fun n => ⟨n, rfl⟩
theorem zq8 : zgk C0 3 (Ty.int .i64) := z60 (k := .i64) (by kernel_rfl) rfl fun n => ⟨n, rfl⟩
theorem zaf1 : zgk C0 77 Ty.DataType := zil zpd (ps := [(3, (Ty.int .i64)), (3, (Ty.int .i64)), (3, (Ty.int .i64))]) Proofs.Tryz.underlying77 (by kernel_rfl) (by kernel_rfl) rfl (all_cons zq8 (all_cons zq8 (all_cons zq8 zdb))) fun y => ⟨⟨y.1, y.2.1, y.2.2⟩, rfl⟩
theorem zaf0 : zgk C0 79 Ty.Value := zil zpd (ps := [(3, (Ty.int .i64)), (9, Ty.str)]) Proofs.Tryz.underlying79 (by kernel_rfl) (by kernel_rfl) rfl (all_cons zq8 (all_cons rd_9 zdb)) fun y => ⟨⟨y.1, y.2⟩, rfl⟩
theorem zafz : zgk C0 81 Ty.zF := zil zpd (ps := [(9, Ty.str), (3, (Ty.int .i64)), (77, Ty.DataType), (79, Ty.Value), (9, Ty.str), (3, (Ty.int .i64)), (3, (Ty.int .i64))]) Proofs.Tryz.underlying81 (by kernel_rfl) (by kernel_rfl) rfl (all_cons rd_9 (all_cons zq8 (all_cons zaf1 (all_cons zaf0 (all_cons rd_9 (all_cons zq8 (all_cons zq8 zdb))))))) fun y => ⟨⟨y.1, y.2.1, y.2.2.1, y.2.2.2.1, y.2.2.2.2.1, y.2.2.2.2.2.1, y.2.2.2.2.2.2⟩, rfl⟩
theorem zaf7 : zgk C0 22 (Ty.sl Ty.zF) := zmb zpd (e := 81) (by kernel_rfl) (by kernel_rfl) zafz
theorem zaf3 : zgk C0 41 (Ty.sl (Ty.int .i64)) := zmb zpd (e := 3) (by kernel_rfl) (by kernel_rfl) zq8
theorem zaf2 : zgk C0 47 Ty.zI := zil zpd (ps := [(3, (Ty.int .i64)), (41, (Ty.sl (Ty.int .i64)))]) Proofs.Tryz.underlying47 (by kernel_rfl) (by kernel_rfl) rfl (all_cons zq8 (all_cons zaf3 zdb)) fun y => ⟨⟨y.1, y.2⟩, rfl⟩
theorem zaf6 : zgk C0 23 (Ty.sl Ty.zI) := zmb zpd (e := 47) (by kernel_rfl) (by kernel_rfl) zaf2
theorem zafy : zgk C0 94 Ty.zN := zil zpd (ps := [(3, (Ty.int .i64)), (3, (Ty.int .i64)), (3, (Ty.int .i64)), (3, (Ty.int .i64))]) Proofs.Tryz.underlying94 (by kernel_rfl) (by kernel_rfl) rfl (all_cons zq8 (all_cons zq8 (all_cons zq8 (all_cons zq8 zdb)))) fun y => ⟨⟨y.1, y.2.1, y.2.2.1, y.2.2.2⟩, rfl⟩
theorem zaf5 : zgk C0 24 (Ty.sl Ty.zN) := zmb zpd (e := 94) (by kernel_rfl) (by kernel_rfl) zafy
theorem zaf4 : zgk C0 26 Ty.zB := zil zpd (ps := [(22, (Ty.sl Ty.zF)), (23, (Ty.sl Ty.zI)), (24, (Ty.sl Ty.zN))]) Proofs.Tryz.underlying26 (by kernel_rfl) (by kernel_rfl) rfl (all_cons zaf7 (all_cons zaf6 (all_cons zaf5 zdb))) fun y => ⟨⟨y.1, y.2.1, y.2.2⟩, rfl⟩
theorem zae6 : ParOk C0 (26, Ty.zB) := ⟨zaf4, by kernel_rfl, ⟨_, Proofs.Tryz.underlying26, .inr (.inr (.inr (.inr ⟨_, rfl⟩)))⟩⟩
theorem zac7 {H : Type} (d : DataW H) : 1 ≤ Rows.uptoBulk d := by
 cases d with
 | lit l => cases l <;> simp [Rows.uptoBulk]
 | _ => simp [Rows.uptoBulk]
theorem z1r {H : Type} : ∀ (l : List (DataW H)) d, d ∈ l → Rows.uptoBulk d ≤ Rows.uptoBulkAll l
 | [], d, h => by simp at h
 | e :: l, d, h => by
  simp only [Rows.uptoBulkAll]; rcases List.mem_cons.1 h with rfl | h
  · omega
  · have := z1r l d h; omega
theorem z85 {H : Type} : ∀ (l : List (DataW H)), l.length ≤ Rows.uptoBulkAll l
 | [] => by simp
 | e :: l => by
  simp only [Rows.uptoBulkAll, List.length_cons]; have := z85 l; have := zac7 e; omega
theorem zaeb : Bulk (fun {H} => Rows.uptoBulk (H := H)) where
 str := fun l => by simp [Rows.uptoBulk]
 len := fun es sp => by have := z85 es; simp only [Rows.uptoBulk]; omega
 elem := fun es sp d h => by have := z1r es d h; simp only [Rows.uptoBulk]; omega
 part := fun es d h => by have := z1r es d h; simp only [Rows.uptoBulk]; omega
theorem zac2 {t : Ty} {ts : List Ty} {es : List (Dyn U)} (h : es.map (·.ty) = t :: ts) : ∃ (x : den t) (es' : List (Dyn U)), es = ⟨t, x⟩ :: es' ∧ es'.map (·.ty) = ts := by
 cases es with
 | nil => simp at h
 | cons e es =>
  simp only [List.map_cons, List.cons.injEq] at h; obtain ⟨rfl, h2⟩ := h; exact ⟨e.val, es, rfl, h2⟩
end
end Go.Proofs.YtmifhmfokbigiaaGreatDoor.M
