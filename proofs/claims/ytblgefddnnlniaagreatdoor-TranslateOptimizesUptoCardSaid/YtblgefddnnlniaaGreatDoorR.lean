/- Arguments that read as data are typed. -/
import Derived.Test.YtblgefddnnlniaaGreatDoorA4
import Derived.Test.YtblgefddnnlniaaGreatDoorU
import Derived.Test.YtblgefddnnlniaaGreatDoorRows
namespace Go.Proofs.YtblgefddnnlniaaGreatDoor.M
open Go Go.Amx
set_option linter.unusedVariables false
set_option maxRecDepth 100000
noncomputable section
def C0 : Ctx U := zps [] [] [] [] [] [] [] []
theorem zin : zh1 C0 3 (Ty.int .i64) := z8e (k := .i64) (by kernel_rfl) rfl fun n => ⟨n, rfl⟩
theorem zv5 : zh1 C0 4 Ty.bool := z62 (by kernel_rfl) rfl fun n => ⟨n, rfl⟩
theorem z9m : zh1 C0 23 Ty.zI := zi9 zkr (ps := [(3, (Ty.int .i64)), (4, Ty.bool), (4, Ty.bool)]) Proofs.Tryz.underlying23 (by kernel_rfl) (by kernel_rfl) rfl (all_cons zin (all_cons zv5 (all_cons zv5 all_nil))) fun y => ⟨⟨y.1, y.2.1, y.2.2⟩, rfl⟩
theorem z4x : zh1 C0 9 Ty.str := z8d (by kernel_rfl) rfl fun n => ⟨n, rfl⟩
theorem z9l : zh1 C0 24 (Ty.sl Ty.bool) := zud zkr (e := 4) (by kernel_rfl) (by kernel_rfl) zv5
theorem z9k : zh1 C0 26 Ty.Storage := zi9 zkr (ps := [(9, Ty.str), (24, (Ty.sl Ty.bool))]) Proofs.Tryz.underlying26 (by kernel_rfl) (by kernel_rfl) rfl (all_cons z4x (all_cons z9l all_nil)) fun y => ⟨⟨y.1, y.2⟩, rfl⟩
theorem z5r : zh1 C0 77 Ty.zL := zi9 zkr (ps := [(4, Ty.bool), (3, (Ty.int .i64)), (3, (Ty.int .i64))]) Proofs.Tryz.underlying77 (by kernel_rfl) (by kernel_rfl) rfl (all_cons zv5 (all_cons zin (all_cons zin all_nil))) fun y => ⟨⟨y.1, y.2.1, y.2.2⟩, rfl⟩
theorem z5q : zh1 C0 79 Ty.DataType := zi9 zkr (ps := [(3, (Ty.int .i64)), (3, (Ty.int .i64)), (3, (Ty.int .i64))]) Proofs.Tryz.underlying79 (by kernel_rfl) (by kernel_rfl) rfl (all_cons zin (all_cons zin (all_cons zin all_nil))) fun y => ⟨⟨y.1, y.2.1, y.2.2⟩, rfl⟩
theorem z9g : zh1 C0 81 Ty.Number := zi9 zkr (ps := [(3, (Ty.int .i64)), (3, (Ty.int .i64))]) Proofs.Tryz.underlying81 (by kernel_rfl) (by kernel_rfl) rfl (all_cons zin (all_cons zin all_nil)) fun y => ⟨⟨y.1, y.2⟩, rfl⟩
theorem z9f : zh1 C0 83 Ty.zC := zi9 zkr (ps := [(3, (Ty.int .i64)), (3, (Ty.int .i64)), (3, (Ty.int .i64)), (3, (Ty.int .i64)), (3, (Ty.int .i64)), (77, Ty.zL), (77, Ty.zL), (79, Ty.DataType), (79, Ty.DataType), (4, Ty.bool), (4, Ty.bool), (81, Ty.Number), (9, Ty.str), (9, Ty.str), (3, (Ty.int .i64)), (3, (Ty.int .i64)), (3, (Ty.int .i64)), (3, (Ty.int .i64))]) Proofs.Tryz.underlying83 (by kernel_rfl) (by kernel_rfl) rfl (all_cons zin (all_cons zin (all_cons zin (all_cons zin (all_cons zin (all_cons z5r (all_cons z5r (all_cons z5q (all_cons z5q (all_cons zv5 (all_cons zv5 (all_cons z9g (all_cons z4x (all_cons z4x (all_cons zin (all_cons zin (all_cons zin (all_cons zin all_nil)))))))))))))))))) fun y => ⟨⟨y.1, y.2.1, y.2.2.1, y.2.2.2.1, y.2.2.2.2.1, y.2.2.2.2.2.1, y.2.2.2.2.2.2.1, y.2.2.2.2.2.2.2.1, y.2.2.2.2.2.2.2.2.1, y.2.2.2.2.2.2.2.2.2.1, y.2.2.2.2.2.2.2.2.2.2.1, y.2.2.2.2.2.2.2.2.2.2.2.1, y.2.2.2.2.2.2.2.2.2.2.2.2.1, y.2.2.2.2.2.2.2.2.2.2.2.2.2.1, y.2.2.2.2.2.2.2.2.2.2.2.2.2.2.1, y.2.2.2.2.2.2.2.2.2.2.2.2.2.2.2.1, y.2.2.2.2.2.2.2.2.2.2.2.2.2.2.2.2.1, y.2.2.2.2.2.2.2.2.2.2.2.2.2.2.2.2.2⟩, rfl⟩
theorem z9j : zh1 C0 27 (Ty.sl Ty.zC) := zud zkr (e := 83) (by kernel_rfl) (by kernel_rfl) z9f
theorem z8f : zh1 C0 110 Ty.zQ := zi9 zkr (ps := [(3, (Ty.int .i64)), (3, (Ty.int .i64)), (3, (Ty.int .i64)), (3, (Ty.int .i64))]) Proofs.Tryz.underlying110 (by kernel_rfl) (by kernel_rfl) rfl (all_cons zin (all_cons zin (all_cons zin (all_cons zin all_nil)))) fun y => ⟨⟨y.1, y.2.1, y.2.2.1, y.2.2.2⟩, rfl⟩
theorem z9i : zh1 C0 28 (Ty.sl Ty.zQ) := zud zkr (e := 110) (by kernel_rfl) (by kernel_rfl) z8f
theorem z9h : zh1 C0 30 Ty.zF := zi9 zkr (ps := [(26, Ty.Storage), (27, (Ty.sl Ty.zC)), (28, (Ty.sl Ty.zQ))]) Proofs.Tryz.underlying30 (by kernel_rfl) (by kernel_rfl) rfl (all_cons z9k (all_cons z9j (all_cons z9i all_nil))) fun y => ⟨⟨y.1, y.2.1, y.2.2⟩, rfl⟩
theorem z8i : ParOk C0 (23, Ty.zI) := ⟨z9m, by kernel_rfl, ⟨_, Proofs.Tryz.underlying23, .inr (.inr (.inr (.inr ⟨_, rfl⟩)))⟩⟩
theorem z8h : ParOk C0 (30, Ty.zF) := ⟨z9h, by kernel_rfl, ⟨_, Proofs.Tryz.underlying30, .inr (.inr (.inr (.inr ⟨_, rfl⟩)))⟩⟩
theorem z5i {H : Type} (d : DataW H) : 1 ≤ Rows.uptoBulk d := by
 cases d with
 | lit l => cases l <;> simp [Rows.uptoBulk]
 | _ => simp [Rows.uptoBulk]
theorem ztc {H : Type} : ∀ (l : List (DataW H)) d, d ∈ l → Rows.uptoBulk d ≤ Rows.uptoBulkAll l
 | [], d, h => by simp at h
 | e :: l, d, h => by
  simp only [Rows.uptoBulkAll]; rcases List.mem_cons.1 h with rfl | h
  · omega
  · have := ztc l d h; omega
theorem zy8 {H : Type} : ∀ (l : List (DataW H)), l.length ≤ Rows.uptoBulkAll l
 | [] => by simp
 | e :: l => by
  simp only [Rows.uptoBulkAll, List.length_cons]; have := zy8 l; have := z5i e; omega
theorem z7t : Bulk (fun {H} => Rows.uptoBulk (H := H)) where
 str := fun l => by simp [Rows.uptoBulk]
 len := fun es sp => by have := zy8 es; simp only [Rows.uptoBulk]; omega
 elem := fun es sp d h => by have := ztc es d h; simp only [Rows.uptoBulk]; omega
 part := fun es d h => by have := ztc es d h; simp only [Rows.uptoBulk]; omega
theorem zy5 {t : Ty} {ts : List Ty} {es : List (Dyn U)} (h : es.map (·.ty) = t :: ts) : ∃ (x : den t) (es' : List (Dyn U)), es = ⟨t, x⟩ :: es' ∧ es'.map (·.ty) = ts := by
 cases es with
 | nil => simp at h
 | cons e es =>
  simp only [List.map_cons, List.cons.injEq] at h; obtain ⟨rfl, h2⟩ := h; exact ⟨e.val, es, rfl, h2⟩
end
end Go.Proofs.YtblgefddnnlniaaGreatDoor.M
