/- Arguments that read as data are typed. -/
import Derived.Test.YtblgefddnnlniaaGreatDoorA4
import Derived.Test.YtblgefddnnlniaaGreatDoorU
import Derived.Test.YtblgefddnnlniaaGreatDoorRows
namespace Go.Proofs.YtblgefddnnlniaaGreatDoor.M
open Go Go.Amx
set_option linter.unusedVariables false
set_option maxRecDepth 100000
noncomputable section
def C0 : Ctx U := zom [] [] [] [] [] [] [] []
theorem zh0 : zhd C0 3 (Ty.int .i64) := z5k (k := .i64) (by kernel_rfl) rfl fun n => ⟨n, rfl⟩
theorem zus : zhd C0 4 Ty.bool := z4f (by kernel_rfl) rfl fun n => ⟨n, rfl⟩
theorem z6q : zhd C0 23 Ty.zI := zii zj2 (ps := [(3, (Ty.int .i64)), (4, Ty.bool), (4, Ty.bool)]) Proofs.Tryz.underlying23 (by kernel_rfl) (by kernel_rfl) rfl (all_cons zh0 (all_cons zus (all_cons zus all_nil))) fun y => ⟨⟨y.1, y.2.1, y.2.2⟩, rfl⟩
theorem z2q : zhd C0 9 Ty.str := z5j (by kernel_rfl) rfl fun n => ⟨n, rfl⟩
theorem z6p : zhd C0 24 (Ty.sl Ty.bool) := zsz zj2 (e := 4) (by kernel_rfl) (by kernel_rfl) zus
theorem z6o : zhd C0 26 Ty.Storage := zii zj2 (ps := [(9, Ty.str), (24, (Ty.sl Ty.bool))]) Proofs.Tryz.underlying26 (by kernel_rfl) (by kernel_rfl) rfl (all_cons z2q (all_cons z6p all_nil)) fun y => ⟨⟨y.1, y.2⟩, rfl⟩
theorem z3h : zhd C0 77 Ty.zK := zii zj2 (ps := [(4, Ty.bool), (3, (Ty.int .i64)), (3, (Ty.int .i64))]) Proofs.Tryz.underlying77 (by kernel_rfl) (by kernel_rfl) rfl (all_cons zus (all_cons zh0 (all_cons zh0 all_nil))) fun y => ⟨⟨y.1, y.2.1, y.2.2⟩, rfl⟩
theorem z3g : zhd C0 79 Ty.DataType := zii zj2 (ps := [(3, (Ty.int .i64)), (3, (Ty.int .i64)), (3, (Ty.int .i64))]) Proofs.Tryz.underlying79 (by kernel_rfl) (by kernel_rfl) rfl (all_cons zh0 (all_cons zh0 (all_cons zh0 all_nil))) fun y => ⟨⟨y.1, y.2.1, y.2.2⟩, rfl⟩
theorem z6k : zhd C0 81 Ty.Number := zii zj2 (ps := [(3, (Ty.int .i64)), (3, (Ty.int .i64))]) Proofs.Tryz.underlying81 (by kernel_rfl) (by kernel_rfl) rfl (all_cons zh0 (all_cons zh0 all_nil)) fun y => ⟨⟨y.1, y.2⟩, rfl⟩
theorem z6j : zhd C0 83 Ty.zC := zii zj2 (ps := [(3, (Ty.int .i64)), (3, (Ty.int .i64)), (3, (Ty.int .i64)), (3, (Ty.int .i64)), (3, (Ty.int .i64)), (77, Ty.zK), (77, Ty.zK), (79, Ty.DataType), (79, Ty.DataType), (4, Ty.bool), (4, Ty.bool), (81, Ty.Number), (9, Ty.str), (9, Ty.str), (3, (Ty.int .i64)), (3, (Ty.int .i64)), (3, (Ty.int .i64)), (3, (Ty.int .i64))]) Proofs.Tryz.underlying83 (by kernel_rfl) (by kernel_rfl) rfl (all_cons zh0 (all_cons zh0 (all_cons zh0 (all_cons zh0 (all_cons zh0 (all_cons z3h (all_cons z3h (all_cons z3g (all_cons z3g (all_cons zus (all_cons zus (all_cons z6k (all_cons z2q (all_cons z2q (all_cons zh0 (all_cons zh0 (all_cons zh0 (all_cons zh0 all_nil)))))))))))))))))) fun y => ⟨⟨y.1, y.2.1, y.2.2.1, y.2.2.2.1, y.2.2.2.2.1, y.2.2.2.2.2.1, y.2.2.2.2.2.2.1, y.2.2.2.2.2.2.2.1, y.2.2.2.2.2.2.2.2.1, y.2.2.2.2.2.2.2.2.2.1, y.2.2.2.2.2.2.2.2.2.2.1, y.2.2.2.2.2.2.2.2.2.2.2.1, y.2.2.2.2.2.2.2.2.2.2.2.2.1, y.2.2.2.2.2.2.2.2.2.2.2.2.2.1, y.2.2.2.2.2.2.2.2.2.2.2.2.2.2.1, y.2.2.2.2.2.2.2.2.2.2.2.2.2.2.2.1, y.2.2.2.2.2.2.2.2.2.2.2.2.2.2.2.2.1, y.2.2.2.2.2.2.2.2.2.2.2.2.2.2.2.2.2⟩, rfl⟩
theorem z6n : zhd C0 27 (Ty.sl Ty.zC) := zsz zj2 (e := 83) (by kernel_rfl) (by kernel_rfl) z6j
theorem z5l : zhd C0 110 Ty.zP := zii zj2 (ps := [(3, (Ty.int .i64)), (3, (Ty.int .i64)), (3, (Ty.int .i64)), (3, (Ty.int .i64))]) Proofs.Tryz.underlying110 (by kernel_rfl) (by kernel_rfl) rfl (all_cons zh0 (all_cons zh0 (all_cons zh0 (all_cons zh0 all_nil)))) fun y => ⟨⟨y.1, y.2.1, y.2.2.1, y.2.2.2⟩, rfl⟩
theorem z6m : zhd C0 28 (Ty.sl Ty.zP) := zsz zj2 (e := 110) (by kernel_rfl) (by kernel_rfl) z5l
theorem z6l : zhd C0 30 Ty.zF := zii zj2 (ps := [(26, Ty.Storage), (27, (Ty.sl Ty.zC)), (28, (Ty.sl Ty.zP))]) Proofs.Tryz.underlying30 (by kernel_rfl) (by kernel_rfl) rfl (all_cons z6o (all_cons z6n (all_cons z6m all_nil))) fun y => ⟨⟨y.1, y.2.1, y.2.2⟩, rfl⟩
theorem z5o : ParOk C0 (23, Ty.zI) := ⟨z6q, by kernel_rfl, ⟨_, Proofs.Tryz.underlying23, .inr (.inr (.inr (.inr ⟨_, rfl⟩)))⟩⟩
theorem z5n : ParOk C0 (30, Ty.zF) := ⟨z6l, by kernel_rfl, ⟨_, Proofs.Tryz.underlying30, .inr (.inr (.inr (.inr ⟨_, rfl⟩)))⟩⟩
theorem z28 {H : Type} (d : DataW H) : 1 ≤ Rows.uptoBulk d := by
 cases d with
 | lit l => cases l <;> simp [Rows.uptoBulk]
 | _ => simp [Rows.uptoBulk]
theorem zr2 {H : Type} : ∀ (l : List (DataW H)) d, d ∈ l → Rows.uptoBulk d ≤ Rows.uptoBulkAll l
 | [], d, h => by simp at h
 | e :: l, d, h => by
  simp only [Rows.uptoBulkAll]; rcases List.mem_cons.1 h with rfl | h
  · omega
  · have := zr2 l d h; omega
theorem zxm {H : Type} : ∀ (l : List (DataW H)), l.length ≤ Rows.uptoBulkAll l
 | [] => by simp
 | e :: l => by
  simp only [Rows.uptoBulkAll, List.length_cons]; have := zxm l; have := z28 e; omega
theorem z42 : Bulk (fun {H} => Rows.uptoBulk (H := H)) where
 str := fun l => by simp [Rows.uptoBulk]
 len := fun es sp => by have := zxm es; simp only [Rows.uptoBulk]; omega
 elem := fun es sp d h => by have := zr2 es d h; simp only [Rows.uptoBulk]; omega
 part := fun es d h => by have := zr2 es d h; simp only [Rows.uptoBulk]; omega
theorem zxk {t : Ty} {ts : List Ty} {es : List (Dyn U)} (h : es.map (·.ty) = t :: ts) : ∃ (x : den t) (es' : List (Dyn U)), es = ⟨t, x⟩ :: es' ∧ es'.map (·.ty) = ts := by
 cases es with
 | nil => simp at h
 | cons e es =>
  simp only [List.map_cons, List.cons.injEq] at h; obtain ⟨rfl, h2⟩ := h; exact ⟨e.val, es, rfl, h2⟩
end
end Go.Proofs.YtblgefddnnlniaaGreatDoor.M
