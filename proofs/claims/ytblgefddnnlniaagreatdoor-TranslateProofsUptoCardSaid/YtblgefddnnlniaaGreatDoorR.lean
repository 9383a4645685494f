/- Arguments that read as data are typed. -/
import Derived.Test.YtblgefddnnlniaaGreatDoorA4
import Derived.Test.YtblgefddnnlniaaGreatDoorU
import Derived.Test.YtblgefddnnlniaaGreatDoorRows
namespace Go.Proofs.YtblgefddnnlniaaGreatDoor.M
open Go Go.Amx
set_option linter.unusedVariables false
set_option maxRecDepth 100000
noncomputable section
def C0 : Ctx U := zot [] [] [] [] [] [] [] []
theorem zg9 : zgg C0 3 (Ty.int .i64) := z4p (k := .i64) (by kernel_rfl) rfl fun n => ⟨n, rfl⟩
theorem zum : zgg C0 4 Ty.bool := z3o (by kernel_rfl) rfl fun n => ⟨n, rfl⟩
theorem z52 : zgg C0 23 Ty.zI := zhs zie (ps := [(3, (Ty.int .i64)), (4, Ty.bool), (4, Ty.bool)]) Proofs.Tryz.underlying23 (by kernel_rfl) (by kernel_rfl) rfl (all_cons zg9 (all_cons zum (all_cons zum all_nil))) fun y => ⟨⟨y.1, y.2.1, y.2.2⟩, rfl⟩
theorem z1x : zgg C0 9 Ty.str := z4o (by kernel_rfl) rfl fun n => ⟨n, rfl⟩
theorem z51 : zgg C0 24 (Ty.sl Ty.bool) := znh zie (e := 4) (by kernel_rfl) (by kernel_rfl) zum
theorem z5z : zgg C0 26 Ty.Storage := zhs zie (ps := [(9, Ty.str), (24, (Ty.sl Ty.bool))]) Proofs.Tryz.underlying26 (by kernel_rfl) (by kernel_rfl) rfl (all_cons z1x (all_cons z51 all_nil)) fun y => ⟨⟨y.1, y.2⟩, rfl⟩
theorem z2p : zgg C0 77 Ty.zK := zhs zie (ps := [(4, Ty.bool), (3, (Ty.int .i64)), (3, (Ty.int .i64))]) Proofs.Tryz.underlying77 (by kernel_rfl) (by kernel_rfl) rfl (all_cons zum (all_cons zg9 (all_cons zg9 all_nil))) fun y => ⟨⟨y.1, y.2.1, y.2.2⟩, rfl⟩
theorem zzc : zgg C0 79 Ty.DataType := zhs zie (ps := [(3, (Ty.int .i64)), (3, (Ty.int .i64)), (3, (Ty.int .i64))]) Proofs.Tryz.underlying79 (by kernel_rfl) (by kernel_rfl) rfl (all_cons zg9 (all_cons zg9 (all_cons zg9 all_nil))) fun y => ⟨⟨y.1, y.2.1, y.2.2⟩, rfl⟩
theorem z5u : zgg C0 81 Ty.Number := zhs zie (ps := [(3, (Ty.int .i64)), (3, (Ty.int .i64))]) Proofs.Tryz.underlying81 (by kernel_rfl) (by kernel_rfl) rfl (all_cons zg9 (all_cons zg9 all_nil)) fun y => ⟨⟨y.1, y.2⟩, rfl⟩
theorem z5t : zgg C0 83 Ty.zB := zhs zie (ps := [(3, (Ty.int .i64)), (3, (Ty.int .i64)), (3, (Ty.int .i64)), (3, (Ty.int .i64)), (3, (Ty.int .i64)), (77, Ty.zK), (77, Ty.zK), (79, Ty.DataType), (79, Ty.DataType), (4, Ty.bool), (4, Ty.bool), (81, Ty.Number), (9, Ty.str), (9, Ty.str), (3, (Ty.int .i64)), (3, (Ty.int .i64)), (3, (Ty.int .i64)), (3, (Ty.int .i64))]) Proofs.Tryz.underlying83 (by kernel_rfl) (by kernel_rfl) rfl (all_cons zg9 (all_cons zg9 (all_cons zg9 (all_cons zg9 (all_cons zg9 (all_cons z2p (all_cons z2p (all_cons zzc (all_cons zzc (all_cons zum (all_cons zum (all_cons z5u (all_cons z1x (all_cons z1x (all_cons zg9 (all_cons zg9 (all_cons zg9 (all_cons zg9 all_nil)))))))))))))))))) fun y => ⟨⟨y.1, y.2.1, y.2.2.1, y.2.2.2.1, y.2.2.2.2.1, y.2.2.2.2.2.1, y.2.2.2.2.2.2.1, y.2.2.2.2.2.2.2.1, y.2.2.2.2.2.2.2.2.1, y.2.2.2.2.2.2.2.2.2.1, y.2.2.2.2.2.2.2.2.2.2.1, y.2.2.2.2.2.2.2.2.2.2.2.1, y.2.2.2.2.2.2.2.2.2.2.2.2.1, y.2.2.2.2.2.2.2.2.2.2.2.2.2.1, y.2.2.2.2.2.2.2.2.2.2.2.2.2.2.1, y.2.2.2.2.2.2.2.2.2.2.2.2.2.2.2.1, y.2.2.2.2.2.2.2.2.2.2.2.2.2.2.2.2.1, y.2.2.2.2.2.2.2.2.2.2.2.2.2.2.2.2.2⟩, rfl⟩
theorem z5y : zgg C0 27 (Ty.sl Ty.zB) := znh zie (e := 83) (by kernel_rfl) (by kernel_rfl) z5t
theorem z4q : zgg C0 110 Ty.zP := zhs zie (ps := [(3, (Ty.int .i64)), (3, (Ty.int .i64)), (3, (Ty.int .i64)), (3, (Ty.int .i64))]) Proofs.Tryz.underlying110 (by kernel_rfl) (by kernel_rfl) rfl (all_cons zg9 (all_cons zg9 (all_cons zg9 (all_cons zg9 all_nil)))) fun y => ⟨⟨y.1, y.2.1, y.2.2.1, y.2.2.2⟩, rfl⟩
theorem z5x : zgg C0 28 (Ty.sl Ty.zP) := znh zie (e := 110) (by kernel_rfl) (by kernel_rfl) z4q
theorem z5w : zgg C0 30 Ty.zF := zhs zie (ps := [(26, Ty.Storage), (27, (Ty.sl Ty.zB)), (28, (Ty.sl Ty.zP))]) Proofs.Tryz.underlying30 (by kernel_rfl) (by kernel_rfl) rfl (all_cons z5z (all_cons z5y (all_cons z5x all_nil))) fun y => ⟨⟨y.1, y.2.1, y.2.2⟩, rfl⟩
theorem z5r : zgg C0 97 Ty.zA := zhs zie (ps := [(3, (Ty.int .i64)), (79, Ty.DataType), (3, (Ty.int .i64))]) Proofs.Tryz.underlying97 (by kernel_rfl) (by kernel_rfl) rfl (all_cons zg9 (all_cons zzc (all_cons zg9 all_nil))) fun y => ⟨⟨y.1, y.2.1, y.2.2⟩, rfl⟩
theorem z5s : zgg C0 88 (Ty.sl Ty.zA) := znh zie (e := 97) (by kernel_rfl) (by kernel_rfl) z5r
theorem z5v : zgg C0 33 (Ty.sl (Ty.sl Ty.zA)) := znh zie (e := 88) (by kernel_rfl) (by kernel_rfl) z5s
theorem z4u : ParOk C0 (23, Ty.zI) := ⟨z52, by kernel_rfl, ⟨_, Proofs.Tryz.underlying23, .inr (.inr (.inr (.inr ⟨_, rfl⟩)))⟩⟩
theorem z4t : ParOk C0 (30, Ty.zF) := ⟨z5w, by kernel_rfl, ⟨_, Proofs.Tryz.underlying30, .inr (.inr (.inr (.inr ⟨_, rfl⟩)))⟩⟩
theorem z4s : ParOk C0 (33, (Ty.sl (Ty.sl Ty.zA))) := ⟨z5v, by kernel_rfl, ⟨_, Proofs.Tryz.underlying33, .inr (.inr (.inr (.inl ⟨_, rfl⟩)))⟩⟩
theorem z2g {H : Type} (d : DataW H) : 1 ≤ Rows.uptoBulk d := by
 cases d with
 | lit l => cases l <;> simp [Rows.uptoBulk]
 | _ => simp [Rows.uptoBulk]
theorem zr0 {H : Type} : ∀ (l : List (DataW H)) d, d ∈ l → Rows.uptoBulk d ≤ Rows.uptoBulkAll l
 | [], d, h => by simp at h
 | e :: l, d, h => by
  simp only [Rows.uptoBulkAll]; rcases List.mem_cons.1 h with rfl | h
  · omega
  · have := zr0 l d h; omega
theorem zxa {H : Type} : ∀ (l : List (DataW H)), l.length ≤ Rows.uptoBulkAll l
 | [] => by simp
 | e :: l => by
  simp only [Rows.uptoBulkAll, List.length_cons]; have := zxa l; have := z2g e; omega
theorem z4a : Bulk (fun {H} => Rows.uptoBulk (H := H)) where
 str := fun l => by simp [Rows.uptoBulk]
 len := fun es sp => by have := zxa es; simp only [Rows.uptoBulk]; omega
 elem := fun es sp d h => by have := zr0 es d h; simp only [Rows.uptoBulk]; omega
 part := fun es d h => by have := zr0 es d h; simp only [Rows.uptoBulk]; omega
theorem ztb {t : Ty} {ts : List Ty} {es : List (Dyn U)} (h : es.map (·.ty) = t :: ts) : ∃ (x : den t) (es' : List (Dyn U)), es = ⟨t, x⟩ :: es' ∧ es'.map (·.ty) = ts := by
 cases es with
 | nil => simp at h
 | cons e es =>
  simp only [List.map_cons, List.cons.injEq] at h; obtain ⟨rfl, h2⟩ := h; exact ⟨e.val, es, rfl, h2⟩
end
end Go.Proofs.YtblgefddnnlniaaGreatDoor.M
