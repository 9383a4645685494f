/- Arguments that read as data are typed. -/
import Derived.Test.YtnpfkhdbmlhfhaaGreatDoorA4
import Derived.Test.YtnpfkhdbmlhfhaaGreatDoorU
import Derived.Test.YtnpfkhdbmlhfhaaGreatDoorRows
namespace Go.Proofs.YtnpfkhdbmlhfhaaGreatDoor.M
open Go Go.Amx
set_option linter.unusedVariables false
set_option maxRecDepth 100000
noncomputable section
def C0 : Ctx U := zpd [] [] [] [] [] [] [] []
theorem zh3 : zhh C0 3 (Ty.int .i64) := z7y (k := .i64) (by kernel_rfl) rfl fun n => ⟨n, rfl⟩
theorem zvv : zhh C0 4 Ty.bool := z6m (by kernel_rfl) rfl fun n => ⟨n, rfl⟩
theorem z9a : zhh C0 23 Ty.zI := zio zke (ps := [(3, (Ty.int .i64)), (4, Ty.bool), (4, Ty.bool)]) Proofs.Tryz.underlying23 (by kernel_rfl) (by kernel_rfl) rfl (all_cons zh3 (all_cons zvv (all_cons zvv all_nil))) fun y => ⟨⟨y.1, y.2.1, y.2.2⟩, rfl⟩
theorem z4o : zhh C0 9 Ty.str := z7x (by kernel_rfl) rfl fun n => ⟨n, rfl⟩
theorem z89 : zhh C0 24 (Ty.sl Ty.bool) := ztt zke (e := 4) (by kernel_rfl) (by kernel_rfl) zvv
theorem z88 : zhh C0 26 Ty.Storage := zio zke (ps := [(9, Ty.str), (24, (Ty.sl Ty.bool))]) Proofs.Tryz.underlying26 (by kernel_rfl) (by kernel_rfl) rfl (all_cons z4o (all_cons z89 all_nil)) fun y => ⟨⟨y.1, y.2⟩, rfl⟩
theorem z5e : zhh C0 49 Ty.zL := zio zke (ps := [(4, Ty.bool), (3, (Ty.int .i64)), (3, (Ty.int .i64))]) Proofs.Tryz.underlying49 (by kernel_rfl) (by kernel_rfl) rfl (all_cons zvv (all_cons zh3 (all_cons zh3 all_nil))) fun y => ⟨⟨y.1, y.2.1, y.2.2⟩, rfl⟩
theorem z5d : zhh C0 51 Ty.DataType := zio zke (ps := [(3, (Ty.int .i64)), (3, (Ty.int .i64)), (3, (Ty.int .i64))]) Proofs.Tryz.underlying51 (by kernel_rfl) (by kernel_rfl) rfl (all_cons zh3 (all_cons zh3 (all_cons zh3 all_nil))) fun y => ⟨⟨y.1, y.2.1, y.2.2⟩, rfl⟩
theorem z84 : zhh C0 53 Ty.Number := zio zke (ps := [(3, (Ty.int .i64)), (3, (Ty.int .i64))]) Proofs.Tryz.underlying53 (by kernel_rfl) (by kernel_rfl) rfl (all_cons zh3 (all_cons zh3 all_nil)) fun y => ⟨⟨y.1, y.2⟩, rfl⟩
theorem z83 : zhh C0 55 Ty.zC := zio zke (ps := [(3, (Ty.int .i64)), (3, (Ty.int .i64)), (3, (Ty.int .i64)), (3, (Ty.int .i64)), (3, (Ty.int .i64)), (49, Ty.zL), (49, Ty.zL), (51, Ty.DataType), (51, Ty.DataType), (4, Ty.bool), (4, Ty.bool), (53, Ty.Number), (9, Ty.str), (9, Ty.str), (3, (Ty.int .i64)), (3, (Ty.int .i64)), (3, (Ty.int .i64)), (3, (Ty.int .i64))]) Proofs.Tryz.underlying55 (by kernel_rfl) (by kernel_rfl) rfl (all_cons zh3 (all_cons zh3 (all_cons zh3 (all_cons zh3 (all_cons zh3 (all_cons z5e (all_cons z5e (all_cons z5d (all_cons z5d (all_cons zvv (all_cons zvv (all_cons z84 (all_cons z4o (all_cons z4o (all_cons zh3 (all_cons zh3 (all_cons zh3 (all_cons zh3 all_nil)))))))))))))))))) fun y => ⟨⟨y.1, y.2.1, y.2.2.1, y.2.2.2.1, y.2.2.2.2.1, y.2.2.2.2.2.1, y.2.2.2.2.2.2.1, y.2.2.2.2.2.2.2.1, y.2.2.2.2.2.2.2.2.1, y.2.2.2.2.2.2.2.2.2.1, y.2.2.2.2.2.2.2.2.2.2.1, y.2.2.2.2.2.2.2.2.2.2.2.1, y.2.2.2.2.2.2.2.2.2.2.2.2.1, y.2.2.2.2.2.2.2.2.2.2.2.2.2.1, y.2.2.2.2.2.2.2.2.2.2.2.2.2.2.1, y.2.2.2.2.2.2.2.2.2.2.2.2.2.2.2.1, y.2.2.2.2.2.2.2.2.2.2.2.2.2.2.2.2.1, y.2.2.2.2.2.2.2.2.2.2.2.2.2.2.2.2.2⟩, rfl⟩
theorem z87 : zhh C0 27 (Ty.sl Ty.zC) := ztt zke (e := 55) (by kernel_rfl) (by kernel_rfl) z83
theorem z7z : zhh C0 123 Ty.zQ := zio zke (ps := [(3, (Ty.int .i64)), (3, (Ty.int .i64)), (3, (Ty.int .i64)), (3, (Ty.int .i64))]) Proofs.Tryz.underlying123 (by kernel_rfl) (by kernel_rfl) rfl (all_cons zh3 (all_cons zh3 (all_cons zh3 (all_cons zh3 all_nil)))) fun y => ⟨⟨y.1, y.2.1, y.2.2.1, y.2.2.2⟩, rfl⟩
theorem z86 : zhh C0 28 (Ty.sl Ty.zQ) := ztt zke (e := 123) (by kernel_rfl) (by kernel_rfl) z7z
theorem z85 : zhh C0 30 Ty.zF := zio zke (ps := [(26, Ty.Storage), (27, (Ty.sl Ty.zC)), (28, (Ty.sl Ty.zQ))]) Proofs.Tryz.underlying30 (by kernel_rfl) (by kernel_rfl) rfl (all_cons z88 (all_cons z87 (all_cons z86 all_nil))) fun y => ⟨⟨y.1, y.2.1, y.2.2⟩, rfl⟩
theorem z73 : ParOk C0 (23, Ty.zI) := ⟨z9a, by kernel_rfl, ⟨_, Proofs.Tryz.underlying23, .inr (.inr (.inr (.inr ⟨_, rfl⟩)))⟩⟩
theorem z72 : ParOk C0 (30, Ty.zF) := ⟨z85, by kernel_rfl, ⟨_, Proofs.Tryz.underlying30, .inr (.inr (.inr (.inr ⟨_, rfl⟩)))⟩⟩
theorem z47 {H : Type} (d : DataW H) : 1 ≤ Rows.uptoBulk d := by
 cases d with
 | lit l => cases l <;> simp [Rows.uptoBulk]
 | _ => simp [Rows.uptoBulk]
theorem zsu {H : Type} : ∀ (l : List (DataW H)) d, d ∈ l → Rows.uptoBulk d ≤ Rows.uptoBulkAll l
 | [], d, h => by simp at h
 | e :: l, d, h => by
  simp only [Rows.uptoBulkAll]; rcases List.mem_cons.1 h with rfl | h
  · omega
  · have := zsu l d h; omega
theorem zy1 {H : Type} : ∀ (l : List (DataW H)), l.length ≤ Rows.uptoBulkAll l
 | [] => by simp
 | e :: l => by
  simp only [Rows.uptoBulkAll, List.length_cons]; have := zy1 l; have := z47 e; omega
theorem z7f : Bulk (fun {H} => Rows.uptoBulk (H := H)) where
 str := fun l => by simp [Rows.uptoBulk]
 len := fun es sp => by have := zy1 es; simp only [Rows.uptoBulk]; omega
 elem := fun es sp d h => by have := zsu es d h; simp only [Rows.uptoBulk]; omega
 part := fun es d h => by have := zsu es d h; simp only [Rows.uptoBulk]; omega
theorem zyy {t : Ty} {ts : List Ty} {es : List (Dyn U)} (h : es.map (·.ty) = t :: ts) : ∃ (x : den t) (es' : List (Dyn U)), es = ⟨t, x⟩ :: es' ∧ es'.map (·.ty) = ts := by
 cases es with
 | nil => simp at h
 | cons e es =>
  simp only [List.map_cons, List.cons.injEq] at h; obtain ⟨rfl, h2⟩ := h; exact ⟨e.val, es, rfl, h2⟩
end
end Go.Proofs.YtnpfkhdbmlhfhaaGreatDoor.M
