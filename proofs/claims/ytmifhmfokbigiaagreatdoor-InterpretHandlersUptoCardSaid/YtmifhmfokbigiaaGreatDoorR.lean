/- Arguments that read as data are typed. -/
import Derived.Test.YtmifhmfokbigiaaGreatDoorA3
import Derived.Test.YtmifhmfokbigiaaGreatDoorU
import Derived.Test.YtmifhmfokbigiaaGreatDoorRows
namespace Go.Proofs.YtmifhmfokbigiaaGreatDoor.M
open Go Go.Amx
set_option linter.unusedVariables false
set_option maxRecDepth 100000
noncomputable section
def C0 : Ctx U := zpe [] [] [] [] [] [] [] []
theorem zj8 : zg6 C0 3 (Ty.int .i64) := z34 (k := .i64) (by kernel_rfl) rfl fun n => ⟨n, rfl⟩
theorem z1i : zg6 C0 9 Ty.str := z33 (by kernel_rfl) rfl fun n => ⟨n, rfl⟩
theorem z45 : zg6 C0 77 Ty.DataType := zjt zje (ps := [(3, (Ty.int .i64)), (3, (Ty.int .i64)), (3, (Ty.int .i64))]) Proofs.Tryz.underlying77 (by kernel_rfl) (by kernel_rfl) rfl (all_cons zj8 (all_cons zj8 (all_cons zj8 zc3))) fun y => ⟨⟨y.1, y.2.1, y.2.2⟩, rfl⟩
theorem z44 : zg6 C0 79 Ty.Value := zjt zje (ps := [(3, (Ty.int .i64)), (9, Ty.str)]) Proofs.Tryz.underlying79 (by kernel_rfl) (by kernel_rfl) rfl (all_cons zj8 (all_cons z1i zc3)) fun y => ⟨⟨y.1, y.2⟩, rfl⟩
theorem z43 : zg6 C0 81 Ty.zF := zjt zje (ps := [(9, Ty.str), (3, (Ty.int .i64)), (77, Ty.DataType), (79, Ty.Value), (9, Ty.str), (3, (Ty.int .i64)), (3, (Ty.int .i64))]) Proofs.Tryz.underlying81 (by kernel_rfl) (by kernel_rfl) rfl (all_cons z1i (all_cons zj8 (all_cons z45 (all_cons z44 (all_cons z1i (all_cons zj8 (all_cons zj8 zc3))))))) fun y => ⟨⟨y.1, y.2.1, y.2.2.1, y.2.2.2.1, y.2.2.2.2.1, y.2.2.2.2.2.1, y.2.2.2.2.2.2⟩, rfl⟩
theorem z5b : zg6 C0 22 (Ty.sl Ty.zF) := zoy zje (e := 81) (by kernel_rfl) (by kernel_rfl) z43
theorem z47 : zg6 C0 41 (Ty.sl (Ty.int .i64)) := zoy zje (e := 3) (by kernel_rfl) (by kernel_rfl) zj8
theorem z46 : zg6 C0 47 Ty.zK := zjt zje (ps := [(3, (Ty.int .i64)), (41, (Ty.sl (Ty.int .i64)))]) Proofs.Tryz.underlying47 (by kernel_rfl) (by kernel_rfl) rfl (all_cons zj8 (all_cons z47 zc3)) fun y => ⟨⟨y.1, y.2⟩, rfl⟩
theorem z5a : zg6 C0 23 (Ty.sl Ty.zK) := zoy zje (e := 47) (by kernel_rfl) (by kernel_rfl) z46
theorem z42 : zg6 C0 94 Ty.zM := zjt zje (ps := [(3, (Ty.int .i64)), (3, (Ty.int .i64)), (3, (Ty.int .i64)), (3, (Ty.int .i64))]) Proofs.Tryz.underlying94 (by kernel_rfl) (by kernel_rfl) rfl (all_cons zj8 (all_cons zj8 (all_cons zj8 (all_cons zj8 zc3)))) fun y => ⟨⟨y.1, y.2.1, y.2.2.1, y.2.2.2⟩, rfl⟩
theorem z49 : zg6 C0 24 (Ty.sl Ty.zM) := zoy zje (e := 94) (by kernel_rfl) (by kernel_rfl) z42
theorem z48 : zg6 C0 26 Ty.zB := zjt zje (ps := [(22, (Ty.sl Ty.zF)), (23, (Ty.sl Ty.zK)), (24, (Ty.sl Ty.zM))]) Proofs.Tryz.underlying26 (by kernel_rfl) (by kernel_rfl) rfl (all_cons z5b (all_cons z5a (all_cons z49 zc3))) fun y => ⟨⟨y.1, y.2.1, y.2.2⟩, rfl⟩
theorem z2e : ParOk C0 (3, (Ty.int .i64)) := ⟨zj8, by kernel_rfl, ⟨_, Proofs.Tryz.underlying3, .inr (.inr (.inl ⟨_, rfl⟩))⟩⟩
theorem z39 : ParOk C0 (26, Ty.zB) := ⟨z48, by kernel_rfl, ⟨_, Proofs.Tryz.underlying26, .inr (.inr (.inr (.inr ⟨_, rfl⟩)))⟩⟩
theorem z17 {H : Type} (d : DataW H) : 1 ≤ Rows.uptoBulk d := by
 cases d with
 | lit l => cases l <;> simp [Rows.uptoBulk]
 | _ => simp [Rows.uptoBulk]
theorem zrj {H : Type} : ∀ (l : List (DataW H)) d, d ∈ l → Rows.uptoBulk d ≤ Rows.uptoBulkAll l
 | [], d, h => by simp at h
 | e :: l, d, h => by
  simp only [Rows.uptoBulkAll]; rcases List.mem_cons.1 h with rfl | h
  · omega
  · have := zrj l d h; omega
theorem zw0 {H : Type} : ∀ (l : List (DataW H)), l.length ≤ Rows.uptoBulkAll l
 | [] => by simp
 | e :: l => by
  simp only [Rows.uptoBulkAll, List.length_cons]; have := zw0 l; have := z17 e; omega
theorem z3o : Bulk (fun {H} => Rows.uptoBulk (H := H)) where
 str := fun l => by simp [Rows.uptoBulk]
 len := fun es sp => by have := zw0 es; simp only [Rows.uptoBulk]; omega
 elem := fun es sp d h => by have := zrj es d h; simp only [Rows.uptoBulk]; omega
 part := fun es d h => by have := zrj es d h; simp only [Rows.uptoBulk]; omega
theorem zsr {t : Ty} {ts : List Ty} {es : List (Dyn U)} (h : es.map (·.ty) = t :: ts) : ∃ (x : den t) (es' : List (Dyn U)), es = ⟨t, x⟩ :: es' ∧ es'.map (·.ty) = ts := by
 cases es with
 | nil => simp at h
 | cons e es =>
  simp only [List.map_cons, List.cons.injEq] at h; obtain ⟨rfl, h2⟩ := h; exact ⟨e.val, es, rfl, h2⟩
end
end Go.Proofs.YtmifhmfokbigiaaGreatDoor.M
