/- Arguments that read as data are typed. -/
import Derived.Test.YtppbpnknfigboaaGreatDoorA3
import Derived.Test.YtppbpnknfigboaaGreatDoorU
import Derived.Test.YtppbpnknfigboaaGreatDoorRows
namespace Go.Proofs.YtppbpnknfigboaaGreatDoor.M
open Go Go.Amx
set_option linter.unusedVariables false
set_option maxRecDepth 100000
noncomputable section
def C0 : Ctx U := zsj [] [] [] [] [] [] [] []
theorem zjt : zi9 C0 3 (Ty.int .i64) := zad0 (k := .i64) (by kernel_rfl) rfl fun n => ⟨n, rfl⟩
theorem zz4 : zi9 C0 4 Ty.bool := zab4 (by kernel_rfl) rfl fun n => ⟨n, rfl⟩
theorem zagd : zi9 C0 23 Ty.zI := zki zl6 (ps := [(3, (Ty.int .i64)), (4, Ty.bool), (4, Ty.bool)]) Proofs.Tryz.underlying23 (by kernel_rfl) (by kernel_rfl) rfl (all_cons zjt (all_cons zz4 (all_cons zz4 zdg))) fun y => ⟨⟨y.1, y.2.1, y.2.2⟩, rfl⟩
theorem z93 : zi9 C0 9 Ty.str := zadz (by kernel_rfl) rfl fun n => ⟨n, rfl⟩
theorem zagc : zi9 C0 24 (Ty.sl Ty.bool) := zx1 zl6 (e := 4) (by kernel_rfl) (by kernel_rfl) zz4
theorem zagb : zi9 C0 26 Ty.Storage := zki zl6 (ps := [(9, Ty.str), (24, (Ty.sl Ty.bool))]) Proofs.Tryz.underlying26 (by kernel_rfl) (by kernel_rfl) rfl (all_cons z93 (all_cons zagc zdg)) fun y => ⟨⟨y.1, y.2⟩, rfl⟩
theorem zaa4 : zi9 C0 89 Ty.zO := zki zl6 (ps := [(4, Ty.bool), (3, (Ty.int .i64)), (3, (Ty.int .i64))]) Proofs.Tryz.underlying89 (by kernel_rfl) (by kernel_rfl) rfl (all_cons zz4 (all_cons zjt (all_cons zjt zdg))) fun y => ⟨⟨y.1, y.2.1, y.2.2⟩, rfl⟩
theorem zaa3 : zi9 C0 91 Ty.DataType := zki zl6 (ps := [(3, (Ty.int .i64)), (3, (Ty.int .i64)), (3, (Ty.int .i64))]) Proofs.Tryz.underlying91 (by kernel_rfl) (by kernel_rfl) rfl (all_cons zjt (all_cons zjt (all_cons zjt zdg))) fun y => ⟨⟨y.1, y.2.1, y.2.2⟩, rfl⟩
theorem zaf7 : zi9 C0 84 Ty.Number := zki zl6 (ps := [(3, (Ty.int .i64)), (3, (Ty.int .i64))]) Proofs.Tryz.underlying84 (by kernel_rfl) (by kernel_rfl) rfl (all_cons zjt (all_cons zjt zdg)) fun y => ⟨⟨y.1, y.2⟩, rfl⟩
theorem zaf6 : zi9 C0 93 Ty.zB := zki zl6 (ps := [(3, (Ty.int .i64)), (3, (Ty.int .i64)), (3, (Ty.int .i64)), (3, (Ty.int .i64)), (3, (Ty.int .i64)), (89, Ty.zO), (89, Ty.zO), (91, Ty.DataType), (91, Ty.DataType), (4, Ty.bool), (4, Ty.bool), (84, Ty.Number), (9, Ty.str), (9, Ty.str), (3, (Ty.int .i64)), (3, (Ty.int .i64)), (3, (Ty.int .i64)), (3, (Ty.int .i64))]) Proofs.Tryz.underlying93 (by kernel_rfl) (by kernel_rfl) rfl (all_cons zjt (all_cons zjt (all_cons zjt (all_cons zjt (all_cons zjt (all_cons zaa4 (all_cons zaa4 (all_cons zaa3 (all_cons zaa3 (all_cons zz4 (all_cons zz4 (all_cons zaf7 (all_cons z93 (all_cons z93 (all_cons zjt (all_cons zjt (all_cons zjt (all_cons zjt zdg)))))))))))))))))) fun y => ⟨⟨y.1, y.2.1, y.2.2.1, y.2.2.2.1, y.2.2.2.2.1, y.2.2.2.2.2.1, y.2.2.2.2.2.2.1, y.2.2.2.2.2.2.2.1, y.2.2.2.2.2.2.2.2.1, y.2.2.2.2.2.2.2.2.2.1, y.2.2.2.2.2.2.2.2.2.2.1, y.2.2.2.2.2.2.2.2.2.2.2.1, y.2.2.2.2.2.2.2.2.2.2.2.2.1, y.2.2.2.2.2.2.2.2.2.2.2.2.2.1, y.2.2.2.2.2.2.2.2.2.2.2.2.2.2.1, y.2.2.2.2.2.2.2.2.2.2.2.2.2.2.2.1, y.2.2.2.2.2.2.2.2.2.2.2.2.2.2.2.2.1, y.2.2.2.2.2.2.2.2.2.2.2.2.2.2.2.2.2⟩, rfl⟩
theorem zaga : zi9 C0 27 (Ty.sl Ty.zB) := zx1 zl6 (e := 93) (by kernel_rfl) (by kernel_rfl) zaf6
theorem zad1 : zi9 C0 101 Ty.zT := zki zl6 (ps := [(3, (Ty.int .i64)), (3, (Ty.int .i64)), (3, (Ty.int .i64)), (3, (Ty.int .i64))]) Proofs.Tryz.underlying101 (by kernel_rfl) (by kernel_rfl) rfl (all_cons zjt (all_cons zjt (all_cons zjt (all_cons zjt zdg)))) fun y => ⟨⟨y.1, y.2.1, y.2.2.1, y.2.2.2⟩, rfl⟩
theorem zaf9 : zi9 C0 28 (Ty.sl Ty.zT) := zx1 zl6 (e := 101) (by kernel_rfl) (by kernel_rfl) zad1
theorem zaf8 : zi9 C0 30 Ty.zF := zki zl6 (ps := [(26, Ty.Storage), (27, (Ty.sl Ty.zB)), (28, (Ty.sl Ty.zT))]) Proofs.Tryz.underlying30 (by kernel_rfl) (by kernel_rfl) rfl (all_cons zagb (all_cons zaga (all_cons zaf9 zdg))) fun y => ⟨⟨y.1, y.2.1, y.2.2⟩, rfl⟩
theorem zad5 : ParOk C0 (23, Ty.zI) := ⟨zagd, by kernel_rfl, ⟨_, Proofs.Tryz.underlying23, .inr (.inr (.inr (.inr ⟨_, rfl⟩)))⟩⟩
theorem zad4 : ParOk C0 (30, Ty.zF) := ⟨zaf8, by kernel_rfl, ⟨_, Proofs.Tryz.underlying30, .inr (.inr (.inr (.inr ⟨_, rfl⟩)))⟩⟩
theorem zaaq {H : Type} (d : DataW H) : 1 ≤ Rows.uptoBulk d := by
 cases d with
 | lit l => cases l <;> simp [Rows.uptoBulk]
 | _ => simp [Rows.uptoBulk]
theorem zwq {H : Type} : ∀ (l : List (DataW H)) d, d ∈ l → Rows.uptoBulk d ≤ Rows.uptoBulkAll l
 | [], d, h => by simp at h
 | e :: l, d, h => by
  simp only [Rows.uptoBulkAll]; rcases List.mem_cons.1 h with rfl | h
  · omega
  · have := zwq l d h; omega
theorem z4a {H : Type} : ∀ (l : List (DataW H)), l.length ≤ Rows.uptoBulkAll l
 | [] => by simp
 | e :: l => by
  simp only [Rows.uptoBulkAll, List.length_cons]; have := z4a l; have := zaaq e; omega
theorem zacw : Bulk (fun {H} => Rows.uptoBulk (H := H)) where
 str := fun l => by simp [Rows.uptoBulk]
 len := fun es sp => by have := z4a es; simp only [Rows.uptoBulk]; omega
 elem := fun es sp d h => by have := zwq es d h; simp only [Rows.uptoBulk]; omega
 part := fun es d h => by have := zwq es d h; simp only [Rows.uptoBulk]; omega
theorem z34 {t : Ty} {ts : List Ty} {es : List (Dyn U)} (h : es.map (·.ty) = t :: ts) : ∃ (x : den t) (es' : List (Dyn U)), es = ⟨t, x⟩ :: es' ∧ es'.map (·.ty) = ts := by
 cases es with
 | nil => simp at h
 | cons e es =>
  simp only [List.map_cons, List.cons.injEq] at h; obtain ⟨rfl, h2⟩ := h; exact ⟨e.val, es, rfl, h2⟩
end
end Go.Proofs.YtppbpnknfigboaaGreatDoor.M
