/- Arguments that read as data are typed. -/
import Derived.Test.YtppbpnknfigboaaGreatDoorA3
import Derived.Test.YtppbpnknfigboaaGreatDoorU
import Derived.Test.YtppbpnknfigboaaGreatDoorRows
namespace Go.Proofs.YtppbpnknfigboaaGreatDoor.M
open Go Go.Amx
set_option linter.unusedVariables false
set_option maxRecDepth 100000
noncomputable section
def C0 : Ctx U := zt5 [] [] [] [] [] [] [] []
theorem rd_9 : zke C0 9 Ty.str := zaef (by kernel_rfl) rfl fun n => ⟨n, rfl⟩
theorem zol : zke C0 3 (Ty.int .i64) := zaeg (k := .i64) (by kernel_rfl) rfl fun n => ⟨n, rfl⟩
theorem zafw : zke C0 91 Ty.DataType := zna zmt (ps := [(3, (Ty.int .i64)), (3, (Ty.int .i64)), (3, (Ty.int .i64))]) Proofs.Tryz.underlying91 (by kernel_rfl) (by kernel_rfl) rfl (all_cons zol (all_cons zol (all_cons zol ze0))) fun y => ⟨⟨y.1, y.2.1, y.2.2⟩, rfl⟩
theorem zaek : zke C0 117 Ty.Value := zna zmt (ps := [(3, (Ty.int .i64)), (9, Ty.str)]) Proofs.Tryz.underlying117 (by kernel_rfl) (by kernel_rfl) rfl (all_cons zol (all_cons rd_9 ze0)) fun y => ⟨⟨y.1, y.2⟩, rfl⟩
theorem zaej : zke C0 119 Ty.zF := zna zmt (ps := [(9, Ty.str), (3, (Ty.int .i64)), (91, Ty.DataType), (117, Ty.Value), (9, Ty.str), (3, (Ty.int .i64)), (3, (Ty.int .i64))]) Proofs.Tryz.underlying119 (by kernel_rfl) (by kernel_rfl) rfl (all_cons rd_9 (all_cons zol (all_cons zafw (all_cons zaek (all_cons rd_9 (all_cons zol (all_cons zol ze0))))))) fun y => ⟨⟨y.1, y.2.1, y.2.2.1, y.2.2.2.1, y.2.2.2.2.1, y.2.2.2.2.2.1, y.2.2.2.2.2.2⟩, rfl⟩
theorem zaf1 : zke C0 54 (Ty.sl Ty.zF) := zto zmt (e := 119) (by kernel_rfl) (by kernel_rfl) zaej
theorem zafx : zke C0 69 (Ty.sl (Ty.int .i64)) := zto zmt (e := 3) (by kernel_rfl) (by kernel_rfl) zol
theorem zaei : zke C0 121 Ty.zI := zna zmt (ps := [(3, (Ty.int .i64)), (69, (Ty.sl (Ty.int .i64)))]) Proofs.Tryz.underlying121 (by kernel_rfl) (by kernel_rfl) rfl (all_cons zol (all_cons zafx ze0)) fun y => ⟨⟨y.1, y.2⟩, rfl⟩
theorem zaf0 : zke C0 55 (Ty.sl Ty.zI) := zto zmt (e := 121) (by kernel_rfl) (by kernel_rfl) zaei
theorem zaeh : zke C0 186 Ty.zN := zna zmt (ps := [(3, (Ty.int .i64)), (3, (Ty.int .i64)), (3, (Ty.int .i64)), (3, (Ty.int .i64))]) Proofs.Tryz.underlying186 (by kernel_rfl) (by kernel_rfl) rfl (all_cons zol (all_cons zol (all_cons zol (all_cons zol ze0)))) fun y => ⟨⟨y.1, y.2.1, y.2.2.1, y.2.2.2⟩, rfl⟩
theorem zafz : zke C0 56 (Ty.sl Ty.zN) := zto zmt (e := 186) (by kernel_rfl) (by kernel_rfl) zaeh
theorem zafy : zke C0 58 Ty.zB := zna zmt (ps := [(54, (Ty.sl Ty.zF)), (55, (Ty.sl Ty.zI)), (56, (Ty.sl Ty.zN))]) Proofs.Tryz.underlying58 (by kernel_rfl) (by kernel_rfl) rfl (all_cons zaf1 (all_cons zaf0 (all_cons zafz ze0))) fun y => ⟨⟨y.1, y.2.1, y.2.2⟩, rfl⟩
theorem zaep : ParOk C0 (58, Ty.zB) := ⟨zafy, by kernel_rfl, ⟨_, Proofs.Tryz.underlying58, .inr (.inr (.inr (.inr ⟨_, rfl⟩)))⟩⟩
theorem zabq {H : Type} (d : DataW H) : 1 ≤ Rows.uptoBulk d := by
 cases d with
 | lit l => cases l <;> simp [Rows.uptoBulk]
 | _ => simp [Rows.uptoBulk]
theorem zw5 {H : Type} : ∀ (l : List (DataW H)) d, d ∈ l → Rows.uptoBulk d ≤ Rows.uptoBulkAll l
 | [], d, h => by simp at h
 | e :: l, d, h => by
  simp only [Rows.uptoBulkAll]; rcases List.mem_cons.1 h with rfl | h
  · omega
  · have := zw5 l d h; omega
theorem z4u {H : Type} : ∀ (l : List (DataW H)), l.length ≤ Rows.uptoBulkAll l
 | [] => by simp
 | e :: l => by
  simp only [Rows.uptoBulkAll, List.length_cons]; have := z4u l; have := zabq e; omega
theorem zadh : Bulk (fun {H} => Rows.uptoBulk (H := H)) where
 str := fun l => by simp [Rows.uptoBulk]
 len := fun es sp => by have := z4u es; simp only [Rows.uptoBulk]; omega
 elem := fun es sp d h => by have := zw5 es d h; simp only [Rows.uptoBulk]; omega
 part := fun es d h => by have := zw5 es d h; simp only [Rows.uptoBulk]; omega
theorem zabj {t : Ty} {ts : List Ty} {es : List (Dyn U)} (h : es.map (·.ty) = t :: ts) : ∃ (x : den t) (es' : List (Dyn U)), es = ⟨t, x⟩ :: es' ∧ es'.map (·.ty) = ts := by
 cases es with
 | nil => simp at h
 | cons e es =>
  simp only [List.map_cons, List.cons.injEq] at h; obtain ⟨rfl, h2⟩ := h; exact ⟨e.val, es, rfl, h2⟩
end
end Go.Proofs.YtppbpnknfigboaaGreatDoor.M
