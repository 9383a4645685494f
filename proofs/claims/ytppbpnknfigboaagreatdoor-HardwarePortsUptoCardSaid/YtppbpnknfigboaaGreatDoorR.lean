/- Arguments that read as data are typed. -/
import Derived.Test.YtppbpnknfigboaaGreatDoorU
import Derived.Test.YtppbpnknfigboaaGreatDoorA3
import Derived.Test.YtppbpnknfigboaaGreatDoorRows
namespace Go.Proofs.YtppbpnknfigboaaGreatDoor.M
open Go Go.Amx
set_option linter.unusedVariables false
set_option maxRecDepth 100000
noncomputable def C0 : Ctx U := mkCx [] [] [] [] [] [] [] []
theorem rd_3 : RdOk C0 3 (Ty.int .i64) := rd_int (k := .i64) (by kernel_rfl) rfl fun n => ⟨n, rfl⟩
theorem rd_4 : RdOk C0 4 Ty.bool := rd_bool (by kernel_rfl) rfl fun n => ⟨n, rfl⟩
theorem rd_23 : RdOk C0 23 Ty.HwModel := rd_struct elaws (ps := [(3, (Ty.int .i64)), (4, Ty.bool), (4, Ty.bool)]) Proofs.Tryz.underlying23 (by kernel_rfl) (by kernel_rfl) rfl (all_cons rd_3 (all_cons rd_4 (all_cons rd_4 all_nil))) fun y => ⟨⟨y.1, y.2.1, y.2.2⟩, rfl⟩
theorem rd_9 : RdOk C0 9 Ty.str := rd_str (by kernel_rfl) rfl fun n => ⟨n, rfl⟩
theorem rd_24 : RdOk C0 24 (Ty.sl Ty.bool) := rd_slice elaws (e := 4) (by kernel_rfl) (by kernel_rfl) rd_4
theorem rd_26 : RdOk C0 26 Ty.Storage := rd_struct elaws (ps := [(9, Ty.str), (24, (Ty.sl Ty.bool))]) Proofs.Tryz.underlying26 (by kernel_rfl) (by kernel_rfl) rfl (all_cons rd_9 (all_cons rd_24 all_nil)) fun y => ⟨⟨y.1, y.2⟩, rfl⟩
theorem rd_89 : RdOk C0 89 Ty.HwPlace := rd_struct elaws (ps := [(4, Ty.bool), (3, (Ty.int .i64)), (3, (Ty.int .i64))]) Proofs.Tryz.underlying89 (by kernel_rfl) (by kernel_rfl) rfl (all_cons rd_4 (all_cons rd_3 (all_cons rd_3 all_nil))) fun y => ⟨⟨y.1, y.2.1, y.2.2⟩, rfl⟩
theorem rd_91 : RdOk C0 91 Ty.DataType := rd_struct elaws (ps := [(3, (Ty.int .i64)), (3, (Ty.int .i64)), (3, (Ty.int .i64))]) Proofs.Tryz.underlying91 (by kernel_rfl) (by kernel_rfl) rfl (all_cons rd_3 (all_cons rd_3 (all_cons rd_3 all_nil))) fun y => ⟨⟨y.1, y.2.1, y.2.2⟩, rfl⟩
theorem rd_84 : RdOk C0 84 Ty.Number := rd_struct elaws (ps := [(3, (Ty.int .i64)), (3, (Ty.int .i64))]) Proofs.Tryz.underlying84 (by kernel_rfl) (by kernel_rfl) rfl (all_cons rd_3 (all_cons rd_3 all_nil)) fun y => ⟨⟨y.1, y.2⟩, rfl⟩
theorem rd_93 : RdOk C0 93 Ty.HwInstruction := rd_struct elaws (ps := [(3, (Ty.int .i64)), (3, (Ty.int .i64)), (3, (Ty.int .i64)), (3, (Ty.int .i64)), (3, (Ty.int .i64)), (89, Ty.HwPlace), (89, Ty.HwPlace), (91, Ty.DataType), (91, Ty.DataType), (4, Ty.bool), (4, Ty.bool), (84, Ty.Number), (9, Ty.str), (9, Ty.str), (3, (Ty.int .i64)), (3, (Ty.int .i64)), (3, (Ty.int .i64)), (3, (Ty.int .i64))]) Proofs.Tryz.underlying93 (by kernel_rfl) (by kernel_rfl) rfl (all_cons rd_3 (all_cons rd_3 (all_cons rd_3 (all_cons rd_3 (all_cons rd_3 (all_cons rd_89 (all_cons rd_89 (all_cons rd_91 (all_cons rd_91 (all_cons rd_4 (all_cons rd_4 (all_cons rd_84 (all_cons rd_9 (all_cons rd_9 (all_cons rd_3 (all_cons rd_3 (all_cons rd_3 (all_cons rd_3 all_nil)))))))))))))))))) fun y => ⟨⟨y.1, y.2.1, y.2.2.1, y.2.2.2.1, y.2.2.2.2.1, y.2.2.2.2.2.1, y.2.2.2.2.2.2.1, y.2.2.2.2.2.2.2.1, y.2.2.2.2.2.2.2.2.1, y.2.2.2.2.2.2.2.2.2.1, y.2.2.2.2.2.2.2.2.2.2.1, y.2.2.2.2.2.2.2.2.2.2.2.1, y.2.2.2.2.2.2.2.2.2.2.2.2.1, y.2.2.2.2.2.2.2.2.2.2.2.2.2.1, y.2.2.2.2.2.2.2.2.2.2.2.2.2.2.1, y.2.2.2.2.2.2.2.2.2.2.2.2.2.2.2.1, y.2.2.2.2.2.2.2.2.2.2.2.2.2.2.2.2.1, y.2.2.2.2.2.2.2.2.2.2.2.2.2.2.2.2.2⟩, rfl⟩
theorem rd_27 : RdOk C0 27 (Ty.sl Ty.HwInstruction) := rd_slice elaws (e := 93) (by kernel_rfl) (by kernel_rfl) rd_93
theorem rd_101 : RdOk C0 101 Ty.HwTrap := rd_struct elaws (ps := [(3, (Ty.int .i64)), (3, (Ty.int .i64)), (3, (Ty.int .i64)), (3, (Ty.int .i64))]) Proofs.Tryz.underlying101 (by kernel_rfl) (by kernel_rfl) rfl (all_cons rd_3 (all_cons rd_3 (all_cons rd_3 (all_cons rd_3 all_nil)))) fun y => ⟨⟨y.1, y.2.1, y.2.2.1, y.2.2.2⟩, rfl⟩
theorem rd_28 : RdOk C0 28 (Ty.sl Ty.HwTrap) := rd_slice elaws (e := 101) (by kernel_rfl) (by kernel_rfl) rd_101
theorem rd_30 : RdOk C0 30 Ty.HwCode := rd_struct elaws (ps := [(26, Ty.Storage), (27, (Ty.sl Ty.HwInstruction)), (28, (Ty.sl Ty.HwTrap))]) Proofs.Tryz.underlying30 (by kernel_rfl) (by kernel_rfl) rfl (all_cons rd_26 (all_cons rd_27 (all_cons rd_28 all_nil))) fun y => ⟨⟨y.1, y.2.1, y.2.2⟩, rfl⟩
theorem par_23 : ParOk C0 (23, Ty.HwModel) := ⟨rd_23, by kernel_rfl, ⟨_, Proofs.Tryz.underlying23, .inr (.inr (.inr (.inr ⟨_, rfl⟩)))⟩⟩
theorem par_30 : ParOk C0 (30, Ty.HwCode) := ⟨rd_30, by kernel_rfl, ⟨_, Proofs.Tryz.underlying30, .inr (.inr (.inr (.inr ⟨_, rfl⟩)))⟩⟩
theorem bulk_pos {H : Type} (d : DataW H) : 1 ≤ Rows.uptoBulk d := by
  cases d with
  | lit l => cases l <;> simp [Rows.uptoBulk]
  | _ => simp [Rows.uptoBulk]
theorem bulk_le {H : Type} : ∀ (l : List (DataW H)) d, d ∈ l → Rows.uptoBulk d ≤ Rows.uptoBulkAll l
  | [], d, h => by simp at h
  | e :: l, d, h => by
    simp only [Rows.uptoBulkAll]
    rcases List.mem_cons.1 h with rfl | h
    · omega
    · have := bulk_le l d h; omega
theorem bulk_len {H : Type} : ∀ (l : List (DataW H)), l.length ≤ Rows.uptoBulkAll l
  | [] => by simp
  | e :: l => by
    simp only [Rows.uptoBulkAll, List.length_cons]
    have := bulk_len l
    have := bulk_pos e
    omega
theorem bulk_ok : Bulk (fun {H} => Rows.uptoBulk (H := H)) where
  str := fun l => by simp [Rows.uptoBulk]
  len := fun es sp => by have := bulk_len es; simp only [Rows.uptoBulk]; omega
  elem := fun es sp d h => by have := bulk_le es d h; simp only [Rows.uptoBulk]; omega
  part := fun es d h => by have := bulk_le es d h; simp only [Rows.uptoBulk]; omega
theorem dyn_cons {t : Ty} {ts : List Ty} {es : List (Dyn U)} (h : es.map (·.ty) = t :: ts) : ∃ (x : den t) (es' : List (Dyn U)), es = ⟨t, x⟩ :: es' ∧ es'.map (·.ty) = ts := by
  cases es with
  | nil => simp at h
  | cons e es =>
    simp only [List.map_cons, List.cons.injEq] at h
    obtain ⟨rfl, h2⟩ := h
    exact ⟨e.val, es, rfl, h2⟩
end Go.Proofs.YtppbpnknfigboaaGreatDoor.M
