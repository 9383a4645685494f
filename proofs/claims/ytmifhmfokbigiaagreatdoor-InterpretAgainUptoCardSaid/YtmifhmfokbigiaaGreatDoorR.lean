/- Arguments that read as data are typed. -/
import Derived.Test.YtmifhmfokbigiaaGreatDoorA4
import Derived.Test.YtmifhmfokbigiaaGreatDoorU
import Derived.Test.YtmifhmfokbigiaaGreatDoorRows
namespace Go.Proofs.YtmifhmfokbigiaaGreatDoor.M
open Go Go.Amx
set_option linter.unusedVariables false
set_option maxRecDepth 100000
noncomputable section
def C0 : Ctx U := zzw [] [] [] [] [] [] [] []
theorem rd_9 : zgk C0 9 Ty.str := z6z (by kernel_rfl) rfl fun n => ⟨n, rfl⟩
theorem zs6 : zgk C0 3 (Ty.int .i64) := z60 (k := .i64) (by kernel_rfl) rfl fun n => ⟨n, rfl⟩
theorem zahp : zgk C0 77 Ty.DataType := zil zqp (ps := [(3, (Ty.int .i64)), (3, (Ty.int .i64)), (3, (Ty.int .i64))]) Proofs.Tryz.underlying77 (by kernel_rfl) (by kernel_rfl) rfl (all_cons zs6 (all_cons zs6 (all_cons zs6 zdb))) fun y => ⟨⟨y.1, y.2.1, y.2.2⟩, rfl⟩
theorem zaho : zgk C0 79 Ty.Value := zil zqp (ps := [(3, (Ty.int .i64)), (9, Ty.str)]) Proofs.Tryz.underlying79 (by kernel_rfl) (by kernel_rfl) rfl (all_cons zs6 (all_cons rd_9 zdb)) fun y => ⟨⟨y.1, y.2⟩, rfl⟩
theorem zahn : zgk C0 81 Ty.zF := zil zqp (ps := [(9, Ty.str), (3, (Ty.int .i64)), (77, Ty.DataType), (79, Ty.Value), (9, Ty.str), (3, (Ty.int .i64)), (3, (Ty.int .i64))]) Proofs.Tryz.underlying81 (by kernel_rfl) (by kernel_rfl) rfl (all_cons rd_9 (all_cons zs6 (all_cons zahp (all_cons zaho (all_cons rd_9 (all_cons zs6 (all_cons zs6 zdb))))))) fun y => ⟨⟨y.1, y.2.1, y.2.2.1, y.2.2.2.1, y.2.2.2.2.1, y.2.2.2.2.2.1, y.2.2.2.2.2.2⟩, rfl⟩
theorem zahv : zgk C0 22 (Ty.sl Ty.zF) := zmb zqp (e := 81) (by kernel_rfl) (by kernel_rfl) zahn
theorem zahr : zgk C0 41 (Ty.sl (Ty.int .i64)) := zmb zqp (e := 3) (by kernel_rfl) (by kernel_rfl) zs6
theorem zahq : zgk C0 47 Ty.zI := zil zqp (ps := [(3, (Ty.int .i64)), (41, (Ty.sl (Ty.int .i64)))]) Proofs.Tryz.underlying47 (by kernel_rfl) (by kernel_rfl) rfl (all_cons zs6 (all_cons zahr zdb)) fun y => ⟨⟨y.1, y.2⟩, rfl⟩
theorem zahu : zgk C0 23 (Ty.sl Ty.zI) := zmb zqp (e := 47) (by kernel_rfl) (by kernel_rfl) zahq
theorem zahm : zgk C0 94 Ty.zN := zil zqp (ps := [(3, (Ty.int .i64)), (3, (Ty.int .i64)), (3, (Ty.int .i64)), (3, (Ty.int .i64))]) Proofs.Tryz.underlying94 (by kernel_rfl) (by kernel_rfl) rfl (all_cons zs6 (all_cons zs6 (all_cons zs6 (all_cons zs6 zdb)))) fun y => ⟨⟨y.1, y.2.1, y.2.2.1, y.2.2.2⟩, rfl⟩
theorem zaht : zgk C0 24 (Ty.sl Ty.zN) := zmb zqp (e := 94) (by kernel_rfl) (by kernel_rfl) zahm
theorem zahs : zgk C0 26 Ty.zB := zil zqp (ps := [(22, (Ty.sl Ty.zF)), (23, (Ty.sl Ty.zI)), (24, (Ty.sl Ty.zN))]) Proofs.Tryz.underlying26 (by kernel_rfl) (by kernel_rfl) rfl (all_cons zahv (all_cons zahu (all_cons zaht zdb))) fun y => ⟨⟨y.1, y.2.1, y.2.2⟩, rfl⟩
theorem zagp : ParOk C0 (26, Ty.zB) := ⟨zahs, by kernel_rfl, ⟨_, Proofs.Tryz.underlying26, .inr (.inr (.inr (.inr ⟨_, rfl⟩)))⟩⟩
theorem zaei {H : Type} (d : DataW H) : 1 ≤ Rows.uptoBulk d := by
 cases d with
 | lit l => cases l <;> simp [Rows.uptoBulk]
 | _ => simp [Rows.uptoBulk]
theorem z3q {H : Type} : ∀ (l : List (DataW H)) d, d ∈ l → Rows.uptoBulk d ≤ Rows.uptoBulkAll l
 | [], d, h => by simp at h
 | e :: l, d, h => by
  simp only [Rows.uptoBulkAll]; rcases List.mem_cons.1 h with rfl | h
  · omega
  · have := z3q l d h; omega
theorem z93 {H : Type} : ∀ (l : List (DataW H)), l.length ≤ Rows.uptoBulkAll l
 | [] => by simp
 | e :: l => by
  simp only [Rows.uptoBulkAll, List.length_cons]; have := z93 l; have := zaei e; omega
theorem zafr : Bulk (fun {H} => Rows.uptoBulk (H := H)) where
 str := fun l => by simp [Rows.uptoBulk]
 len := fun es sp => by have := z93 es; simp only [Rows.uptoBulk]; omega
 elem := fun es sp d h => by have := z3q es d h; simp only [Rows.uptoBulk]; omega
 part := fun es d h => by have := z3q es d h; simp only [Rows.uptoBulk]; omega
theorem zaed {t : Ty} {ts : List Ty} {es : List (Dyn U)} (h : es.map (·.ty) = t :: ts) : ∃ (x : den t) (es' : List (Dyn U)), es = ⟨t, x⟩ :: es' ∧ es'.map (·.ty) = ts := by
 cases es with
 | nil => simp at h
 | cons e es =>
  simp only [List.map_cons, List.cons.injEq] at h; obtain ⟨rfl, h2⟩ := h; exact ⟨e.val, es, rfl, h2⟩
end
end Go.Proofs.YtmifhmfokbigiaaGreatDoor.M
