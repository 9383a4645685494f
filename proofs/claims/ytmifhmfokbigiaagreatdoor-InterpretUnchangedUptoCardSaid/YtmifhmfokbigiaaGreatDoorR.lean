/- Arguments that read as data are typed. -/
import Derived.Test.YtmifhmfokbigiaaGreatDoorA4
import Derived.Test.YtmifhmfokbigiaaGreatDoorU
import Derived.Test.YtmifhmfokbigiaaGreatDoorRows
namespace Go.Proofs.YtmifhmfokbigiaaGreatDoor.M
open Go Go.Amx
set_option linter.unusedVariables false
set_option maxRecDepth 100000
noncomputable section
def C0 : Ctx U := zzn [] [] [] [] [] [] [] []
theorem z8m : zgk C0 9 Ty.str := z6z (by kernel_rfl) rfl fun n => ⟨n, rfl⟩
theorem zo2 : zgk C0 3 (Ty.int .i64) := z60 (k := .i64) (by kernel_rfl) rfl fun n => ⟨n, rfl⟩
theorem zag3 : zgk C0 77 Ty.DataType := zil zm2 (ps := [(3, (Ty.int .i64)), (3, (Ty.int .i64)), (3, (Ty.int .i64))]) Proofs.Tryz.underlying77 (by kernel_rfl) (by kernel_rfl) rfl (all_cons zo2 (all_cons zo2 (all_cons zo2 zdb))) fun y => ⟨⟨y.1, y.2.1, y.2.2⟩, rfl⟩
theorem zag2 : zgk C0 79 Ty.Value := zil zm2 (ps := [(3, (Ty.int .i64)), (9, Ty.str)]) Proofs.Tryz.underlying79 (by kernel_rfl) (by kernel_rfl) rfl (all_cons zo2 (all_cons z8m zdb)) fun y => ⟨⟨y.1, y.2⟩, rfl⟩
theorem zag1 : zgk C0 81 Ty.zG := zil zm2 (ps := [(9, Ty.str), (3, (Ty.int .i64)), (77, Ty.DataType), (79, Ty.Value), (9, Ty.str), (3, (Ty.int .i64)), (3, (Ty.int .i64))]) Proofs.Tryz.underlying81 (by kernel_rfl) (by kernel_rfl) rfl (all_cons z8m (all_cons zo2 (all_cons zag3 (all_cons zag2 (all_cons z8m (all_cons zo2 (all_cons zo2 zdb))))))) fun y => ⟨⟨y.1, y.2.1, y.2.2.1, y.2.2.2.1, y.2.2.2.2.1, y.2.2.2.2.2.1, y.2.2.2.2.2.2⟩, rfl⟩
theorem zahc : zgk C0 22 (Ty.sl Ty.zG) := zmb zm2 (e := 81) (by kernel_rfl) (by kernel_rfl) zag1
theorem zaeb : zgk C0 41 (Ty.sl (Ty.int .i64)) := zmb zm2 (e := 3) (by kernel_rfl) (by kernel_rfl) zo2
theorem zag4 : zgk C0 47 Ty.zI := zil zm2 (ps := [(3, (Ty.int .i64)), (41, (Ty.sl (Ty.int .i64)))]) Proofs.Tryz.underlying47 (by kernel_rfl) (by kernel_rfl) rfl (all_cons zo2 (all_cons zaeb zdb)) fun y => ⟨⟨y.1, y.2⟩, rfl⟩
theorem zahb : zgk C0 23 (Ty.sl Ty.zI) := zmb zm2 (e := 47) (by kernel_rfl) (by kernel_rfl) zag4
theorem zag0 : zgk C0 94 Ty.zN := zil zm2 (ps := [(3, (Ty.int .i64)), (3, (Ty.int .i64)), (3, (Ty.int .i64)), (3, (Ty.int .i64))]) Proofs.Tryz.underlying94 (by kernel_rfl) (by kernel_rfl) rfl (all_cons zo2 (all_cons zo2 (all_cons zo2 (all_cons zo2 zdb)))) fun y => ⟨⟨y.1, y.2.1, y.2.2.1, y.2.2.2⟩, rfl⟩
theorem zaha : zgk C0 24 (Ty.sl Ty.zN) := zmb zm2 (e := 94) (by kernel_rfl) (by kernel_rfl) zag0
theorem zag9 : zgk C0 26 Ty.zB := zil zm2 (ps := [(22, (Ty.sl Ty.zG)), (23, (Ty.sl Ty.zI)), (24, (Ty.sl Ty.zN))]) Proofs.Tryz.underlying26 (by kernel_rfl) (by kernel_rfl) rfl (all_cons zahc (all_cons zahb (all_cons zaha zdb))) fun y => ⟨⟨y.1, y.2.1, y.2.2⟩, rfl⟩
theorem rd_4 : zgk C0 4 Ty.bool := z5y (by kernel_rfl) rfl fun n => ⟨n, rfl⟩
theorem zag8 : zgk C0 38 (Ty.sl Ty.bool) := zmb zm2 (e := 4) (by kernel_rfl) (by kernel_rfl) rd_4
theorem zag7 : zgk C0 40 Ty.Storage := zil zm2 (ps := [(9, Ty.str), (38, (Ty.sl Ty.bool))]) Proofs.Tryz.underlying40 (by kernel_rfl) (by kernel_rfl) rfl (all_cons z8m (all_cons zag8 zdb)) fun y => ⟨⟨y.1, y.2⟩, rfl⟩
theorem zag6 : zgk C0 42 (Ty.sl Ty.str) := zmb zm2 (e := 9) (by kernel_rfl) (by kernel_rfl) z8m
theorem zag5 : zgk C0 44 Ty.zC := zil zm2 (ps := [(40, Ty.Storage), (3, (Ty.int .i64)), (41, (Ty.sl (Ty.int .i64))), (42, (Ty.sl Ty.str)), (3, (Ty.int .i64)), (3, (Ty.int .i64)), (3, (Ty.int .i64))]) Proofs.Tryz.underlying44 (by kernel_rfl) (by kernel_rfl) rfl (all_cons zag7 (all_cons zo2 (all_cons zaeb (all_cons zag6 (all_cons zo2 (all_cons zo2 (all_cons zo2 zdb))))))) fun y => ⟨⟨y.1, y.2.1, y.2.2.1, y.2.2.2.1, y.2.2.2.2.1, y.2.2.2.2.2.1, y.2.2.2.2.2.2⟩, rfl⟩
theorem zaf5 : ParOk C0 (26, Ty.zB) := ⟨zag9, by kernel_rfl, ⟨_, Proofs.Tryz.underlying26, .inr (.inr (.inr (.inr ⟨_, rfl⟩)))⟩⟩
theorem zaf4 : ParOk C0 (44, Ty.zC) := ⟨zag5, by kernel_rfl, ⟨_, Proofs.Tryz.underlying44, .inr (.inr (.inr (.inr ⟨_, rfl⟩)))⟩⟩
theorem zad6 {H : Type} (d : DataW H) : 1 ≤ Rows.uptoBulk d := by
 cases d with
 | lit l => cases l <;> simp [Rows.uptoBulk]
 | _ => simp [Rows.uptoBulk]
theorem z2s {H : Type} : ∀ (l : List (DataW H)) d, d ∈ l → Rows.uptoBulk d ≤ Rows.uptoBulkAll l
 | [], d, h => by simp at h
 | e :: l, d, h => by
  simp only [Rows.uptoBulkAll]; rcases List.mem_cons.1 h with rfl | h
  · omega
  · have := z2s l d h; omega
theorem z9r {H : Type} : ∀ (l : List (DataW H)), l.length ≤ Rows.uptoBulkAll l
 | [] => by simp
 | e :: l => by
  simp only [Rows.uptoBulkAll, List.length_cons]; have := z9r l; have := zad6 e; omega
theorem zafa : Bulk (fun {H} => Rows.uptoBulk (H := H)) where
 str := fun l => by simp [Rows.uptoBulk]
 len := fun es sp => by have := z9r es; simp only [Rows.uptoBulk]; omega
 elem := fun es sp d h => by have := z2s es d h; simp only [Rows.uptoBulk]; omega
 part := fun es d h => by have := z2s es d h; simp only [Rows.uptoBulk]; omega
theorem z9m {t : Ty} {ts : List Ty} {es : List (Dyn U)} (h : es.map (·.ty) = t :: ts) : ∃ (x : den t) (es' : List (Dyn U)), es = ⟨t, x⟩ :: es' ∧ es'.map (·.ty) = ts := by
 cases es with
 | nil => simp at h
 | cons e es =>
  simp only [List.map_cons, List.cons.injEq] at h; obtain ⟨rfl, h2⟩ := h; exact ⟨e.val, es, rfl, h2⟩
end
end Go.Proofs.YtmifhmfokbigiaaGreatDoor.M
