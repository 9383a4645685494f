/- Arguments that read as data are typed. -/
import Derived.Test.YtmifhmfokbigiaaGreatDoorA4
import Derived.Test.YtmifhmfokbigiaaGreatDoorU
import Derived.Test.YtmifhmfokbigiaaGreatDoorRows
namespace Go.Proofs.YtmifhmfokbigiaaGreatDoor.M
open Go Go.Amx
set_option linter.unusedVariables false
set_option maxRecDepth 100000
noncomputable section
def C0 : Ctx U := zzs [] [] [] [] [] [] [] []
theorem z8q : zgk C0 9 Ty.str := z6z (by kernel_rfl) rfl fun n => ⟨n, rfl⟩
theorem zp3 : zgk C0 3 (Ty.int .i64) := z60 (k := .i64) (by kernel_rfl) rfl fun n => ⟨n, rfl⟩
theorem zahb : zgk C0 77 Ty.DataType := zil zn5 (ps := [(3, (Ty.int .i64)), (3, (Ty.int .i64)), (3, (Ty.int .i64))]) Proofs.Tryz.underlying77 (by kernel_rfl) (by kernel_rfl) rfl (all_cons zp3 (all_cons zp3 (all_cons zp3 zdb))) fun y => ⟨⟨y.1, y.2.1, y.2.2⟩, rfl⟩
theorem zaha : zgk C0 79 Ty.Value := zil zn5 (ps := [(3, (Ty.int .i64)), (9, Ty.str)]) Proofs.Tryz.underlying79 (by kernel_rfl) (by kernel_rfl) rfl (all_cons zp3 (all_cons z8q zdb)) fun y => ⟨⟨y.1, y.2⟩, rfl⟩
theorem zag9 : zgk C0 81 Ty.zG := zil zn5 (ps := [(9, Ty.str), (3, (Ty.int .i64)), (77, Ty.DataType), (79, Ty.Value), (9, Ty.str), (3, (Ty.int .i64)), (3, (Ty.int .i64))]) Proofs.Tryz.underlying81 (by kernel_rfl) (by kernel_rfl) rfl (all_cons z8q (all_cons zp3 (all_cons zahb (all_cons zaha (all_cons z8q (all_cons zp3 (all_cons zp3 zdb))))))) fun y => ⟨⟨y.1, y.2.1, y.2.2.1, y.2.2.2.1, y.2.2.2.2.1, y.2.2.2.2.2.1, y.2.2.2.2.2.2⟩, rfl⟩
theorem zahk : zgk C0 22 (Ty.sl Ty.zG) := zmb zn5 (e := 81) (by kernel_rfl) (by kernel_rfl) zag9
theorem zaei : zgk C0 41 (Ty.sl (Ty.int .i64)) := zmb zn5 (e := 3) (by kernel_rfl) (by kernel_rfl) zp3
theorem zahc : zgk C0 47 Ty.zI := zil zn5 (ps := [(3, (Ty.int .i64)), (41, (Ty.sl (Ty.int .i64)))]) Proofs.Tryz.underlying47 (by kernel_rfl) (by kernel_rfl) rfl (all_cons zp3 (all_cons zaei zdb)) fun y => ⟨⟨y.1, y.2⟩, rfl⟩
theorem zahj : zgk C0 23 (Ty.sl Ty.zI) := zmb zn5 (e := 47) (by kernel_rfl) (by kernel_rfl) zahc
theorem zag8 : zgk C0 94 Ty.zN := zil zn5 (ps := [(3, (Ty.int .i64)), (3, (Ty.int .i64)), (3, (Ty.int .i64)), (3, (Ty.int .i64))]) Proofs.Tryz.underlying94 (by kernel_rfl) (by kernel_rfl) rfl (all_cons zp3 (all_cons zp3 (all_cons zp3 (all_cons zp3 zdb)))) fun y => ⟨⟨y.1, y.2.1, y.2.2.1, y.2.2.2⟩, rfl⟩
theorem zahi : zgk C0 24 (Ty.sl Ty.zN) := zmb zn5 (e := 94) (by kernel_rfl) (by kernel_rfl) zag8
theorem zahh : zgk C0 26 Ty.zB := zil zn5 (ps := [(22, (Ty.sl Ty.zG)), (23, (Ty.sl Ty.zI)), (24, (Ty.sl Ty.zN))]) Proofs.Tryz.underlying26 (by kernel_rfl) (by kernel_rfl) rfl (all_cons zahk (all_cons zahj (all_cons zahi zdb))) fun y => ⟨⟨y.1, y.2.1, y.2.2⟩, rfl⟩
theorem rd_4 : zgk C0 4 Ty.bool := z5y (by kernel_rfl) rfl fun n => ⟨n, rfl⟩
theorem zahg : zgk C0 38 (Ty.sl Ty.bool) := zmb zn5 (e := 4) (by kernel_rfl) (by kernel_rfl) rd_4
theorem zahf : zgk C0 40 Ty.Storage := zil zn5 (ps := [(9, Ty.str), (38, (Ty.sl Ty.bool))]) Proofs.Tryz.underlying40 (by kernel_rfl) (by kernel_rfl) rfl (all_cons z8q (all_cons zahg zdb)) fun y => ⟨⟨y.1, y.2⟩, rfl⟩
theorem zahe : zgk C0 42 (Ty.sl Ty.str) := zmb zn5 (e := 9) (by kernel_rfl) (by kernel_rfl) z8q
theorem zahd : zgk C0 44 Ty.zC := zil zn5 (ps := [(40, Ty.Storage), (3, (Ty.int .i64)), (41, (Ty.sl (Ty.int .i64))), (42, (Ty.sl Ty.str)), (3, (Ty.int .i64)), (3, (Ty.int .i64)), (3, (Ty.int .i64))]) Proofs.Tryz.underlying44 (by kernel_rfl) (by kernel_rfl) rfl (all_cons zahf (all_cons zp3 (all_cons zaei (all_cons zahe (all_cons zp3 (all_cons zp3 (all_cons zp3 zdb))))))) fun y => ⟨⟨y.1, y.2.1, y.2.2.1, y.2.2.2.1, y.2.2.2.2.1, y.2.2.2.2.2.1, y.2.2.2.2.2.2⟩, rfl⟩
theorem zagd : ParOk C0 (26, Ty.zB) := ⟨zahh, by kernel_rfl, ⟨_, Proofs.Tryz.underlying26, .inr (.inr (.inr (.inr ⟨_, rfl⟩)))⟩⟩
theorem zagc : ParOk C0 (44, Ty.zC) := ⟨zahd, by kernel_rfl, ⟨_, Proofs.Tryz.underlying44, .inr (.inr (.inr (.inr ⟨_, rfl⟩)))⟩⟩
theorem zaec {H : Type} (d : DataW H) : 1 ≤ Rows.uptoBulk d := by
 cases d with
 | lit l => cases l <;> simp [Rows.uptoBulk]
 | _ => simp [Rows.uptoBulk]
theorem z2w {H : Type} : ∀ (l : List (DataW H)) d, d ∈ l → Rows.uptoBulk d ≤ Rows.uptoBulkAll l
 | [], d, h => by simp at h
 | e :: l, d, h => by
  simp only [Rows.uptoBulkAll]; rcases List.mem_cons.1 h with rfl | h
  · omega
  · have := z2w l d h; omega
theorem z9u {H : Type} : ∀ (l : List (DataW H)), l.length ≤ Rows.uptoBulkAll l
 | [] => by simp
 | e :: l => by
  simp only [Rows.uptoBulkAll, List.length_cons]; have := z9u l; have := zaec e; omega
theorem zafh : Bulk (fun {H} => Rows.uptoBulk (H := H)) where
 str := fun l => by simp [Rows.uptoBulk]
 len := fun es sp => by have := z9u es; simp only [Rows.uptoBulk]; omega
 elem := fun es sp d h => by have := z2w es d h; simp only [Rows.uptoBulk]; omega
 part := fun es d h => by have := z2w es d h; simp only [Rows.uptoBulk]; omega
theorem z9p {t : Ty} {ts : List Ty} {es : List (Dyn U)} (h : es.map (·.ty) = t :: ts) : ∃ (x : den t) (es' : List (Dyn U)), es = ⟨t, x⟩ :: es' ∧ es'.map (·.ty) = ts := by
 cases es with
 | nil => simp at h
 | cons e es =>
  simp only [List.map_cons, List.cons.injEq] at h; obtain ⟨rfl, h2⟩ := h; exact ⟨e.val, es, rfl, h2⟩
end
end Go.Proofs.YtmifhmfokbigiaaGreatDoor.M
