/- Arguments that read as data are typed. -/
import Derived.Test.YtmifhmfokbigiaaGreatDoorA4
import Derived.Test.YtmifhmfokbigiaaGreatDoorU
import Derived.Test.YtmifhmfokbigiaaGreatDoorRows
namespace Go.Proofs.YtmifhmfokbigiaaGreatDoor.M
open Go Go.Amx
set_option linter.unusedVariables false
set_option maxRecDepth 100000
noncomputable section
def C0 : Ctx U := zqm [] [] [] [] [] [] [] []
theorem zxq : zgk C0 9 Ty.str := z6z (by kernel_rfl) rfl fun n => ⟨n, rfl⟩
theorem zjv : zgk C0 3 (Ty.int .i64) := z60 (k := .i64) (by kernel_rfl) rfl fun n => ⟨n, rfl⟩
theorem z74 : zgk C0 77 Ty.DataType := zil zia (ps := [(3, (Ty.int .i64)), (3, (Ty.int .i64)), (3, (Ty.int .i64))]) Proofs.Tryz.underlying77 (by kernel_rfl) (by kernel_rfl) rfl (all_cons zjv (all_cons zjv (all_cons zjv zdb))) fun y => ⟨⟨y.1, y.2.1, y.2.2⟩, rfl⟩
theorem z73 : zgk C0 79 Ty.Value := zil zia (ps := [(3, (Ty.int .i64)), (9, Ty.str)]) Proofs.Tryz.underlying79 (by kernel_rfl) (by kernel_rfl) rfl (all_cons zjv (all_cons zxq zdb)) fun y => ⟨⟨y.1, y.2⟩, rfl⟩
theorem z71 : zgk C0 81 Ty.zF := zil zia (ps := [(9, Ty.str), (3, (Ty.int .i64)), (77, Ty.DataType), (79, Ty.Value), (9, Ty.str), (3, (Ty.int .i64)), (3, (Ty.int .i64))]) Proofs.Tryz.underlying81 (by kernel_rfl) (by kernel_rfl) rfl (all_cons zxq (all_cons zjv (all_cons z74 (all_cons z73 (all_cons zxq (all_cons zjv (all_cons zjv zdb))))))) fun y => ⟨⟨y.1, y.2.1, y.2.2.1, y.2.2.2.1, y.2.2.2.2.1, y.2.2.2.2.2.1, y.2.2.2.2.2.2⟩, rfl⟩
theorem z8f : zgk C0 22 (Ty.sl Ty.zF) := zmb zia (e := 81) (by kernel_rfl) (by kernel_rfl) z71
theorem z45 : zgk C0 41 (Ty.sl (Ty.int .i64)) := zmb zia (e := 3) (by kernel_rfl) (by kernel_rfl) zjv
theorem z77 : zgk C0 47 Ty.zJ := zil zia (ps := [(3, (Ty.int .i64)), (41, (Ty.sl (Ty.int .i64)))]) Proofs.Tryz.underlying47 (by kernel_rfl) (by kernel_rfl) rfl (all_cons zjv (all_cons z45 zdb)) fun y => ⟨⟨y.1, y.2⟩, rfl⟩
theorem z8e : zgk C0 23 (Ty.sl Ty.zJ) := zmb zia (e := 47) (by kernel_rfl) (by kernel_rfl) z77
theorem z7z : zgk C0 94 Ty.zN := zil zia (ps := [(3, (Ty.int .i64)), (3, (Ty.int .i64)), (3, (Ty.int .i64)), (3, (Ty.int .i64))]) Proofs.Tryz.underlying94 (by kernel_rfl) (by kernel_rfl) rfl (all_cons zjv (all_cons zjv (all_cons zjv (all_cons zjv zdb)))) fun y => ⟨⟨y.1, y.2.1, y.2.2.1, y.2.2.2⟩, rfl⟩
theorem z8d : zgk C0 24 (Ty.sl Ty.zN) := zmb zia (e := 94) (by kernel_rfl) (by kernel_rfl) z7z
theorem z8c : zgk C0 26 Ty.zB := zil zia (ps := [(22, (Ty.sl Ty.zF)), (23, (Ty.sl Ty.zJ)), (24, (Ty.sl Ty.zN))]) Proofs.Tryz.underlying26 (by kernel_rfl) (by kernel_rfl) rfl (all_cons z8f (all_cons z8e (all_cons z8d zdb))) fun y => ⟨⟨y.1, y.2.1, y.2.2⟩, rfl⟩
theorem z8u : zgk C0 4 Ty.bool := z5y (by kernel_rfl) rfl fun n => ⟨n, rfl⟩
theorem z8b : zgk C0 38 (Ty.sl Ty.bool) := zmb zia (e := 4) (by kernel_rfl) (by kernel_rfl) z8u
theorem z8a : zgk C0 40 Ty.Storage := zil zia (ps := [(9, Ty.str), (38, (Ty.sl Ty.bool))]) Proofs.Tryz.underlying40 (by kernel_rfl) (by kernel_rfl) rfl (all_cons zxq (all_cons z8b zdb)) fun y => ⟨⟨y.1, y.2⟩, rfl⟩
theorem z79 : zgk C0 42 (Ty.sl Ty.str) := zmb zia (e := 9) (by kernel_rfl) (by kernel_rfl) zxq
theorem z78 : zgk C0 44 Ty.zD := zil zia (ps := [(40, Ty.Storage), (3, (Ty.int .i64)), (41, (Ty.sl (Ty.int .i64))), (42, (Ty.sl Ty.str)), (3, (Ty.int .i64)), (3, (Ty.int .i64)), (3, (Ty.int .i64))]) Proofs.Tryz.underlying44 (by kernel_rfl) (by kernel_rfl) rfl (all_cons z8a (all_cons zjv (all_cons z45 (all_cons z79 (all_cons zjv (all_cons zjv (all_cons zjv zdb))))))) fun y => ⟨⟨y.1, y.2.1, y.2.2.1, y.2.2.2.1, y.2.2.2.2.1, y.2.2.2.2.2.1, y.2.2.2.2.2.2⟩, rfl⟩
theorem z65 : ParOk C0 (26, Ty.zB) := ⟨z8c, by kernel_rfl, ⟨_, Proofs.Tryz.underlying26, .inr (.inr (.inr (.inr ⟨_, rfl⟩)))⟩⟩
theorem z64 : ParOk C0 (44, Ty.zD) := ⟨z78, by kernel_rfl, ⟨_, Proofs.Tryz.underlying44, .inr (.inr (.inr (.inr ⟨_, rfl⟩)))⟩⟩
theorem z4x {H : Type} (d : DataW H) : 1 ≤ Rows.uptoBulk d := by
 cases d with
 | lit l => cases l <;> simp [Rows.uptoBulk]
 | _ => simp [Rows.uptoBulk]
theorem zsr {H : Type} : ∀ (l : List (DataW H)) d, d ∈ l → Rows.uptoBulk d ≤ Rows.uptoBulkAll l
 | [], d, h => by simp at h
 | e :: l, d, h => by
  simp only [Rows.uptoBulkAll]; rcases List.mem_cons.1 h with rfl | h
  · omega
  · have := zsr l d h; omega
theorem zyv {H : Type} : ∀ (l : List (DataW H)), l.length ≤ Rows.uptoBulkAll l
 | [] => by simp
 | e :: l => by
  simp only [Rows.uptoBulkAll, List.length_cons]; have := zyv l; have := z4x e; omega
theorem z6j : Bulk (fun {H} => Rows.uptoBulk (H := H)) where
 str := fun l => by simp [Rows.uptoBulk]
 len := fun es sp => by have := zyv es; simp only [Rows.uptoBulk]; omega
 elem := fun es sp d h => by have := zsr es d h; simp only [Rows.uptoBulk]; omega
 part := fun es d h => by have := zsr es d h; simp only [Rows.uptoBulk]; omega
theorem zyt {t : Ty} {ts : List Ty} {es : List (Dyn U)} (h : es.map (·.ty) = t :: ts) : ∃ (x : den t) (es' : List (Dyn U)), es = ⟨t, x⟩ :: es' ∧ es'.map (·.ty) = ts := by
 cases es with
 | nil => simp at h
 | cons e es =>
  simp only [List.map_cons, List.cons.injEq] at h; obtain ⟨rfl, h2⟩ := h; exact ⟨e.val, es, rfl, h2⟩
end
end Go.Proofs.YtmifhmfokbigiaaGreatDoor.M
