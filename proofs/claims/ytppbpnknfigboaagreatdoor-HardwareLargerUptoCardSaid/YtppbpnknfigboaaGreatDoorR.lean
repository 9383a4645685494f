/- Arguments that read as data are typed. -/
import Derived.Test.YtppbpnknfigboaaGreatDoorA3
import Derived.Test.YtppbpnknfigboaaGreatDoorU
import Derived.Test.YtppbpnknfigboaaGreatDoorRows
namespace Go.Proofs.YtppbpnknfigboaaGreatDoor.M
open Go Go.Amx
set_option linter.unusedVariables false
set_option maxRecDepth 100000
noncomputable section
def C0 : Ctx U := zso [] [] [] [] [] [] [] []
theorem zjv : zjb C0 3 (Ty.int .i64) := zads (k := .i64) (by kernel_rfl) rfl fun n => ⟨n, rfl⟩
theorem z0i : zjb C0 4 Ty.bool := zab2 (by kernel_rfl) rfl fun n => ⟨n, rfl⟩
theorem zafx : zjb C0 23 Ty.zH := zkn zl5 (ps := [(3, (Ty.int .i64)), (4, Ty.bool), (4, Ty.bool)]) Proofs.Tryz.underlying23 (by kernel_rfl) (by kernel_rfl) rfl (all_cons zjv (all_cons z0i (all_cons z0i zc8))) fun y => ⟨⟨y.1, y.2.1, y.2.2⟩, rfl⟩
theorem rd_9 : zjb C0 9 Ty.str := zadr (by kernel_rfl) rfl fun n => ⟨n, rfl⟩
theorem zafw : zjb C0 24 (Ty.sl Ty.bool) := zyj zl5 (e := 4) (by kernel_rfl) (by kernel_rfl) z0i
theorem zafv : zjb C0 26 Ty.Storage := zkn zl5 (ps := [(9, Ty.str), (24, (Ty.sl Ty.bool))]) Proofs.Tryz.underlying26 (by kernel_rfl) (by kernel_rfl) rfl (all_cons rd_9 (all_cons zafw zc8)) fun y => ⟨⟨y.1, y.2⟩, rfl⟩
theorem zaa7 : zjb C0 89 Ty.zO := zkn zl5 (ps := [(4, Ty.bool), (3, (Ty.int .i64)), (3, (Ty.int .i64))]) Proofs.Tryz.underlying89 (by kernel_rfl) (by kernel_rfl) rfl (all_cons z0i (all_cons zjv (all_cons zjv zc8))) fun y => ⟨⟨y.1, y.2.1, y.2.2⟩, rfl⟩
theorem zaa6 : zjb C0 91 Ty.DataType := zkn zl5 (ps := [(3, (Ty.int .i64)), (3, (Ty.int .i64)), (3, (Ty.int .i64))]) Proofs.Tryz.underlying91 (by kernel_rfl) (by kernel_rfl) rfl (all_cons zjv (all_cons zjv (all_cons zjv zc8))) fun y => ⟨⟨y.1, y.2.1, y.2.2⟩, rfl⟩
theorem zafr : zjb C0 84 Ty.Number := zkn zl5 (ps := [(3, (Ty.int .i64)), (3, (Ty.int .i64))]) Proofs.Tryz.underlying84 (by kernel_rfl) (by kernel_rfl) rfl (all_cons zjv (all_cons zjv zc8)) fun y => ⟨⟨y.1, y.2⟩, rfl⟩
theorem zafq : zjb C0 93 Ty.zB := zkn zl5 (ps := [(3, (Ty.int .i64)), (3, (Ty.int .i64)), (3, (Ty.int .i64)), (3, (Ty.int .i64)), (3, (Ty.int .i64)), (89, Ty.zO), (89, Ty.zO), (91, Ty.DataType), (91, Ty.DataType), (4, Ty.bool), (4, Ty.bool), (84, Ty.Number), (9, Ty.str), (9, Ty.str), (3, (Ty.int .i64)), (3, (Ty.int .i64)), (3, (Ty.int .i64)), (3, (Ty.int .i64))]) Proofs.Tryz.underlying93 (by kernel_rfl) (by kernel_rfl) rfl (all_cons zjv (all_cons zjv (all_cons zjv (all_cons zjv (all_cons zjv (all_cons zaa7 (all_cons zaa7 (all_cons zaa6 (all_cons zaa6 (all_cons z0i (all_cons z0i (all_cons zafr (all_cons rd_9 (all_cons rd_9 (all_cons zjv (all_cons zjv (all_cons zjv (all_cons zjv zc8)))))))))))))))))) fun y => ⟨⟨y.1, y.2.1, y.2.2.1, y.2.2.2.1, y.2.2.2.2.1, y.2.2.2.2.2.1, y.2.2.2.2.2.2.1, y.2.2.2.2.2.2.2.1, y.2.2.2.2.2.2.2.2.1, y.2.2.2.2.2.2.2.2.2.1, y.2.2.2.2.2.2.2.2.2.2.1, y.2.2.2.2.2.2.2.2.2.2.2.1, y.2.2.2.2.2.2.2.2.2.2.2.2.1, y.2.2.2.2.2.2.2.2.2.2.2.2.2.1, y.2.2.2.2.2.2.2.2.2.2.2.2.2.2.1, y.2.2.2.2.2.2.2.2.2.2.2.2.2.2.2.1, y.2.2.2.2.2.2.2.2.2.2.2.2.2.2.2.2.1, y.2.2.2.2.2.2.2.2.2.2.2.2.2.2.2.2.2⟩, rfl⟩
theorem zafu : zjb C0 27 (Ty.sl Ty.zB) := zyj zl5 (e := 93) (by kernel_rfl) (by kernel_rfl) zafq
theorem zadt : zjb C0 101 Ty.zT := zkn zl5 (ps := [(3, (Ty.int .i64)), (3, (Ty.int .i64)), (3, (Ty.int .i64)), (3, (Ty.int .i64))]) Proofs.Tryz.underlying101 (by kernel_rfl) (by kernel_rfl) rfl (all_cons zjv (all_cons zjv (all_cons zjv (all_cons zjv zc8)))) fun y => ⟨⟨y.1, y.2.1, y.2.2.1, y.2.2.2⟩, rfl⟩
theorem zaft : zjb C0 28 (Ty.sl Ty.zT) := zyj zl5 (e := 101) (by kernel_rfl) (by kernel_rfl) zadt
theorem zafs : zjb C0 30 Ty.zG := zkn zl5 (ps := [(26, Ty.Storage), (27, (Ty.sl Ty.zB)), (28, (Ty.sl Ty.zT))]) Proofs.Tryz.underlying30 (by kernel_rfl) (by kernel_rfl) rfl (all_cons zafv (all_cons zafu (all_cons zaft zc8))) fun y => ⟨⟨y.1, y.2.1, y.2.2⟩, rfl⟩
theorem z8f : ParOk C0 (23, Ty.zH) := ⟨zafx, by kernel_rfl, ⟨_, Proofs.Tryz.underlying23, .inr (.inr (.inr (.inr ⟨_, rfl⟩)))⟩⟩
theorem zadw : ParOk C0 (30, Ty.zG) := ⟨zafs, by kernel_rfl, ⟨_, Proofs.Tryz.underlying30, .inr (.inr (.inr (.inr ⟨_, rfl⟩)))⟩⟩
theorem zaaw {H : Type} (d : DataW H) : 1 ≤ Rows.uptoBulk d := by
 cases d with
 | lit l => cases l <;> simp [Rows.uptoBulk]
 | _ => simp [Rows.uptoBulk]
theorem zw5 {H : Type} : ∀ (l : List (DataW H)) d, d ∈ l → Rows.uptoBulk d ≤ Rows.uptoBulkAll l
 | [], d, h => by simp at h
 | e :: l, d, h => by
  simp only [Rows.uptoBulkAll]; rcases List.mem_cons.1 h with rfl | h
  · omega
  · have := zw5 l d h; omega
theorem z4g {H : Type} : ∀ (l : List (DataW H)), l.length ≤ Rows.uptoBulkAll l
 | [] => by simp
 | e :: l => by
  simp only [Rows.uptoBulkAll, List.length_cons]; have := z4g l; have := zaaw e; omega
theorem zacq : Bulk (fun {H} => Rows.uptoBulk (H := H)) where
 str := fun l => by simp [Rows.uptoBulk]
 len := fun es sp => by have := z4g es; simp only [Rows.uptoBulk]; omega
 elem := fun es sp d h => by have := zw5 es d h; simp only [Rows.uptoBulk]; omega
 part := fun es d h => by have := zw5 es d h; simp only [Rows.uptoBulk]; omega
theorem zyu {t : Ty} {ts : List Ty} {es : List (Dyn U)} (h : es.map (·.ty) = t :: ts) : ∃ (x : den t) (es' : List (Dyn U)), es = ⟨t, x⟩ :: es' ∧ es'.map (·.ty) = ts := by
 cases es with
 | nil => simp at h
 | cons e es =>
  simp only [List.map_cons, List.cons.injEq] at h; obtain ⟨rfl, h2⟩ := h; exact ⟨e.val, es, rfl, h2⟩
end
end Go.Proofs.YtppbpnknfigboaaGreatDoor.M
