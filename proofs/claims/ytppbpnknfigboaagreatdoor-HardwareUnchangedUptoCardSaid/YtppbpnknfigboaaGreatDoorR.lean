/- Arguments that read as data are typed. -/
import Derived.Test.YtppbpnknfigboaaGreatDoorA3
import Derived.Test.YtppbpnknfigboaaGreatDoorU
import Derived.Test.YtppbpnknfigboaaGreatDoorRows
namespace Go.Proofs.YtppbpnknfigboaaGreatDoor.M
open Go Go.Amx
set_option linter.unusedVariables false
set_option maxRecDepth 100000
noncomputable section
def C0 : Ctx U := zsu [] [] [] [] [] [] [] []
theorem zhc : zht C0 3 (Ty.int .i64) := zaeb (k := .i64) (by kernel_rfl) rfl fun n => ⟨n, rfl⟩
theorem z0b : zht C0 4 Ty.bool := zach (by kernel_rfl) rfl fun n => ⟨n, rfl⟩
theorem zagn : zht C0 23 Ty.zI := zjp zjs (ps := [(3, (Ty.int .i64)), (4, Ty.bool), (4, Ty.bool)]) Proofs.Tryz.underlying23 (by kernel_rfl) (by kernel_rfl) rfl (all_cons zhc (all_cons z0b (all_cons z0b zc3))) fun y => ⟨⟨y.1, y.2.1, y.2.2⟩, rfl⟩
theorem z6p : zht C0 9 Ty.str := zaea (by kernel_rfl) rfl fun n => ⟨n, rfl⟩
theorem zagm : zht C0 24 (Ty.sl Ty.bool) := zom zjs (e := 4) (by kernel_rfl) (by kernel_rfl) z0b
theorem zabh : zht C0 26 Ty.Storage := zjp zjs (ps := [(9, Ty.str), (24, (Ty.sl Ty.bool))]) Proofs.Tryz.underlying26 (by kernel_rfl) (by kernel_rfl) rfl (all_cons z6p (all_cons zagm zc3)) fun y => ⟨⟨y.1, y.2⟩, rfl⟩
theorem zabf : zht C0 89 Ty.zO := zjp zjs (ps := [(4, Ty.bool), (3, (Ty.int .i64)), (3, (Ty.int .i64))]) Proofs.Tryz.underlying89 (by kernel_rfl) (by kernel_rfl) rfl (all_cons z0b (all_cons zhc (all_cons zhc zc3))) fun y => ⟨⟨y.1, y.2.1, y.2.2⟩, rfl⟩
theorem zabe : zht C0 91 Ty.DataType := zjp zjs (ps := [(3, (Ty.int .i64)), (3, (Ty.int .i64)), (3, (Ty.int .i64))]) Proofs.Tryz.underlying91 (by kernel_rfl) (by kernel_rfl) rfl (all_cons zhc (all_cons zhc (all_cons zhc zc3))) fun y => ⟨⟨y.1, y.2.1, y.2.2⟩, rfl⟩
theorem zabg : zht C0 84 Ty.Number := zjp zjs (ps := [(3, (Ty.int .i64)), (3, (Ty.int .i64))]) Proofs.Tryz.underlying84 (by kernel_rfl) (by kernel_rfl) rfl (all_cons zhc (all_cons zhc zc3)) fun y => ⟨⟨y.1, y.2⟩, rfl⟩
theorem zage : zht C0 93 Ty.zB := zjp zjs (ps := [(3, (Ty.int .i64)), (3, (Ty.int .i64)), (3, (Ty.int .i64)), (3, (Ty.int .i64)), (3, (Ty.int .i64)), (89, Ty.zO), (89, Ty.zO), (91, Ty.DataType), (91, Ty.DataType), (4, Ty.bool), (4, Ty.bool), (84, Ty.Number), (9, Ty.str), (9, Ty.str), (3, (Ty.int .i64)), (3, (Ty.int .i64)), (3, (Ty.int .i64)), (3, (Ty.int .i64))]) Proofs.Tryz.underlying93 (by kernel_rfl) (by kernel_rfl) rfl (all_cons zhc (all_cons zhc (all_cons zhc (all_cons zhc (all_cons zhc (all_cons zabf (all_cons zabf (all_cons zabe (all_cons zabe (all_cons z0b (all_cons z0b (all_cons zabg (all_cons z6p (all_cons z6p (all_cons zhc (all_cons zhc (all_cons zhc (all_cons zhc zc3)))))))))))))))))) fun y => ⟨⟨y.1, y.2.1, y.2.2.1, y.2.2.2.1, y.2.2.2.2.1, y.2.2.2.2.2.1, y.2.2.2.2.2.2.1, y.2.2.2.2.2.2.2.1, y.2.2.2.2.2.2.2.2.1, y.2.2.2.2.2.2.2.2.2.1, y.2.2.2.2.2.2.2.2.2.2.1, y.2.2.2.2.2.2.2.2.2.2.2.1, y.2.2.2.2.2.2.2.2.2.2.2.2.1, y.2.2.2.2.2.2.2.2.2.2.2.2.2.1, y.2.2.2.2.2.2.2.2.2.2.2.2.2.2.1, y.2.2.2.2.2.2.2.2.2.2.2.2.2.2.2.1, y.2.2.2.2.2.2.2.2.2.2.2.2.2.2.2.2.1, y.2.2.2.2.2.2.2.2.2.2.2.2.2.2.2.2.2⟩, rfl⟩
theorem zagl : zht C0 27 (Ty.sl Ty.zB) := zom zjs (e := 93) (by kernel_rfl) (by kernel_rfl) zage
theorem zaec : zht C0 101 Ty.zS := zjp zjs (ps := [(3, (Ty.int .i64)), (3, (Ty.int .i64)), (3, (Ty.int .i64)), (3, (Ty.int .i64))]) Proofs.Tryz.underlying101 (by kernel_rfl) (by kernel_rfl) rfl (all_cons zhc (all_cons zhc (all_cons zhc (all_cons zhc zc3)))) fun y => ⟨⟨y.1, y.2.1, y.2.2.1, y.2.2.2⟩, rfl⟩
theorem zagk : zht C0 28 (Ty.sl Ty.zS) := zom zjs (e := 101) (by kernel_rfl) (by kernel_rfl) zaec
theorem zagj : zht C0 30 Ty.zF := zjp zjs (ps := [(26, Ty.Storage), (27, (Ty.sl Ty.zB)), (28, (Ty.sl Ty.zS))]) Proofs.Tryz.underlying30 (by kernel_rfl) (by kernel_rfl) rfl (all_cons zabh (all_cons zagl (all_cons zagk zc3))) fun y => ⟨⟨y.1, y.2.1, y.2.2⟩, rfl⟩
theorem zagh : zht C0 68 (Ty.sl Ty.Number) := zom zjs (e := 84) (by kernel_rfl) (by kernel_rfl) zabg
theorem zagg : zht C0 69 (Ty.sl (Ty.int .i64)) := zom zjs (e := 3) (by kernel_rfl) (by kernel_rfl) zhc
theorem zagi : zht C0 42 (Ty.sl Ty.str) := zom zjs (e := 9) (by kernel_rfl) (by kernel_rfl) z6p
theorem zagf : zht C0 71 Ty.zA := zjp zjs (ps := [(68, (Ty.sl Ty.Number)), (3, (Ty.int .i64)), (26, Ty.Storage), (3, (Ty.int .i64)), (69, (Ty.sl (Ty.int .i64))), (42, (Ty.sl Ty.str)), (3, (Ty.int .i64)), (3, (Ty.int .i64)), (3, (Ty.int .i64)), (3, (Ty.int .i64))]) Proofs.Tryz.underlying71 (by kernel_rfl) (by kernel_rfl) rfl (all_cons zagh (all_cons zhc (all_cons zabh (all_cons zhc (all_cons zagg (all_cons zagi (all_cons zhc (all_cons zhc (all_cons zhc (all_cons zhc zc3)))))))))) fun y => ⟨⟨y.1, y.2.1, y.2.2.1, y.2.2.2.1, y.2.2.2.2.1, y.2.2.2.2.2.1, y.2.2.2.2.2.2.1, y.2.2.2.2.2.2.2.1, y.2.2.2.2.2.2.2.2.1, y.2.2.2.2.2.2.2.2.2⟩, rfl⟩
theorem zaeh : ParOk C0 (23, Ty.zI) := ⟨zagn, by kernel_rfl, ⟨_, Proofs.Tryz.underlying23, .inr (.inr (.inr (.inr ⟨_, rfl⟩)))⟩⟩
theorem zaeg : ParOk C0 (30, Ty.zF) := ⟨zagj, by kernel_rfl, ⟨_, Proofs.Tryz.underlying30, .inr (.inr (.inr (.inr ⟨_, rfl⟩)))⟩⟩
theorem zaef : ParOk C0 (71, Ty.zA) := ⟨zagf, by kernel_rfl, ⟨_, Proofs.Tryz.underlying71, .inr (.inr (.inr (.inr ⟨_, rfl⟩)))⟩⟩
theorem zaa3 {H : Type} (d : DataW H) : 1 ≤ Rows.uptoBulk d := by
 cases d with
 | lit l => cases l <;> simp [Rows.uptoBulk]
 | _ => simp [Rows.uptoBulk]
theorem zw0 {H : Type} : ∀ (l : List (DataW H)) d, d ∈ l → Rows.uptoBulk d ≤ Rows.uptoBulkAll l
 | [], d, h => by simp at h
 | e :: l, d, h => by
  simp only [Rows.uptoBulkAll]; rcases List.mem_cons.1 h with rfl | h
  · omega
  · have := zw0 l d h; omega
theorem z4c {H : Type} : ∀ (l : List (DataW H)), l.length ≤ Rows.uptoBulkAll l
 | [] => by simp
 | e :: l => by
  simp only [Rows.uptoBulkAll, List.length_cons]; have := z4c l; have := zaa3 e; omega
theorem zac8 : Bulk (fun {H} => Rows.uptoBulk (H := H)) where
 str := fun l => by simp [Rows.uptoBulk]
 len := fun es sp => by have := z4c es; simp only [Rows.uptoBulk]; omega
 elem := fun es sp d h => by have := zw0 es d h; simp only [Rows.uptoBulk]; omega
 part := fun es d h => by have := zw0 es d h; simp only [Rows.uptoBulk]; omega
theorem zym {t : Ty} {ts : List Ty} {es : List (Dyn U)} (h : es.map (·.ty) = t :: ts) : ∃ (x : den t) (es' : List (Dyn U)), es = ⟨t, x⟩ :: es' ∧ es'.map (·.ty) = ts := by
 cases es with
 | nil => simp at h
 | cons e es =>
  simp only [List.map_cons, List.cons.injEq] at h; obtain ⟨rfl, h2⟩ := h; exact ⟨e.val, es, rfl, h2⟩
end
end Go.Proofs.YtppbpnknfigboaaGreatDoor.M
