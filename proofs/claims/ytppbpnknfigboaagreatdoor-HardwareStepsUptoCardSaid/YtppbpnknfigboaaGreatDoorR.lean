/- Arguments that read as data are typed. -/
import Derived.Test.YtppbpnknfigboaaGreatDoorA3
import Derived.Test.YtppbpnknfigboaaGreatDoorU
import Derived.Test.YtppbpnknfigboaaGreatDoorRows
namespace Go.Proofs.YtppbpnknfigboaaGreatDoor.M
open Go Go.Amx
set_option linter.unusedVariables false
set_option maxRecDepth 100000
noncomputable section
def C0 : Ctx U := zsq [] [] [] [] [] [] [] []
theorem zhj : zh4 C0 3 (Ty.int .i64) := zad5 (k := .i64) (by kernel_rfl) rfl fun n => ⟨n, rfl⟩
theorem zz8 : zh4 C0 4 Ty.bool := zacb (by kernel_rfl) rfl fun n => ⟨n, rfl⟩
theorem zagj : zh4 C0 23 Ty.zJ := zj1 zj5 (ps := [(3, (Ty.int .i64)), (4, Ty.bool), (4, Ty.bool)]) Proofs.Tryz.underlying23 (by kernel_rfl) (by kernel_rfl) rfl (all_cons zhj (all_cons zz8 (all_cons zz8 zdg))) fun y => ⟨⟨y.1, y.2.1, y.2.2⟩, rfl⟩
theorem z6e : zh4 C0 9 Ty.str := zad4 (by kernel_rfl) rfl fun n => ⟨n, rfl⟩
theorem zagi : zh4 C0 24 (Ty.sl Ty.bool) := zox zj5 (e := 4) (by kernel_rfl) (by kernel_rfl) zz8
theorem zabb : zh4 C0 26 Ty.Storage := zj1 zj5 (ps := [(9, Ty.str), (24, (Ty.sl Ty.bool))]) Proofs.Tryz.underlying26 (by kernel_rfl) (by kernel_rfl) rfl (all_cons z6e (all_cons zagi zdg)) fun y => ⟨⟨y.1, y.2⟩, rfl⟩
theorem zaa9 : zh4 C0 89 Ty.zN := zj1 zj5 (ps := [(4, Ty.bool), (3, (Ty.int .i64)), (3, (Ty.int .i64))]) Proofs.Tryz.underlying89 (by kernel_rfl) (by kernel_rfl) rfl (all_cons zz8 (all_cons zhj (all_cons zhj zdg))) fun y => ⟨⟨y.1, y.2.1, y.2.2⟩, rfl⟩
theorem zaa8 : zh4 C0 91 Ty.DataType := zj1 zj5 (ps := [(3, (Ty.int .i64)), (3, (Ty.int .i64)), (3, (Ty.int .i64))]) Proofs.Tryz.underlying91 (by kernel_rfl) (by kernel_rfl) rfl (all_cons zhj (all_cons zhj (all_cons zhj zdg))) fun y => ⟨⟨y.1, y.2.1, y.2.2⟩, rfl⟩
theorem zaba : zh4 C0 84 Ty.Number := zj1 zj5 (ps := [(3, (Ty.int .i64)), (3, (Ty.int .i64))]) Proofs.Tryz.underlying84 (by kernel_rfl) (by kernel_rfl) rfl (all_cons zhj (all_cons zhj zdg)) fun y => ⟨⟨y.1, y.2⟩, rfl⟩
theorem zaga : zh4 C0 93 Ty.zB := zj1 zj5 (ps := [(3, (Ty.int .i64)), (3, (Ty.int .i64)), (3, (Ty.int .i64)), (3, (Ty.int .i64)), (3, (Ty.int .i64)), (89, Ty.zN), (89, Ty.zN), (91, Ty.DataType), (91, Ty.DataType), (4, Ty.bool), (4, Ty.bool), (84, Ty.Number), (9, Ty.str), (9, Ty.str), (3, (Ty.int .i64)), (3, (Ty.int .i64)), (3, (Ty.int .i64)), (3, (Ty.int .i64))]) Proofs.Tryz.underlying93 (by kernel_rfl) (by kernel_rfl) rfl (all_cons zhj (all_cons zhj (all_cons zhj (all_cons zhj (all_cons zhj (all_cons zaa9 (all_cons zaa9 (all_cons zaa8 (all_cons zaa8 (all_cons zz8 (all_cons zz8 (all_cons zaba (all_cons z6e (all_cons z6e (all_cons zhj (all_cons zhj (all_cons zhj (all_cons zhj zdg)))))))))))))))))) fun y => ⟨⟨y.1, y.2.1, y.2.2.1, y.2.2.2.1, y.2.2.2.2.1, y.2.2.2.2.2.1, y.2.2.2.2.2.2.1, y.2.2.2.2.2.2.2.1, y.2.2.2.2.2.2.2.2.1, y.2.2.2.2.2.2.2.2.2.1, y.2.2.2.2.2.2.2.2.2.2.1, y.2.2.2.2.2.2.2.2.2.2.2.1, y.2.2.2.2.2.2.2.2.2.2.2.2.1, y.2.2.2.2.2.2.2.2.2.2.2.2.2.1, y.2.2.2.2.2.2.2.2.2.2.2.2.2.2.1, y.2.2.2.2.2.2.2.2.2.2.2.2.2.2.2.1, y.2.2.2.2.2.2.2.2.2.2.2.2.2.2.2.2.1, y.2.2.2.2.2.2.2.2.2.2.2.2.2.2.2.2.2⟩, rfl⟩
theorem zagh : zh4 C0 27 (Ty.sl Ty.zB) := zox zj5 (e := 93) (by kernel_rfl) (by kernel_rfl) zaga
theorem zad6 : zh4 C0 101 Ty.zS := zj1 zj5 (ps := [(3, (Ty.int .i64)), (3, (Ty.int .i64)), (3, (Ty.int .i64)), (3, (Ty.int .i64))]) Proofs.Tryz.underlying101 (by kernel_rfl) (by kernel_rfl) rfl (all_cons zhj (all_cons zhj (all_cons zhj (all_cons zhj zdg)))) fun y => ⟨⟨y.1, y.2.1, y.2.2.1, y.2.2.2⟩, rfl⟩
theorem zagg : zh4 C0 28 (Ty.sl Ty.zS) := zox zj5 (e := 101) (by kernel_rfl) (by kernel_rfl) zad6
theorem zagf : zh4 C0 30 Ty.zG := zj1 zj5 (ps := [(26, Ty.Storage), (27, (Ty.sl Ty.zB)), (28, (Ty.sl Ty.zS))]) Proofs.Tryz.underlying30 (by kernel_rfl) (by kernel_rfl) rfl (all_cons zabb (all_cons zagh (all_cons zagg zdg))) fun y => ⟨⟨y.1, y.2.1, y.2.2⟩, rfl⟩
theorem zagd : zh4 C0 68 (Ty.sl Ty.Number) := zox zj5 (e := 84) (by kernel_rfl) (by kernel_rfl) zaba
theorem zagc : zh4 C0 69 (Ty.sl (Ty.int .i64)) := zox zj5 (e := 3) (by kernel_rfl) (by kernel_rfl) zhj
theorem zage : zh4 C0 42 (Ty.sl Ty.str) := zox zj5 (e := 9) (by kernel_rfl) (by kernel_rfl) z6e
theorem zagb : zh4 C0 71 Ty.zA := zj1 zj5 (ps := [(68, (Ty.sl Ty.Number)), (3, (Ty.int .i64)), (26, Ty.Storage), (3, (Ty.int .i64)), (69, (Ty.sl (Ty.int .i64))), (42, (Ty.sl Ty.str)), (3, (Ty.int .i64)), (3, (Ty.int .i64)), (3, (Ty.int .i64)), (3, (Ty.int .i64))]) Proofs.Tryz.underlying71 (by kernel_rfl) (by kernel_rfl) rfl (all_cons zagd (all_cons zhj (all_cons zabb (all_cons zhj (all_cons zagc (all_cons zage (all_cons zhj (all_cons zhj (all_cons zhj (all_cons zhj zdg)))))))))) fun y => ⟨⟨y.1, y.2.1, y.2.2.1, y.2.2.2.1, y.2.2.2.2.1, y.2.2.2.2.2.1, y.2.2.2.2.2.2.1, y.2.2.2.2.2.2.2.1, y.2.2.2.2.2.2.2.2.1, y.2.2.2.2.2.2.2.2.2⟩, rfl⟩
theorem zaeb : ParOk C0 (23, Ty.zJ) := ⟨zagj, by kernel_rfl, ⟨_, Proofs.Tryz.underlying23, .inr (.inr (.inr (.inr ⟨_, rfl⟩)))⟩⟩
theorem zaea : ParOk C0 (30, Ty.zG) := ⟨zagf, by kernel_rfl, ⟨_, Proofs.Tryz.underlying30, .inr (.inr (.inr (.inr ⟨_, rfl⟩)))⟩⟩
theorem zad9 : ParOk C0 (71, Ty.zA) := ⟨zagb, by kernel_rfl, ⟨_, Proofs.Tryz.underlying71, .inr (.inr (.inr (.inr ⟨_, rfl⟩)))⟩⟩
theorem zaax {H : Type} (d : DataW H) : 1 ≤ Rows.uptoBulk d := by
 cases d with
 | lit l => cases l <;> simp [Rows.uptoBulk]
 | _ => simp [Rows.uptoBulk]
theorem zwv {H : Type} : ∀ (l : List (DataW H)) d, d ∈ l → Rows.uptoBulk d ≤ Rows.uptoBulkAll l
 | [], d, h => by simp at h
 | e :: l, d, h => by
  simp only [Rows.uptoBulkAll]; rcases List.mem_cons.1 h with rfl | h
  · omega
  · have := zwv l d h; omega
theorem z35 {H : Type} : ∀ (l : List (DataW H)), l.length ≤ Rows.uptoBulkAll l
 | [] => by simp
 | e :: l => by
  simp only [Rows.uptoBulkAll, List.length_cons]; have := z35 l; have := zaax e; omega
theorem zac2 : Bulk (fun {H} => Rows.uptoBulk (H := H)) where
 str := fun l => by simp [Rows.uptoBulk]
 len := fun es sp => by have := z35 es; simp only [Rows.uptoBulk]; omega
 elem := fun es sp d h => by have := zwv es d h; simp only [Rows.uptoBulk]; omega
 part := fun es d h => by have := zwv es d h; simp only [Rows.uptoBulk]; omega
theorem zyk {t : Ty} {ts : List Ty} {es : List (Dyn U)} (h : es.map (·.ty) = t :: ts) : ∃ (x : den t) (es' : List (Dyn U)), es = ⟨t, x⟩ :: es' ∧ es'.map (·.ty) = ts := by
 cases es with
 | nil => simp at h
 | cons e es =>
  simp only [List.map_cons, List.cons.injEq] at h; obtain ⟨rfl, h2⟩ := h; exact ⟨e.val, es, rfl, h2⟩
end
end Go.Proofs.YtppbpnknfigboaaGreatDoor.M
