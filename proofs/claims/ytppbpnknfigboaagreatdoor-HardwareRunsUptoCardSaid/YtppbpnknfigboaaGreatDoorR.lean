/- Arguments that read as data are typed. -/
import Derived.Test.YtppbpnknfigboaaGreatDoorA3
import Derived.Test.YtppbpnknfigboaaGreatDoorU
import Derived.Test.YtppbpnknfigboaaGreatDoorRows
namespace Go.Proofs.YtppbpnknfigboaaGreatDoor.M
open Go Go.Amx
set_option linter.unusedVariables false
set_option maxRecDepth 100000
noncomputable section
def C0 : Ctx U := zrw [] [] [] [] [] [] [] []
theorem zjk : ziy C0 3 (Ty.int .i64) := zac9 (k := .i64) (by kernel_rfl) rfl fun n => ⟨n, rfl⟩
theorem z0d : ziy C0 4 Ty.bool := zabh (by kernel_rfl) rfl fun n => ⟨n, rfl⟩
theorem zafg : ziy C0 23 Ty.HwModel := zj5 zls (ps := [(3, (Ty.int .i64)), (4, Ty.bool), (4, Ty.bool)]) Proofs.Tryz.underlying23 (by kernel_rfl) (by kernel_rfl) rfl (all_cons zjk (all_cons z0d (all_cons z0d zdg))) fun y => ⟨⟨y.1, y.2.1, y.2.2⟩, rfl⟩
theorem z9p : ziy C0 9 Ty.str := zac8 (by kernel_rfl) rfl fun n => ⟨n, rfl⟩
theorem zaff : ziy C0 24 (Ty.sl Ty.bool) := zya zls (e := 4) (by kernel_rfl) (by kernel_rfl) z0d
theorem zafe : ziy C0 26 Ty.Storage := zj5 zls (ps := [(9, Ty.str), (24, (Ty.sl Ty.bool))]) Proofs.Tryz.underlying26 (by kernel_rfl) (by kernel_rfl) rfl (all_cons z9p (all_cons zaff zdg)) fun y => ⟨⟨y.1, y.2⟩, rfl⟩
theorem zaak : ziy C0 89 Ty.HwPlace := zj5 zls (ps := [(4, Ty.bool), (3, (Ty.int .i64)), (3, (Ty.int .i64))]) Proofs.Tryz.underlying89 (by kernel_rfl) (by kernel_rfl) rfl (all_cons z0d (all_cons zjk (all_cons zjk zdg))) fun y => ⟨⟨y.1, y.2.1, y.2.2⟩, rfl⟩
theorem zaaj : ziy C0 91 Ty.DataType := zj5 zls (ps := [(3, (Ty.int .i64)), (3, (Ty.int .i64)), (3, (Ty.int .i64))]) Proofs.Tryz.underlying91 (by kernel_rfl) (by kernel_rfl) rfl (all_cons zjk (all_cons zjk (all_cons zjk zdg))) fun y => ⟨⟨y.1, y.2.1, y.2.2⟩, rfl⟩
theorem zafa : ziy C0 84 Ty.Number := zj5 zls (ps := [(3, (Ty.int .i64)), (3, (Ty.int .i64))]) Proofs.Tryz.underlying84 (by kernel_rfl) (by kernel_rfl) rfl (all_cons zjk (all_cons zjk zdg)) fun y => ⟨⟨y.1, y.2⟩, rfl⟩
theorem zae9 : ziy C0 93 Ty.HwInstruction := zj5 zls (ps := [(3, (Ty.int .i64)), (3, (Ty.int .i64)), (3, (Ty.int .i64)), (3, (Ty.int .i64)), (3, (Ty.int .i64)), (89, Ty.HwPlace), (89, Ty.HwPlace), (91, Ty.DataType), (91, Ty.DataType), (4, Ty.bool), (4, Ty.bool), (84, Ty.Number), (9, Ty.str), (9, Ty.str), (3, (Ty.int .i64)), (3, (Ty.int .i64)), (3, (Ty.int .i64)), (3, (Ty.int .i64))]) Proofs.Tryz.underlying93 (by kernel_rfl) (by kernel_rfl) rfl (all_cons zjk (all_cons zjk (all_cons zjk (all_cons zjk (all_cons zjk (all_cons zaak (all_cons zaak (all_cons zaaj (all_cons zaaj (all_cons z0d (all_cons z0d (all_cons zafa (all_cons z9p (all_cons z9p (all_cons zjk (all_cons zjk (all_cons zjk (all_cons zjk zdg)))))))))))))))))) fun y => ⟨⟨y.1, y.2.1, y.2.2.1, y.2.2.2.1, y.2.2.2.2.1, y.2.2.2.2.2.1, y.2.2.2.2.2.2.1, y.2.2.2.2.2.2.2.1, y.2.2.2.2.2.2.2.2.1, y.2.2.2.2.2.2.2.2.2.1, y.2.2.2.2.2.2.2.2.2.2.1, y.2.2.2.2.2.2.2.2.2.2.2.1, y.2.2.2.2.2.2.2.2.2.2.2.2.1, y.2.2.2.2.2.2.2.2.2.2.2.2.2.1, y.2.2.2.2.2.2.2.2.2.2.2.2.2.2.1, y.2.2.2.2.2.2.2.2.2.2.2.2.2.2.2.1, y.2.2.2.2.2.2.2.2.2.2.2.2.2.2.2.2.1, y.2.2.2.2.2.2.2.2.2.2.2.2.2.2.2.2.2⟩, rfl⟩
theorem zafd : ziy C0 27 (Ty.sl Ty.HwInstruction) := zya zls (e := 93) (by kernel_rfl) (by kernel_rfl) zae9
theorem zada : ziy C0 101 Ty.HwTrap := zj5 zls (ps := [(3, (Ty.int .i64)), (3, (Ty.int .i64)), (3, (Ty.int .i64)), (3, (Ty.int .i64))]) Proofs.Tryz.underlying101 (by kernel_rfl) (by kernel_rfl) rfl (all_cons zjk (all_cons zjk (all_cons zjk (all_cons zjk zdg)))) fun y => ⟨⟨y.1, y.2.1, y.2.2.1, y.2.2.2⟩, rfl⟩
theorem zafc : ziy C0 28 (Ty.sl Ty.HwTrap) := zya zls (e := 101) (by kernel_rfl) (by kernel_rfl) zada
theorem zafb : ziy C0 30 Ty.HwCode := zj5 zls (ps := [(26, Ty.Storage), (27, (Ty.sl Ty.HwInstruction)), (28, (Ty.sl Ty.HwTrap))]) Proofs.Tryz.underlying30 (by kernel_rfl) (by kernel_rfl) rfl (all_cons zafe (all_cons zafd (all_cons zafc zdg))) fun y => ⟨⟨y.1, y.2.1, y.2.2⟩, rfl⟩
theorem zade : ParOk C0 (23, Ty.HwModel) := ⟨zafg, by kernel_rfl, ⟨_, Proofs.Tryz.underlying23, .inr (.inr (.inr (.inr ⟨_, rfl⟩)))⟩⟩
theorem zadd : ParOk C0 (30, Ty.HwCode) := ⟨zafb, by kernel_rfl, ⟨_, Proofs.Tryz.underlying30, .inr (.inr (.inr (.inr ⟨_, rfl⟩)))⟩⟩
theorem z98 {H : Type} (d : DataW H) : 1 ≤ Rows.uptoBulk d := by
 cases d with
 | lit l => cases l <;> simp [Rows.uptoBulk]
 | _ => simp [Rows.uptoBulk]
theorem zwn {H : Type} : ∀ (l : List (DataW H)) d, d ∈ l → Rows.uptoBulk d ≤ Rows.uptoBulkAll l
 | [], d, h => by simp at h
 | e :: l, d, h => by
  simp only [Rows.uptoBulkAll]; rcases List.mem_cons.1 h with rfl | h
  · omega
  · have := zwn l d h; omega
theorem z33 {H : Type} : ∀ (l : List (DataW H)), l.length ≤ Rows.uptoBulkAll l
 | [] => by simp
 | e :: l => by
  simp only [Rows.uptoBulkAll, List.length_cons]; have := z33 l; have := z98 e; omega
theorem zab6 : Bulk (fun {H} => Rows.uptoBulk (H := H)) where
 str := fun l => by simp [Rows.uptoBulk]
 len := fun es sp => by have := z33 es; simp only [Rows.uptoBulk]; omega
 elem := fun es sp d h => by have := zwn es d h; simp only [Rows.uptoBulk]; omega
 part := fun es d h => by have := zwn es d h; simp only [Rows.uptoBulk]; omega
theorem z3x {t : Ty} {ts : List Ty} {es : List (Dyn U)} (h : es.map (·.ty) = t :: ts) : ∃ (x : den t) (es' : List (Dyn U)), es = ⟨t, x⟩ :: es' ∧ es'.map (·.ty) = ts := by
 cases es with
 | nil => simp at h
 | cons e es =>
  simp only [List.map_cons, List.cons.injEq] at h; obtain ⟨rfl, h2⟩ := h; exact ⟨e.val, es, rfl, h2⟩
end
end Go.Proofs.YtppbpnknfigboaaGreatDoor.M
