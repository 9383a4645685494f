/- Arguments that read as data are typed. -/
import Derived.Test.YtppbpnknfigboaaGreatDoorA3
import Derived.Test.YtppbpnknfigboaaGreatDoorU
import Derived.Test.YtppbpnknfigboaaGreatDoorRows
namespace Go.Proofs.YtppbpnknfigboaaGreatDoor.M
open Go Go.Amx
set_option linter.unusedVariables false
set_option maxRecDepth 100000
noncomputable section
def C0 : Ctx U := zns [] [] [] [] [] [] [] []
theorem zey : zfe C0 3 (Ty.int .i64) := z27 (k := .i64) (by kernel_rfl) rfl fun n => ⟨n, rfl⟩
theorem zth : zfe C0 4 Ty.bool := z19 (by kernel_rfl) rfl fun n => ⟨n, rfl⟩
theorem z4j : zfe C0 23 Ty.HwModel := zgv zgx (ps := [(3, (Ty.int .i64)), (4, Ty.bool), (4, Ty.bool)]) Proofs.Tryz.underlying23 (by kernel_rfl) (by kernel_rfl) rfl (all_cons zey (all_cons zth (all_cons zth zbq))) fun y => ⟨⟨y.1, y.2.1, y.2.2⟩, rfl⟩
theorem zxz : zfe C0 9 Ty.str := z26 (by kernel_rfl) rfl fun n => ⟨n, rfl⟩
theorem z4i : zfe C0 24 (Ty.sl Ty.bool) := zky zgx (e := 4) (by kernel_rfl) (by kernel_rfl) zth
theorem z1e : zfe C0 26 Ty.Storage := zgv zgx (ps := [(9, Ty.str), (24, (Ty.sl Ty.bool))]) Proofs.Tryz.underlying26 (by kernel_rfl) (by kernel_rfl) rfl (all_cons zxz (all_cons z4i zbq)) fun y => ⟨⟨y.1, y.2⟩, rfl⟩
theorem z1c : zfe C0 89 Ty.HwPlace := zgv zgx (ps := [(4, Ty.bool), (3, (Ty.int .i64)), (3, (Ty.int .i64))]) Proofs.Tryz.underlying89 (by kernel_rfl) (by kernel_rfl) rfl (all_cons zth (all_cons zey (all_cons zey zbq))) fun y => ⟨⟨y.1, y.2.1, y.2.2⟩, rfl⟩
theorem z1b : zfe C0 91 Ty.DataType := zgv zgx (ps := [(3, (Ty.int .i64)), (3, (Ty.int .i64)), (3, (Ty.int .i64))]) Proofs.Tryz.underlying91 (by kernel_rfl) (by kernel_rfl) rfl (all_cons zey (all_cons zey (all_cons zey zbq))) fun y => ⟨⟨y.1, y.2.1, y.2.2⟩, rfl⟩
theorem z1d : zfe C0 84 Ty.Number := zgv zgx (ps := [(3, (Ty.int .i64)), (3, (Ty.int .i64))]) Proofs.Tryz.underlying84 (by kernel_rfl) (by kernel_rfl) rfl (all_cons zey (all_cons zey zbq)) fun y => ⟨⟨y.1, y.2⟩, rfl⟩
theorem z4a : zfe C0 93 Ty.HwInstruction := zgv zgx (ps := [(3, (Ty.int .i64)), (3, (Ty.int .i64)), (3, (Ty.int .i64)), (3, (Ty.int .i64)), (3, (Ty.int .i64)), (89, Ty.HwPlace), (89, Ty.HwPlace), (91, Ty.DataType), (91, Ty.DataType), (4, Ty.bool), (4, Ty.bool), (84, Ty.Number), (9, Ty.str), (9, Ty.str), (3, (Ty.int .i64)), (3, (Ty.int .i64)), (3, (Ty.int .i64)), (3, (Ty.int .i64))]) Proofs.Tryz.underlying93 (by kernel_rfl) (by kernel_rfl) rfl (all_cons zey (all_cons zey (all_cons zey (all_cons zey (all_cons zey (all_cons z1c (all_cons z1c (all_cons z1b (all_cons z1b (all_cons zth (all_cons zth (all_cons z1d (all_cons zxz (all_cons zxz (all_cons zey (all_cons zey (all_cons zey (all_cons zey zbq)))))))))))))))))) fun y => ⟨⟨y.1, y.2.1, y.2.2.1, y.2.2.2.1, y.2.2.2.2.1, y.2.2.2.2.2.1, y.2.2.2.2.2.2.1, y.2.2.2.2.2.2.2.1, y.2.2.2.2.2.2.2.2.1, y.2.2.2.2.2.2.2.2.2.1, y.2.2.2.2.2.2.2.2.2.2.1, y.2.2.2.2.2.2.2.2.2.2.2.1, y.2.2.2.2.2.2.2.2.2.2.2.2.1, y.2.2.2.2.2.2.2.2.2.2.2.2.2.1, y.2.2.2.2.2.2.2.2.2.2.2.2.2.2.1, y.2.2.2.2.2.2.2.2.2.2.2.2.2.2.2.1, y.2.2.2.2.2.2.2.2.2.2.2.2.2.2.2.2.1, y.2.2.2.2.2.2.2.2.2.2.2.2.2.2.2.2.2⟩, rfl⟩
theorem z4h : zfe C0 27 (Ty.sl Ty.HwInstruction) := zky zgx (e := 93) (by kernel_rfl) (by kernel_rfl) z4a
theorem z28 : zfe C0 101 Ty.HwTrap := zgv zgx (ps := [(3, (Ty.int .i64)), (3, (Ty.int .i64)), (3, (Ty.int .i64)), (3, (Ty.int .i64))]) Proofs.Tryz.underlying101 (by kernel_rfl) (by kernel_rfl) rfl (all_cons zey (all_cons zey (all_cons zey (all_cons zey zbq)))) fun y => ⟨⟨y.1, y.2.1, y.2.2.1, y.2.2.2⟩, rfl⟩
theorem z4g : zfe C0 28 (Ty.sl Ty.HwTrap) := zky zgx (e := 101) (by kernel_rfl) (by kernel_rfl) z28
theorem z4f : zfe C0 30 Ty.HwCode := zgv zgx (ps := [(26, Ty.Storage), (27, (Ty.sl Ty.HwInstruction)), (28, (Ty.sl Ty.HwTrap))]) Proofs.Tryz.underlying30 (by kernel_rfl) (by kernel_rfl) rfl (all_cons z1e (all_cons z4h (all_cons z4g zbq))) fun y => ⟨⟨y.1, y.2.1, y.2.2⟩, rfl⟩
theorem z4d : zfe C0 68 (Ty.sl Ty.Number) := zky zgx (e := 84) (by kernel_rfl) (by kernel_rfl) z1d
theorem z4c : zfe C0 69 (Ty.sl (Ty.int .i64)) := zky zgx (e := 3) (by kernel_rfl) (by kernel_rfl) zey
theorem z4e : zfe C0 42 (Ty.sl Ty.str) := zky zgx (e := 9) (by kernel_rfl) (by kernel_rfl) zxz
theorem z4b : zfe C0 71 Ty.HwState := zgv zgx (ps := [(68, (Ty.sl Ty.Number)), (3, (Ty.int .i64)), (26, Ty.Storage), (3, (Ty.int .i64)), (69, (Ty.sl (Ty.int .i64))), (42, (Ty.sl Ty.str)), (3, (Ty.int .i64)), (3, (Ty.int .i64)), (3, (Ty.int .i64)), (3, (Ty.int .i64))]) Proofs.Tryz.underlying71 (by kernel_rfl) (by kernel_rfl) rfl (all_cons z4d (all_cons zey (all_cons z1e (all_cons zey (all_cons z4c (all_cons z4e (all_cons zey (all_cons zey (all_cons zey (all_cons zey zbq)))))))))) fun y => ⟨⟨y.1, y.2.1, y.2.2.1, y.2.2.2.1, y.2.2.2.2.1, y.2.2.2.2.2.1, y.2.2.2.2.2.2.1, y.2.2.2.2.2.2.2.1, y.2.2.2.2.2.2.2.2.1, y.2.2.2.2.2.2.2.2.2⟩, rfl⟩
theorem z3c : ParOk C0 (23, Ty.HwModel) := ⟨z4j, by kernel_rfl, ⟨_, Proofs.Tryz.underlying23, .inr (.inr (.inr (.inr ⟨_, rfl⟩)))⟩⟩
theorem z3b : ParOk C0 (30, Ty.HwCode) := ⟨z4f, by kernel_rfl, ⟨_, Proofs.Tryz.underlying30, .inr (.inr (.inr (.inr ⟨_, rfl⟩)))⟩⟩
theorem z3a : ParOk C0 (71, Ty.HwState) := ⟨z4b, by kernel_rfl, ⟨_, Proofs.Tryz.underlying71, .inr (.inr (.inr (.inr ⟨_, rfl⟩)))⟩⟩
theorem z02 {H : Type} (d : DataW H) : 1 ≤ Rows.uptoBulk d := by
 cases d with
 | lit l => cases l <;> simp [Rows.uptoBulk]
 | _ => simp [Rows.uptoBulk]
theorem zq0 {H : Type} : ∀ (l : List (DataW H)) d, d ∈ l → Rows.uptoBulk d ≤ Rows.uptoBulkAll l
 | [], d, h => by simp at h
 | e :: l, d, h => by
  simp only [Rows.uptoBulkAll]; rcases List.mem_cons.1 h with rfl | h
  · omega
  · have := zq0 l d h; omega
theorem zv2 {H : Type} : ∀ (l : List (DataW H)), l.length ≤ Rows.uptoBulkAll l
 | [] => by simp
 | e :: l => by
  simp only [Rows.uptoBulkAll, List.length_cons]; have := zv2 l; have := z02 e; omega
theorem z2u : Bulk (fun {H} => Rows.uptoBulk (H := H)) where
 str := fun l => by simp [Rows.uptoBulk]
 len := fun es sp => by have := zv2 es; simp only [Rows.uptoBulk]; omega
 elem := fun es sp d h => by have := zq0 es d h; simp only [Rows.uptoBulk]; omega
 part := fun es d h => by have := zq0 es d h; simp only [Rows.uptoBulk]; omega
theorem zr8 {t : Ty} {ts : List Ty} {es : List (Dyn U)} (h : es.map (·.ty) = t :: ts) : ∃ (x : den t) (es' : List (Dyn U)), es = ⟨t, x⟩ :: es' ∧ es'.map (·.ty) = ts := by
 cases es with
 | nil => simp at h
 | cons e es =>
  simp only [List.map_cons, List.cons.injEq] at h; obtain ⟨rfl, h2⟩ := h; exact ⟨e.val, es, rfl, h2⟩
end
end Go.Proofs.YtppbpnknfigboaaGreatDoor.M
