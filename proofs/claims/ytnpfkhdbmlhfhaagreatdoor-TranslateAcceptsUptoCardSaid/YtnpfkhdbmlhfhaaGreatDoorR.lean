/- Arguments that read as data are typed. -/
import Derived.Test.YtnpfkhdbmlhfhaaGreatDoorA4
import Derived.Test.YtnpfkhdbmlhfhaaGreatDoorU
import Derived.Test.YtnpfkhdbmlhfhaaGreatDoorRows
namespace Go.Proofs.YtnpfkhdbmlhfhaaGreatDoor.M
open Go Go.Amx
set_option linter.unusedVariables false
set_option maxRecDepth 100000
noncomputable section
def C0 : Ctx U := zpj [] [] [] [] [] [] [] []
theorem zg3 : zfv C0 3 (Ty.int .i64) := z6l (k := .i64) (by kernel_rfl) rfl fun n => ⟨n, rfl⟩
theorem zvj : zfv C0 4 Ty.bool := z5f (by kernel_rfl) rfl fun n => ⟨n, rfl⟩
theorem z7w : zfv C0 23 Ty.zI := zgr zg5 (ps := [(3, (Ty.int .i64)), (4, Ty.bool), (4, Ty.bool)]) Proofs.Tryz.underlying23 (by kernel_rfl) (by kernel_rfl) rfl (all_cons zg3 (all_cons zvj (all_cons zvj all_nil))) fun y => ⟨⟨y.1, y.2.1, y.2.2⟩, rfl⟩
theorem z3l : zfv C0 9 Ty.str := z6k (by kernel_rfl) rfl fun n => ⟨n, rfl⟩
theorem z7v : zfv C0 24 (Ty.sl Ty.bool) := zmk zg5 (e := 4) (by kernel_rfl) (by kernel_rfl) zvj
theorem z7u : zfv C0 26 Ty.Storage := zgr zg5 (ps := [(9, Ty.str), (24, (Ty.sl Ty.bool))]) Proofs.Tryz.underlying26 (by kernel_rfl) (by kernel_rfl) rfl (all_cons z3l (all_cons z7v all_nil)) fun y => ⟨⟨y.1, y.2⟩, rfl⟩
theorem z4e : zfv C0 49 Ty.zL := zgr zg5 (ps := [(4, Ty.bool), (3, (Ty.int .i64)), (3, (Ty.int .i64))]) Proofs.Tryz.underlying49 (by kernel_rfl) (by kernel_rfl) rfl (all_cons zvj (all_cons zg3 (all_cons zg3 all_nil))) fun y => ⟨⟨y.1, y.2.1, y.2.2⟩, rfl⟩
theorem z0n : zfv C0 51 Ty.DataType := zgr zg5 (ps := [(3, (Ty.int .i64)), (3, (Ty.int .i64)), (3, (Ty.int .i64))]) Proofs.Tryz.underlying51 (by kernel_rfl) (by kernel_rfl) rfl (all_cons zg3 (all_cons zg3 (all_cons zg3 all_nil))) fun y => ⟨⟨y.1, y.2.1, y.2.2⟩, rfl⟩
theorem z7o : zfv C0 53 Ty.Number := zgr zg5 (ps := [(3, (Ty.int .i64)), (3, (Ty.int .i64))]) Proofs.Tryz.underlying53 (by kernel_rfl) (by kernel_rfl) rfl (all_cons zg3 (all_cons zg3 all_nil)) fun y => ⟨⟨y.1, y.2⟩, rfl⟩
theorem z7n : zfv C0 55 Ty.zC := zgr zg5 (ps := [(3, (Ty.int .i64)), (3, (Ty.int .i64)), (3, (Ty.int .i64)), (3, (Ty.int .i64)), (3, (Ty.int .i64)), (49, Ty.zL), (49, Ty.zL), (51, Ty.DataType), (51, Ty.DataType), (4, Ty.bool), (4, Ty.bool), (53, Ty.Number), (9, Ty.str), (9, Ty.str), (3, (Ty.int .i64)), (3, (Ty.int .i64)), (3, (Ty.int .i64)), (3, (Ty.int .i64))]) Proofs.Tryz.underlying55 (by kernel_rfl) (by kernel_rfl) rfl (all_cons zg3 (all_cons zg3 (all_cons zg3 (all_cons zg3 (all_cons zg3 (all_cons z4e (all_cons z4e (all_cons z0n (all_cons z0n (all_cons zvj (all_cons zvj (all_cons z7o (all_cons z3l (all_cons z3l (all_cons zg3 (all_cons zg3 (all_cons zg3 (all_cons zg3 all_nil)))))))))))))))))) fun y => ⟨⟨y.1, y.2.1, y.2.2.1, y.2.2.2.1, y.2.2.2.2.1, y.2.2.2.2.2.1, y.2.2.2.2.2.2.1, y.2.2.2.2.2.2.2.1, y.2.2.2.2.2.2.2.2.1, y.2.2.2.2.2.2.2.2.2.1, y.2.2.2.2.2.2.2.2.2.2.1, y.2.2.2.2.2.2.2.2.2.2.2.1, y.2.2.2.2.2.2.2.2.2.2.2.2.1, y.2.2.2.2.2.2.2.2.2.2.2.2.2.1, y.2.2.2.2.2.2.2.2.2.2.2.2.2.2.1, y.2.2.2.2.2.2.2.2.2.2.2.2.2.2.2.1, y.2.2.2.2.2.2.2.2.2.2.2.2.2.2.2.2.1, y.2.2.2.2.2.2.2.2.2.2.2.2.2.2.2.2.2⟩, rfl⟩
theorem z7t : zfv C0 27 (Ty.sl Ty.zC) := zmk zg5 (e := 55) (by kernel_rfl) (by kernel_rfl) z7n
theorem z6m : zfv C0 123 Ty.zQ := zgr zg5 (ps := [(3, (Ty.int .i64)), (3, (Ty.int .i64)), (3, (Ty.int .i64)), (3, (Ty.int .i64))]) Proofs.Tryz.underlying123 (by kernel_rfl) (by kernel_rfl) rfl (all_cons zg3 (all_cons zg3 (all_cons zg3 (all_cons zg3 all_nil)))) fun y => ⟨⟨y.1, y.2.1, y.2.2.1, y.2.2.2⟩, rfl⟩
theorem z7s : zfv C0 28 (Ty.sl Ty.zQ) := zmk zg5 (e := 123) (by kernel_rfl) (by kernel_rfl) z6m
theorem z4f : zfv C0 30 Ty.zF := zgr zg5 (ps := [(26, Ty.Storage), (27, (Ty.sl Ty.zC)), (28, (Ty.sl Ty.zQ))]) Proofs.Tryz.underlying30 (by kernel_rfl) (by kernel_rfl) rfl (all_cons z7u (all_cons z7t (all_cons z7s all_nil))) fun y => ⟨⟨y.1, y.2.1, y.2.2⟩, rfl⟩
theorem z7k : zfv C0 97 Ty.zA := zgr zg5 (ps := [(3, (Ty.int .i64)), (51, Ty.DataType), (3, (Ty.int .i64))]) Proofs.Tryz.underlying97 (by kernel_rfl) (by kernel_rfl) rfl (all_cons zg3 (all_cons z0n (all_cons zg3 all_nil))) fun y => ⟨⟨y.1, y.2.1, y.2.2⟩, rfl⟩
theorem z7l : zfv C0 88 (Ty.sl Ty.zA) := zmk zg5 (e := 97) (by kernel_rfl) (by kernel_rfl) z7k
theorem z7r : zfv C0 33 (Ty.sl (Ty.sl Ty.zA)) := zmk zg5 (e := 88) (by kernel_rfl) (by kernel_rfl) z7l
theorem z7q : zfv C0 43 (Ty.sl (Ty.int .i64)) := zmk zg5 (e := 3) (by kernel_rfl) (by kernel_rfl) zg3
theorem z7p : zfv C0 45 Ty.zV := zgr zg5 (ps := [(33, (Ty.sl (Ty.sl Ty.zA))), (43, (Ty.sl (Ty.int .i64)))]) Proofs.Tryz.underlying45 (by kernel_rfl) (by kernel_rfl) rfl (all_cons z7r (all_cons z7q all_nil)) fun y => ⟨⟨y.1, y.2⟩, rfl⟩
theorem z7m : zfv C0 75 Ty.Optimization := zgr zg5 (ps := [(23, Ty.zI), (30, Ty.zF), (30, Ty.zF), (45, Ty.zV)]) Proofs.Tryz.underlying75 (by kernel_rfl) (by kernel_rfl) rfl (all_cons z7w (all_cons z4f (all_cons z4f (all_cons z7p all_nil)))) fun y => ⟨⟨y.1, y.2.1, y.2.2.1, y.2.2.2⟩, rfl⟩
theorem z6o : ParOk C0 (75, Ty.Optimization) := ⟨z7m, by kernel_rfl, ⟨_, Proofs.Tryz.underlying75, .inr (.inr (.inr (.inr ⟨_, rfl⟩)))⟩⟩
theorem z34 {H : Type} (d : DataW H) : 1 ≤ Rows.uptoBulk d := by
 cases d with
 | lit l => cases l <;> simp [Rows.uptoBulk]
 | _ => simp [Rows.uptoBulk]
theorem zsu {H : Type} : ∀ (l : List (DataW H)) d, d ∈ l → Rows.uptoBulk d ≤ Rows.uptoBulkAll l
 | [], d, h => by simp at h
 | e :: l, d, h => by
  simp only [Rows.uptoBulkAll]; rcases List.mem_cons.1 h with rfl | h
  · omega
  · have := zsu l d h; omega
theorem zye {H : Type} : ∀ (l : List (DataW H)), l.length ≤ Rows.uptoBulkAll l
 | [] => by simp
 | e :: l => by
  simp only [Rows.uptoBulkAll, List.length_cons]; have := zye l; have := z34 e; omega
theorem z56 : Bulk (fun {H} => Rows.uptoBulk (H := H)) where
 str := fun l => by simp [Rows.uptoBulk]
 len := fun es sp => by have := zye es; simp only [Rows.uptoBulk]; omega
 elem := fun es sp d h => by have := zsu es d h; simp only [Rows.uptoBulk]; omega
 part := fun es d h => by have := zsu es d h; simp only [Rows.uptoBulk]; omega
theorem z30 {t : Ty} {ts : List Ty} {es : List (Dyn U)} (h : es.map (·.ty) = t :: ts) : ∃ (x : den t) (es' : List (Dyn U)), es = ⟨t, x⟩ :: es' ∧ es'.map (·.ty) = ts := by
 cases es with
 | nil => simp at h
 | cons e es =>
  simp only [List.map_cons, List.cons.injEq] at h; obtain ⟨rfl, h2⟩ := h; exact ⟨e.val, es, rfl, h2⟩
end
end Go.Proofs.YtnpfkhdbmlhfhaaGreatDoor.M
