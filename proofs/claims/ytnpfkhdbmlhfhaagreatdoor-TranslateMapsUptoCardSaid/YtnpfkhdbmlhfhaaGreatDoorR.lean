/- Arguments that read as data are typed. -/
import Derived.Test.YtnpfkhdbmlhfhaaGreatDoorA4
import Derived.Test.YtnpfkhdbmlhfhaaGreatDoorU
import Derived.Test.YtnpfkhdbmlhfhaaGreatDoorRows
namespace Go.Proofs.YtnpfkhdbmlhfhaaGreatDoor.M
open Go Go.Amx
set_option linter.unusedVariables false
set_option maxRecDepth 100000
noncomputable section
def C0 : Ctx U := zqa [] [] [] [] [] [] [] []
theorem zwk : ze7 C0 9 Ty.str := z81 (by kernel_rfl) rfl fun n => ⟨n, rfl⟩
theorem zfr : ze7 C0 3 (Ty.int .i64) := z82 (k := .i64) (by kernel_rfl) rfl fun n => ⟨n, rfl⟩
theorem z2j : ze7 C0 51 Ty.DataType := zer zfz (ps := [(3, (Ty.int .i64)), (3, (Ty.int .i64)), (3, (Ty.int .i64))]) Proofs.Tryz.underlying51 (by kernel_rfl) (by kernel_rfl) rfl (all_cons zfr (all_cons zfr (all_cons zfr zdp))) fun y => ⟨⟨y.1, y.2.1, y.2.2⟩, rfl⟩
theorem z87 : ze7 C0 107 Ty.Value := zer zfz (ps := [(3, (Ty.int .i64)), (9, Ty.str)]) Proofs.Tryz.underlying107 (by kernel_rfl) (by kernel_rfl) rfl (all_cons zfr (all_cons zwk zdp)) fun y => ⟨⟨y.1, y.2⟩, rfl⟩
theorem z86 : ze7 C0 109 Ty.zH := zer zfz (ps := [(9, Ty.str), (3, (Ty.int .i64)), (51, Ty.DataType), (107, Ty.Value), (9, Ty.str), (3, (Ty.int .i64)), (3, (Ty.int .i64))]) Proofs.Tryz.underlying109 (by kernel_rfl) (by kernel_rfl) rfl (all_cons zwk (all_cons zfr (all_cons z2j (all_cons z87 (all_cons zwk (all_cons zfr (all_cons zfr zdp))))))) fun y => ⟨⟨y.1, y.2.1, y.2.2.1, y.2.2.2.1, y.2.2.2.2.1, y.2.2.2.2.2.1, y.2.2.2.2.2.2⟩, rfl⟩
theorem zaag : ze7 C0 56 (Ty.sl Ty.zH) := zlu zfz (e := 109) (by kernel_rfl) (by kernel_rfl) z86
theorem z6v : ze7 C0 43 (Ty.sl (Ty.int .i64)) := zlu zfz (e := 3) (by kernel_rfl) (by kernel_rfl) zfr
theorem z85 : ze7 C0 111 Ty.zK := zer zfz (ps := [(3, (Ty.int .i64)), (43, (Ty.sl (Ty.int .i64)))]) Proofs.Tryz.underlying111 (by kernel_rfl) (by kernel_rfl) rfl (all_cons zfr (all_cons z6v zdp)) fun y => ⟨⟨y.1, y.2⟩, rfl⟩
theorem zaaf : ze7 C0 57 (Ty.sl Ty.zK) := zlu zfz (e := 111) (by kernel_rfl) (by kernel_rfl) z85
theorem z83 : ze7 C0 129 Ty.zU := zer zfz (ps := [(3, (Ty.int .i64)), (3, (Ty.int .i64)), (3, (Ty.int .i64)), (3, (Ty.int .i64))]) Proofs.Tryz.underlying129 (by kernel_rfl) (by kernel_rfl) rfl (all_cons zfr (all_cons zfr (all_cons zfr (all_cons zfr zdp)))) fun y => ⟨⟨y.1, y.2.1, y.2.2.1, y.2.2.2⟩, rfl⟩
theorem zaae : ze7 C0 58 (Ty.sl Ty.zU) := zlu zfz (e := 129) (by kernel_rfl) (by kernel_rfl) z83
theorem zaad : ze7 C0 60 Ty.zD := zer zfz (ps := [(56, (Ty.sl Ty.zH)), (57, (Ty.sl Ty.zK)), (58, (Ty.sl Ty.zU))]) Proofs.Tryz.underlying60 (by kernel_rfl) (by kernel_rfl) rfl (all_cons zaag (all_cons zaaf (all_cons zaae zdp))) fun y => ⟨⟨y.1, y.2.1, y.2.2⟩, rfl⟩
theorem zwl : ze7 C0 4 Ty.bool := z7o (by kernel_rfl) rfl fun n => ⟨n, rfl⟩
theorem zaao : ze7 C0 23 Ty.zL := zer zfz (ps := [(3, (Ty.int .i64)), (4, Ty.bool), (4, Ty.bool)]) Proofs.Tryz.underlying23 (by kernel_rfl) (by kernel_rfl) rfl (all_cons zfr (all_cons zwl (all_cons zwl zdp))) fun y => ⟨⟨y.1, y.2.1, y.2.2⟩, rfl⟩
theorem zaan : ze7 C0 24 (Ty.sl Ty.bool) := zlu zfz (e := 4) (by kernel_rfl) (by kernel_rfl) zwl
theorem zaam : ze7 C0 26 Ty.Storage := zer zfz (ps := [(9, Ty.str), (24, (Ty.sl Ty.bool))]) Proofs.Tryz.underlying26 (by kernel_rfl) (by kernel_rfl) rfl (all_cons zwk (all_cons zaan zdp)) fun y => ⟨⟨y.1, y.2⟩, rfl⟩
theorem z6u : ze7 C0 49 Ty.zM := zer zfz (ps := [(4, Ty.bool), (3, (Ty.int .i64)), (3, (Ty.int .i64))]) Proofs.Tryz.underlying49 (by kernel_rfl) (by kernel_rfl) rfl (all_cons zwl (all_cons zfr (all_cons zfr zdp))) fun y => ⟨⟨y.1, y.2.1, y.2.2⟩, rfl⟩
theorem zaai : ze7 C0 53 Ty.Number := zer zfz (ps := [(3, (Ty.int .i64)), (3, (Ty.int .i64))]) Proofs.Tryz.underlying53 (by kernel_rfl) (by kernel_rfl) rfl (all_cons zfr (all_cons zfr zdp)) fun y => ⟨⟨y.1, y.2⟩, rfl⟩
theorem zaah : ze7 C0 55 Ty.zC := zer zfz (ps := [(3, (Ty.int .i64)), (3, (Ty.int .i64)), (3, (Ty.int .i64)), (3, (Ty.int .i64)), (3, (Ty.int .i64)), (49, Ty.zM), (49, Ty.zM), (51, Ty.DataType), (51, Ty.DataType), (4, Ty.bool), (4, Ty.bool), (53, Ty.Number), (9, Ty.str), (9, Ty.str), (3, (Ty.int .i64)), (3, (Ty.int .i64)), (3, (Ty.int .i64)), (3, (Ty.int .i64))]) Proofs.Tryz.underlying55 (by kernel_rfl) (by kernel_rfl) rfl (all_cons zfr (all_cons zfr (all_cons zfr (all_cons zfr (all_cons zfr (all_cons z6u (all_cons z6u (all_cons z2j (all_cons z2j (all_cons zwl (all_cons zwl (all_cons zaai (all_cons zwk (all_cons zwk (all_cons zfr (all_cons zfr (all_cons zfr (all_cons zfr zdp)))))))))))))))))) fun y => ⟨⟨y.1, y.2.1, y.2.2.1, y.2.2.2.1, y.2.2.2.2.1, y.2.2.2.2.2.1, y.2.2.2.2.2.2.1, y.2.2.2.2.2.2.2.1, y.2.2.2.2.2.2.2.2.1, y.2.2.2.2.2.2.2.2.2.1, y.2.2.2.2.2.2.2.2.2.2.1, y.2.2.2.2.2.2.2.2.2.2.2.1, y.2.2.2.2.2.2.2.2.2.2.2.2.1, y.2.2.2.2.2.2.2.2.2.2.2.2.2.1, y.2.2.2.2.2.2.2.2.2.2.2.2.2.2.1, y.2.2.2.2.2.2.2.2.2.2.2.2.2.2.2.1, y.2.2.2.2.2.2.2.2.2.2.2.2.2.2.2.2.1, y.2.2.2.2.2.2.2.2.2.2.2.2.2.2.2.2.2⟩, rfl⟩
theorem zaal : ze7 C0 27 (Ty.sl Ty.zC) := zlu zfz (e := 55) (by kernel_rfl) (by kernel_rfl) zaah
theorem z84 : ze7 C0 123 Ty.zR := zer zfz (ps := [(3, (Ty.int .i64)), (3, (Ty.int .i64)), (3, (Ty.int .i64)), (3, (Ty.int .i64))]) Proofs.Tryz.underlying123 (by kernel_rfl) (by kernel_rfl) rfl (all_cons zfr (all_cons zfr (all_cons zfr (all_cons zfr zdp)))) fun y => ⟨⟨y.1, y.2.1, y.2.2.1, y.2.2.2⟩, rfl⟩
theorem zaak : ze7 C0 28 (Ty.sl Ty.zR) := zlu zfz (e := 123) (by kernel_rfl) (by kernel_rfl) z84
theorem zaaj : ze7 C0 30 Ty.zI := zer zfz (ps := [(26, Ty.Storage), (27, (Ty.sl Ty.zC)), (28, (Ty.sl Ty.zR))]) Proofs.Tryz.underlying30 (by kernel_rfl) (by kernel_rfl) rfl (all_cons zaam (all_cons zaal (all_cons zaak zdp))) fun y => ⟨⟨y.1, y.2.1, y.2.2⟩, rfl⟩
theorem zaac : ze7 C0 62 Ty.zY := zer zfz (ps := [(43, (Ty.sl (Ty.int .i64)))]) Proofs.Tryz.underlying62 (by kernel_rfl) (by kernel_rfl) rfl (all_cons z6v zdp) fun y => ⟨⟨y⟩, rfl⟩
theorem zaab : ze7 C0 64 Ty.Translation := zer zfz (ps := [(23, Ty.zL), (30, Ty.zI), (62, Ty.zY)]) Proofs.Tryz.underlying64 (by kernel_rfl) (by kernel_rfl) rfl (all_cons zaao (all_cons zaaj (all_cons zaac zdp))) fun y => ⟨⟨y.1, y.2.1, y.2.2⟩, rfl⟩
theorem z9e : ParOk C0 (60, Ty.zD) := ⟨zaad, by kernel_rfl, ⟨_, Proofs.Tryz.underlying60, .inr (.inr (.inr (.inr ⟨_, rfl⟩)))⟩⟩
theorem z9d : ParOk C0 (64, Ty.Translation) := ⟨zaab, by kernel_rfl, ⟨_, Proofs.Tryz.underlying64, .inr (.inr (.inr (.inr ⟨_, rfl⟩)))⟩⟩
theorem z6k {H : Type} (d : DataW H) : 1 ≤ Rows.uptoBulk d := by
 cases d with
 | lit l => cases l <;> simp [Rows.uptoBulk]
 | _ => simp [Rows.uptoBulk]
theorem ztu {H : Type} : ∀ (l : List (DataW H)) d, d ∈ l → Rows.uptoBulk d ≤ Rows.uptoBulkAll l
 | [], d, h => by simp at h
 | e :: l, d, h => by
  simp only [Rows.uptoBulkAll]; rcases List.mem_cons.1 h with rfl | h
  · omega
  · have := ztu l d h; omega
theorem zz4 {H : Type} : ∀ (l : List (DataW H)), l.length ≤ Rows.uptoBulkAll l
 | [] => by simp
 | e :: l => by
  simp only [Rows.uptoBulkAll, List.length_cons]; have := zz4 l; have := z6k e; omega
theorem z8e : Bulk (fun {H} => Rows.uptoBulk (H := H)) where
 str := fun l => by simp [Rows.uptoBulk]
 len := fun es sp => by have := zz4 es; simp only [Rows.uptoBulk]; omega
 elem := fun es sp d h => by have := ztu es d h; simp only [Rows.uptoBulk]; omega
 part := fun es d h => by have := ztu es d h; simp only [Rows.uptoBulk]; omega
theorem zz2 {t : Ty} {ts : List Ty} {es : List (Dyn U)} (h : es.map (·.ty) = t :: ts) : ∃ (x : den t) (es' : List (Dyn U)), es = ⟨t, x⟩ :: es' ∧ es'.map (·.ty) = ts := by
 cases es with
 | nil => simp at h
 | cons e es =>
  simp only [List.map_cons, List.cons.injEq] at h; obtain ⟨rfl, h2⟩ := h; exact ⟨e.val, es, rfl, h2⟩
end
end Go.Proofs.YtnpfkhdbmlhfhaaGreatDoor.M
