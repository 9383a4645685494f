/- InterpretSteps: the law answers true for every input of bulk at most 1048576, and its arguments read as they did; by the seat's second form, tied to the program's text. -/
import Derived.Test.YtmifhmfokbigiaaGreatDoorPInterpretStepsx1
import Derived.Test.YtmifhmfokbigiaaGreatDoorWInterpretSteps
namespace Go.Proofs.YtmifhmfokbigiaaGreatDoor.M
open Go Go.Amx
set_option linter.unusedVariables false
set_option linter.unusedSimpArgs false
set_option maxRecDepth 100000
noncomputable section
section
variable {p : zB} {s : zC}
theorem z45 (h : ProgV p) : 0 ≤ zme p.zA ∧ zme p.zA ≤ 24 := by
 have := z3p h
 have := h.quads
 omega
theorem z64 (N : Nat) (hN : 20000 < N) (h : ProgV p) (hc : (zqb p).2 = 0) : zga N p = some (zt8 p.zA, zme p.zA, 0) := by
 unfold zga
 rw [zagb N (by omega), hc, z63 N (by omega) h.ok]
 rfl
theorem zaac {n : Nat} (h : Wft En n Ty.zB p) : p.zA.length ≤ n ∧ p.zF.length ≤ n ∧ p.zL.length ≤ n ∧ ∀ x ∈ p.zF, x.Args.length ≤ n := by
 have h1 := h (.lst Ty.zG p.zA) (by show _ ∈ znd p; simp [znd])
 have h2 := h (.lst Ty.zI p.zF) (by show _ ∈ znd p; simp [znd])
 have h3 := h (.lst Ty.zN p.zL) (by show _ ∈ znd p; simp [znd])
 cases h1 with
 | lst h1 _ =>
  cases h2 with
  | lst h2 h2' =>
   cases h3 with
   | lst h3 _ =>
    refine ⟨h1, h2, h3, fun x hx => ?_⟩; have h4 := h2' x hx (.lst (Ty.int .i64) x.Args) (by show _ ∈ zqx x; simp [zqx]); cases h4 with
    | lst h4 _ => exact h4
theorem zrw {n : Nat} (h : n ≤ 1000000000) : Nat.ble n zbr = true := Nat.ble_eq_true_of_le (by unfold zbr; omega)
theorem zadt (N : Nat) (hN : 1048600 < N) (hp : Wft En 1048576 Ty.zB p) : zgj N p = some p := by
 obtain ⟨w1, w2, w3, w4⟩ := zaac hp
 unfold zgj
 rw [zrw (by omega), zrw (by omega)]
 simp only [ctr]
 have l1 := za1 (f := zgj.r0 N) (fun i => ((i : Int), p, (⟨[], [], []⟩ : zB), (⟨p.zA, p.zF.take i, p.zL⟩ : zB))) p.zF.length
  (fun i hi => by
   have hx := lge hi; have ha := w4 _ (List.getElem_mem hi); simp only [zgj.r0, zgj.b0, zai, hx, obs, dct (show (i : Int) < (p.zF.length : Int) by omega), ctr, ziv, zrw (show p.zF[i].Args.length * 8 ≤ 1000000000 by omega)]; rw [zrw (by rw [lnt]; simp only [lnc, ln0]; omega), ctr, w6e, ← List.take_append_getElem hi]; rfl)
  (by simp only [zgj.r0, zgj.b0, dcf (show ¬ (p.zF.length : Int) < (p.zF.length : Int) by omega), cfa]) (N := N) (by omega)
 simp only [nc0, List.take_zero] at l1
 rw [l1, obs, List.take_length]
theorem zahw (N : Nat) (hN : 1048600 < N) (hp : Wft En 1048576 Ty.zB p) : ∃ b, zct N p = some b := by
 obtain ⟨w1, w2, w3, w4⟩ := zaac hp
 unfold zct
 simp only [orB, obs]
 cases (decide ((p.zA.length : Int) > 28) || decide ((p.zF.length : Int) > 44)) || decide ((p.zL.length : Int) > 9) with
 | true => exact ⟨_, rfl⟩
 | false =>
  simp only [cfa]; have l1 := zta (f := zct.r0 N) (fun i t => t = ((i : Int), p)) (fun r => True) p.zA.length
   (fun i t hi ht => by
    subst ht; have hx := lge hi; simp only [zct.r0, zct.b0, zai, hx, obs, dct (show (i : Int) < (p.zA.length : Int) by omega), ctr, orB]; rw [w6e (n := (i : Int) + 1)]; cases (decide ((p.zA[i].Name.size : Int) > 100) || decide ((p.zA[i].Base.size : Int) > 100)) || decide ((p.zA[i].Value.S.size : Int) > 600) with
    | true => exact .inr ⟨_, rfl, trivial⟩
    | false => exact .inl ⟨_, rfl, rfl⟩)
   (fun t ht => by
    subst ht; simp only [zct.r0, zct.b0, dcf (show ¬ (p.zA.length : Int) < (p.zA.length : Int) by omega), cfa]; exact ⟨_, rfl, rfl⟩) (N := N) (by omega) (s := (0, p)) rfl
  rcases l1 with ⟨t, g1, g2⟩ | ⟨r, g1, _⟩
  · rw [g1, g2]; simp only [obs, zb5]; have l2 := zta (f := zct.r2 N) (fun i t => t = ((i : Int), p)) (fun r => True) p.zF.length
     (fun i t hi ht => by
      subst ht; have hx := lge hi; simp only [zct.r2, zct.b2, zai, hx, obs, dct (show (i : Int) < (p.zF.length : Int) by omega), ctr]; rw [w6e (n := (i : Int) + 1)]; cases decide ((p.zF[i].Args.length : Int) > 6) with
      | true => exact .inr ⟨_, rfl, trivial⟩
      | false => exact .inl ⟨_, rfl, rfl⟩)
     (fun t ht => by
      subst ht; simp only [zct.r2, zct.b2, dcf (show ¬ (p.zF.length : Int) < (p.zF.length : Int) by omega), cfa]; exact ⟨_, rfl, rfl⟩) (N := N) (by omega) (s := (0, p)) rfl
    rcases l2 with ⟨t, g3, _⟩ | ⟨r, g3, _⟩
    · rw [g3]; exact ⟨_, rfl⟩
    · rw [g3]; exact ⟨_, rfl⟩
  · rw [g1]; exact ⟨_, rfl⟩
theorem z74 (N : Nat) (l : List ByteArray) (h : l.length < N) (hl : l.length < 1000000) : zc2 N l l = some true := by
 unfold zc2
 simp only [bsf, cfa]
 have l1 := zbh (f := zc2.r0 N) (fun i => (l, l, (i : Int))) (fun _ => none) l.length
  (fun i hi => by
   have hx := lge hi; simp only [zc2.r0, zc2.b0, zai, hx, obs, dct (show (i : Int) < (l.length : Int) by omega), ctr, bst, bnt, cfa]; rw [w6e]; rfl)
  (by simp only [zc2.r0, zc2.b0, dcf (show ¬ (l.length : Int) < (l.length : Int) by omega), cfa]) h
 simp only [nc0] at l1
 rw [l1]
 have : ∀ l : List Nat, l.findSome? (fun _ => (none : Option Bool)) = none := fun l => by rw [List.findSome?_eq_none_iff]; intros; rfl
 rw [this]
 rfl
theorem zag0 : zq8 2000000 = some true := by kernel_rfl
end
theorem z8g (p : Nat → Bool) (n : Nat) {R : Type} (r : Nat → R) : (List.range n).any p = ((List.range n).findSome? fun i => if p i = true then some (r i) else none).isSome := by
 induction List.range n with
 | nil => rfl
 | cons a l ih =>
  rw [List.any_cons, List.findSome?_cons]; cases h : p a with
  | true => simp
  | false => simpa using ih
theorem z9h {σ : Type} {f : σ → Option (Round Int σ)} (S : Nat → σ) (p : Nat → Bool) (n : Nat) (h : ∀ i, i < n → f (S i) = some (if p i = true then .result (i : Int) else .again (S (i + 1)))) (hl : f (S n) = some (.leave (S n))) {N : Nat} (hN : n < N) :
 (((zj f N (S 0)).bind fun z2 => zb5 z2 (fun z => some z) (fun _ => some (-1))).bind fun r1 => some (decide (r1 ≥ 0))) = some ((List.range n).any p) := by
 have l1 := zbh (f := f) S (fun i => if p i = true then some (i : Int) else none) n (fun i hi => by rw [h i hi]; cases p i <;> rfl) hl hN
 rw [l1, z8g p n (fun i => (i : Int))]
 cases h2 : (List.range n).findSome? (fun i => if p i = true then some (i : Int) else none) with
 | none => rfl
 | some r =>
  obtain ⟨i, _, hi⟩ := eof h2; split at hi
  · injection hi with hi; subst hi; simp only [obs, zb5, Option.isSome_some]; rw [dct (by omega)]
  · cases hi
theorem z8o {σ : Type} {R : Type} {f : σ → Option (Round R σ)} (S : Nat → σ) (p : Nat → Bool) (e : R) (n : Nat) (h : ∀ i, i < n → f (S i) = some (if p i = true then .result e else .again (S (i + 1)))) (hl : f (S n) = some (.leave (S n))) {N : Nat} (hN : n < N) (K : σ → Option R) :
 ((zj f N (S 0)).bind fun z => zb5 z (fun z => some z) K) = if (List.range n).any p = true then some e else K (S n) := by
 have l1 := zbh (f := f) S (fun i => if p i = true then some e else none) n (fun i hi => by rw [h i hi]; cases p i <;> rfl) hl hN
 rw [l1, z8g p n (fun i => e)]
 cases h2 : (List.range n).findSome? (fun i => if p i = true then some e else none) with
 | none => rfl
 | some r =>
  obtain ⟨i, _, hi⟩ := eof h2; split at hi
  · injection hi with hi; subst hi; rfl
  · cases hi
def zfm (t : List Bool) : Nat → List Int
 | 0 => []
 | i + 1 => if t.getD i false = true then zfm t i ++ [(i : Int) * 16] else zfm t i
theorem zwr (t : List Bool) : ∀ i, (zfm t i).length ≤ i
 | 0 => Nat.le_refl 0
 | i + 1 => by
  have := zwr t i; unfold zfm; split
  · rw [lna, lns]; omega
  · omega
theorem z35 (t : List Bool) (o : Int) : ∀ i, o ∈ zfm t i ↔ ∃ k : Nat, k < i ∧ t.getD k false = true ∧ o = (k : Int) * 16
 | 0 => by simp [zfm]
 | i + 1 => by
  have ih := z35 t o i; unfold zfm; constructor
  · intro h; split at h
    · rename_i hi; rcases List.mem_append.1 h with h | h
      · obtain ⟨k, h1, h2⟩ := ih.1 h; exact ⟨k, by omega, h2⟩
      · rw [List.mem_singleton] at h; exact ⟨i, by omega, hi, h⟩
    · obtain ⟨k, h1, h2⟩ := ih.1 h; exact ⟨k, by omega, h2⟩
  · rintro ⟨k, h1, h2, h3⟩
    by_cases hk : k = i
    · subst hk; rw [ifp h2]; exact List.mem_append_right _ (by rw [h3]; exact List.mem_singleton_self _)
    · have := ih.2 ⟨k, by omega, h2, h3⟩; split
      · exact List.mem_append_left _ this
      · exact this
structure StoW (s : Storage) : Prop where
 le : s.Bytes.size ≤ 1024
 quad : s.Bytes.size % 16 = 0
 tags : s.Tags.length = s.Bytes.size / 16
 err : zrv s = ((s.Tags.length : Int), 0)
 ptr : ∀ i, s.Tags[i]? = some true → (zmc (zmo s i)).2 = 0
theorem z5v {s : Storage} (h : (zrv s).2 = 0) : StoW s := by
 have h0 := h
 unfold zrv at h0
 split at h0
 · cases h0
 split at h0
 · cases h0
 split at h0
 · cases h0
 rename_i a1 a2 a3
 have ht : s.Tags.length = s.Bytes.size / 16 := cbc a3
 cases hf : (List.range s.Tags.length).findSome? (gS s) with
 | some r =>
  rw [hf] at h0; obtain ⟨i, _, hi⟩ := eof hf; unfold gS at hi; cases hx : s.Tags[i]? with
  | none => rw [hx] at hi; cases hi
  | some b =>
   rw [hx] at hi; simp only [obs] at hi; split at hi
   · injection hi with hi; subst hi; cases h0
   · cases hi
 | none =>
  refine ⟨by omega, by omega, ht, ?_, fun i hi => ?_⟩
  · unfold zrv; rw [ifn a1, ifn a2, ifn a3, hf]
  · rw [List.findSome?_eq_none_iff] at hf; have hl := (gei hi).1; have := hf i (List.mem_range.2 hl); unfold gS at this; rw [hi] at this; simp only [obs] at this; split at this
    · cases this
    · rename_i h5; exact cbc fun h6 => h5 ⟨trivial, h6⟩
def z4g (s : Storage) (o : Int) : Bool := (zmc (zmo s (o / 16).toNat)).1.Kind != 0 || (zmc (zmo s (o / 16).toNat)).1.Address.zT != 1
theorem z6m (s : Storage) (k : Nat) : ((zmc (zmo s k)).1.Kind != 0 || (zmc (zmo s k)).1.Address.zT != 1) = z4g s ((k : Int) * 16) := by
 unfold z4g
 rw [show ((k : Int) * 16 / 16).toNat = k by omega]
theorem z92 (N : Nat) (s : Storage) (h : s.Tags.length ≤ 64) (hN : 2000 < N) : zcw N s = some (zfm s.Tags s.Tags.length) := by
 unfold zcw
 have l1 := za1 (f := zcw.r0 N) (fun i => (zfm s.Tags i, (i : Int), s)) s.Tags.length
  (fun i hi => by
   have hx := lge hi; have hg : s.Tags.getD i false = s.Tags[i] := by rw [gdd, hx]; rfl
   have := zwr s.Tags i; have rm : Nat.ble (((zfm s.Tags i).length + ([(w6 ((i : Int) * 16))] : List Int).length) * 8) zbr = true := Nat.ble_eq_true_of_le (by unfold zbr; simp; omega); simp only [zcw.r0, zcw.b0, zai, hx, obs, dct (show (i : Int) < (s.Tags.length : Int) by omega), ctr, rm]; rw [w6e (n := (i : Int) + 1), w6e (n := (i : Int) * 16), zfm, hg]; cases s.Tags[i] <;> rfl)
  (by simp only [zcw.r0, zcw.b0, dcf (show ¬ (s.Tags.length : Int) < (s.Tags.length : Int) by omega), cfa]) (N := N) (by omega)
 simp only [nc0] at l1
 exact congrArg (fun z => z.bind fun y1 => some y1.1) l1
theorem z9z (N : Nat) (s : Storage) (h : StoW s) (hN : 2000 < N) : zbo N s = some (zfm s.Tags s.Tags.length, 0) := by
 have hle := h.le
 have htg := h.tags
 unfold zbo
 rw [(zru N hN s).1, h.err]
 simp only [obs, bsf, cfa]
 have l1 := za1 (f := zbo.r0 N) (fun i => (zfm s.Tags i, s.Tags, (s.Tags.length : Int), (i : Int))) s.Tags.length
  (fun i hi => by
   have hx := lge hi; have hg : s.Tags.getD i false = s.Tags[i] := by rw [gdd, hx]; rfl
   have := zwr s.Tags i; have rm : Nat.ble (((zfm s.Tags i).length + ([(w6 ((i : Int) * 16))] : List Int).length) * 8) zbr = true := Nat.ble_eq_true_of_le (by unfold zbr; simp; omega); simp only [zbo.r0, zbo.b0, zai, hx, obs, dct (show (i : Int) < (s.Tags.length : Int) by omega), ctr, rm]; rw [w6e (n := (i : Int) + 1), w6e (n := (i : Int) * 16), zfm, hg]; cases s.Tags[i] <;> rfl)
  (by simp only [zbo.r0, zbo.b0, dcf (show ¬ (s.Tags.length : Int) < (s.Tags.length : Int) by omega), cfa]) (N := N) (by omega)
 simp only [nc0] at l1
 exact congrArg (fun z => z.bind fun y1 => some (y1.1, (0 : Int))) l1
theorem zac8 (N : Nat) (hN : 2000 < N) {s : Storage} (h : StoW s) {k : Nat} (hk : s.Tags[k]? = some true) : zdw N s ((k : Int) * 16) = some (zmc (zmo s k)) := by
 have hl := h.le
 have hq := h.quad
 have ht := h.tags
 have hi := (gei hk).1
 unfold zdw zjr
 rw [(zru N hN s).1, h.err]
 simp only [obs, bsf, cfa]
 rw [dcf (show ¬ (k : Int) * 16 < 0 by omega), dcf (show ¬ (k : Int) * 16 ≥ (s.Bytes.size : Int) by omega), tme, show ((k : Int) * 16) % 16 = 0 by omega]
 simp only [bsf, cfa, obs]
 rw [tde, show ((k : Int) * 16) / 16 = (k : Int) by omega, w6e (n := (k : Int)), zai, hk]
 simp only [obs, bnt, cfa]
 rw [w6e, ifp, ifp, show ((k : Int) * 16).toNat = 16 * k by omega, show ((k : Int) * 16 + 16).toNat = 16 * k + 16 by omega, z8a N (by omega) _ (by rw [zdc _ _ _ (by omega) (by omega)]; omega), zoh]
 rfl
theorem zadl (N : Nat) (hN : 2000 < N) {s : Storage} (h : StoW s) {k : Nat} (hk : s.Tags[k]? = some true) : zfw N s ((k : Int) * 16) = some ((zmc (zmo s k)).1, 0) := by
 have hl := h.le
 have hq := h.quad
 have ht := h.tags
 have hi := (gei hk).1
 unfold zfw zl4
 rw [zie, w6e, tme, show ((k : Int) * 16) % 16 = 0 by omega, show inB ((k : Int) * 16) 0 ((s.Bytes.size : Int) - 16) = true by unfold inB; rw [dct (by omega), dct (by omega)]; rfl]
 simp only [obs, bst, ctr, bnt, cfa]
 rw [tde, show ((k : Int) * 16) / 16 = (k : Int) by omega, w6e (n := (k : Int)), zai, hk]
 simp only [obs, bnt, cfa]
 unfold zk7
 rw [w6e (n := (k : Int) * 16), w6e, ifp, ifp, show ((k : Int) * 16).toNat = 16 * k by omega, show ((k : Int) * 16 + 16).toNat = 16 * k + 16 by omega]
 simp only [obs]
 rw [z8l N (by omega) _ (by rw [zdc _ _ _ (by omega) (by omega)]; omega), zoh]
 rfl
theorem z82 {s : Storage} {i : Nat} (h : i < (zfm s.Tags s.Tags.length).length) : ∃ k : Nat, s.Tags[k]? = some true ∧ (zfm s.Tags s.Tags.length)[i] = (k : Int) * 16 := by
 obtain ⟨k, h1, h2, h3⟩ := (z35 s.Tags _ _).1 (List.getElem_mem h)
 refine ⟨k, ?_, h3⟩
 rw [gdd, lge h1] at h2
 rw [lge h1]
 exact congrArg some h2
def z9y (s : Storage) : Bool := (List.range (zfm s.Tags s.Tags.length).length).any fun i => z4g s ((zfm s.Tags s.Tags.length).getD i 0)
theorem zaco {α : Type} (d : α) {l : List α} {k : Int} (h : inB k 0 ((l.length : Int) - 1) = true) : idx l k = some (l.getD k.toNat d) := by
 unfold inB at h
 rw [Bool.and_eq_true, decide_eq_true_iff, decide_eq_true_iff] at h
 obtain ⟨j, rfl⟩ : ∃ j : Nat, k = (j : Int) := ⟨k.toNat, by omega⟩
 rw [zai, itn, gdd, lge (by omega)]
 rfl
def anyL (l : List ByteArray) : Bool := (List.range l.length).any fun i => decide (((l.getD i ⟨#[]⟩).size : Int) > 256)
theorem zst {α : Type} (d : α) {l : List α} {i : Nat} (h : i < l.length) : l.getD i d = l[i] := by
 rw [gdd, lge h]; rfl
theorem zp9 (x : Int) (l : List Int) : zhe (x :: l) = if x = 0 then zhe l else x := rfl
theorem z7j : ∀ (l : List Int), zhe l = 0 ↔ ∀ x ∈ l, x = 0
 | [] => by simp [zhe]
 | x :: l => by
  rw [zp9, List.forall_mem_cons, ← z7j l]
  by_cases h : x = 0
  · rw [ifp h]; exact ⟨fun h1 => ⟨h, h1⟩, fun h1 => h1.2⟩
  · rw [ifn h]; exact ⟨fun h1 => absurd h1 h, fun h1 => h1.1⟩
theorem z17 {p : Nat → Bool} {n : Nat} (h : (List.range n).any p = false) {i : Nat} (hi : i < n) : p i = false := by
 rw [List.any_eq_false] at h
 exact Bool.eq_false_iff.2 (h i (List.mem_range.2 hi))
theorem zae3 {l : List UInt8} (h : (zmc l).2 = 0) : zmc l = (zwo l, 0) ∧ zr1 (zwo l) = 0 := by
 unfold zmc at h ⊢
 split at h
 · cases h
 · rename_i h1; rw [ifn h1]; split at h
   · rename_i h2; exact absurd h h2
   · rename_i h2; rw [ifn h2]; exact ⟨rfl, cbc h2⟩
theorem zaeb {p : Pointer} (h : zr1 p = 0) (hk : p.Kind = 0) (hs : p.Address.zT = 1) : p = zka p.Address.Offset ∧ 0 ≤ p.Address.Offset ∧ p.Address.Offset ≤ 16777215 := by
 obtain ⟨k, ⟨g, o⟩, a⟩ := p
 subst hk hs
 unfold zr1 at h
 simp only at h ⊢
 rw [show inB (0 : Int) 0 2 = true from rfl, show inB (1 : Int) 0 1099511627775 = true from rfl] at h
 simp only [bnt, cfa, Bool.false_or, Bool.and_true, show ((0 : Int) != 1) = true from rfl] at h
 cases h1 : inB o 0 16777215 with
 | false => rw [h1] at h; cases h
 | true =>
  rw [h1] at h; cases h2 : inB a 0 1023 with
  | false => rw [h2] at h; cases h
  | true =>
   rw [h2] at h
   by_cases h3 : a = 0
   · subst h3; rw [zbj] at h1; exact ⟨rfl, h1.1, h1.2⟩
   · rw [zd1, dct h3] at h; cases h
theorem zac9 {s : Storage} {k : Nat} (h : s.Tags[k]? = some true) : ∃ i, i < (zfm s.Tags s.Tags.length).length ∧ (zfm s.Tags s.Tags.length).getD i 0 = (k : Int) * 16 := by
 have hl := (gei h).1
 have hm : (k : Int) * 16 ∈ zfm s.Tags s.Tags.length := (z35 _ _ _).2 ⟨k, hl, by rw [gdd, h]; rfl, rfl⟩
 obtain ⟨i, hi, he⟩ := List.getElem_of_mem hm
 exact ⟨i, hi, by rw [zst _ hi, he]⟩
theorem cnd0 {b : Bool} {e : Int} (he : e ≠ 0) : cond b e 0 = 0 ↔ b = false := by
 cases b
 · simp
 · simp [he]
theorem zabz (N : Nat) (l : List Int) (h : l.length < N) (hl : l.length < 1000000000) : zgn N l l = some true := by
 unfold zgn
 simp only [bsf, cfa]
 have l1 := zbh (f := zgn.r0 N) (fun i => (l, l, (i : Int))) (fun _ => none) l.length
  (fun i hi => by
   have hx := lge hi; simp only [zgn.r0, zgn.b0, zai, hx, obs, dct (show (i : Int) < (l.length : Int) by omega), ctr, bsf, cfa]; rw [w6e]; rfl)
  (by simp only [zgn.r0, zgn.b0, dcf (show ¬ (l.length : Int) < (l.length : Int) by omega), cfa]) h
 simp only [nc0] at l1
 rw [l1]
 have : ∀ l : List Nat, l.findSome? (fun _ => (none : Option Bool)) = none := fun l => by rw [List.findSome?_eq_none_iff]; intros; rfl
 rw [this]
 rfl
theorem zaa3 (N : Nat) (l : List Bool) (h : l.length < N) (hl : l.length < 1000000) : zfb N l l = some true := by
 unfold zfb
 simp only [bsf, cfa]
 have l1 := zbh (f := zfb.r0 N) (fun i => (l, l, (i : Int))) (fun _ => none) l.length
  (fun i hi => by
   have hx := lge hi; simp only [zfb.r0, zfb.b0, zai, hx, obs, dct (show (i : Int) < (l.length : Int) by omega), ctr, bst, bnt, cfa]; rw [w6e]; rfl)
  (by simp only [zfb.r0, zfb.b0, dcf (show ¬ (l.length : Int) < (l.length : Int) by omega), cfa]) h
 simp only [nc0] at l1
 rw [l1]
 have : ∀ l : List Nat, l.findSome? (fun _ => (none : Option Bool)) = none := fun l => by rw [List.findSome?_eq_none_iff]; intros; rfl
 rw [this]
 rfl
theorem zadd (N : Nat) (s : Storage) (h : s.Tags.length < N) (hl : s.Tags.length < 1000000) : zke N s s = some true := by
 unfold zke
 rw [bst, ctr, zaa3 N _ h hl]
 rfl
section
variable {p : zB} {s : zC}
def fitM (s : zC) : Prop := s.Storage.Bytes.size ≤ 1048576 ∧ s.Storage.Tags.length ≤ 1048576 ∧ s.Stack.length ≤ 1048576 ∧ s.Lines.length ≤ 1048576
def zw3 (p : zB) (k : Int) : Bool := !inB k 0 ((p.zF.length : Int) - 1) || (p.zF.getD k.toNat ⟨0, []⟩).Op != 13
def anyM (p : zB) (l : List Int) : Bool := (List.range l.length).any fun i => zw3 p (l.getD i 0)
def ztw (p : zB) (t : Storage) : Int := if (t.Bytes.size : Int) ≠ 16 * zme p.zA then 18 else if (zrv t).2 ≠ 0 then (zrv t).2 else cond (z9y t) 22 0
def lstM (p : zB) (s : zC) : List Int := [cond (!inB s.At 0 ((p.zF.length : Int) - 1)) 3 0,
 cond (decide ((s.Stack.length : Int) > 6) || decide ((s.Lines.length : Int) > 40)) 2 0, cond (anyM p s.Stack) 3 0, cond (anyL s.Lines) 18 0, cond (!inB s.Status 0 3) 4 0,
 cond (!(inB s.Exception 0 999 && inB s.Steps 0 300)) 3 0]
def z13 (p : zB) (s : zC) : Int := if (zqb p).2 ≠ 0 then (zqb p).2 else if ztw p s.Storage ≠ 0 then ztw p s.Storage else zhe (lstM p s)
theorem zabu {t : Storage} (h : ztw p t = 0) : StoP p t := by
 unfold ztw at h
 split at h
 · cases h
 rename_i h1
 split at h
 · rename_i h2; exact absurd h h2
 rename_i h2
 have hw := z5v (cbc h2)
 cases h3 : z9y t with
 | true => rw [h3] at h; cases h
 | false =>
  refine ⟨⟨hw.le, hw.quad, hw.tags, fun i hi => ?_⟩, by omega⟩; obtain ⟨j, j1, j2⟩ := zac9 hi; have hb := z17 h3 j1; rw [j2, ← z6m, Bool.or_eq_false_iff] at hb; obtain ⟨p1, p2⟩ := zae3 (hw.ptr i hi); rw [p1, zd1, zd1, decide_eq_false_iff_not, decide_eq_false_iff_not] at hb; obtain ⟨c1, c2⟩ := zaeb p2 (cbc hb.1) (cbc hb.2); exact ⟨_, c2, by rw [p1, ← c1]⟩
theorem zaee (p : zB) (k : Int) : zw3 p k = false ↔ (0 ≤ k ∧ k < (p.zF.length : Int)) ∧ ∃ x, p.zF[k.toNat]? = some x ∧ x.Op = 13 := by
 unfold zw3
 rw [Bool.or_eq_false_iff, Bool.not_eq_false', zbj, zd1, decide_eq_false_iff_not, Classical.not_not]
 constructor
 · rintro ⟨h1, h2⟩
   have hl : k.toNat < p.zF.length := by omega
   rw [zst _ hl] at h2; exact ⟨by omega, _, lge hl, h2⟩
 · rintro ⟨h1, x, h2, h3⟩
   refine ⟨by omega, ?_⟩; rw [gdd, h2]; exact h3
theorem zacr (h : z13 p s = 0) : (zqb p).2 = 0 ∧ StI p s := by
 unfold z13 at h
 split at h
 · rename_i h1; exact absurd h h1
 rename_i h1
 split at h
 · rename_i h2; exact absurd h h2
 rename_i h2
 rw [z7j] at h
 simp only [lstM, List.forall_mem_cons, List.not_mem_nil, false_imp_iff, implies_true, and_true] at h
 obtain ⟨a3, a4, a5, a6, a7, a8⟩ := h
 rw [cnd0 (by decide)] at a3 a4 a5 a6 a7 a8
 rw [Bool.not_eq_false'] at a3 a7 a8
 rw [Bool.or_eq_false_iff, decide_eq_false_iff_not, decide_eq_false_iff_not] at a4
 rw [Bool.and_eq_true, zbj, zbj] at a8
 rw [zbj] at a3 a7
 refine ⟨cbc h1, {
  sto := zabu (cbc h2)
  at0 := a3.1
  at1 := by omega
  stk := by omega
  calls := fun k hk => by
   obtain ⟨i, hi, he⟩ := List.getElem_of_mem hk; have := z17 a5 hi; rw [zst _ hi, he] at this; exact (zaee p k).1 this
  lines := by omega
  long := fun l hl => by
   obtain ⟨i, hi, he⟩ := List.getElem_of_mem hl; have := z17 a6 hi; rw [zst _ hi, he, decide_eq_false_iff_not] at this; omega
  st0 := a7.1
  st1 := a7.2
  ex0 := a8.1.1
  ex1 := a8.1.2
  sp0 := a8.2.1
  sp1 := a8.2.2 }⟩
end
section
variable {p : zB} {s : zC}
theorem zwh (b : Bool) (e : Int) : zc3 b e = some (cond b e 0) := by cases b <;> rfl
theorem zafa (N : Nat) (hN : 1100 < N) (p : zB) : zht N p = some (zqb p).2 := by
 unfold zht
 rw [z8y N hN]
 rfl
theorem zww (N : Nat) (l : List Int) (h : l.length < N) (hl : l.length < 1000000000) : zaj N l = some (zhe l) := by
 unfold zaj
 have := zbh (f := zaj.r0 N) (fun i => (l, (l.length : Int), (i : Int))) (fun i => (l[i]?).bind fun x => if x = 0 then none else some x) l.length
  (fun i hi => by
   have hx := lge hi; simp only [zaj.r0, zaj.b0, zai, hx, obs, dct (show (i : Int) < (l.length : Int) by omega), ctr]
   by_cases h0 : l[i] = 0
   · simp only [h0, bsf, cfa, if_true]; rw [w6e]; rfl
   · simp only [h0, if_false]; rw [show (l[i] != 0) = true by simpa using h0]; rfl)
  (by simp only [zaj.r0, zaj.b0, dcf (show ¬ (l.length : Int) < (l.length : Int) by omega), cfa]) h
 simp only [nc0] at this
 rw [this, zmh, ← zot]
 simp only [obs]
 cases l.findSome? (fun x => if x = 0 then none else some x) <;> rfl
end
section
variable {p : zB} {s : zC}
def z78 (s : zC) (i : Nat) : Option Bool := (s.Lines[i]?).bind fun l => if decide ((l.size : Int) > 300) = true then some false else none
def fewM (s : zC) : Bool := match (List.range (min s.Lines.length 44)).findSome? (z78 s) with
 | some r => r
 | none => (((decide ((s.Storage.Bytes.size : Int) ≤ 480) && decide ((s.Storage.Tags.length : Int) ≤ 30)) && decide ((s.Stack.length : Int) ≤ 9)) && decide ((s.Lines.length : Int) < 44))
theorem zahv (N : Nat) (hN : 1000 < N) (s : zC) : zgm N s = some (fewM s) := by
 unfold zgm fewM
 have l1 := zbh (f := zgm.r0 N) (fun i => ((i : Int), s)) (z78 s) (min s.Lines.length 44)
  (fun i hi => by
   have hlt : i < s.Lines.length := by omega
   have hx := lge hlt; simp only [zgm.r0, zgm.b0, zxw, obs, dct (show (i : Int) < (s.Lines.length : Int) by omega), dct (show (i : Int) < 44 by omega), Bool.and_self, ctr, zai, hx, z78]; rw [w6e (n := (i : Int) + 1)]; cases (decide ((s.Lines[i].size : Int) > 300)) <;> rfl)
  (by
   have e : (decide (((min s.Lines.length 44 : Nat) : Int) < (s.Lines.length : Int)) && decide (((min s.Lines.length 44 : Nat) : Int) < 44)) = false := by
    by_cases h : s.Lines.length < 44
    · rw [dcf (show ¬ ((min s.Lines.length 44 : Nat) : Int) < (s.Lines.length : Int) by omega)]; rfl
    · rw [dcf (show ¬ ((min s.Lines.length 44 : Nat) : Int) < 44 by omega)]; simp
   simp only [zgm.r0, zgm.b0, zxw, obs, e, cfa]) (N := N) (by omega)
 simp only [nc0] at l1
 rw [l1]
 cases (List.range (min s.Lines.length 44)).findSome? (z78 s) with
 | some r => rfl
 | none =>
  simp only [obs, zb5, zxw]
theorem zaf5 (N : Nat) (hN : 100000 < N) (s : zC) (h2 : s.Stack.length < 100000) (h3 : s.Lines.length < 100000) (h4 : s.Storage.Tags.length < 100000) : zo2 N s s = some true := by
 unfold zo2
 rw [zadd N _ (by omega) (by omega)]
 simp only [obs, ctr, bst]
 rw [zabz N _ (by omega) (by omega)]
 simp only [obs, ctr]
 rw [z74 N _ (by omega) (by omega)]
 rfl
theorem zade (N : Nat) (hN : 100000 < N) (hs : StI p s) : zo2 N s s = some true := by
 have a2 := hs.stk
 have a3 := hs.lines
 have a4 := hs.sto.sto.le
 have a5 := hs.sto.sto.tags
 exact zaf5 N hN s (by omega) (by omega) (by omega)
end
section
variable {p : zB} {s : zC}
theorem zabw {n : Nat} (h : Wft En n Ty.zC s) : s.Storage.Bytes.size ≤ n ∧ s.Storage.Tags.length ≤ n ∧ s.Stack.length ≤ n ∧ s.Lines.length ≤ n := by
 have h1 := h (.sc (.string s.Storage.Bytes)) (by show _ ∈ znv s; simp [znv])
 have h2 := h (.lst Ty.bool s.Storage.Tags) (by show _ ∈ znv s; simp [znv])
 have h4 := h (.lst (Ty.int .i64) s.Stack) (by show _ ∈ znv s; simp [znv])
 have h5 := h (.lst Ty.str s.Lines) (by show _ ∈ znv s; simp [znv])
 cases h1 with
 | str h1 =>
  cases h2 with
  | lst h2 _ =>
   cases h4 with
   | lst h4 _ =>
    cases h5 with
    | lst h5 _ => exact ⟨h1, h2, h4, h5⟩
theorem zae7 (hs : fitM s) : zkl s = some s := by
 obtain ⟨w1, w2, w4, w5⟩ := hs
 unfold zkl zgt zly ziv zkf
 rw [zrw (by omega), zrw (by omega), zrw (by omega)]
 rfl
theorem zad4 (p : zB) (hlen : p.zF.length < 1000000000) (k : Int) : zfs k (p.zF.length : Int) p = some (zw3 p k) := by
 unfold zfs zh9 zw3
 rw [w6e, z2o]
 simp only [obs]
 cases h : inB k 0 ((p.zF.length : Int) - 1) with
 | false => rfl
 | true =>
  rw [zaco ⟨0, []⟩ h]; rfl
theorem zaca (p : zB) (hlen : p.zF.length < 1000000000) (k : Int) : ((zf k 0 (w6 ((p.zF.length : Int) - 1))).bind fun r => (cond (!r) (some true) ((idx p.zF k).bind fun x => some (x.Op != 13)))) = some (zw3 p k) := by
 unfold zw3
 rw [w6e, zie]
 simp only [obs]
 cases h : inB k 0 ((p.zF.length : Int) - 1) with
 | false => rfl
 | true =>
  rw [zaco ⟨0, []⟩ h]; rfl
theorem zad3 (N : Nat) (p : zB) (hlen : p.zF.length < 1000000000) (l : List Int) (h : l.length < N) (hl : l.length < 1000000000) : zec N l (p.zF.length : Int) p = some (anyM p l) := by
 unfold zec zal
 have l1 := z9h (f := zal.r0 N) (fun i => (l, (l.length : Int), (i : Int), (p.zF.length : Int), p)) (fun i => zw3 p (l.getD i 0)) l.length
  (fun i hi => by
   have hx := lge hi; simp only [zal.r0, zal.b0, zai, hx, obs, dct (show (i : Int) < (l.length : Int) by omega), ctr, zad4 p hlen, zst 0 hi]; rw [w6e]; cases zw3 p l[i] <;> rfl)
  (by simp only [zal.r0, zal.b0, dcf (show ¬ (l.length : Int) < (l.length : Int) by omega), cfa]) (N := N) h
 simp only [nc0] at l1
 exact l1
theorem zad2 (N : Nat) (l : List ByteArray) (h : l.length < N) (hl : l.length < 1000000000) : zdf N l = some (anyL l) := by
 unfold zdf zac
 have l1 := z9h (f := zac.r0 N) (fun i => (l, (l.length : Int), (i : Int))) (fun i => decide (((l.getD i ⟨#[]⟩).size : Int) > 256)) l.length
  (fun i hi => by
   have hx := lge hi; simp only [zac.r0, zac.b0, zai, hx, obs, dct (show (i : Int) < (l.length : Int) by omega), ctr, zh7, zst _ hi]; rw [w6e]; cases decide ((l[i].size : Int) > 256) <;> rfl)
  (by simp only [zac.r0, zac.b0, dcf (show ¬ (l.length : Int) < (l.length : Int) by omega), cfa]) (N := N) h
 simp only [nc0] at l1
 exact l1
theorem zab9 (N : Nat) (p : zB) (hlen : p.zF.length < 1000000000) (s : zC) (h : s.Stack.length < N) (hl : s.Stack.length < 1000000000) (K : Int × zB × zC → Option Int) :
 ((zj (za0.r2 N) N (0, p, s)).bind fun z => zb5 z (fun z => some z) K) = if anyM p s.Stack = true then some 3 else K ((s.Stack.length : Int), p, s) := by
 have l1 := z8o (f := za0.r2 N) (fun i => ((i : Int), p, s)) (fun i => zw3 p (s.Stack.getD i 0)) 3 s.Stack.length
  (fun i hi => by
   have hx := lge hi; have hk := zaca p hlen s.Stack[i]; simp only [za0.r2, za0.b2, zai, hx, obs, dct (show (i : Int) < (s.Stack.length : Int) by omega), ctr, zst _ hi]; rw [w6e (n := (i : Int) + 1)]; rw [← Option.bind_assoc, hk]; simp only [obs]; cases zw3 p s.Stack[i] <;> rfl)
  (by simp only [za0.r2, za0.b2, dcf (show ¬ (s.Stack.length : Int) < (s.Stack.length : Int) by omega), cfa]) (N := N) h K
 simp only [nc0] at l1
 exact l1
theorem zab4 (N : Nat) (s : zC) (h : s.Lines.length < N) (hl : s.Lines.length < 1000000000) (K : Int × zC → Option Int) :
 ((zj (za0.r4 N) N (0, s)).bind fun z => zb5 z (fun z => some z) K) = if anyL s.Lines = true then some 18 else K ((s.Lines.length : Int), s) := by
 have l1 := z8o (f := za0.r4 N) (fun i => ((i : Int), s)) (fun i => decide (((s.Lines.getD i ⟨#[]⟩).size : Int) > 256)) 18 s.Lines.length
  (fun i hi => by
   have hx := lge hi; simp only [za0.r4, za0.b4, zai, hx, obs, dct (show (i : Int) < (s.Lines.length : Int) by omega), ctr, zst _ hi]; rw [w6e]; cases decide ((s.Lines[i].size : Int) > 256) <;> rfl)
  (by simp only [za0.r4, za0.b4, dcf (show ¬ (s.Lines.length : Int) < (s.Lines.length : Int) by omega), cfa]) (N := N) h K
 simp only [nc0] at l1
 exact l1
theorem zagp (N : Nat) (hN : 20000 < N) (h : ProgV p) (hc : (zqb p).2 = 0) (t : Storage) : zhs N p t = some (ztw p t) := by
 have f2 : ∀ a b : Int, zaj N [a, b] = some (zhe [a, b]) := fun a b => zww N _ (by simp; omega) (by simp)
 have hl := z45 h
 unfold zhs ztw
 rw [z64 N hN h hc]
 simp only [obs, zwh, f2]
 rw [w6e, show zme p.zA * 16 = 16 * zme p.zA by omega]
 by_cases h1 : (t.Bytes.size : Int) = 16 * zme p.zA
 · rw [h1, ifn]; rw [show zhe [0, cond (16 * zme p.zA != 16 * zme p.zA) 18 0] = 0 by rw [bsf]; rfl]; simp only [bsf, cfa]; rw [(zru N (by omega) t).1]; simp only [obs]
   by_cases h2 : (zrv t).2 = 0
   · have hw := z5v h2; have hle := hw.le; have htg := hw.tags; have hol := zwr t.Tags t.Tags.length; rw [h2, ifn]; simp only [bsf, cfa]; rw [z9z N t hw (by omega)]; simp only [obs]; unfold zfn zak; have l1 := z9h (f := zak.r0 N) (fun i => (zfm t.Tags t.Tags.length, ((zfm t.Tags t.Tags.length).length : Int), (i : Int), t)) (fun i => z4g t ((zfm t.Tags t.Tags.length).getD i 0)) (zfm t.Tags t.Tags.length).length
      (fun i hi => by
       obtain ⟨k, k1, k2⟩ := z82 hi; have hx := lge hi; have hg : (zfm t.Tags t.Tags.length).getD i 0 = (k : Int) * 16 := by rw [gdd, hx, k2]; rfl
       simp only [zak.r0, zak.b0, zai, hx, obs, dct (show (i : Int) < ((zfm t.Tags t.Tags.length).length : Int) by omega), ctr, k2, hg, zh5]; rw [zac8 N (by omega) hw k1, w6e]; simp only [obs, orB]; rw [z6m]; cases z4g t ((k : Int) * 16) <;> rfl)
      (by simp only [zak.r0, zak.b0, dcf (show ¬ ((zfm t.Tags t.Tags.length).length : Int) < ((zfm t.Tags t.Tags.length).length : Int) by omega), cfa]) (N := N) (by omega)
     simp only [nc0] at l1; rw [l1]; simp only [obs, zwh]; rfl
   · rw [ifp h2, zd1, dct h2]; rfl
 · rw [ifp h1, show zhe [0, cond ((t.Bytes.size : Int) != 16 * zme p.zA) 18 0] = 18 by rw [zd1, dct h1]; rfl]; rfl
theorem zadj (N : Nat) (hN : 2000 < N) {R : Type} (p : zB) (s : zC) (hw : StoW s.Storage) (K : (List Int) × Int × zB × zC → Option Int) :
 ((zj (za0.r0 N) N (zfm s.Storage.Tags s.Storage.Tags.length, 0, p, s)).bind fun z10 => zb5 z10 (fun z => some z) K) = if z9y s.Storage = true then some 22 else K (zfm s.Storage.Tags s.Storage.Tags.length, ((zfm s.Storage.Tags s.Storage.Tags.length).length : Int), p, s) := by
 have hle := hw.le
 have htg := hw.tags
 have hol := zwr s.Storage.Tags s.Storage.Tags.length
 have l1 := z8o (f := za0.r0 N) (fun i => (zfm s.Storage.Tags s.Storage.Tags.length, (i : Int), p, s)) (fun i => z4g s.Storage ((zfm s.Storage.Tags s.Storage.Tags.length).getD i 0)) 22 (zfm s.Storage.Tags s.Storage.Tags.length).length
  (fun i hi => by
   obtain ⟨k, k1, k2⟩ := z82 hi; have hx := lge hi; have hg : (zfm s.Storage.Tags s.Storage.Tags.length).getD i 0 = (k : Int) * 16 := by rw [gdd, hx, k2]; rfl
   simp only [za0.r0, za0.b0, zai, hx, obs, dct (show (i : Int) < ((zfm s.Storage.Tags s.Storage.Tags.length).length : Int) by omega), ctr, k2, hg]; rw [zadl N hN hw k1, w6e]; simp only [obs, orB]; rw [z6m]; cases z4g s.Storage ((k : Int) * 16) <;> rfl)
  (by simp only [za0.r0, za0.b0, dcf (show ¬ ((zfm s.Storage.Tags s.Storage.Tags.length).length : Int) < ((zfm s.Storage.Tags s.Storage.Tags.length).length : Int) by omega), cfa]) (N := N) (by omega) K
 simp only [nc0] at l1
 exact l1
theorem zad1 (N : Nat) (hN : 1048600 < N) (hs : fitM s) : zdu N p s = some (z13 p s) := by
 obtain ⟨w1, w2, w4, w5⟩ := hs
 have f6 : ∀ a b d e f g : Int, zaj N [a, b, d, e, f, g] = some (zhe [a, b, d, e, f, g]) := fun a b d e f g => zww N _ (by simp; omega) (by simp)
 unfold zdu z13
 rw [zafa N (by omega)]
 simp only [obs]
 by_cases hc : (zqb p).2 = 0
 · have h := z8v hc; have i40 := h.i40; rw [hc, ifn]; simp only [bsf, cfa]; rw [zagp N (by omega) h hc]; simp only [obs]
   by_cases h1 : ztw p s.Storage = 0
   · rw [h1, ifn]; simp only [bsf, cfa]; rw [zad2 N _ (by omega) (by omega), zad3 N p (by omega) _ (by omega) (by omega)]; simp only [obs, z2o, zwh, orB, w6e (n := (p.zF.length : Int) - 1), f6, Bool.not_not]; unfold lstM; rw [show (!inB s.Exception 0 999 || !inB s.Steps 0 300) = !(inB s.Exception 0 999 && inB s.Steps 0 300) by cases inB s.Exception 0 999 <;> cases inB s.Steps 0 300 <;> rfl]
   · rw [ifp h1, zd1, dct h1]; rfl
 · rw [ifp hc, zd1, dct hc]; rfl
theorem zab0 (N : Nat) (hN : 1048600 < N) (hs : fitM s) : za0 N p s = some (z13 p s) := by
 obtain ⟨w1, w2, w4, w5⟩ := hs
 unfold za0 z13
 rw [zado N (by omega)]
 simp only [obs]
 by_cases hc : (zqb p).2 = 0
 case neg => rw [ifp hc, zd1, dct hc]; rfl
 have h := z8v hc
 have i40 := h.i40
 have hl := z45 h
 rw [hc, ifn]
 simp only [bsf, cfa]
 rw [ze8 N (by omega) h.ok]
 simp only [obs]
 rw [w6e, show zme p.zA * 16 = 16 * zme p.zA by omega]
 by_cases h2 : (s.Storage.Bytes.size : Int) = 16 * zme p.zA
 case neg =>
  rw [show ztw p s.Storage = 18 by unfold ztw; rw [ifp h2], zd1, dct h2]; rfl
 rw [show ((s.Storage.Bytes.size : Int) != 16 * zme p.zA) = false by rw [h2]; exact bsf _]
 simp only [cfa]
 rw [show zsl N s.Storage = some (zrv s.Storage).2 from (by unfold zsl; rw [(zru N (by omega) s.Storage).2]; rfl)]
 simp only [obs]
 by_cases h3 : (zrv s.Storage).2 = 0
 case neg =>
  rw [show ztw p s.Storage = (zrv s.Storage).2 by unfold ztw; rw [ifn (fun h => h h2), ifp h3], zd1, dct h3, ifp h3]; rfl
 have hw := z5v h3
 have hle := hw.le
 have htg := hw.tags
 rw [show ztw p s.Storage = cond (z9y s.Storage) 22 0 by unfold ztw; rw [ifn (fun h => h h2), ifn (fun h => h h3)], h3]
 simp only [bsf, cfa]
 rw [z92 N s.Storage (by omega) (by omega)]
 simp only [obs]
 rw [zadj N (by omega) (R := Int) p s hw]
 cases z9y s.Storage with
 | true => rfl
 | false =>
  unfold lstM; simp only [Bool.false_eq_true, if_false, cfa, if_true, eq_self, ne_eq, not_true_eq_false, zie, w6e (n := (p.zF.length : Int) - 1), obs]; rw [zp9]; cases inB s.At 0 ((p.zF.length : Int) - 1) with
  | false => rfl
  | true =>
   simp only [bnt, cfa, if_true, eq_self, orB, obs]; rw [zp9]; cases (decide ((s.Stack.length : Int) > 6) || decide ((s.Lines.length : Int) > 40)) with
   | true => rfl
   | false =>
    simp only [cfa, if_true, eq_self]; rw [zab9 N p (by omega) s (by omega) (by omega), zp9]; cases anyM p s.Stack with
    | true => rfl
    | false =>
     simp only [Bool.false_eq_true, if_false, cfa, if_true, eq_self]; rw [zab4 N s (by omega) (by omega), zp9]; cases anyL s.Lines with
     | true => rfl
     | false =>
      simp only [Bool.false_eq_true, if_false, cfa, if_true, eq_self, zie, obs]; rw [zp9]; cases inB s.Status 0 3 with
      | false => rfl
      | true =>
       simp only [bnt, cfa, if_true, eq_self]; cases inB s.Exception 0 999 <;> cases inB s.Steps 0 300 <;> rfl
def zaat : zC := ⟨⟨⟨#[]⟩, []⟩, 0, [], [], 0, 0, 0⟩
theorem z43 : zqu zaat = some true := rfl
theorem zabv (N : Nat) (hN : 1000 < N) {e : Int} (h : zdu N p s = some e) (he : e ≠ 0) : zgd N p s = some (zaat, e) := by
 have f2 : ∀ a b : Int, zaj N [a, b] = some (zhe [a, b]) := fun a b => zww N _ (by simp; omega) (by simp)
 unfold zgd
 rw [h]
 simp only [obs, orB, zwh, f2]
 rw [zp9, ifn he, zd1, dct he]
 rfl
theorem zaaz (N : Nat) (hN : 1000 < N) (h : zdu N p s = some 0) (he : s.Status ≠ 0 ∨ s.Steps ≥ 300) : zgd N p s = some (zaat, 26) := by
 have f2 : ∀ a b : Int, zaj N [a, b] = some (zhe [a, b]) := fun a b => zww N _ (by simp; omega) (by simp)
 unfold zgd
 rw [h]
 simp only [obs, orB, zwh, f2]
 rw [show (s.Status != 0 || decide (s.Steps ≥ 300)) = true by
  rcases he with he | he
  · rw [zd1, dct he]; rfl
  · rw [dct he, Bool.or_true]]
 rfl
theorem zada (N : Nat) (hN : 20000 < N) (hp : ProgV p) (hc : (zqb p).2 = 0) (hs : StI p s) (h : zdu N p s = some 0) (h1 : s.Status = 0) (h2 : s.Steps < 300) : zgd N p s = some (zyl p s, 0) := by
 have f2 : ∀ a b : Int, zaj N [a, b] = some (zhe [a, b]) := fun a b => zww N _ (by simp; omega) (by simp)
 unfold zgd
 rw [h]
 simp only [obs, orB, zwh, f2]
 rw [show (s.Status != 0 || decide (s.Steps ≥ 300)) = false by rw [h1, dcf (by omega)]; rfl]
 rw [show zhe [0, cond false 26 0] = 0 from rfl, z64 N hN hp hc]
 simp only [obs, bsf, cfa]
 rw [(z6r N hN hp hs h1 h2).1]
 rfl
end
theorem plainInterpretSteps : zj3 := by
 intro p s hp hs
 refine ⟨2000000, ?_⟩
 obtain ⟨b, hb⟩ := zahw 2000000 (by decide) hp
 have hN : 20000 < 2000000 := by decide
 have hf : fitM s := zabw hs
 have k1 := zad1 (p := p) 2000000 (by decide) hf
 unfold zhr
 rw [zag0]
 simp only [obs, bnt, cfa]
 rw [hb]
 cases b with
 | false => rfl
 | true =>
  simp only [obs, bnt, cfa]; rw [zahv _ (by decide)]; cases fewM s with
  | false => rfl
  | true =>
   simp only [obs, bnt, cfa]; rw [zadt _ (by decide) hp, zae7 hf, zab0 _ (by decide) hf]; simp only [obs]
   by_cases hE : z13 p s = 0
   · rw [hE] at k1 ⊢; obtain ⟨hc, hv⟩ := zacr hE; have h := z8v hc; simp only [bsf, cfa, bst, ctr, orB, obs]
     by_cases hr : s.Status = 0 ∧ s.Steps < 300
     · obtain ⟨g1, g2, g3, _, _⟩ := z6r 2000000 hN h hv hr.1 hr.2; rw [zada 2000000 hN h hc hv k1 hr.1 hr.2, g2]; rw [show (s.Status != 0 || s.Steps == 300) = false by rw [zd1, zcn, dcf (fun h => h hr.1), dcf (by omega)]; rfl]; simp only [obs, cfa, bst, ctr]; rw [zade 2000000 (by decide) g3]; rfl
     · have hsp := hv.sp1; have hst : s.Status ≠ 0 ∨ s.Steps ≥ 300 := by omega
       rw [zaaz 2000000 (by decide) k1 hst]; rw [show (s.Status != 0 || s.Steps == 300) = true by
        rcases hst with h | h
        · rw [zd1, dct h]; rfl
        · rw [zcn, dct (show s.Steps = 300 by omega), Bool.or_true]]
       simp only [obs, ctr]; rw [show ((26 : Int) == 26) = true from rfl]; simp only [ctr]; rw [z43]; rfl
   · rw [zabv 2000000 (by decide) k1 hE]; simp only [obs]; rw [zcn, dcf hE, show (z13 p s != 0) = true by rw [zd1]; exact dct hE]; simp only [obs, ctr, cfa, bst]; rw [z43]; rfl
end
end Go.Proofs.YtmifhmfokbigiaaGreatDoor.M
namespace Go.Proofs.YtmifhmfokbigiaaGreatDoor
theorem interpretSteps_card : Rows.InterpretStepsUptoCardSaid := M.cardInterpretSteps M.plainInterpretSteps
#print axioms interpretSteps_card
end Go.Proofs.YtmifhmfokbigiaaGreatDoor
