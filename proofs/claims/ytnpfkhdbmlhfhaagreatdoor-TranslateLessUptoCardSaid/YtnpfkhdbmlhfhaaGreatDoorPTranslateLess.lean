/- TranslateLess: the law answers true for every input of bulk at most 1048576, and its arguments read as they did; by the seat's second form, tied to the program's text. -/
import Derived.Test.YtnpfkhdbmlhfhaaGreatDoorPTranslateLessx0
import Derived.Test.YtnpfkhdbmlhfhaaGreatDoorWTranslateLess
namespace Go.Proofs.YtnpfkhdbmlhfhaaGreatDoor.M
open Go Go.Amx
set_option linter.unusedVariables false
set_option linter.unusedSimpArgs false
set_option maxRecDepth 100000
noncomputable section
variable {m : zI} {c : zF}
theorem zsc {p q : Nat → Bool} : ∀ n, (∀ k, k < n → p k = q k) → cnt p n = cnt q n
 | 0, _ => rfl
 | n + 1, h => by simp only [cnt]; rw [zsc n (fun k hk => h k (by omega)), h n (by omega)]
structure PS (c : zF) (p0 p : Nat → Bool) (b : Bool) : Prop where
 sub : ∀ k, p0 k = true → p k = true
 r : ∀ k, k < c.zA.length → p k = true → Rch c k
 f : b = false → ∀ k, k < c.zA.length → p k = p0 k
 t : b = true → cnt p c.zA.length < cnt p0 c.zA.length
theorem PS.mark {p0 p : Nat → Bool} {b : Bool} (h : PS c p0 p b) {k : Nat} (hk : k < c.zA.length) (hr : Rch c k) : PS c p0 (upd p k) (b || !p k) := by
 have hcu := zv7 p k c.zA.length
 rw [dct hk] at hcu
 refine ⟨fun j hj => ?_, fun j hj hp => ?_, fun hb j hj => ?_, fun hb => ?_⟩
 · unfold upd; split
   · rfl
   · exact h.sub j hj
 · unfold upd at hp; split at hp
   · rename_i e; subst e; exact hr
   · exact h.r j hj hp
 · rw [Bool.or_eq_false_iff, Bool.not_eq_false'] at hb; unfold upd; split
   · rename_i e; subst e; rw [← h.f hb.1 j hj, hb.2]
   · exact h.f hb.1 j hj
 · cases b with
   | true => have := h.t rfl; omega
   | false =>
    have e := zsc c.zA.length (h.f rfl); have hp : p k = false := by simpa using hb
    rw [hp] at hcu; simp at hcu; omega
theorem z2n (N : Nat) (hN : 1000 < N) (hc : CdV m c) {p0 p : Nat → Bool} {b : Bool} (h : PS c p0 p b) {i : Nat} (hi : i < c.zA.length) :
 ∃ p' b' j, ze (zy.r4 N) N ((List.range c.zA.length).map p, b, (i : Int), zam c i, 0, c) = some ((List.range c.zA.length).map p', b', (i : Int), zam c i, j, c) ∧ PS c p0 p' b' ∧ (b' = false → b = false) ∧
  (p i = true → ∀ k : Nat, (k : Int) ∈ zam c i → p' k = true) := by
 have hl := hc.len
 have hsl := zqc (c := c) (i := i)
 cases hp : p i with
 | false =>
  have := zdf (f := zy.r4 N) (fun j => ((List.range c.zA.length).map p, b, (i : Int), zam c i, (j : Int), c)) 0 (fun j hj => by omega) (by
   simp only [zy.r4, zy.b4]; rw [ifp, ifp (by simp; omega), itn, zch p hi, hp]; cases decide (((0 : Nat) : Int) < ((zam c i).length : Int)) <;> rfl) (show 0 < N by omega)
  exact ⟨p, b, _, this, h, id, fun h => by cases h⟩
 | true =>
  obtain ⟨s, hs, hI⟩ := zfb (f := zy.r4 N) (fun j s => ∃ p' b', s = ((List.range c.zA.length).map p', b', (i : Int), zam c i, (j : Int), c) ∧ PS c p0 p' b' ∧ (b' = false → b = false) ∧ p' i = true ∧ ∀ t k, t < j → (zam c i)[t]? = some ((k : Nat) : Int) → p' k = true) (zam c i).length (by
   rintro j s hj ⟨p', b', rfl, h', hb', hpi, hall⟩
   have hx := lge hj; obtain ⟨k0, hk0, hk1⟩ := zgl hc (List.getElem_mem hj); have hmem : ((k0 : Nat) : Int) ∈ zam c i := by rw [← hk0]; exact List.getElem_mem hj
   rw [hk0] at hx; have hrk : Rch c k0 := .step (h'.r i hi hpi) hmem; refine ⟨_, ?_, upd p' k0, b' || !p' k0, rfl, h'.mark hk1 hrk, fun hb => hb' (by rw [Bool.or_eq_false_iff] at hb; exact hb.1), ?_, fun t k ht htk => ?_⟩
   · simp only [zy.r4, zy.b4]; rw [dct (show (j : Int) < ((zam c i).length : Int) by omega), ctr, ifp, ifp (by simp; omega), itn, zch p' hi, hpi]; simp only [obs, ctr]; rw [ifp, ifp, itn, hx]; simp only [obs]; rw [ifp, ifp (by simp; omega), itn, zch p' hk1]; simp only [obs]; rw [orB, obs, ifp, ifp, ifp, ifp (by simp; omega), zpl, w6e]; rfl
   · unfold upd; split <;> first | rfl | exact hpi
   · unfold upd; split
     · rfl
     · rename_i e
       by_cases htj : t = j
       · subst htj; rw [hx] at htk; have : (k0 : Int) = (k : Int) := Option.some.inj htk; omega
       · exact hall t k (by omega) htk)
   (by
    rintro s ⟨p', b', rfl, h', hb', hpi, hall⟩
    refine ⟨_, ?_, p', b', rfl, h', hb', hpi, hall⟩; simp only [zy.r4, zy.b4]; rw [dcf (Int.lt_irrefl _)]; rfl) (N := N) (by omega) (s := ((List.range c.zA.length).map p, b, (i : Int), zam c i, 0, c)) ⟨p, b, rfl, h, id, hp, fun t k ht => by omega⟩
  obtain ⟨p', b', rfl, h', hb', _, hall⟩ := hI; refine ⟨p', b', _, hs, h', hb', fun _ k hk => ?_⟩; obtain ⟨t, ht⟩ := List.getElem?_of_mem hk; exact hall t k (gei ht).1 ht
theorem z2o (N : Nat) (hN : 1000 < N) (hc : CdV m c) {p0 : Nat → Bool} (h0 : ∀ k, k < c.zA.length → p0 k = true → Rch c k) :
 ∃ p b, ze (zy.r2 N) N ((List.range c.zA.length).map p0, false, 0, c) = some ((List.range c.zA.length).map p, b, (c.zA.length : Int), c) ∧ PS c p0 p b ∧
  (b = false → ∀ i, i < c.zA.length → p0 i = true → ∀ k : Nat, (k : Int) ∈ zam c i → p0 k = true) := by
 have hl := hc.len
 obtain ⟨s, hs, p, b, rfl, h1, h2⟩ := zfb (f := zy.r2 N) (fun i s => ∃ p b, s = ((List.range c.zA.length).map p, b, (i : Int), c) ∧ PS c p0 p b ∧ (b = false → ∀ i', i' < i → p0 i' = true → ∀ k : Nat, (k : Int) ∈ zam c i' → p0 k = true)) c.zA.length (by
  rintro i s hi ⟨p, b, rfl, h1, h2⟩
  obtain ⟨p', b', j, e1, e2, e3, e4⟩ := z2n N hN hc h1 hi; refine ⟨_, ?_, p', b', rfl, e2, fun hb i' hi' hp k hk => ?_⟩
  · simp only [zy.r2, zy.b2]; rw [dct (by simp; omega), ctr, zzz (by omega) hi, obs, e1, obs]; simp only; rw [w6e]; rfl
  · by_cases e : i' = i
    · subst e; have hkl := zgl hc hk; obtain ⟨k', hk', hkl⟩ := hkl; obtain rfl : k = k' := by omega
      have hpi : p i' = true := h1.sub i' hp; rw [← e2.f hb k hkl]; exact e4 hpi k hk
    · exact h2 (e3 hb) i' (by omega) hp k hk)
  (by
   rintro s ⟨p, b, rfl, h1, h2⟩
   refine ⟨_, ?_, p, b, rfl, h1, h2⟩; simp only [zy.r2, zy.b2]; rw [dcf (by simp)]; rfl) (N := N) (by omega) (s := ((List.range c.zA.length).map p0, false, 0, c)) ⟨p0, false, rfl, ⟨fun _ h => h, h0, fun _ _ _ => rfl, fun h => by cases h⟩, fun _ i' hi' => by omega⟩
 exact ⟨p, b, hs, h1, h2⟩
theorem z4i (N : Nat) (hN : 1048600 < N) (hc : CdV m c) : ∃ p : Nat → Bool, zy N c = some ((List.range c.zA.length).map p) ∧ (∀ k, k < c.zA.length → p k = true → Rch c k) ∧ ∀ k, Rch c k → p k = true := by
 have hl := hc.len
 unfold zy
 rw [zuy N hN hc, obs]
 obtain ⟨s, hs, p, rfl, q1, q2, q3⟩ := zqz (f := zy.r0 N) (fun s => ∃ p b, s = ((List.range c.zA.length).map p, b, c) ∧ (∀ k, k < c.zA.length → p k = true → Rch c k) ∧ (∀ k, k < c.zA.length → zd0 c k = true → p k = true) ∧
  (b = false → ∀ i, i < c.zA.length → p i = true → ∀ k : Nat, (k : Int) ∈ zam c i → p k = true))
  (fun s => ∃ p, s = ((List.range c.zA.length).map p, false, c) ∧ (∀ k, k < c.zA.length → p k = true → Rch c k) ∧ (∀ k, k < c.zA.length → zd0 c k = true → p k = true) ∧ (∀ i, i < c.zA.length → p i = true → ∀ k : Nat, (k : Int) ∈ zam c i → p k = true))
  (fun s => match s with | (l, b, _) => cond b (cnt (fun k => (l[k]?).getD false) c.zA.length + 1) 0) (by
  have hcp : ∀ p : Nat → Bool, cnt (fun k => (((List.range c.zA.length).map p)[k]?).getD false) c.zA.length = cnt p c.zA.length := fun p => zsc _ fun k hk => by rw [zch p hk]; rfl
  rintro s ⟨p, b, rfl, h1, h2, h3⟩
  cases b with
  | false => exact .inr ⟨_, rfl, p, rfl, h1, h2, h3 rfl⟩
  | true =>
   obtain ⟨p', b', e1, e2, e3⟩ := z2o N (by omega) hc h1; refine .inl ⟨((List.range c.zA.length).map p', b', c), by simp only [zy.r0, zy.b0, ctr, e1, obs], ⟨p', b', rfl, e2.r, fun k hk he => e2.sub k (h2 k hk he), fun hb i hi hp k hk => ?_⟩, ?_⟩
   · obtain ⟨k', hk', hkl⟩ := zgl hc hk; obtain rfl : k = k' := by omega
     rw [e2.f hb k hkl]; exact e3 hb i hi (by rw [← e2.f hb i hi]; exact hp) k hk
   · simp only [hcp]; cases b' with
     | true => have := e2.t rfl; simp only [ctr]; omega
     | false => simp only [ctr, cfa]; omega) N (zb7 c, true, c) ⟨zd0 c, true, rfl, fun k hk he => .ent hk he, fun k _ h => h, fun h => by cases h⟩ (by
   have := zvi (fun k => ((zb7 c)[k]?).getD false) c.zA.length; show cnt _ _ + 1 < N; omega)
 rw [hs]
 exact ⟨p, rfl, q1, z2x hc q1 q2 q3⟩
variable {m : zI} {c : zF}
def zfc {α : Type} (G : Nat → α) (x : Nat) (v : α) (k : Nat) : α := if k = x then v else G k
theorem zqw {α : Type} {n : Nat} (f : Nat → α) {k : Nat} (v : α) : ((List.range n).map f).set k v = (List.range n).map (zfc f k v) := by
 apply List.ext_getElem?
 intro i
 rw [List.getElem?_set, List.getElem?_map, List.getElem?_map, lnm, List.length_range]
 unfold zfc
 by_cases hi : i < n
 · rw [List.getElem?_range hi]
   by_cases e : k = i
   · subst e; simp [hi]
   · simp [e, Ne.symm e]
 · rw [List.getElem?_eq_none (by simpa using hi)]
   by_cases e : k = i
   · subst e; simp [hi]
   · simp [e]
theorem zih {α : Type} {n : Nat} (f : Nat → α) {k : Nat} (h : k < n) : ((List.range n).map f)[k]? = some (f k) := by
 rw [List.getElem?_map, List.getElem?_range h]
 rfl
theorem zqt {α : Type} : ∀ (l u : List α), l.Nodup → (∀ x ∈ l, x ∈ u) → l.length ≤ u.length
 | [], _, _, _ => Nat.zero_le _
 | x :: l, u, hn, hs => by
  obtain ⟨h1, h2⟩ := List.nodup_cons.1 hn; obtain ⟨a, b, rfl⟩ := List.append_of_mem (hs x (by simp)); have := zqt l (a ++ b) h2 (fun y hy => by
   have hy2 := hs y (by simp [hy]); rcases List.mem_append.1 hy2 with h | h
   · exact List.mem_append.2 (.inl h)
   · rcases List.mem_cons.1 h with rfl | h
     · exact absurd hy h1
     · exact List.mem_append.2 (.inr h))
  simp only [lna, lnc] at this ⊢; omega
def znu (c : zF) : List zB := (List.range 8).flatMap fun r : Nat => c.zA.flatMap fun x => [⟨(r : Int), x.zD, -1⟩, ⟨(r : Int), x.zD, x.Place.Offset⟩]
theorem flat_len {α β : Type} (f : α → List β) (k : Nat) (h : ∀ x, (f x).length = k) : ∀ l : List α, (l.flatMap f).length = l.length * k
 | [] => by simp
 | x :: l => by rw [List.flatMap_cons, lna, h, flat_len f k h l, lnc, Nat.succ_mul]; omega
theorem zzt (hc : CdV m c) : (znu c).length ≤ 3840 := by
 unfold znu
 rw [flat_len _ (c.zA.length * 2) (fun r => flat_len _ 2 (fun x => rfl) _)]
 have := hc.len
 simp only [List.length_range]
 omega
theorem zvn {f : zB} : f ∈ znu c ↔ (0 ≤ f.Register ∧ f.Register < 8) ∧ ∃ x ∈ c.zA, f.zD = x.zD ∧ (f.Offset = -1 ∨ f.Offset = x.Place.Offset) := by
 unfold znu
 rw [List.mem_flatMap]
 constructor
 · rintro ⟨r, hr, h⟩
   have hr : r < 8 := by simpa using hr
   rw [List.mem_flatMap] at h; obtain ⟨x, hx, h⟩ := h; rcases List.mem_cons.1 h with rfl | h
   · exact ⟨⟨by simp, by show (r : Int) < 8; omega⟩, x, hx, rfl, .inl rfl⟩
   · obtain rfl : f = ⟨(r : Int), x.zD, x.Place.Offset⟩ := by simpa using h
     exact ⟨⟨by simp, by show (r : Int) < 8; omega⟩, x, hx, rfl, .inr rfl⟩
 · rintro ⟨⟨h1, h2⟩, x, hx, ht, ho⟩
   refine ⟨f.Register.toNat, by simp; omega, ?_⟩; rw [List.mem_flatMap]; refine ⟨x, hx, ?_⟩; have hr : ((f.Register.toNat : Nat) : Int) = f.Register := by omega
   rw [hr]; obtain ⟨r, t, o⟩ := f; simp only at ht ho; subst ht; rcases ho with rfl | rfl
   · simp
   · simp
theorem z7g (hc : CdV m c) {x : zC} (hx : x ∈ c.zA) {l : List zB} (hl : ∀ f ∈ l, f ∈ znu c) {f : zB} (h : Beh x l f) : f ∈ znu c := by
 have hi := hc.ins x hx
 have hm := hc.m2
 have mk : ∀ {o : Int}, (0 ≤ x.R ∧ x.R < m.Registers) → (o = -1 ∨ o = x.Place.Offset) → (⟨x.R, x.zD, o⟩ : zB) ∈ znu c := fun hr ho => zvn.2 ⟨⟨hr.1, by show x.R < 8; omega⟩, x, hx, rfl, ho⟩
 have about : ∀ g ∈ l, (0 ≤ x.R ∧ x.R < m.Registers) → (⟨x.R, g.zD, g.Offset⟩ : zB) ∈ znu c := fun g hg hr => by
  obtain ⟨_, y, hy, h1, h2⟩ := zvn.1 (hl g hg); exact zvn.2 ⟨⟨hr.1, by show x.R < 8; omega⟩, y, hy, h1, h2⟩
 unfold Beh at h
 split at h
 · rename_i e; rcases h with ⟨h, _⟩ | rfl | ⟨hb, rfl | ⟨_, _, _, _, g, hg, _, rfl⟩⟩
   · exact hl _ h
   · exact mk (hi.r (.inl e)) (.inl rfl)
   · exact mk (hi.r (.inl e)) (.inr rfl)
   · exact about g hg (hi.r (.inl e))
 · split at h
   · rcases h with ⟨h, _⟩ | rfl
     · exact hl _ h
     · exact mk (hi.r (by omega)) (.inl rfl)
   · split at h
     · exact hl _ h.1
     · split at h
       · rcases h with ⟨h, _⟩ | ⟨g, hg, _, rfl⟩
         · exact hl _ h
         · exact about g hg (hi.r (by omega))
       · split at h
         · rcases h with ⟨_, h, _⟩ | ⟨hb, ⟨h, _⟩ | ⟨e1, _, rfl⟩⟩
           · exact hl _ h
           · exact hl _ h
           · exact mk (hi.r (by omega)) (.inr rfl)
         · split at h
           · exact hl _ h.1
           · exact hl _ h
theorem zuc {x : zC} {l l' : List zB} (hs : ∀ f ∈ l, f ∈ l') {f : zB} (h : Beh x l f) : Beh x l' f := by
 unfold Beh at h ⊢
 split
 · rename_i e; rw [ifp e] at h; rcases h with ⟨h, h'⟩ | h | ⟨hb, h | ⟨a, ha, h1, h2, g, hg, h3, h4⟩⟩
   · exact .inl ⟨hs _ h, h'⟩
   · exact .inr (.inl h)
   · exact .inr (.inr ⟨hb, .inl h⟩)
   · exact .inr (.inr ⟨hb, .inr ⟨a, hs _ ha, h1, h2, g, hs _ hg, h3, h4⟩⟩)
 · rename_i e; rw [ifn e] at h; split
   · rename_i e; rw [ifp e] at h; rcases h with ⟨h, h'⟩ | h
     · exact .inl ⟨hs _ h, h'⟩
     · exact .inr h
   · rename_i e; rw [ifn e] at h; split
     · rename_i e; rw [ifp e] at h; exact ⟨hs _ h.1, h.2⟩
     · rename_i e; rw [ifn e] at h; split
       · rename_i e; rw [ifp e] at h; rcases h with ⟨h, h'⟩ | ⟨g, hg, h1, h2⟩
         · exact .inl ⟨hs _ h, h'⟩
         · exact .inr ⟨g, hs _ hg, h1, h2⟩
       · rename_i e; rw [ifn e] at h; split
         · rename_i e; rw [ifp e] at h; rcases h with ⟨hb, h, h'⟩ | ⟨hb, ⟨h, h'⟩ | ⟨h1, h2, h3⟩⟩
           · exact .inl ⟨hb, hs _ h, h'⟩
           · exact .inr ⟨hb, .inl ⟨hs _ h, h'⟩⟩
           · exact .inr ⟨hb, .inr ⟨h1, hs _ h2, h3⟩⟩
         · rename_i e; rw [ifn e] at h; split
           · rename_i e; rw [ifp e] at h; exact ⟨hs _ h.1, h.2⟩
           · rename_i e; rw [ifn e] at h; exact hs _ h
def fxB (c : zF) (R : Nat → Bool) (k : Nat) : Bool := zd0 c k || !R k
def Nok (c : zF) (R : Nat → Bool) (D : Nat → Bool) (G : Nat → List zB) (i : Nat) : Prop :=
 ∀ x, c.zA[i]? = some x → ∀ k : Nat, (k : Int) ∈ zam c i → fxB c R k = false → D k = true ∧ ∀ f ∈ G k, Beh x (G i) f
structure Cl (c : zF) (R : Nat → Bool) (D : Nat → Bool) (G : Nat → List zB) : Prop where
 fx : ∀ k, k < c.zA.length → fxB c R k = true → D k = true ∧ G k = []
 st : ∀ i, i < c.zA.length → D i = true → Nok c R D G i
structure Inv (m : zI) (c : zF) (R : Nat → Bool) (D : Nat → Bool) (G : Nat → List zB) : Prop where
 so : ∀ k, zez (G k)
 ok : ∀ k, ∀ f ∈ G k, FctV m c f
 un : ∀ k, ∀ f ∈ G k, f ∈ znu c
 no : ∀ k, D k = false → G k = []
 fx : ∀ k, k < c.zA.length → fxB c R k = true → D k = true ∧ G k = []
 ab : ∀ D' G', Cl c R D' G' → ∀ k, k < c.zA.length → D k = true → D' k = true ∧ ∀ f ∈ G' k, f ∈ G k
theorem znv {l : List zB} (h : zez l) : l.Nodup := by
 unfold List.Nodup
 refine List.Pairwise.imp ?_ h
 intro a b hab e
 subst e
 rw [Proofs.Tryz.ltF_swo.1] at hab
 cases hab
theorem zps (hc : CdV m c) {R D : Nat → Bool} {G : Nat → List zB} (h : Inv m c R D G) (k : Nat) : (G k).length ≤ 3840 := Nat.le_trans (zqt _ _ (znv (h.so k)) (h.un k)) (zzt hc)
theorem z1e (hc : CdV m c) {R D D' : Nat → Bool} {G G' : Nat → List zB} (h : Inv m c R D G) (h2 : Cl c R D G) (g : Inv m c R D' G') (g2 : Cl c R D' G') : ∀ k, k < c.zA.length → D k = D' k ∧ G k = G' k := by
 intro k hk
 have e : D k = D' k := by
  rw [Bool.eq_iff_iff]; exact ⟨fun hd => (h.ab D' G' g2 k hk hd).1, fun hd => (g.ab D G h2 k hk hd).1⟩
 refine ⟨e, ?_⟩
 cases hd : D k with
 | false => rw [h.no k hd, g.no k (by rw [← e]; exact hd)]
 | true =>
  have hd' : D' k = true := by rw [← e]; exact hd
  exact Proofs.Tryz.strict_unique _ Proofs.Tryz.ltF_swo.1 Proofs.Tryz.ltF_swo.2.1 _ _ (h.so k) (g.so k) fun f => ⟨fun hf => (g.ab D G h2 k hk hd').2 f hf, fun hf => (h.ab D' G' g2 k hk hd).2 f hf⟩
def mea (D : Nat → Bool) (G : Nat → List zB) : Nat → Nat
 | 0 => 0
 | n + 1 => mea D G n + cond (D n) (G n).length 3841
theorem zyb {D : Nat → Bool} {G : Nat → List zB} (h : ∀ k, (G k).length ≤ 3840) : ∀ n, mea D G n ≤ n * 3841
 | 0 => Nat.le_refl _
 | n + 1 => by
  have := zyb (D := D) h n; have := h n; simp only [mea, Nat.succ_mul]; cases D n <;> simp <;> omega
theorem zz3 (D : Nat → Bool) (G : Nat → List zB) (x : Nat) (v : List zB) : ∀ n, mea (upd D x) (zfc G x v) n + cond (decide (x < n)) (cond (D x) (G x).length 3841) 0 = mea D G n + cond (decide (x < n)) v.length 0
 | 0 => by simp [mea]
 | n + 1 => by
  have ih := zz3 D G x v n; simp only [mea]
  by_cases e : n = x
  · subst e; rw [dcf (Nat.lt_irrefl n)] at ih; simp only [cfa, Nat.add_zero] at ih; rw [dct (Nat.lt_succ_self n), ih]; have h1 : upd D n n = true := by simp [upd]
    have h2 : zfc G n v n = v := by simp [zfc]
    rw [h1, h2]; simp only [ctr]; omega
  · have h1 : upd D x n = D n := by simp [upd, e]
    have h2 : zfc G x v n = G n := by simp [zfc, e]
    have h3 : decide (x < n + 1) = decide (x < n) := by
     by_cases h : x < n
     · rw [dct h, dct (by omega)]
     · rw [dcf h, dcf (by omega)]
    rw [h1, h2, h3]; omega
theorem zwn {D D' : Nat → Bool} {G G' : Nat → List zB} : ∀ n, (∀ k, k < n → D k = D' k ∧ G k = G' k) → mea D G n = mea D' G' n
 | 0, _ => rfl
 | n + 1, h => by simp only [mea]; rw [zwn n (fun k hk => h k (by omega)), (h n (by omega)).1, (h n (by omega)).2]
def nxt (D : Nat → Bool) (G : Nat → List zB) (r : List zB) (k : Nat) : List zB := cond (D k) ((G k).filter fun f => zex r f) r
theorem z4w (hc : CdV m c) {R D : Nat → Bool} {G : Nat → List zB} (h : Inv m c R D G) {r : List zB} {k : Nat} (hk : k < c.zA.length) (hf : fxB c R k = false) (hs : zez r) (ho : ∀ f ∈ r, FctV m c f) (hu : ∀ f ∈ r, f ∈ znu c)
 (hr : ∀ D' G', Cl c R D' G' → D' k = true ∧ ∀ f ∈ G' k, f ∈ r) : Inv m c R (upd D k) (zfc G k (nxt D G r k)) := by
 have mem : ∀ f ∈ nxt D G r k, f ∈ r ∧ (D k = true → f ∈ G k) := fun f hf => by
  unfold nxt at hf; cases hd : D k with
  | true => rw [hd, ctr, List.mem_filter, zd8] at hf; exact ⟨hf.2, fun _ => hf.1⟩
  | false => rw [hd, cfa] at hf; exact ⟨hf, fun h => by cases h⟩
 refine ⟨fun j => ?_, fun j f hf' => ?_, fun j f hf' => ?_, fun j hj => ?_, fun j hj hfx => ?_, fun D' G' hcl j hj hd => ?_⟩
 · unfold zfc; split
   · unfold nxt; cases D k with
     | true => exact List.Pairwise.filter _ (h.so k)
     | false => exact hs
   · exact h.so j
 · unfold zfc at hf'; split at hf'
   · exact ho f (mem f hf').1
   · exact h.ok j f hf'
 · unfold zfc at hf'; split at hf'
   · exact hu f (mem f hf').1
   · exact h.un j f hf'
 · unfold upd at hj; split at hj
   · cases hj
   · rename_i e; unfold zfc; rw [ifn e]; exact h.no j hj
 · have e : j ≠ k := fun e => by subst e; rw [hf] at hfx; cases hfx
   unfold upd zfc; rw [ifn e, ifn e]; exact h.fx j hj hfx
 · unfold zfc; unfold upd at hd; split at hd
   · rename_i e; subst e; obtain ⟨q1, q2⟩ := hr D' G' hcl; refine ⟨q1, fun f hf' => ?_⟩; rw [ifp rfl]; unfold nxt; cases hd2 : D j with
     | true => rw [ctr, List.mem_filter, zd8]; exact ⟨(h.ab D' G' hcl j hj hd2).2 f hf', q2 f hf'⟩
     | false => exact q2 f hf'
   · rename_i e; rw [ifn e]; exact h.ab D' G' hcl j hj hd
variable {m : zI} {c : zF} {R : Nat → Bool}
def zjh (c : zF) (R D : Nat → Bool) (G : Nat → List zB) (r : List zB) (k : Nat) : Bool := !fxB c R k && (!D k || decide ((nxt D G r k).length < (G k).length))
theorem z78 (D : Nat → Bool) (G : Nat → List zB) (r : List zB) (k : Nat) (hd : D k = true) : (nxt D G r k).length ≤ (G k).length := by
 unfold nxt
 rw [hd, ctr]
 exact List.length_filter_le _ _
theorem z3m {D : Nat → Bool} {G : Nat → List zB} {r : List zB} {k : Nat} (he : zjh c R D G r k = false) (hf : fxB c R k = false) : D k = true ∧ ∀ f ∈ G k, f ∈ r := by
 unfold zjh at he
 rw [hf, Bool.not_false, Bool.true_and, Bool.or_eq_false_iff, Bool.not_eq_false'] at he
 refine ⟨he.1, fun f hf' => ?_⟩
 have h2 := of_decide_eq_false he.2
 have h3 : (G k).filter (fun f => zex r f) = G k := by
  have hl : ((G k).filter fun f => zex r f).length = (G k).length := by
   have h4 : nxt D G r k = (G k).filter fun f => zex r f := by unfold nxt; rw [he.1]; rfl
   rw [h4] at h2; have := List.length_filter_le (fun f => zex r f) (G k); omega
  rw [List.filter_eq_self]; exact List.length_filter_eq_length_iff.1 hl
 rw [← h3] at hf'
 exact zd8.1 (List.mem_filter.1 hf').2
theorem z0a (hc : CdV m c) {D : Nat → Bool} {G : Nat → List zB} {r : List zB} (hr : r.length ≤ 3840) {k : Nat} (hk : k < c.zA.length) (he : zjh c R D G r k = true) :
 mea (upd D k) (zfc G k (nxt D G r k)) c.zA.length < mea D G c.zA.length := by
 have h := zz3 D G k (nxt D G r k) c.zA.length
 rw [dct hk] at h
 simp only [ctr] at h
 unfold zjh at he
 rw [Bool.and_eq_true, Bool.or_eq_true] at he
 cases hd : D k with
 | false =>
  rw [hd] at h; have : nxt D G r k = r := by unfold nxt; rw [hd]; rfl
  rw [this] at h ⊢; simp only [cfa] at h; omega
 | true =>
  rw [hd] at h he; have := of_decide_eq_true (he.2.resolve_left (by decide)); simp only [ctr] at h; omega
theorem z6t {D : Nat → Bool} {G : Nat → List zB} {r : List zB} {k i : Nat} (hne : i ≠ k) (h : Nok c R D G i) : Nok c R (upd D k) (zfc G k (nxt D G r k)) i := by
 intro x hx q hq hf
 obtain ⟨h1, h2⟩ := h x hx q hq hf
 have e : zfc G k (nxt D G r k) i = G i := by unfold zfc; rw [ifn hne]
 rw [e]
 refine ⟨by unfold upd; split <;> first | rfl | exact h1, fun f hf' => ?_⟩
 unfold zfc at hf'
 split at hf'
 · rename_i eq; subst eq; unfold nxt at hf'; rw [h1, ctr] at hf'; exact h2 f (List.mem_filter.1 hf').1
 · exact h2 f hf'
structure Giv (m : zI) (c : zF) (R : Nat → Bool) (i : Nat) (x : zC) (gi r : List zB) : Prop where
 at_ : c.zA[i]? = some x
 mem : ∀ f, f ∈ r ↔ Beh x gi f
 so : zez r
 ok : ∀ f ∈ r, FctV m c f
 un : ∀ f ∈ r, f ∈ znu c
 ab : ∀ D' G', Cl c R D' G' → D' i = true ∧ ∀ f ∈ G' i, f ∈ gi
theorem zss (hc : CdV m c) {i : Nat} {x : zC} {gi r : List zB} (h : Giv m c R i x gi r) : r.length ≤ 3840 := Nat.le_trans (zqt _ _ (znv h.so) h.un) (zzt hc)
theorem z3d (hc : CdV m c) {D : Nat → Bool} {G : Nat → List zB} (h : Inv m c R D G) {i : Nat} (hi : i < c.zA.length) (hd : D i = true) {r : List zB} (hm : ∀ f, f ∈ r ↔ Beh c.zA[i] (G i) f) (hs : zez r) : Giv m c R i c.zA[i] (G i) r :=
 ⟨lge hi, hm, hs, fun f hf => z3w (hc.ins _ (List.getElem_mem hi)) (h.ok i) ((hm f).1 hf), fun f hf => z7g hc (List.getElem_mem hi) (h.un i) ((hm f).1 hf), fun D' G' hcl => h.ab D' G' hcl i hi hd⟩
theorem z40 {i : Nat} (hi : i < c.zA.length) {x : zC} {gi r : List zB} (h : Giv m c R i x gi r) {k : Nat} (hk : (k : Int) ∈ zam c i) (hf : fxB c R k = false) : ∀ D' G', Cl c R D' G' → D' k = true ∧ ∀ f ∈ G' k, f ∈ r := by
 intro D' G' hcl
 obtain ⟨h1, h2⟩ := h.ab D' G' hcl
 obtain ⟨h3, h4⟩ := hcl.st i hi h1 x h.at_ k hk hf
 exact ⟨h3, fun f hf' => (h.mem f).2 (zuc h2 (h4 f hf'))⟩
theorem zz4 (hc : CdV m c) {D : Nat → Bool} {G : Nat → List zB} (h : Inv m c R D G) {i : Nat} (hi : i < c.zA.length) {x : zC} {gi r : List zB} (g : Giv m c R i x gi r) {k : Nat} (hkl : k < c.zA.length) (hk : (k : Int) ∈ zam c i) (he : zjh c R D G r k = true) :
 Inv m c R (upd D k) (zfc G k (nxt D G r k)) := by
 have hf : fxB c R k = false := by
  unfold zjh at he; rw [Bool.and_eq_true, Bool.not_eq_true'] at he; exact he.1
 exact z4w hc h hkl hf g.so g.ok g.un (z40 hi g hk hf)
theorem zx3 {D : Nat → Bool} {G : Nat → List zB} {r : List zB} {k : Nat} : (upd D k) k = true ∧ ∀ f ∈ zfc G k (nxt D G r k) k, f ∈ r := by
 refine ⟨by simp [upd], fun f hf => ?_⟩
 unfold zfc at hf
 rw [ifp rfl] at hf
 unfold nxt at hf
 cases hd : D k with
 | true => rw [hd, ctr, List.mem_filter, zd8] at hf; exact hf.2
 | false => rw [hd, cfa] at hf; exact hf
theorem zqu {D : Nat → Bool} {G : Nat → List zB} {r : List zB} {k q : Nat} (hd : D q = true) : (upd D k) q = true ∧ ∀ f ∈ zfc G k (nxt D G r k) q, f ∈ G q := by
 refine ⟨by unfold upd; split <;> first | rfl | exact hd, fun f hf => ?_⟩
 unfold zfc at hf
 split at hf
 · rename_i e; subst e; unfold nxt at hf; rw [hd, ctr] at hf; exact (List.mem_filter.1 hf).1
 · exact hf
structure QS (m : zI) (c : zF) (R : Nat → Bool) (i : Nat) (gi r : List zB) (M0 j : Nat) (D : Nat → Bool) (G : Nat → List zB) (o : List Int) : Prop where
 inv : Inv m c R D G
 mem : ∀ z ∈ o, ∃ k : Nat, z = (k : Int) ∧ k < c.zA.length ∧ D k = true
 di : D i = true
 gi : (i : Int) ∈ o ∨ G i = gi
 a : ∀ i', i' < c.zA.length → i' ≠ i → D i' = true → (i' : Int) ∈ o ∨ Nok c R D G i'
 b : ∀ t, t < j → ∀ k : Nat, (zam c i)[t]? = some (k : Int) → fxB c R k = false → D k = true ∧ ∀ f ∈ G k, f ∈ r
 le : o.length + mea D G c.zA.length ≤ M0
theorem z6n (hc : CdV m c) {i : Nat} (hi : i < c.zA.length) {x : zC} {gi r : List zB} (g : Giv m c R i x gi r) {M0 j : Nat} {D : Nat → Bool} {G : Nat → List zB} {o : List Int} (h : QS m c R i gi r M0 j D G o) {k : Nat} (hj : (zam c i)[j]? = some (k : Int)) (hkl : k < c.zA.length) :
 (zjh c R D G r k = true → QS m c R i gi r M0 (j + 1) (upd D k) (zfc G k (nxt D G r k)) (o ++ [(k : Int)])) ∧ (zjh c R D G r k = false → QS m c R i gi r M0 (j + 1) D G o) := by
 constructor
 · intro he; refine ⟨zz4 hc h.inv hi g hkl (lmg hj) he, fun z hz => ?_, (zqu (G := G) (r := r) h.di).1, ?_, fun i' hi' hne hd => ?_, fun t ht q hq hf => ?_, ?_⟩
   · rcases List.mem_append.1 hz with hz | hz
     · obtain ⟨q, e, hq, hd⟩ := h.mem z hz; exact ⟨q, e, hq, (zqu (G := G) (r := r) hd).1⟩
     · obtain rfl : z = (k : Int) := by simpa using hz
       exact ⟨k, rfl, hkl, by simp [upd]⟩
   · by_cases e : i = k
     · subst e; exact .inl (by simp)
     · rcases h.gi with hg | hg
       · exact .inl (by simp [hg])
       · exact .inr (by unfold zfc; rw [ifn e]; exact hg)
   · by_cases e : i' = k
     · subst e; exact .inl (by simp)
     · unfold upd at hd; rw [ifn e] at hd; rcases h.a i' hi' hne hd with ha | ha
       · exact .inl (by simp [ha])
       · exact .inr (z6t e ha)
   · by_cases e : t = j
     · subst e; rw [hj] at hq; obtain rfl : k = q := by have := Option.some.inj hq; omega
       exact zx3
     · obtain ⟨h1, h2⟩ := h.b t (by omega) q hq hf; obtain ⟨h3, h4⟩ := zqu (G := G) (r := r) (k := k) h1; exact ⟨h3, fun f hf' => h2 f (h4 f hf')⟩
   · have := z0a hc (zss hc g) hkl he; have := h.le; simp only [lna, lns]; omega
 · intro he; refine ⟨h.inv, h.mem, h.di, h.gi, h.a, fun t ht q hq hf => ?_, h.le⟩
   by_cases e : t = j
   · subst e; rw [hj] at hq; obtain rfl : k = q := by have := Option.some.inj hq; omega
     exact z3m he hf
   · exact h.b t (by omega) q hq hf
theorem z16 (N : Nat) (hN : 1048600 < N) (hc : CdV m c) {i : Nat} (hi : i < c.zA.length) {x : zC} {gi r : List zB} (g : Giv m c R i x gi r) {M0 : Nat} (hM : M0 ≤ 1000000) {D : Nat → Bool} {G : Nat → List zB} {o : List Int} (h : QS m c R i gi r M0 0 D G o) :
 ∃ D' G' o', ze (zd.r4 N) N (zb7 c, (List.range c.zA.length).map R, (List.range c.zA.length).map G, (List.range c.zA.length).map D, r, zam c i, ((zam c i).length : Int), 0, o, c) =
  some (zb7 c, (List.range c.zA.length).map R, (List.range c.zA.length).map G', (List.range c.zA.length).map D', r, zam c i, ((zam c i).length : Int), ((zam c i).length : Int), o', c) ∧ QS m c R i gi r M0 (zam c i).length D' G' o' := by
 have hl := hc.len
 have hsl := zqc (c := c) (i := i)
 have hrl := zss hc g
 obtain ⟨s, hs, D', G', o', rfl, hq⟩ := zfb (f := zd.r4 N) (fun j s => ∃ D G o, s = (zb7 c, (List.range c.zA.length).map R, (List.range c.zA.length).map G, (List.range c.zA.length).map D, r, zam c i, ((zam c i).length : Int), (j : Int), o, c) ∧ QS m c R i gi r M0 j D G o) (zam c i).length (by
  rintro j s hj ⟨D, G, o, rfl, h⟩
  have hx := lge hj; obtain ⟨k, hk0, hkl⟩ := zgl hc (List.getElem_mem hj); rw [hk0] at hx; obtain ⟨q1, q2⟩ := z6n hc hi g h hx hkl; have hent : (zb7 c)[k]? = some (zd0 c k) := zch _ hkl; have hR : ((List.range c.zA.length).map R)[k]? = some (R k) := zch _ hkl; have hD : ((List.range c.zA.length).map D)[k]? = some (D k) := zch _ hkl; have hG : ((List.range c.zA.length).map G)[k]? = some (G k) := zih _ hkl; have hgl := zps hc h.inv k; have hol : o.length + 1 ≤ 1000000 ∨ zjh c R D G r k = false := by
   cases he : zjh c R D G r k with
   | false => exact .inr rfl
   | true =>
    have := (q1 he).le; simp only [lna, lns] at this; exact .inl (by omega)
  have hstep : zd.r4 N (zb7 c, (List.range c.zA.length).map R, (List.range c.zA.length).map G, (List.range c.zA.length).map D, r, zam c i, ((zam c i).length : Int), (j : Int), o, c) =
   some (.again (if zjh c R D G r k = true then (zb7 c, (List.range c.zA.length).map R, (List.range c.zA.length).map (zfc G k (nxt D G r k)), (List.range c.zA.length).map (upd D k), r, zam c i, ((zam c i).length : Int), ((j + 1 : Nat) : Int), o ++ [(k : Int)], c)
    else (zb7 c, (List.range c.zA.length).map R, (List.range c.zA.length).map G, (List.range c.zA.length).map D, r, zam c i, ((zam c i).length : Int), ((j + 1 : Nat) : Int), o, c))) := by
   simp only [zd.r4, zd.b4, zap, hx, hent, hR, hD, hG, obs, dct (show (j : Int) < ((zam c i).length : Int) by omega), ctr, itn, lnm, List.length_range, ifp (show 0 ≤ (k : Int) by omega), ifp (show (k : Int) < (c.zA.length : Int) by omega), orB]; rw [w6e, zpl, zqw G]; have hj1 : (j : Int) + 1 = ((j + 1 : Nat) : Int) := by omega
   rw [hj1]; have hfx : (zd0 c k || !R k) = fxB c R k := rfl; rw [hfx]; unfold zjh at hol ⊢; cases hf : fxB c R k with
   | true => simp
   | false =>
    rw [hf] at hol; cases hd : D k with
    | true =>
     have hn : nxt D G r k = (G k).filter fun f => zex r f := by unfold nxt; rw [hd]; rfl
     rw [hd] at hol; simp only [cfa, ctr, Bool.not_false, bnt, Bool.true_and, Bool.false_or]; rw [z19 N (G k) r (by omega) (by omega) (by omega) (by omega), obs, ← hn, zqw G]
     by_cases hlt : (nxt D G r k).length < (G k).length
     · rw [dct (show ((nxt D G r k).length : Int) < ((G k).length : Int) by omega), dct hlt]; have : o.length + 1 ≤ 1000000 := by
        rcases hol with h | h
        · exact h
        · rw [dct hlt] at h; simp at h
       simp [zm8 this]
     · rw [dcf (show ¬ ((nxt D G r k).length : Int) < ((G k).length : Int) by omega), dcf hlt]; simp
    | false =>
     have hn : nxt D G r k = r := by unfold nxt; rw [hd]; rfl
     rw [hd] at hol; have : o.length + 1 ≤ 1000000 := by
      rcases hol with h | h
      · exact h
      · simp at h
     rw [hn]; simp [zm8 this]
  cases he : zjh c R D G r k with
  | true => rw [he, ifp rfl] at hstep; exact ⟨_, hstep, _, _, _, rfl, q1 he⟩
  | false => rw [he, ifn (by decide)] at hstep; exact ⟨_, hstep, _, _, _, rfl, q2 he⟩)
  (by
   rintro s ⟨D, G, o, rfl, h⟩
   refine ⟨_, ?_, D, G, o, rfl, h⟩; simp only [zd.r4, zd.b4]; rw [dcf (Int.lt_irrefl _)]; rfl) (N := N) (by omega) (s := (zb7 c, (List.range c.zA.length).map R, (List.range c.zA.length).map G, (List.range c.zA.length).map D, r, zam c i, ((zam c i).length : Int), 0, o, c)) ⟨D, G, o, rfl, h⟩
 exact ⟨D', G', o', hs, hq⟩
variable {m : zI} {c : zF} {R : Nat → Bool}
theorem zq0 {α : Type} {f : α → Option (Stp α)} (I : Nat → α → Prop) (J : α → Prop) (h : ∀ n s, I n s → (∃ s' n', f s = some (.again s') ∧ I n' s' ∧ n' < n) ∨ (∃ s', f s = some (.leave s') ∧ J s')) :
 ∀ (N : Nat) (n : Nat) (s : α), I n s → n < N → ∃ s', ze f N s = some s' ∧ J s'
 | 0, n, s, _, hN => by omega
 | N + 1, n, s, hI, hN => by
  rcases h n s hI with ⟨s', n', h1, h2, h3⟩ | ⟨s', h1, h2⟩
  · obtain ⟨s2, h4, h5⟩ := zq0 I J h N n' s' h2 (by omega); exact ⟨s2, by rw [ze, h1]; exact h4, h5⟩
  · exact ⟨s', by rw [ze, h1]; rfl, h2⟩
theorem zwh {α : Type} (n : Nat) (v : α) : List.replicate n v = (List.range n).map fun _ => v := by
 apply List.ext_getElem
 · simp
 · intro i h1 h2; simp
theorem zwo : Inv m c R (fxB c R) (fun _ => []) where
 so k := List.Pairwise.nil
 ok k f hf := by simp at hf
 un k f hf := by simp at hf
 no k _ := rfl
 fx k hk hf := ⟨hf, rfl⟩
 ab D' G' hcl k hk hd := by
  obtain ⟨h1, h2⟩ := hcl.fx k hk hd; exact ⟨h1, fun f hf => by rw [h2] at hf; exact hf⟩
theorem z17 (N : Nat) (hN : 1048600 < N) (hc : CdV m c) : ∃ o, ze (zd.r0 N) N (zb7 c, (List.range c.zA.length).map R, (List.range c.zA.length).map (fun _ => ([] : List zB)), (List.range c.zA.length).map (fun _ => false), [], (c.zA.length : Int), 0, c) =
 some (zb7 c, (List.range c.zA.length).map R, (List.range c.zA.length).map (fun _ => ([] : List zB)), (List.range c.zA.length).map (fxB c R), o, (c.zA.length : Int), (c.zA.length : Int), c) ∧
 (∀ z ∈ o, ∃ k : Nat, z = (k : Int) ∧ k < c.zA.length ∧ fxB c R k = true) ∧ (∀ k, k < c.zA.length → fxB c R k = true → (k : Int) ∈ o) ∧ o.length ≤ c.zA.length := by
 have hl := hc.len
 obtain ⟨s, hs, o, rfl, h1, h2, h3⟩ := zfb (f := zd.r0 N) (fun i s => ∃ o, s = (zb7 c, (List.range c.zA.length).map R, (List.range c.zA.length).map (fun _ => ([] : List zB)), (List.range c.zA.length).map (fun k => decide (k < i) && fxB c R k), o, (c.zA.length : Int), (i : Int), c) ∧
  (∀ z ∈ o, ∃ k : Nat, z = (k : Int) ∧ k < c.zA.length ∧ fxB c R k = true) ∧ (∀ k, k < i → fxB c R k = true → (k : Int) ∈ o) ∧ o.length ≤ i) c.zA.length (by
  rintro i s hi ⟨o, rfl, h1, h2, h3⟩
  have hent : (zb7 c)[i]? = some (zd0 c i) := zch _ hi; have hR : ((List.range c.zA.length).map R)[i]? = some (R i) := zch _ hi; have hD : ((List.range c.zA.length).map (fun k => decide (k < i) && fxB c R k))[i]? = some (decide (i < i) && fxB c R i) := zch _ hi; simp only [zd.r0, zd.b0, zap, hent, hR, hD, obs, dct (show (i : Int) < (c.zA.length : Int) by omega), ctr, orB, itn, lnm, List.length_range, ifp (show 0 ≤ (i : Int) by omega), ifp (show (i : Int) < (c.zA.length : Int) by omega), lnc, ln0, zm8 (show o.length + (0 + 1) ≤ 1000000 by omega)]; rw [w6e, show (zd0 c i || !R i) = fxB c R i from rfl, zpl]; have hj1 : (i : Int) + 1 = ((i + 1 : Nat) : Int) := by omega
  rw [hj1]; cases hf : fxB c R i with
  | true =>
   refine ⟨_, rfl, o ++ [(i : Int)], ?_, fun z hz => ?_, fun k hk hfk => ?_, by simp; omega⟩
   · congr 4
     apply zno; intro k _; unfold upd; split
     · rename_i e; subst e; rw [dct (Nat.lt_succ_self k), hf]; rfl
     · rename_i e; show (decide (k < i) && fxB c R k) = (decide (k < i + 1) && fxB c R k)
       congr 1
       by_cases h : k < i
       · rw [dct h, dct (by omega)]
       · rw [dcf h, dcf (by omega)]
   · rcases List.mem_append.1 hz with hz | hz
     · exact h1 z hz
     · obtain rfl : z = (i : Int) := by simpa using hz
       exact ⟨i, rfl, hi, hf⟩
   · by_cases e : k = i
     · subst e; simp
     · exact List.mem_append.2 (.inl (h2 k (by omega) hfk))
  | false =>
   refine ⟨_, rfl, o, ?_, h1, fun k hk hfk => ?_, by omega⟩
   · congr 4
     apply zno; intro k _
     by_cases e : k = i
     · subst e; rw [hf]; simp
     · congr 1
       by_cases h : k < i
       · rw [dct h, dct (by omega)]
       · rw [dcf h, dcf (by omega)]
   · by_cases e : k = i
     · subst e; rw [hf] at hfk; cases hfk
     · exact h2 k (by omega) hfk)
  (by
   rintro s ⟨o, rfl, h1, h2, h3⟩
   refine ⟨_, ?_, o, rfl, h1, h2, h3⟩; simp only [zd.r0, zd.b0]; rw [dcf (Int.lt_irrefl _)]; rfl) (N := N) (by omega) (s := (zb7 c, (List.range c.zA.length).map R, (List.range c.zA.length).map (fun _ => ([] : List zB)), (List.range c.zA.length).map (fun _ => false), [], (c.zA.length : Int), 0, c)) ⟨[], by
    have e : (fun k => decide (k < 0) && fxB c R k) = fun _ => false := by funext k; simp
    rw [e]; rfl, fun z hz => by simp at hz, fun k hk => by omega, Nat.le_refl _⟩
 refine ⟨o, ?_, h1, h2, h3⟩
 rw [hs]
 congr 5
 apply zno
 intro k hk
 rw [dct hk]
 rfl
theorem z4b (N : Nat) (hN : 1048600 < N) (hc : CdV m c) (hR : ∀ k, k < c.zA.length → R k = true → Rch c k) (he : zu N c (zb7 c) = some ((List.range c.zA.length).map R)) :
 ∃ D G, zd N c = some ((List.range c.zA.length).map G) ∧ Inv m c R D G ∧ Cl c R D G := by
 have hl := hc.len
 unfold zd
 rw [z0r N hN hc, obs, he, obs, ifp, ifp, itn, z5q (by omega), ctr, ifp, ifp, zy6 (by omega), ctr, lnr, zwh, znz]
 obtain ⟨o, e0, o1, o2, o3⟩ := z17 (R := R) N hN hc
 rw [e0]
 simp only [obs]
 have hm0 := zyb (D := fxB c R) (G := fun _ => []) (fun k => by simp) c.zA.length
 obtain ⟨s, hs, D, G, rfl, h1, h2⟩ := zq0 (f := zd.r2 N) (fun n s => ∃ D G o, s = (zb7 c, (List.range c.zA.length).map R, (List.range c.zA.length).map G, (List.range c.zA.length).map D, o, c) ∧ Inv m c R D G ∧ (∀ z ∈ o, ∃ k : Nat, z = (k : Int) ∧ k < c.zA.length ∧ D k = true) ∧
  (∀ i, i < c.zA.length → D i = true → (i : Int) ∈ o ∨ Nok c R D G i) ∧ n = o.length + mea D G c.zA.length ∧ n ≤ 1000000)
  (fun s => ∃ D G, s = (zb7 c, (List.range c.zA.length).map R, (List.range c.zA.length).map G, (List.range c.zA.length).map D, [], c) ∧ Inv m c R D G ∧ ∀ i, i < c.zA.length → D i = true → Nok c R D G i) (by
  rintro n s ⟨D, G, o, rfl, h1, h2, h3, hn, hn2⟩
  cases o with
  | nil => exact .inr ⟨_, by simp [zd.r2, zd.b2], D, G, rfl, h1, fun i hi hd => (h3 i hi hd).resolve_left (by simp)⟩
  | cons z o =>
   left; obtain ⟨i, rfl, hi, hd⟩ := h2 z (by simp); have hx := lge hi; have hG : ((List.range c.zA.length).map G)[i]? = some (G i) := zih _ hi; have hgl := zps hc h1 i; have hb := z2a N (by omega) hc.m2 hc.sz (hc.ins _ (List.getElem_mem hi)) (h1.ok i) (show (G i).length < N by omega) (by omega); have g : Giv m c R i c.zA[i] (G i) (zh8 c.zA[i] (G i)) := z3d hc h1 hi hd (fun f => z0f) (z1t (h1.so i)); simp only [lnc] at hn; obtain ⟨D', G', o', e1, q⟩ := z16 N hN hc hi g (M0 := o.length + mea D G c.zA.length) (by omega) (D := D) (G := G) (o := o) ⟨h1, fun z hz => h2 z (by simp [hz]), hd, .inr rfl, fun i' hi' hne hd' => by
    rcases h3 i' hi' hd' with h | h
    · rcases List.mem_cons.1 h with h | h
      · omega
      · exact .inl h
    · exact .inr h, fun t ht => by omega, Nat.le_refl _⟩
   refine ⟨_, o'.length + mea D' G' c.zA.length, ?_, ⟨D', G', o', rfl, q.inv, q.mem, fun i' hi' hd' => ?_, rfl, ?_⟩, ?_⟩
   · simp only [zd.r2, zd.b2, lnc]; rw [dct (by omega), ctr, ifp, ifp]; simp only [Int.toNat_zero, List.getElem?_cons_zero, obs, zap, hx, itn, hG, lnm, List.length_range]; rw [ifp, ifp, ifp]; simp only [hb, obs, zzu (show c.zA.length ≤ 1000000 by omega) hi, show (1 : Int).toNat = 1 from rfl, List.drop_succ_cons, dr0, e1]
   · by_cases e : i' = i
     · subst e; rcases q.gi with hg | hg
       · exact .inl hg
       · right; intro x hx' k hk hf; rw [hx] at hx'; cases hx'; obtain ⟨t, ht⟩ := List.getElem?_of_mem hk; obtain ⟨b1, b2⟩ := q.b t (gei ht).1 k ht hf; exact ⟨b1, fun f hf' => by rw [hg]; exact (g.mem f).1 (b2 f hf')⟩
     · exact q.a i' hi' e hd'
   · have := q.le; omega
   · have := q.le; omega) N (o.length + mea (fxB c R) (fun _ => []) c.zA.length) (zb7 c, (List.range c.zA.length).map R, (List.range c.zA.length).map (fun _ => ([] : List zB)), (List.range c.zA.length).map (fxB c R), o, c)
   ⟨fxB c R, fun _ => [], o, rfl, zwo, o1, fun i hi hd => .inl (o2 i hi hd), rfl, by omega⟩ (by omega)
 rw [hs]
 exact ⟨D, G, rfl, h1, ⟨h1.fx, h2⟩⟩
variable {m : zI} {c : zF} {R : Nat → Bool}
theorem z6h (N : Nat) (l t : List zB) (h : l.length < N) (hl : l.length ≤ 100000) (h' : t.length < N) (hl' : t.length < 1000000000) : ze2 N l t = some (l.filter fun f => zex t f) := by
 unfold ze2
 have := zsb (f := ze2.r0 N) l (fun f => if zex t f = true then some f else none) (fun i acc => (l, t, acc, (i : Int))) (fun i x acc hx hacc => by
  have hi := (gei hx).1; simp only [ze2.r0, ze2.b0, zap, hx, obs, dct (show (i : Int) < (l.length : Int) by omega), ctr, zux N t x h' hl', lnc, ln0, ziz (show acc.length + (0 + 1) ≤ 1000000000 by omega)]; rw [w6e]; cases zex t x <;> simp)
  (fun acc => by simp only [ze2.r0, ze2.b0, dcf (show ¬ (l.length : Int) < (l.length : Int) by omega), cfa]) h
 simp only [nc0] at this
 rw [this]
 simp only [obs]
 congr 1
 rw [← List.filterMap_eq_filter]
 congr 1
structure RS (m : zI) (c : zF) (R : Nat → Bool) (D0 : Nat → Bool) (G0 : Nat → List zB) (i : Nat) (r : List zB) (j : Nat) (D : Nat → Bool) (G : Nat → List zB) (b : Bool) : Prop where
 inv : Inv m c R D G
 sa : b = false → ∀ k, k < c.zA.length → D k = D0 k ∧ G k = G0 k
 me : b = true → mea D G c.zA.length < mea D0 G0 c.zA.length
 b : ∀ t, t < j → ∀ k : Nat, (zam c i)[t]? = some (k : Int) → fxB c R k = false → D k = true ∧ ∀ f ∈ G k, f ∈ r
theorem z6a (hc : CdV m c) {D0 : Nat → Bool} {G0 : Nat → List zB} {i : Nat} (hi : i < c.zA.length) {x : zC} {gi r : List zB} (g : Giv m c R i x gi r) {j : Nat} {D : Nat → Bool} {G : Nat → List zB} {b : Bool} (h : RS m c R D0 G0 i r j D G b) {k : Nat} (hj : (zam c i)[j]? = some (k : Int)) (hkl : k < c.zA.length) :
 (zjh c R D G r k = true → RS m c R D0 G0 i r (j + 1) (upd D k) (zfc G k (nxt D G r k)) true) ∧ (zjh c R D G r k = false → RS m c R D0 G0 i r (j + 1) D G b) := by
 constructor
 · intro he; refine ⟨zz4 hc h.inv hi g hkl (lmg hj) he, (fun hb => by cases hb), fun _ => ?_, fun t ht q hq hf => ?_⟩
   · have h1 := z0a hc (zss hc g) hkl he; cases b with
     | true => have := h.me rfl; omega
     | false => rw [zwn _ (h.sa rfl)] at h1; exact h1
   · by_cases e : t = j
     · subst e; rw [hj] at hq; obtain rfl : k = q := by have := Option.some.inj hq; omega
       exact zx3
     · obtain ⟨h1, h2⟩ := h.b t (by omega) q hq hf; obtain ⟨h3, h4⟩ := zqu (G := G) (r := r) (k := k) h1; exact ⟨h3, fun f hf' => h2 f (h4 f hf')⟩
 · intro he; refine ⟨h.inv, h.sa, h.me, fun t ht q hq hf => ?_⟩
   by_cases e : t = j
   · subst e; rw [hj] at hq; obtain rfl : k = q := by have := Option.some.inj hq; omega
     exact z3m he hf
   · exact h.b t (by omega) q hq hf
theorem z2r (N : Nat) (hN : 1048600 < N) (hc : CdV m c) {D0 : Nat → Bool} {G0 : Nat → List zB} {i : Nat} (hi : i < c.zA.length) {x : zC} {gi r : List zB} (g : Giv m c R i x gi r) {D : Nat → Bool} {G : Nat → List zB} {b : Bool} (h : RS m c R D0 G0 i r 0 D G b) :
 ∃ D' G' b', ze (zg.r6 N) N ((c.zA.length : Int), zb7 c, (List.range c.zA.length).map R, (List.range c.zA.length).map D, (List.range c.zA.length).map G, b, (i : Int), r, zam c i, 0, c) =
  some ((c.zA.length : Int), zb7 c, (List.range c.zA.length).map R, (List.range c.zA.length).map D', (List.range c.zA.length).map G', b', (i : Int), r, zam c i, ((zam c i).length : Int), c) ∧ RS m c R D0 G0 i r (zam c i).length D' G' b' ∧ (b' = false → b = false) := by
 have hl := hc.len
 have hsl := zqc (c := c) (i := i)
 have hrl := zss hc g
 obtain ⟨s, hs, D', G', b', rfl, hq⟩ := zfb (f := zg.r6 N) (fun j s => ∃ D G b', s = ((c.zA.length : Int), zb7 c, (List.range c.zA.length).map R, (List.range c.zA.length).map D, (List.range c.zA.length).map G, b', (i : Int), r, zam c i, (j : Int), c) ∧ RS m c R D0 G0 i r j D G b' ∧ (b' = false → b = false)) (zam c i).length (by
  rintro j s hj ⟨D, G, b', rfl, h, hbb⟩
  have hx := lge hj; obtain ⟨k, hk0, hkl⟩ := zgl hc (List.getElem_mem hj); rw [hk0] at hx; obtain ⟨q1, q2⟩ := z6a hc hi g h hx hkl; have hent : (zb7 c)[k]? = some (zd0 c k) := zch _ hkl; have hel : (zb7 c).length = c.zA.length := by simp [zb7]
  have hR : ((List.range c.zA.length).map R)[k]? = some (R k) := zch _ hkl; have hD : ((List.range c.zA.length).map D)[k]? = some (D k) := zch _ hkl; have hG : ((List.range c.zA.length).map G)[k]? = some (G k) := zih _ hkl; have hgl := zps hc h.inv k; have hstep : zg.r6 N ((c.zA.length : Int), zb7 c, (List.range c.zA.length).map R, (List.range c.zA.length).map D, (List.range c.zA.length).map G, b', (i : Int), r, zam c i, (j : Int), c) =
   some (.again (if zjh c R D G r k = true then ((c.zA.length : Int), zb7 c, (List.range c.zA.length).map R, (List.range c.zA.length).map (upd D k), (List.range c.zA.length).map (zfc G k (nxt D G r k)), true, (i : Int), r, zam c i, ((j + 1 : Nat) : Int), c)
    else ((c.zA.length : Int), zb7 c, (List.range c.zA.length).map R, (List.range c.zA.length).map D, (List.range c.zA.length).map G, b', (i : Int), r, zam c i, ((j + 1 : Nat) : Int), c))) := by
   simp only [zg.r6, zg.b6, zap, hx, hent, hel, hR, hD, hG, obs, dct (show (j : Int) < ((zam c i).length : Int) by omega), ctr, itn, lnm, List.length_range, ifp (show 0 ≤ (k : Int) by omega), ifp (show 0 ≤ (j : Int) by omega), ifp (show (j : Int) < ((zam c i).length : Int) by omega), ifp (show (k : Int) < (c.zA.length : Int) by omega), orB]; rw [w6e, zpl, zqw G]; have hj1 : (j : Int) + 1 = ((j + 1 : Nat) : Int) := by omega
   rw [hj1]; have hfx : (zd0 c k || !R k) = fxB c R k := rfl; rw [hfx]; unfold zjh; cases hf : fxB c R k with
   | true => simp
   | false =>
    cases hd : D k with
    | true =>
     have hn : nxt D G r k = (G k).filter fun f => zex r f := by unfold nxt; rw [hd]; rfl
     have hle := z78 D G r k hd; simp only [cfa, ctr, Bool.not_false, bnt, Bool.true_and, Bool.false_or]; rw [z6h N (G k) r (by omega) (by omega) (by omega) (by omega), obs, ← hn, zqw G, zdq]
     by_cases hlt : (nxt D G r k).length < (G k).length
     · rw [dct (show ((nxt D G r k).length : Int) ≠ ((G k).length : Int) by omega), dct hlt]; simp
     · rw [dcf (show ¬ ((nxt D G r k).length : Int) ≠ ((G k).length : Int) by omega), dcf hlt]; simp
    | false =>
     have hn : nxt D G r k = r := by unfold nxt; rw [hd]; rfl
     rw [hn]; simp
  cases he : zjh c R D G r k with
  | true => rw [he, ifp rfl] at hstep; exact ⟨_, hstep, _, _, _, rfl, q1 he, fun h => by cases h⟩
  | false => rw [he, ifn (by decide)] at hstep; exact ⟨_, hstep, _, _, _, rfl, q2 he, hbb⟩)
  (by
   rintro s ⟨D, G, b', rfl, h, hbb⟩
   refine ⟨_, ?_, D, G, b', rfl, h, hbb⟩; simp only [zg.r6, zg.b6]; rw [dcf (Int.lt_irrefl _)]; rfl) (N := N) (by omega) (s := ((c.zA.length : Int), zb7 c, (List.range c.zA.length).map R, (List.range c.zA.length).map D, (List.range c.zA.length).map G, b, (i : Int), r, zam c i, 0, c)) ⟨D, G, b, rfl, h, id⟩
 exact ⟨D', G', b', hs, hq⟩
theorem z2s (N : Nat) (hN : 1048600 < N) (hc : CdV m c) {D0 : Nat → Bool} {G0 : Nat → List zB} (h : Inv m c R D0 G0) :
 ∃ D G b, ze (zg.r4 N) N ((c.zA.length : Int), zb7 c, (List.range c.zA.length).map R, (List.range c.zA.length).map D0, (List.range c.zA.length).map G0, false, 0, c) =
  some ((c.zA.length : Int), zb7 c, (List.range c.zA.length).map R, (List.range c.zA.length).map D, (List.range c.zA.length).map G, b, (c.zA.length : Int), c) ∧ Inv m c R D G ∧
  (b = false → (∀ k, k < c.zA.length → D k = D0 k ∧ G k = G0 k) ∧ ∀ i, i < c.zA.length → D0 i = true → Nok c R D0 G0 i) ∧ (b = true → mea D G c.zA.length < mea D0 G0 c.zA.length) := by
 have hl := hc.len
 obtain ⟨s, hs, D, G, b, rfl, h1, h2, h3⟩ := zfb (f := zg.r4 N) (fun i s => ∃ D G b, s = ((c.zA.length : Int), zb7 c, (List.range c.zA.length).map R, (List.range c.zA.length).map D, (List.range c.zA.length).map G, b, (i : Int), c) ∧ Inv m c R D G ∧
  (b = false → (∀ k, k < c.zA.length → D k = D0 k ∧ G k = G0 k) ∧ ∀ i', i' < i → D0 i' = true → Nok c R D0 G0 i') ∧ (b = true → mea D G c.zA.length < mea D0 G0 c.zA.length)) c.zA.length (by
  rintro i s hi ⟨D, G, b, rfl, h1, h2, h3⟩
  have hx := lge hi; have hD : ((List.range c.zA.length).map D)[i]? = some (D i) := zch _ hi; have hG : ((List.range c.zA.length).map G)[i]? = some (G i) := zih _ hi; have hj1 : (i : Int) + 1 = ((i + 1 : Nat) : Int) := by omega
  cases hd : D i with
  | false =>
   refine ⟨_, ?_, D, G, b, rfl, h1, fun hb => ?_, h3⟩
   · simp only [zg.r4, zg.b4, itn, hD, hd, lnm, List.length_range]; rw [dct (by omega), ctr, ifp, ifp, w6e, hj1]; rfl
   · obtain ⟨q1, q2⟩ := h2 hb; refine ⟨q1, fun i' hi' hd' => ?_⟩
     by_cases e : i' = i
     · subst e; rw [← (q1 i' hi).1, hd] at hd'; cases hd'
     · exact q2 i' (by omega) hd'
  | true =>
   have hgl := zps hc h1 i; obtain ⟨r, hr1, hr2, hr3, hr4⟩ := z2u N (by omega) (hc.ins _ (List.getElem_mem hi)) (h1.ok i) (by omega); have g : Giv m c R i c.zA[i] (G i) r := z3d hc h1 hi hd hr2 (hr3 (h1.so i)); obtain ⟨D', G', b', e1, q, qb⟩ := z2r N hN hc (D0 := D0) (G0 := G0) hi g (D := D) (G := G) (b := b) ⟨h1, fun hb => (h2 hb).1, h3, fun t ht => by omega⟩; refine ⟨_, ?_, D', G', b', rfl, q.inv, fun hb => ?_, q.me⟩
   · simp only [zg.r4, zg.b4, itn, hD, hd, hG, zap, hx, lnm, List.length_range]; rw [dct (by omega), ctr, ifp, ifp]; simp only [obs, bnt, cfa]; rw [ifp, ifp]; simp only [hr1, obs, zzz (show c.zA.length ≤ 1000000 by omega) hi, e1]; rw [w6e, hj1]
   · obtain ⟨q1, q2⟩ := h2 (qb hb); refine ⟨q.sa hb, fun i' hi' hd' => ?_⟩
     by_cases e : i' = i
     · subst e; intro x hx' k hk hf; rw [hx] at hx'; cases hx'; obtain ⟨t, ht⟩ := List.getElem?_of_mem hk; obtain ⟨b1, b2⟩ := q.b t (gei ht).1 k ht hf; obtain ⟨k', hk', hkl⟩ := zgl hc hk; obtain rfl : k = k' := by omega
       obtain ⟨s1, s2⟩ := q.sa hb k hkl; rw [← s1, ← s2, ← (q1 i' hi).2]; exact ⟨b1, fun f hf' => (g.mem f).1 (b2 f hf')⟩
     · exact q2 i' (by omega) hd')
  (by
   rintro s ⟨D, G, b, rfl, h1, h2, h3⟩
   refine ⟨_, ?_, D, G, b, rfl, h1, h2, h3⟩; simp only [zg.r4, zg.b4]; rw [dcf (Int.lt_irrefl _)]; rfl) (N := N) (by omega) (s := ((c.zA.length : Int), zb7 c, (List.range c.zA.length).map R, (List.range c.zA.length).map D0, (List.range c.zA.length).map G0, false, 0, c)) ⟨D0, G0, false, rfl, h, fun _ => ⟨fun k _ => ⟨rfl, rfl⟩, fun i' hi' => by omega⟩, fun h => by cases h⟩
 exact ⟨D, G, b, hs, h1, h2, h3⟩
theorem z2t (N : Nat) (hN : 1048600 < N) (hc : CdV m c) (G : List (List zB)) : ze (zg.r0 N) N ((c.zA.length : Int), zb7 c, (List.range c.zA.length).map R, (List.range c.zA.length).map (fun _ => false), G, 0, c) =
 some ((c.zA.length : Int), zb7 c, (List.range c.zA.length).map R, (List.range c.zA.length).map (fxB c R), G, (c.zA.length : Int), c) := by
 have hl := hc.len
 have hel : (zb7 c).length = c.zA.length := by simp [zb7]
 have := zdf (f := zg.r0 N) (fun i => ((c.zA.length : Int), zb7 c, (List.range c.zA.length).map R, (List.range c.zA.length).map (fun k => decide (k < i) && fxB c R k), G, (i : Int), c)) c.zA.length (fun i hi => by
  have hent : (zb7 c)[i]? = some (zd0 c i) := zch _ hi; have hR : ((List.range c.zA.length).map R)[i]? = some (R i) := zch _ hi; have hD : ((List.range c.zA.length).map (fun k => decide (k < i) && fxB c R k))[i]? = some (decide (i < i) && fxB c R i) := zch _ hi; simp only [zg.r0, zg.b0, zap, hent, hel, hR, hD, obs, dct (show (i : Int) < (c.zA.length : Int) by omega), ctr, orB, itn, lnm, List.length_range, ifp (show 0 ≤ (i : Int) by omega), ifp (show (i : Int) < (c.zA.length : Int) by omega)]; rw [w6e, show (zd0 c i || !R i) = fxB c R i from rfl, zjw]; have hj1 : (i : Int) + 1 = ((i + 1 : Nat) : Int) := by omega
  rw [hj1]
  congr 6
  apply zno; intro k _
  by_cases e : k = i
  · subst e; rw [ifp rfl, dct (Nat.lt_succ_self k), Bool.true_and]
  · rw [ifn e]
    congr 1
    by_cases h : k < i
    · rw [dct h, dct (by omega)]
    · rw [dcf h, dcf (by omega)])
  (by simp only [zg.r0, zg.b0]; rw [dcf (Int.lt_irrefl _)]; rfl) (N := N) (by omega)
 have e0 : (fun k => decide (k < 0) && fxB c R k) = fun _ => false := by funext k; simp
 rw [e0] at this
 simp only [nc0] at this
 rw [this]
 congr 5
 apply zno
 intro k hk
 rw [dct hk]
 rfl
theorem z2q (N : Nat) (hN : 1048600 < N) (hc : CdV m c) (G : Nat → List zB) : ∃ z, ze (zg.r8 N) N ((c.zA.length : Int), (List.range c.zA.length).map G, true, 0) = some ((c.zA.length : Int), (List.range c.zA.length).map G, ((List.range c.zA.length).map G).all (fun l => decide (l.length ≤ 60)), z) := by
 have hl := hc.len
 have := zdf (f := zg.r8 N) (fun i => ((c.zA.length : Int), (List.range c.zA.length).map G, (((List.range c.zA.length).map G).take i).all (fun l => decide (l.length ≤ 60)), (i : Int))) c.zA.length (fun i hi => by
  have hG : ((List.range c.zA.length).map G)[i]? = some (G i) := zih _ hi; simp only [zg.r8, zg.b8, itn, hG, lnm, List.length_range, obs]; rw [dct (show (i : Int) < (c.zA.length : Int) by omega), ctr, ifp (show 0 ≤ (i : Int) by omega), ifp (show (i : Int) < (c.zA.length : Int) by omega), zh9, obs, w6e, List.take_add_one, hG, List.all_append]; have e : decide (((G i).length : Int) ≤ 60) = decide ((G i).length ≤ 60) := by
   by_cases h : (G i).length ≤ 60
   · rw [dct h, dct (by omega)]
   · rw [dcf h, dcf (by omega)]
  rw [e]; simp)
  (by simp only [zg.r8, zg.b8]; rw [dcf (Int.lt_irrefl _)]; rfl) (N := N) (by omega)
 simp only [nc0, List.take_zero, List.all_nil] at this
 rw [this, List.take_of_length_le (by simp)]
 exact ⟨_, rfl⟩
theorem z4k (N : Nat) (hN : 1048600 < N) (hc : CdV m c) (he : zy N c = some ((List.range c.zA.length).map R)) :
 ∃ D G, zg N c = some ((List.range c.zA.length).map G, ((List.range c.zA.length).map G).all fun l => decide (l.length ≤ 60)) ∧ Inv m c R D G ∧ Cl c R D G := by
 have hl := hc.len
 unfold zg
 rw [zuy N hN hc, obs, he, obs, ifp, ifp, itn, zy6 (by omega), ctr, ifp, ifp, z5q (by omega), ctr, znz, zwh _ ([] : List zB), z2t N hN hc]
 simp only [obs]
 have hm0 := zyb (D := fxB c R) (G := fun _ => []) (fun k => by simp) c.zA.length
 obtain ⟨s, hs, D, G, rfl, h1, h2⟩ := zq0 (f := zg.r2 N) (fun n s => ∃ D G b, s = ((c.zA.length : Int), zb7 c, (List.range c.zA.length).map R, (List.range c.zA.length).map D, (List.range c.zA.length).map G, b, c) ∧ Inv m c R D G ∧ (b = false → ∀ i, i < c.zA.length → D i = true → Nok c R D G i) ∧ n = cond b (mea D G c.zA.length + 1) 0)
  (fun s => ∃ D G, s = ((c.zA.length : Int), zb7 c, (List.range c.zA.length).map R, (List.range c.zA.length).map D, (List.range c.zA.length).map G, false, c) ∧ Inv m c R D G ∧ ∀ i, i < c.zA.length → D i = true → Nok c R D G i) (by
  rintro n s ⟨D, G, b, rfl, h1, h2, hn⟩
  cases b with
  | false => exact .inr ⟨_, rfl, D, G, rfl, h1, h2 rfl⟩
  | true =>
   obtain ⟨D', G', b', e1, q1, q2, q3⟩ := z2s N hN hc h1; refine .inl ⟨_, cond b' (mea D' G' c.zA.length + 1) 0, by simp only [zg.r2, zg.b2, ctr, e1, obs], ⟨D', G', b', rfl, q1, fun hb i hi hd => ?_, rfl⟩, ?_⟩
   · obtain ⟨s1, s2⟩ := q2 hb; intro x hx k hk hf; obtain ⟨k', hk', hkl⟩ := zgl hc hk; obtain rfl : k = k' := by omega
     rw [(s1 k hkl).1, (s1 k hkl).2, (s1 i hi).2]; exact s2 i hi (by rw [← (s1 i hi).1]; exact hd) x hx k hk hf
   · simp only [ctr] at hn; cases b' with
     | true => have := q3 rfl; simp only [ctr]; omega
     | false => simp only [cfa]; omega) N (mea (fxB c R) (fun _ => []) c.zA.length + 1) ((c.zA.length : Int), zb7 c, (List.range c.zA.length).map R, (List.range c.zA.length).map (fxB c R), (List.range c.zA.length).map (fun _ => ([] : List zB)), true, c)
   ⟨fxB c R, fun _ => [], true, rfl, zwo, (fun h => by cases h), rfl⟩ (by omega)
 rw [hs]
 simp only [obs]
 obtain ⟨z, hz⟩ := z2q N hN hc G
 rw [hz]
 exact ⟨D, G, rfl, h1, ⟨h1.fx, h2⟩⟩
variable {m : zI} {c : zF}
theorem z1l (N : Nat) (hN : 1048600 < N) (hc : CdV m c) : ∃ G : Nat → List zB, zd N c = some ((List.range c.zA.length).map G) ∧
 zg N c = some ((List.range c.zA.length).map G, ((List.range c.zA.length).map G).all fun l => decide (l.length ≤ 60)) ∧ (∀ k, zez (G k) ∧ (G k).length ≤ 3840 ∧ ∀ f ∈ G k, FctV m c f) ∧
 ∃ R D, (∀ k, k < c.zA.length → (R k = true ↔ Rch c k)) ∧ Inv m c R D G ∧ Cl c R D G := by
 obtain ⟨p, p1, p2, p3⟩ := z38 N hN hc
 obtain ⟨q, q1, q2, q3⟩ := z4i N hN hc
 have e : (List.range c.zA.length).map q = (List.range c.zA.length).map p := zno fun k hk => (z06 hc p2 p3 q2 q3 k hk).symm
 rw [e] at q1
 obtain ⟨D, G, h1, h2, h3⟩ := z4b N hN hc p2 p1
 obtain ⟨D', G', g1, g2, g3⟩ := z4k N hN hc q1
 have eg : (List.range c.zA.length).map G' = (List.range c.zA.length).map G := List.map_congr_left fun k hk => ((z1e hc h2 h3 g2 g3 k (by simpa using hk)).2).symm
 rw [eg] at g1
 exact ⟨G, h1, g1, fun k => ⟨h2.so k, zps hc h2 k, h2.ok k⟩, p, D, fun k hk => ⟨p2 k hk, p3 k⟩, h2, h3⟩
theorem z5y (N : Nat) (F : List (List zB)) (h : F.length < N) (hl : F.length < 1000000000) : zbq N F = some (F.any fun l => decide (60 < l.length)) := by
 unfold zbq zt
 have := zvq (f := zt.r0 N) F (fun l => decide (60 < l.length)) (fun i => (F, (F.length : Int), (i : Int))) (fun i y hy => by
  have hi := (gei hy).1; simp only [zt.r0, zt.b0, zfd, zap, hy, obs, dct (show (i : Int) < (F.length : Int) by omega), ctr]; rw [w6e]
  by_cases h : 60 < y.length
  · rw [dct (show (y.length : Int) > 60 by omega), dct h]; rfl
  · rw [dcf (show ¬ (y.length : Int) > 60 by omega), dcf h]; rfl)
  (by simp only [zt.r0, zt.b0, dcf (show ¬ (F.length : Int) < (F.length : Int) by omega), cfa]) h
 simp only [nc0] at this
 rw [this]
 have e := ztb F (fun l => decide (60 < l.length))
 cases hf : F.findIdx? (fun l => decide (60 < l.length)) with
 | none => rw [hf] at e; rw [← e]; simp [za9]
 | some k => rw [hf] at e; rw [← e]; simp [za9]
theorem z7l (F : List (List zB)) : (F.any fun l => decide (60 < l.length)) = !(F.all fun l => decide (l.length ≤ 60)) := by
 rw [List.not_all_eq_any_not]
 congr 1
 funext l
 by_cases h : 60 < l.length
 · rw [dct h, dcf (by omega)]; rfl
 · rw [dcf h, dct (by omega)]; rfl
theorem zuf (N : Nat) (hN : 1048600 < N) (m : zI) {c : zF} (hc : Wft En 1048576 Ty.zF c) : ∃ n e, zl N m c = some (n, e) ∧ zaa N m c = some (n, e) ∧
 (e ≠ 0 → zc8 N m c = some ([], e)) ∧ (e = 0 → CdV m c ∧ ∃ G : Nat → List zB, zc8 N m c = some (if ((List.range c.zA.length).map G).all (fun l => decide (l.length ≤ 60)) = true then ((List.range c.zA.length).map G, 0) else ([], 2)) ∧
  zg N c = some ((List.range c.zA.length).map G, ((List.range c.zA.length).map G).all fun l => decide (l.length ≤ 60)) ∧ (∀ k, zez (G k) ∧ (G k).length ≤ 3840 ∧ ∀ f ∈ G k, FctV m c f) ∧ zd N c = some ((List.range c.zA.length).map G) ∧
  ∃ R D, (∀ k, k < c.zA.length → (R k = true ↔ Rch c k)) ∧ Inv m c R D G ∧ Cl c R D G) := by
 obtain ⟨⟨n, e⟩, h1, h2⟩ := z3q N hN m hc
 refine ⟨n, e, h1, h2, fun he => ?_, fun he => ?_⟩
 · unfold zc8 zfl; rw [h1, obs, obs, show (e != 0) = true by simpa using he]; rfl
 · subst he; obtain ⟨hcv, _⟩ := z8n N hN hc h2; have hil := hcv.len; obtain ⟨G, g1, g2, g3, g4⟩ := z1l N hN hcv; refine ⟨hcv, G, ?_, g2, g3, g1, g4⟩; unfold zc8 zfl; rw [h1, obs, obs, bsf, cfa, g1, obs, z5y N _ (by simp; omega) (by simp; omega), obs, z7l]; cases ((List.range c.zA.length).map G).all fun l => decide (l.length ≤ 60) <;> rfl
variable {m : zI} {c : zF}
def knl (x : zC) : Bool := decide (x.Op = 0) && !x.Place.Based
def zii (l : List zB) (x : zC) (r : Int) : Bool := zex l ⟨r, x.zD, x.Place.Offset⟩
def drp (c : zF) (G : Nat → List zB) (i : Nat) : Bool := match c.zA[i]? with | some x => decide (i + 1 < c.zA.length) && (knl x && zii (G i) x x.R) | none => false
def kc (c : zF) (G : Nat → List zB) : Nat → Nat
 | 0 => 0
 | k + 1 => kc c G k + cond (drp c G k) 0 1
def ixA (c : zF) (G : Nat → List zB) (i : Nat) : Int := cond (drp c G i) (-1) (kc c G i : Int)
def cpy (l : List zB) (x : zC) : zC := if knl x = true then (match l.findSome? (fun g => if (g.Register != x.R && zii l x g.Register) = true then some g.Register else none) with
 | some r => ⟨3, x.R, r, 0, 0, ⟨false, 0, 0⟩, ⟨false, 0, 0⟩, ⟨0, 0, 0⟩, ⟨0, 0, 0⟩, false, false, ⟨0, 0⟩, ⟨#[]⟩, ⟨#[]⟩, 0, 0, 0, 0⟩
 | none => x) else x
def trn (c : zF) (G : Nat → List zB) (x : zC) : zC := if zdj x.Op = true then ⟨x.Op, x.R, x.A, x.B, x.zO, x.Place, x.From, x.zD, x.Second, x.Half, x.zK, x.Number, x.Text, x.Other, x.Mask, (kc c G x.Target.toNat : Int), x.Pointer, x.Source⟩ else x
def zn5 (c : zF) (G : Nat → List zB) (i : Nat) : Option zC := (c.zA[i]?).bind fun x => cond (drp c G i) none (some (trn c G (cpy (G i) x)))
def zjj (c : zF) (G : Nat → List zB) : List zC := (List.range c.zA.length).filterMap (zn5 c G)
def zmj (c : zF) (G : Nat → List zB) : List zQ := c.zP.map fun t => ⟨(kc c G t.From.toNat : Int), (kc c G t.To.toNat : Int), t.Exception, (kc c G t.Handler.toNat : Int)⟩
def zbu (c : zF) (G : Nat → List zB) : zF := ⟨c.Storage, zjj c G, zmj c G⟩
theorem zng (c : zF) (G : Nat → List zB) : ∀ k, kc c G k ≤ k
 | 0 => Nat.le_refl _
 | k + 1 => by have := zng c G k; simp only [kc]; cases drp c G k <;> simp <;> omega
theorem zkc (c : zF) (G : Nat → List zB) {a b : Nat} (h : a ≤ b) : kc c G a ≤ kc c G b := by
 induction b with
 | zero =>
  have : a = 0 := by omega
  subst this; exact Nat.le_refl _
 | succ b ih =>
  by_cases e : a = b + 1
  · subst e; exact Nat.le_refl _
  · have := ih (by omega); simp only [kc]; omega
theorem zsq (c : zF) (G : Nat → List zB) : ∀ k, k ≤ c.zA.length → ((List.range k).filterMap (zn5 c G)).length = kc c G k
 | 0, _ => rfl
 | k + 1, h => by
  have hx := lge (show k < c.zA.length by omega); rw [List.range_succ, List.filterMap_append, lna, zsq c G k (by omega), kc]
  congr 1
  unfold zn5; simp only [List.filterMap_cons, List.filterMap_nil, hx, obs]; cases drp c G k <;> rfl
theorem zjf (c : zF) (G : Nat → List zB) : (zjj c G).length = kc c G c.zA.length := zsq c G _ (Nat.le_refl _)
theorem z31 {G : Nat → List zB} {i : Nat} (hi : i < c.zA.length) (hd : drp c G i = false) : (zjj c G)[kc c G i]? = some (trn c G (cpy (G i) c.zA[i])) := by
 have e : List.range c.zA.length = List.range i ++ (i :: List.range' (i + 1) (c.zA.length - (i + 1))) := by
  apply List.ext_getElem
  · simp; omega
  · intro t h3 h4; rw [List.getElem_append]; split
    · simp
    · rename_i h5; have h5' : i ≤ t := by simpa using h5
      by_cases e : t = i
      · subst e; simp
      · have : t - i ≠ 0 := by omega
        rw [List.getElem_cons]; simp [this]; omega
 unfold zjj
 rw [e, List.filterMap_append, List.getElem?_append_right (by rw [zsq c G i (by omega)]; exact Nat.le_refl _), zsq c G i (by omega), Nat.sub_self, List.filterMap_cons]
 have hn : zn5 c G i = some (trn c G (cpy (G i) c.zA[i])) := by
  unfold zn5; rw [lge hi, obs, hd]; rfl
 rw [hn]
 rfl
theorem z0k {G : Nat → List zB} {y : zC} (h : y ∈ zjj c G) : ∃ (i : Nat) (hi : i < c.zA.length), drp c G i = false ∧ y = trn c G (cpy (G i) c.zA[i]) := by
 unfold zjj at h
 rw [List.mem_filterMap] at h
 obtain ⟨i, hi, h⟩ := h
 have hi : i < c.zA.length := by simpa using hi
 unfold zn5 at h
 rw [lge hi, obs] at h
 cases hd : drp c G i with
 | true => rw [hd] at h; cases h
 | false => rw [hd] at h; cases h; exact ⟨i, hi, hd, rfl⟩
theorem zxd (x : zC) : zcp x = some (knl x) := by
 unfold zcp knl
 rw [zct, zh9, obs]
theorem zxf (N : Nat) (l : List zB) (x : zC) (r : Int) (h : l.length < N) (hl : l.length < 1000000000) : zeo N l x r = some (zii l x r) := by
 unfold zeo zii
 rw [zo2 N l _ h hl]
 rfl
theorem z18 (N : Nat) (l : List zB) (x : zC) (h : l.length < N) (hl : l.length < 1000000000) : zbd N l x = some (cpy l x) := by
 unfold zbd cpy
 rw [zxd, obs]
 cases knl x with
 | false => rfl
 | true =>
  simp only [bnt, cfa, if_true]; generalize (⟨0, 0, 0, 0, 0, (⟨false, 0, 0⟩ : zL), (⟨false, 0, 0⟩ : zL), (⟨0, 0, 0⟩ : DataType), (⟨0, 0, 0⟩ : DataType), false, false, (⟨0, 0⟩ : Number), (⟨#[]⟩ : ByteArray), (⟨#[]⟩ : ByteArray), 0, 0, 0, 0⟩ : zC) = z; have := zde (f := zbd.r0 N) (fun i => (l, l, (l.length : Int), (i : Int), x, z)) (fun i => (l[i]?).bind fun g => if (g.Register != x.R && zii l x g.Register) = true then some (⟨3, x.R, g.Register, 0, 0, ⟨false, 0, 0⟩, ⟨false, 0, 0⟩, ⟨0, 0, 0⟩, ⟨0, 0, 0⟩, false, false, ⟨0, 0⟩, ⟨#[]⟩, ⟨#[]⟩, 0, 0, 0, 0⟩ : zC) else none) l.length (fun i hi => by
   have hx := lge hi; simp only [zbd.r0, zbd.b0, zap, hx, obs, dct (show (i : Int) < (l.length : Int) by omega), ctr, zxf N l x _ h hl, zh9]; rw [w6e]; cases (l[i].Register != x.R && zii l x l[i].Register) <;> rfl)
   (by simp only [zbd.r0, zbd.b0, dcf (Int.lt_irrefl _), cfa]) h
  simp only [nc0] at this; rw [this, zkd]; have e : l.findSome? (fun g => if (g.Register != x.R && zii l x g.Register) = true then some (⟨3, x.R, g.Register, 0, 0, ⟨false, 0, 0⟩, ⟨false, 0, 0⟩, ⟨0, 0, 0⟩, ⟨0, 0, 0⟩, false, false, ⟨0, 0⟩, ⟨#[]⟩, ⟨#[]⟩, 0, 0, 0, 0⟩ : zC) else none) =
   (l.findSome? (fun g => if (g.Register != x.R && zii l x g.Register) = true then some g.Register else none)).map fun r => ⟨3, x.R, r, 0, 0, ⟨false, 0, 0⟩, ⟨false, 0, 0⟩, ⟨0, 0, 0⟩, ⟨0, 0, 0⟩, false, false, ⟨0, 0⟩, ⟨#[]⟩, ⟨#[]⟩, 0, 0, 0, 0⟩ := by
   have gen : ∀ (p : zB → Bool) (k : List zB), k.findSome? (fun g => if p g = true then some (⟨3, x.R, g.Register, 0, 0, ⟨false, 0, 0⟩, ⟨false, 0, 0⟩, ⟨0, 0, 0⟩, ⟨0, 0, 0⟩, false, false, ⟨0, 0⟩, ⟨#[]⟩, ⟨#[]⟩, 0, 0, 0, 0⟩ : zC) else none) =
    (k.findSome? (fun g => if p g = true then some g.Register else none)).map fun r => ⟨3, x.R, r, 0, 0, ⟨false, 0, 0⟩, ⟨false, 0, 0⟩, ⟨0, 0, 0⟩, ⟨0, 0, 0⟩, false, false, ⟨0, 0⟩, ⟨#[]⟩, ⟨#[]⟩, 0, 0, 0, 0⟩ := by
    intro p k
    induction k with
    | nil => rfl
    | cons g k ih =>
     rw [List.findSome?_cons, List.findSome?_cons]; cases p g with
     | true => rfl
     | false => simpa using ih
   exact gen (fun g => g.Register != x.R && zii l x g.Register) l
  rw [e]; cases l.findSome? (fun g => if (g.Register != x.R && zii l x g.Register) = true then some g.Register else none) <;> rfl
theorem z5x (N : Nat) (hN : 1000 < N) (hc : CdV m c) {G : Nat → List zB} (hG : ∀ k, (G k).length ≤ 100) (z : zF) (w : zV) :
 ze (zf.r0 N) N ((List.range c.zA.length).map G, [], 0, c.zA, (c.zA.length : Int), 0, c, z, w) =
  some ((List.range c.zA.length).map G, (List.range c.zA.length).map (ixA c G), (kc c G c.zA.length : Int), c.zA, (c.zA.length : Int), (c.zA.length : Int), c, z, w) := by
 have hl := hc.len
 have := zdf (f := zf.r0 N) (fun i => ((List.range c.zA.length).map G, (List.range i).map (ixA c G), (kc c G i : Int), c.zA, (c.zA.length : Int), (i : Int), c, z, w)) c.zA.length (fun i hi => by
  have hx := lge hi; have hF : ((List.range c.zA.length).map G)[i]? = some (G i) := zih _ hi; have hgl := hG i; have hk := zng c G i; have hkc : kc c G (i + 1) = kc c G i + cond (drp c G i) 0 1 := rfl; have hdr : drp c G i = (decide (i + 1 < c.zA.length) && (knl c.zA[i] && zii (G i) c.zA[i] c.zA[i].R)) := by unfold drp; rw [hx]
  simp only [zf.r0, zf.b0, zap, hx, hF, obs, dct (show (i : Int) < (c.zA.length : Int) by omega), ctr, zxd, zxf N (G i) _ _ (show (G i).length < N by omega) (by omega), lnm, List.length_range, lnc, ln0, zm8 (show i + (0 + 1) ≤ 1000000 by omega), zh9]; rw [w6e (n := (c.zA.length : Int) - 1), w6e (n := (i : Int) + 1), w6e (n := (kc c G i : Int) + 1), List.range_succ, List.map_append, hkc, hdr]; have e1 : decide ((i : Int) < (c.zA.length : Int) - 1) = decide (i + 1 < c.zA.length) := by
   by_cases h : i + 1 < c.zA.length
   · rw [dct h, dct (by omega)]
   · rw [dcf h, dcf (by omega)]
  rw [e1, Bool.and_assoc]; have hix : ixA c G i = cond (decide (i + 1 < c.zA.length) && (knl c.zA[i] && zii (G i) c.zA[i] c.zA[i].R)) (-1) (kc c G i : Int) := by unfold ixA; rw [hdr]
  simp only [List.map_cons, List.map_nil, hix]; cases (decide (i + 1 < c.zA.length) && (knl c.zA[i] && zii (G i) c.zA[i] c.zA[i].R)) <;> simp)
  (by simp only [zf.r0, zf.b0, dcf (Int.lt_irrefl _), cfa]) (show c.zA.length < N by omega)
 simpa [kc] using this
def zr3 (c : zF) (G : Nat → List zB) : List Int := (List.range (c.zA.length + 1)).map fun k => (kc c G k : Int)
theorem z4a (N : Nat) (hN : 1000 < N) (hc : CdV m c) (G : Nat → List zB) : zbh N ((List.range c.zA.length).map (ixA c G)) = some (zr3 c G) := by
 have hl := hc.len
 unfold zbh
 have := zdf (f := zbh.r0 N) (fun i => ((List.range (i + 1)).map (fun k => (kc c G k : Int)), (kc c G i : Int), (List.range c.zA.length).map (ixA c G), (c.zA.length : Int), (i : Int))) c.zA.length (fun i hi => by
  have hx : ((List.range c.zA.length).map (ixA c G))[i]? = some (ixA c G i) := zih _ hi; have hk := zng c G i; have hkc : kc c G (i + 1) = kc c G i + cond (drp c G i) 0 1 := rfl; simp only [zbh.r0, zbh.b0, zap, hx, obs, dct (show (i : Int) < (c.zA.length : Int) by omega), ctr, lnm, List.length_range, lnc, ln0, zm8 (show i + 1 + (0 + 1) ≤ 1000000 by omega)]; rw [w6e (n := (i : Int) + 1), w6e (n := (kc c G i : Int) + 1), List.range_succ (n := i + 1), List.map_append, List.map_cons, List.map_nil, hkc]; unfold ixA; cases drp c G i with
  | true => rfl
  | false =>
   simp only [cfa]; rw [show ((kc c G i : Int) != -1) = true by rw [zdq]; simp]; rfl)
  (by simp only [zbh.r0, zbh.b0, dcf (Int.lt_irrefl _), cfa]) (show c.zA.length < N by omega)
 have e : ((List.range (0 + 1)).map (fun k => (kc c G k : Int))) = [0] := rfl
 simp only [nc0, e, show (kc c G 0 : Int) = 0 from rfl] at this
 rw [lnm, List.length_range, this]
 rfl
theorem zu6 {G : Nat → List zB} {z : Int} (h0 : 0 ≤ z) (h1 : z ≤ (c.zA.length : Int)) : idx (zr3 c G) z = some (kc c G z.toNat : Int) := by
 have : z = ((z.toNat : Nat) : Int) := by omega
 rw [this, zap, itn]
 exact zih _ (by omega)
theorem z11 (hc : CdV m c) (G : Nat → List zB) {x : zC} (hx : zdj x.Op = true → 0 ≤ x.Target ∧ x.Target < (c.zA.length : Int)) : zfy x (zr3 c G) = some (trn c G x) := by
 unfold zfy trn
 rw [zxe, obs]
 cases hj : zdj x.Op with
 | false => rfl
 | true =>
  have := hx hj; rw [ctr, zu6 (by omega) (by omega), obs, ifp rfl]
def TrV (c : zF) : Prop := ∀ t ∈ c.zP, 0 ≤ t.From ∧ t.From ≤ t.To ∧ t.To ≤ (c.zA.length : Int) ∧ 0 ≤ t.Handler ∧ t.Handler < (c.zA.length : Int)
theorem z9n {n : Nat} (h : n ≤ 1000000000) : Nat.ble (n * 32) zal = true := Nat.ble_eq_true_of_le (by show n * 32 ≤ 2 ^ 46; omega)
theorem z8p {n : Nat} (h : n ≤ 1000000000) : Nat.ble (n * 224) zal = true := Nat.ble_eq_true_of_le (by show n * 224 ≤ 2 ^ 46; omega)
theorem z37 (N : Nat) (hN : 1048600 < N) (hc : CdV m c) (ht : TrV c) (G : Nat → List zB) : zbg N c.zP (zr3 c G) = some (zmj c G) := by
 have hl := hc.traps
 unfold zbg
 have := zsb (f := zbg.r0 N) c.zP (fun t => some (⟨(kc c G t.From.toNat : Int), (kc c G t.To.toNat : Int), t.Exception, (kc c G t.Handler.toNat : Int)⟩ : zQ)) (fun i acc => (zr3 c G, acc, c.zP, (c.zP.length : Int), (i : Int))) (fun i t acc hx hacc => by
  have hi := (gei hx).1; obtain ⟨h1, h2, h3, h4, h5⟩ := ht t (lmg hx); simp only [zbg.r0, zbg.b0, zap, hx, obs, dct (show (i : Int) < (c.zP.length : Int) by omega), ctr, zu6 (c := c) (G := G) h1 (show t.From ≤ _ by omega), zu6 (c := c) (G := G) (show 0 ≤ t.To by omega) h3, zu6 (c := c) (G := G) h4 (show t.Handler ≤ _ by omega), lnc, ln0, z9n (show acc.length + (0 + 1) ≤ 1000000000 by omega)]; rw [w6e]; rfl)
  (fun acc => by simp only [zbg.r0, zbg.b0, dcf (Int.lt_irrefl _), cfa]) (show c.zP.length < N by omega)
 simp only [nc0] at this
 rw [this]
 simp only [obs, zmj]
 congr 1
 rw [← List.filterMap_eq_map]
 rfl
variable {m : zI} {c : zF}
theorem zlz (l : List zB) (x : zC) : cpy l x = x ∨ ∃ g ∈ l, knl x = true ∧ g.Register ≠ x.R ∧ zii l x g.Register = true ∧ cpy l x = ⟨3, x.R, g.Register, 0, 0, ⟨false, 0, 0⟩, ⟨false, 0, 0⟩, ⟨0, 0, 0⟩, ⟨0, 0, 0⟩, false, false, ⟨0, 0⟩, ⟨#[]⟩, ⟨#[]⟩, 0, 0, 0, 0⟩ := by
 unfold cpy
 split
 · rename_i hk; cases hf : l.findSome? (fun g => if (g.Register != x.R && zii l x g.Register) = true then some g.Register else none) with
   | none => exact .inl rfl
   | some r =>
    right; obtain ⟨g, hg, h⟩ := eof hf; split at h
    · rename_i e; rw [Bool.and_eq_true, bne_iff_ne] at e; cases h; exact ⟨g, hg, hk, e.1, e.2, rfl⟩
    · cases h
 · exact .inl rfl
theorem zq9 (hc : CdV m c) (l : List zB) {x : zC} (hx : x ∈ c.zA) (hj : zdj (cpy l x).Op = true) : 0 ≤ (cpy l x).Target ∧ (cpy l x).Target < (c.zA.length : Int) := by
 rcases zlz l x with e | ⟨g, _, _, _, _, e⟩
 · rw [e] at hj ⊢; unfold zdj at hj; simp only [Bool.or_eq_true, decide_eq_true_eq] at hj; exact (hc.ins x hx).tg (by omega)
 · rw [e] at hj; have hj : zdj 3 = true := hj; exact absurd hj (by decide)
theorem z5w (N : Nat) (hN : 1000 < N) (hc : CdV m c) {G : Nat → List zB} (hG : ∀ k, (G k).length ≤ 100) (z : zF) (w : zV) :
 ze (zf.r2 N) N ((List.range c.zA.length).map G, (List.range c.zA.length).map (ixA c G), zr3 c G, c.zA, (c.zA.length : Int), 0, z, w, ⟨c.Storage, [], zmj c G⟩) =
  some ((List.range c.zA.length).map G, (List.range c.zA.length).map (ixA c G), zr3 c G, c.zA, (c.zA.length : Int), (c.zA.length : Int), z, w, zbu c G) := by
 have hl := hc.len
 have := zdf (f := zf.r2 N) (fun i => ((List.range c.zA.length).map G, (List.range c.zA.length).map (ixA c G), zr3 c G, c.zA, (c.zA.length : Int), (i : Int), z, w, (⟨c.Storage, (List.range i).filterMap (zn5 c G), zmj c G⟩ : zF))) c.zA.length (fun i hi => by
  have hx := lge hi; have hF : ((List.range c.zA.length).map G)[i]? = some (G i) := zih _ hi; have hI : ((List.range c.zA.length).map (ixA c G))[i]? = some (ixA c G i) := zih _ hi; have hgl := hG i; have hnl : ((List.range i).filterMap (zn5 c G)).length ≤ i := Nat.le_trans (List.length_filterMap_le _ _) (by simp); have hn : zn5 c G i = cond (drp c G i) none (some (trn c G (cpy (G i) c.zA[i]))) := by unfold zn5; rw [hx]; rfl
  simp only [zf.r2, zf.b2, zap, hx, hF, hI, obs, dct (show (i : Int) < (c.zA.length : Int) by omega), ctr, z18 N (G i) c.zA[i] (show (G i).length < N by omega) (by omega), z11 hc G (zq9 hc (G i) (List.getElem_mem hi)), lnc, ln0, z8p (show ((List.range i).filterMap (zn5 c G)).length + (0 + 1) ≤ 1000000000 by omega)]; rw [w6e, List.range_succ, List.filterMap_append, List.filterMap_cons, List.filterMap_nil, hn]; unfold ixA; cases drp c G i with
  | true => simp
  | false =>
   simp only [cfa]; rw [show ((kc c G i : Int) != -1) = true by rw [zdq]; simp]; rfl)
  (by simp only [zf.r2, zf.b2, dcf (Int.lt_irrefl _), cfa]) (show c.zA.length < N by omega)
 simp only [nc0, List.range_zero, List.filterMap_nil] at this
 exact this
theorem z8o {l : List Bool} (h : l.length ≤ 1048576) : zi2 1 l = some l := by
 unfold zi2
 rw [show Nat.ble (l.length * 1) zal = true from Nat.ble_eq_true_of_le (by show l.length * 1 ≤ 2 ^ 46; omega)]
 rfl
theorem z14 (N : Nat) (hN : 1048600 < N) (hc : CdV m c) (ht : TrV c) (hst : c.Storage.Tags.length ≤ 1048576) {G : Nat → List zB} (hG : ∀ k, (G k).length ≤ 100) (hf : zc8 N m c = some ((List.range c.zA.length).map G, 0)) :
 zf N m c = some (zbu c G, ⟨(List.range c.zA.length).map G, (List.range c.zA.length).map (ixA c G)⟩, 0) := by
 unfold zf
 rw [hf]
 simp only [obs, bsf, cfa]
 rw [z5x N (by omega) hc hG]
 simp only [obs]
 rw [z4a N (by omega) hc G]
 simp only [obs]
 rw [z8o hst]
 simp only [obs]
 rw [z37 N hN hc ht G]
 simp only [obs]
 rw [show (⟨⟨c.Storage.Bytes, c.Storage.Tags⟩, [], zmj c G⟩ : zF) = ⟨c.Storage, [], zmj c G⟩ from rfl, z5w N (by omega) hc hG]
 rfl
variable {m : zI} {c : zF}
def zw1 (k : Nat) (s : Bool) : Bool := match z0o (k : Int) s with | some u => u.Target == zdj (k : Int) | none => false
theorem z7q : ((List.range 27).all fun k => zw1 k true && zw1 k false) = true := by kernel_rfl
theorem zsz {x : zC} (h : inB x.Op 0 26 = true) {u : zN} (hu : zdy x = some u) : u.Target = zdj x.Op := by
 obtain ⟨h1, h2⟩ := zb6.1 h
 obtain ⟨k, hk⟩ : ∃ k : Nat, x.Op = (k : Int) := ⟨x.Op.toNat, by omega⟩
 have h3 := List.all_eq_true.1 z7q k (by simp; omega)
 rw [Bool.and_eq_true] at h3
 have h4 : zw1 k x.zK = true := by
  cases x.zK with
  | true => exact h3.1
  | false => exact h3.2
 unfold zw1 at h4
 rw [zud, hk] at hu
 rw [hu] at h4
 rw [hk]
 exact beq_iff_eq.1 h4
theorem z3i {c c' : zF} (hs : c'.Storage = c.Storage) {x : zC} (h : zgp m c x = 0) (hj : zdj x.Op = false) : zgp m c' x = 0 := by
 unfold zgp at h ⊢
 by_cases hop : inB x.Op 0 26 = true
 · obtain ⟨f, u, hf, hu, ag, _⟩ := zm3 x hop; rw [ifp hop, hu] at h ⊢; have ht : u.Target = false := by rw [zsz hop hu, hj]
   have h' : zkj m c x u = 0 := h; show zkj m c' x u = 0; have e : zem m c' x u = zem m c x u := by unfold zem; rw [hs, ht]; simp
   unfold zkj at h' ⊢; rw [e]; exact h'
 · rw [ifn hop] at h; cases h
theorem z3h {c c' : zF} (hs : c'.Storage = c.Storage) {x : zC} (h : zgp m c x = 0) {z : Int} (hz : 0 ≤ z ∧ z < (c'.zA.length : Int)) (hj : zdj x.Op = true) :
 zgp m c' ⟨x.Op, x.R, x.A, x.B, x.zO, x.Place, x.From, x.zD, x.Second, x.Half, x.zK, x.Number, x.Text, x.Other, x.Mask, z, x.Pointer, x.Source⟩ = 0 := by
 generalize hy : (⟨x.Op, x.R, x.A, x.B, x.zO, x.Place, x.From, x.zD, x.Second, x.Half, x.zK, x.Number, x.Text, x.Other, x.Mask, z, x.Pointer, x.Source⟩ : zC) = y
 have hop' : y.Op = x.Op := by rw [← hy]
 have huy : zdy y = zdy x := by rw [zud, zud, ← hy]
 unfold zgp at h ⊢
 rw [hop', huy]
 by_cases hop : inB x.Op 0 26 = true
 · obtain ⟨f, u, hf, hu, ag, _⟩ := zm3 x hop; rw [ifp hop, hu] at h ⊢; have ht : u.Target = true := by rw [zsz hop hu, hj]
   have h' : zkj m c x u = 0 := h; show zkj m c' y u = 0; have e1 : zgh y u = zgh x u := by unfold zgh; rw [← hy, ht]; simp
   have e2 : zi4 m y = zi4 m x := by rw [← hy]; rfl
   have e3 : y.zD = x.zD := by rw [← hy]
   have e4 : y.Second = x.Second := by rw [← hy]
   have e5 : y.Number = x.Number := by rw [← hy]
   have e6 : zkv y = zkv x := by rw [← hy]; rfl
   unfold zkj at h' ⊢; rw [e1, e2, e3, e4, e5, e6]; cases hr : zem m c x u with
   | true =>
    exfalso
    rw [hr] at h'; cases hx1 : zgh x u with
    | true => rw [hx1] at h'; cases h'
    | false =>
     rw [hx1] at h'; cases hx2 : zi4 m x with
     | true => rw [hx2] at h'; cases h'
     | false =>
      rw [hx2] at h'; simp only [cfa, ctr] at h'; split at h'
      · contradiction
      · split at h'
        · contradiction
        · cases h'
   | false =>
    have e7 : zem m c' y u = false := by
     have hr2 := hr; unfold zem at hr2 ⊢; simp only [Bool.or_eq_false_iff] at hr2 ⊢; obtain ⟨r1, r2, r3, r4, r5, r6, r7, r8⟩ := hr2; refine ⟨?_, ?_, ?_, ?_, ?_, ?_, ?_, ?_⟩
     · rw [← r1, ← hy]; rfl
     · rw [ht, Bool.true_and, Bool.not_eq_false', ← hy]; exact zb6.2 (by show 0 ≤ z ∧ z ≤ _; omega)
     · rw [← r3, ← hy]
     · rw [hs, ← r4, ← hy]
     · rw [hs, ← r5, ← hy]
     · rw [hs, ← r6, ← hy]; rfl
     · rw [hs, ← r7, ← hy]
     · rw [← r8, ← hy]
    rw [e7]; rw [hr] at h'; exact h'
 · rw [ifn hop] at h; cases h
theorem z3k (c : zF) {a r : Int} (ha : 0 ≤ a ∧ a < m.Registers) (hr : 0 ≤ r ∧ r < m.Registers) : zgp m c ⟨3, r, a, 0, 0, ⟨false, 0, 0⟩, ⟨false, 0, 0⟩, ⟨0, 0, 0⟩, ⟨0, 0, 0⟩, false, false, ⟨0, 0⟩, ⟨#[]⟩, ⟨#[]⟩, 0, 0, 0, 0⟩ = 0 := by
 unfold zgp
 rw [ifp (show inB 3 0 26 = true by decide)]
 have hu : zdy (⟨3, r, a, 0, 0, ⟨false, 0, 0⟩, ⟨false, 0, 0⟩, ⟨0, 0, 0⟩, ⟨0, 0, 0⟩, false, false, ⟨0, 0⟩, ⟨#[]⟩, ⟨#[]⟩, 0, 0, 0, 0⟩ : zC) = some ⟨true, true, false, false, false, false, false, false, false, false, false, false, false, false, 0, 0⟩ := rfl
 rw [hu, Option.getD_some]
 unfold zkj
 have h1 : zdo m r = false := by unfold zdo; rw [Bool.not_eq_false']; exact zb6.2 (by omega)
 have h2 : zdo m a = false := by unfold zdo; rw [Bool.not_eq_false']; exact zb6.2 (by omega)
 have e1 : zgh (⟨3, r, a, 0, 0, ⟨false, 0, 0⟩, ⟨false, 0, 0⟩, ⟨0, 0, 0⟩, ⟨0, 0, 0⟩, false, false, ⟨0, 0⟩, ⟨#[]⟩, ⟨#[]⟩, 0, 0, 0, 0⟩ : zC) ⟨true, true, false, false, false, false, false, false, false, false, false, false, false, false, 0, 0⟩ = false := by
  unfold zgh; simp
 have e2 : zem m c (⟨3, r, a, 0, 0, ⟨false, 0, 0⟩, ⟨false, 0, 0⟩, ⟨0, 0, 0⟩, ⟨0, 0, 0⟩, false, false, ⟨0, 0⟩, ⟨#[]⟩, ⟨#[]⟩, 0, 0, 0, 0⟩ : zC) ⟨true, true, false, false, false, false, false, false, false, false, false, false, false, false, 0, 0⟩ = false := by
  unfold zem zlm; simp [h1, h2]
 rw [e1, e2]
 rfl
theorem z6u (hc : CdV m c) (he : ∀ x ∈ c.zA, zgp m c x = 0) {G : Nat → List zB} (hG : ∀ k, ∀ f ∈ G k, FctV m c f) {y : zC} (hy : y ∈ zjj c G) : zgp m (zbu c G) y = 0 := by
 obtain ⟨i, hi, hd, rfl⟩ := z0k hy
 have hx := List.getElem_mem hi
 have h0 := he _ hx
 have hlast : kc c G c.zA.length = kc c G (c.zA.length - 1) + 1 := by
  have hp := hc.pos; obtain ⟨n, hn⟩ : ∃ n, c.zA.length = n + 1 := ⟨c.zA.length - 1, by omega⟩; have hdn : drp c G n = false := by
   unfold drp; rw [lge (show n < c.zA.length by omega), dcf (by omega)]; rfl
  rw [hn]; show kc c G n + cond (drp c G n) 0 1 = _; rw [hdn]; rfl
 unfold trn
 split
 · rename_i hj; obtain ⟨t0, t1⟩ := zq9 hc (G i) hx hj; rcases zlz (G i) c.zA[i] with e | ⟨g, _, _, _, _, e⟩
   · rw [e] at hj t0 t1 ⊢; refine z3h (c := c) (c' := zbu c G) rfl h0 ⟨by omega, ?_⟩ hj; show _ < ((zjj c G).length : Int); rw [zjf, hlast]; have := zkc c G (show (c.zA[i]).Target.toNat ≤ c.zA.length - 1 by omega); omega
   · rw [e] at hj; have hj : zdj 3 = true := hj; exact absurd hj (by decide)
 · rename_i hj; rcases zlz (G i) c.zA[i] with e | ⟨g, hg, hk, _, _, e⟩
   · rw [e] at hj ⊢; exact z3i (c := c) (c' := zbu c G) rfl h0 (by simpa using hj)
   · rw [e]; have hr : 0 ≤ (c.zA[i]).R ∧ (c.zA[i]).R < m.Registers := by
      unfold knl at hk; rw [Bool.and_eq_true, decide_eq_true_eq] at hk; exact (hc.ins _ hx).r (.inl hk.1)
     exact z3k _ (hG i g hg).r hr
theorem z4t (hc : CdV m c) (ht : ∀ t ∈ c.zP, zis c t = true) {G : Nat → List zB} {t : zQ} (h : t ∈ zmj c G) : zis (zbu c G) t = true := by
 unfold zmj at h
 obtain ⟨s, hs, rfl⟩ := List.mem_map.1 h
 have h0 := ht s hs
 unfold zis at h0 ⊢
 simp only [Bool.and_eq_true, decide_eq_true_eq] at h0 ⊢
 obtain ⟨h1, h2, h3, h4⟩ := h0
 have h1 := zb6.1 h1
 have h4 := zb6.1 h4
 have hp := hc.pos
 have hlen : ((zbu c G).zA.length : Int) = (kc c G c.zA.length : Int) := by show ((zjj c G).length : Int) = _; rw [zjf]
 have hlast : kc c G c.zA.length = kc c G (c.zA.length - 1) + 1 := by
  obtain ⟨n, hn⟩ : ∃ n, c.zA.length = n + 1 := ⟨c.zA.length - 1, by omega⟩; have hdn : drp c G n = false := by
   unfold drp; rw [lge (show n < c.zA.length by omega), dcf (by omega)]; rfl
  rw [hn]; show kc c G n + cond (drp c G n) 0 1 = _; rw [hdn]; rfl
 have m1 := zkc c G (show s.From.toNat ≤ s.To.toNat by omega)
 have m2 := zkc c G (show s.To.toNat ≤ c.zA.length by omega)
 have m3 := zkc c G (show s.Handler.toNat ≤ c.zA.length - 1 by omega)
 refine ⟨zb6.2 ⟨by omega, by omega⟩, by rw [hlen]; omega, h3, zb6.2 ⟨by omega, by rw [hlen]; omega⟩⟩
variable {m : zI} {c : zF}
theorem zmv {n : Nat} {z : Int} (h0 : -1000000 ≤ z) (h1 : z ≤ 1000000) : Wfc En n (.sc (.int .i64 z)) := by
 have e1 : IntKind.i64.min = -9223372036854775808 := by decide
 have e2 : IntKind.i64.max = 9223372036854775807 := by decide
 exact .int (by rw [e1]; omega) (by rw [e2]; omega)
theorem z5t {n : Nat} {x : zC} (h : Wft En n Ty.zC x) {z : Int} (h0 : -1000000 ≤ z) (h1 : z ≤ 1000000) :
 Wft En n Ty.zC (⟨x.Op, x.R, x.A, x.B, x.zO, x.Place, x.From, x.zD, x.Second, x.Half, x.zK, x.Number, x.Text, x.Other, x.Mask, z, x.Pointer, x.Source⟩ : zC) := by
 intro a ha
 have ha : a ∈ zdd ⟨x.Op, x.R, x.A, x.B, x.zO, x.Place, x.From, x.zD, x.Second, x.Half, x.zK, x.Number, x.Text, x.Other, x.Mask, z, x.Pointer, x.Source⟩ := ha
 have key : a ∈ zdd x ∨ a = .sc (.int .i64 z) := by
  simp only [zdd, List.mem_cons, List.not_mem_nil, or_false] at ha ⊢; rcases ha with rfl | rfl | rfl | rfl | rfl | rfl | rfl | rfl | rfl | rfl | rfl | rfl | rfl | rfl | rfl | rfl | rfl | rfl | rfl | rfl | rfl | rfl | rfl | rfl | rfl | rfl | rfl <;> simp
 rcases key with h2 | rfl
 · exact h a h2
 · exact zmv h0 h1
theorem z5u {n : Nat} {a r : Int} (ha : 0 ≤ a ∧ a ≤ 8) (hr : 0 ≤ r ∧ r ≤ 8) : Wft En n Ty.zC (⟨3, r, a, 0, 0, ⟨false, 0, 0⟩, ⟨false, 0, 0⟩, ⟨0, 0, 0⟩, ⟨0, 0, 0⟩, false, false, ⟨0, 0⟩, ⟨#[]⟩, ⟨#[]⟩, 0, 0, 0, 0⟩ : zC) := by
 intro b hb
 have hb : b ∈ zdd ⟨3, r, a, 0, 0, ⟨false, 0, 0⟩, ⟨false, 0, 0⟩, ⟨0, 0, 0⟩, ⟨0, 0, 0⟩, false, false, ⟨0, 0⟩, ⟨#[]⟩, ⟨#[]⟩, 0, 0, 0, 0⟩ := hb
 simp only [zdd, List.mem_cons, List.not_mem_nil, or_false] at hb
 rcases hb with rfl | rfl | rfl | rfl | rfl | rfl | rfl | rfl | rfl | rfl | rfl | rfl | rfl | rfl | rfl | rfl | rfl | rfl | rfl | rfl | rfl | rfl | rfl | rfl | rfl | rfl | rfl <;> first | exact zmv (by omega) (by omega) | exact .bool | exact .str (Nat.zero_le _)
theorem z7o (hc : CdV m c) (hw : Wft En 1048576 Ty.zF c) {G : Nat → List zB} (hG : ∀ k, ∀ f ∈ G k, FctV m c f) {y : zC} (hy : y ∈ zjj c G) : Wft En 1048576 Ty.zC y := by
 obtain ⟨i, hi, hd, rfl⟩ := z0k hy
 have hx := List.getElem_mem hi
 have h0 := (zlf hw).2.2.2.2 _ hx
 have hl := hc.len
 have hm := hc.m2
 have h1 : Wft En 1048576 Ty.zC (cpy (G i) c.zA[i]) := by
  rcases zlz (G i) c.zA[i] with e | ⟨g, hg, hk, _, _, e⟩
  · rw [e]; exact h0
  · rw [e]; have hr : 0 ≤ (c.zA[i]).R ∧ (c.zA[i]).R < m.Registers := by
     unfold knl at hk; rw [Bool.and_eq_true, decide_eq_true_eq] at hk; exact (hc.ins _ hx).r (.inl hk.1)
    have hg := (hG i g hg).r; exact z5u (by omega) (by omega)
 unfold trn
 split
 · rename_i hj; obtain ⟨t0, t1⟩ := zq9 hc (G i) hx hj; have := zng c G (cpy (G i) c.zA[i]).Target.toNat; exact z5t h1 (by omega) (by omega)
 · exact h1
theorem z5v {n : Nat} {c : zF} (h : Wft En n Ty.zF c) : ∀ t ∈ c.zP, Wft En n Ty.zQ t := by
 have h4 := h (.lst Ty.zQ c.zP) (by show _ ∈ zeu c; simp [zeu])
 cases h4 with
 | lst _ h4 => exact h4
theorem z34 (hc : CdV m c) (ht : TrV c) (hw : Wft En 1048576 Ty.zF c) {G : Nat → List zB} (hG : ∀ k, ∀ f ∈ G k, FctV m c f) : Wft En 1048576 Ty.zF (zbu c G) := by
 intro b hb
 have hl := hc.len
 have hb : b ∈ zeu (zbu c G) := hb
 simp only [zeu, List.mem_cons, List.not_mem_nil, or_false] at hb
 rcases hb with rfl | rfl | rfl | rfl
 · exact hw _ (by show _ ∈ zeu c; simp [zeu, zbu])
 · exact hw _ (by show _ ∈ zeu c; simp [zeu, zbu])
 · refine .lst ?_ fun y hy => z7o hc hw hG hy; show (zjj c G).length ≤ 1048576; rw [zjf]; have := zng c G c.zA.length; omega
 · refine .lst (by show (zmj c G).length ≤ 1048576; unfold zmj; rw [lnm]; exact hc.traps) fun t h => ?_; obtain ⟨s, hs, rfl⟩ := List.mem_map.1 (show t ∈ c.zP.map _ from h); obtain ⟨h1, h2, h3, h4, h5⟩ := ht s hs; have k1 := zng c G s.From.toNat; have k2 := zng c G s.To.toNat; have k3 := zng c G s.Handler.toNat; intro b hb; have hb : b ∈ znr ⟨(kc c G s.From.toNat : Int), (kc c G s.To.toNat : Int), s.Exception, (kc c G s.Handler.toNat : Int)⟩ := hb; simp only [znr, List.mem_cons, List.not_mem_nil, or_false] at hb; rcases hb with rfl | rfl | rfl | rfl
   · exact zmv (by omega) (by omega)
   · exact zmv (by omega) (by omega)
   · exact z5v hw s hs _ (by show _ ∈ znr s; simp [znr])
   · exact zmv (by omega) (by omega)
structure CkV (N : Nat) (m : zI) (c : zF) : Prop where
 mo : zj7 m = some 0
 st : zok N c.Storage = some 0
 ok : StoOk c.Storage
 pt : ∃ l, zcg N c.Storage = some l ∧ decide ((l.length : Int) > 0) = false
 m1 : 2 ≤ m.Registers ∧ m.Registers ≤ 8
 pos : 0 < c.zA.length
 len : c.zA.length ≤ 240
 tr : c.zP.length ≤ 40
 tl : c.Storage.Tags.length ≤ 64
 ins : ∀ x ∈ c.zA, zgp m c x = 0
 trap : ∀ t ∈ c.zP, zis c t = true
theorem z9m (N : Nat) (hN : 1048600 < N) {m : zI} {c : zF} (hc : Wft En 1048576 Ty.zF c) {n : Int} (h : zaa N m c = some (n, 0)) : CkV N m c := by
 obtain ⟨e, _, he2, he3⟩ := zqv m
 obtain ⟨i1, e1, e2, _, hs2, hs⟩ := zti N (by omega) c.Storage
 obtain ⟨w1, w2, w3, w4, w5⟩ := zlf hc
 unfold zaa at h
 try simp only [eS, eM, eC] at h
 rw [he2, hs2] at h
 simp only [obs] at h
 by_cases h0 : e = 0
 · subst h0; have hm := he3 rfl; simp only [bsf, cfa] at h
   by_cases h2 : e2 = 0
   · rcases hs with ⟨rfl, hs⟩ | ⟨ok, htl, _, _⟩
     · exact absurd h2 hs
     · subst h2; obtain ⟨l, hl1, hl2⟩ := zvu N c.Storage htl (by omega); rw [hl1] at h; simp only [bsf, cfa, obs, orB] at h; cases hd : decide ((l.length : Int) > 0) with
       | true => rw [hd] at h; cases h
       | false =>
        rw [hd] at h hl2; simp only [cfa] at h
        by_cases hz : (c.zA.length : Int) = 0
        · rw [hz] at h; cases h
        · rw [zct, dcf hz] at h; simp only [cfa] at h; cases hb : (decide ((c.zA.length : Int) > 240) || decide ((c.zP.length : Int) > 40)) with
          | true => rw [hb] at h; cases h
          | false =>
           rw [hb] at h; simp only [cfa] at h; have := zqi N hN hm ok hc; rw [this] at h; simp only [Bool.or_eq_false_iff, decide_eq_false_iff_not] at hb; obtain ⟨r1, r2, r3⟩ := z2v (Option.some.inj h); exact ⟨he2, hs2, ok, ⟨l, hl1, hd⟩, hm, by omega, by omega, by omega, htl, r1, r2⟩
   · rw [zdq, dct h2] at h; simp only [ctr, Option.some.injEq, Prod.mk.injEq] at h; exact absurd h.2 h2
 · rw [zdq, dct h0] at h; simp only [ctr, Option.some.injEq, Prod.mk.injEq] at h; exact absurd h.2 h0
theorem z9l (N : Nat) (hN : 1048600 < N) {m : zI} {c : zF} (hc : Wft En 1048576 Ty.zF c) (h : CkV N m c) : zaa N m c = some ((c.zA.length : Int), 0) := by
 obtain ⟨l, hl1, hl2⟩ := h.pt
 have hp := h.pos
 have hl := h.len
 have ht := h.tr
 unfold zaa
 try simp only [eS, eM, eC]
 rw [h.mo, h.st]
 simp only [obs, bsf, cfa]
 rw [hl1]
 simp only [obs, orB, hl2, cfa]
 rw [zct, dcf (show ¬ (c.zA.length : Int) = 0 by omega)]
 simp only [cfa]
 rw [dcf (show ¬ (c.zA.length : Int) > 240 by omega), dcf (show ¬ (c.zP.length : Int) > 40 by omega)]
 simp only [Bool.or_false, cfa]
 rw [zqi N hN h.m1 h.ok hc]
 congr 1
 unfold zmm
 have e1 : (List.range c.zA.length).findSome? (gI m c) = none := by
  rw [List.findSome?_eq_none_iff]; intro i hi; have hi : i < c.zA.length := by simpa using hi
  unfold gI; rw [lge hi, obs, ifp (h.ins _ (List.getElem_mem hi))]
 have e2 : (List.range c.zP.length).findSome? (gT c) = none := by
  rw [List.findSome?_eq_none_iff]; intro i hi; have hi : i < c.zP.length := by simpa using hi
  unfold gT; rw [lge hi, obs, ifp (h.trap _ (List.getElem_mem hi))]
 rw [e1]
 simp only
 rw [e2]
theorem zxc (h : ∀ t ∈ c.zP, zis c t = true) : TrV c := by
 intro t ht
 have h0 := h t ht
 unfold zis at h0
 simp only [Bool.and_eq_true, decide_eq_true_eq] at h0
 obtain ⟨h1, h2, h3, h4⟩ := h0
 have h1 := zb6.1 h1
 have h4 := zb6.1 h4
 omega
theorem zy0 {N : Nat} (hc : CdV m c) (h : CkV N m c) {G : Nat → List zB} (hG : ∀ k, ∀ f ∈ G k, FctV m c f) : CkV N m (zbu c G) := by
 have hl := h.len
 have hp := h.pos
 have hk := zng c G c.zA.length
 have hlen : (zbu c G).zA.length = kc c G c.zA.length := zjf c G
 have hpos : 0 < kc c G c.zA.length := by
  obtain ⟨n, hn⟩ : ∃ n, c.zA.length = n + 1 := ⟨c.zA.length - 1, by omega⟩; have hdn : drp c G n = false := by
   unfold drp; rw [lge (show n < c.zA.length by omega), dcf (by omega)]; rfl
  rw [hn]; show 0 < kc c G n + cond (drp c G n) 0 1; rw [hdn]; simp
 exact ⟨h.mo, h.st, h.ok, h.pt, h.m1, by rw [hlen]; exact hpos, by rw [hlen]; omega, by show (zmj c G).length ≤ 40; unfold zmj; rw [lnm]; exact h.tr, h.tl, fun y hy => z6u hc h.ins hG hy, fun t ht => z4t hc h.trap ht⟩
variable {m : zI} {c : zF}
theorem z3j {x : zC} (h : zgp m c x = 0) : x.Text.size ≤ 256 ∧ x.Other.size ≤ 256 := by
 unfold zgp at h
 by_cases hop : inB x.Op 0 26 = true
 · obtain ⟨f, u, hf, hu, ag, _⟩ := zm3 x hop; rw [ifp hop, hu] at h; have h' : zkj m c x u = 0 := h; unfold zkj at h'; cases he : zgh x u with
   | true => rw [he] at h'; cases h'
   | false =>
    rw [he] at h'; simp only [cfa] at h'; cases hl : zi4 m x with
    | true => rw [hl] at h'; cases h'
    | false =>
     rw [hl] at h'; simp only [cfa] at h'
     by_cases h1 : zc2 x.zD u.zD = 0
     · by_cases h2 : zc2 x.Second u.Second = 0
       · rw [ifn, ifn] at h'; cases hr : zem m c x u with
         | true => rw [hr] at h'; simp at h'
         | false =>
          rw [hr] at h'; simp only [cfa] at h'
          by_cases h3 : zpc x.Number = 0
          · rw [ifn] at h'; cases hlg : zkv x with
            | true => rw [hlg] at h'; cases h'
            | false =>
             unfold zkv at hlg; simp only [Bool.or_eq_false_iff, decide_eq_false_iff_not] at hlg; omega
          · rw [ifp h3] at h'; exact absurd h' h3
       · rw [ifn, ifp h2] at h'; exact absurd h' h2
     · rw [ifp h1] at h'; exact absurd h' h1
 · rw [ifn hop] at h; cases h
theorem z8k {N : Nat} (hN : 1048600 < N) (h : CkV N m c) : zbz N c = some true := by
 have hl := h.len
 unfold zbz
 have := zde (f := zbz.r0 N) (fun i => ((i : Int), c)) (fun _ => (none : Option Bool)) c.zA.length (fun i hi => by
  have hx := lge hi; obtain ⟨t1, t2⟩ := z3j (h.ins _ (List.getElem_mem hi)); simp only [zbz.r0, zbz.b0, zap, hx, obs, dct (show (i : Int) < (c.zA.length : Int) by omega), dct (show (i : Int) < 244 by omega), ctr, orB]; rw [w6e, dcf (show ¬ ((c.zA[i]).Text.size : Int) > 300 by omega), dcf (show ¬ ((c.zA[i]).Other.size : Int) > 300 by omega)]; rfl)
  (by simp only [zbz.r0, zbz.b0, dcf (Int.lt_irrefl _), cfa, obs]) (show c.zA.length < N by omega)
 simp only [nc0] at this
 rw [this]
 have e : (List.range c.zA.length).findSome? (fun _ => (none : Option Bool)) = none := by simp
 rw [e]
 have hb := h.ok.le
 have ht := h.tl
 have htr := h.tr
 have hs : zd7 c.Storage = some true := by
  unfold zd7; rw [dct (show (c.Storage.Bytes.size : Int) ≤ 1072 by omega), dct (show (c.Storage.Tags.length : Int) ≤ 67 by omega)]; rfl
 simp only [obs, za9, hs, ctr]
 rw [dct (show (c.zA.length : Int) < 244 by omega), dct (show (c.zP.length : Int) < 44 by omega)]
 rfl
variable {m : zI} {c : zF}
theorem z7j (b : ByteArray) : (b == b) = true := by
 cases b with
 | mk d =>
  show (d == d) = true; simp
variable {m : zI} {c : zF}
theorem z24 {β : Type} (n : Nat) : (List.range n).findSome? (fun _ => (none : Option β)) = none := by simp
variable {m : zI} {c : zF}
def zc3 (c : zF) (G : Nat → List zB) (k : Nat) : List zB := if k < c.zA.length then G k else []
theorem zl4 {G : Nat → List zB} {k : Nat} (hk : k < c.zA.length) : zc3 c G k = G k := ifp hk
theorem zqa {G : Nat → List zB} {k : Nat} {f : zB} (h : f ∈ zc3 c G k) : f ∈ G k := by
 unfold zc3 at h
 split at h
 · exact h
 · simp at h
theorem z4v {R D : Nat → Bool} {G : Nat → List zB} (h : Inv m c R D G) : Inv m c R D (zc3 c G) where
 so k := by
  unfold zc3; split
  · exact h.so k
  · exact List.Pairwise.nil
 ok k f hf := h.ok k f (zqa hf)
 un k f hf := h.un k f (zqa hf)
 no k hd := by
  unfold zc3; split
  · exact h.no k hd
  · rfl
 fx k hk hf := by rw [zl4 hk]; exact h.fx k hk hf
 ab D' G' hcl k hk hd := by rw [zl4 hk]; exact h.ab D' G' hcl k hk hd
theorem z7e (hc : CdV m c) {R D : Nat → Bool} {G : Nat → List zB} (h : Cl c R D G) : Cl c R D (zc3 c G) where
 fx k hk hf := by rw [zl4 hk]; exact h.fx k hk hf
 st i hi hd := fun x hx k hs hf => by
  obtain ⟨k', e, hk⟩ := zgl hc hs; obtain rfl : k = k' := by omega
  rw [zl4 hk, zl4 hi]; exact h.st i hi hd x hx k hs hf
theorem zyc (c : zF) (G : Nat → List zB) : (List.range c.zA.length).map (zc3 c G) = (List.range c.zA.length).map G := List.map_congr_left fun k hk => zl4 (by simpa using hk)
theorem z5g : zlt 2000000 (⟨⟨⟨#[]⟩, []⟩, [], []⟩ : zF) = some true := by kernel_rfl
variable {m : zI} {c : zF} {G : Nat → List zB}
theorem zns {i : Nat} (hi : i < c.zA.length) (h : drp c G i = true) : i + 1 < c.zA.length ∧ knl c.zA[i] = true ∧ (⟨(c.zA[i]).R, (c.zA[i]).zD, (c.zA[i]).Place.Offset⟩ : zB) ∈ G i := by
 unfold drp at h
 rw [lge hi] at h
 rw [Bool.and_eq_true, Bool.and_eq_true, decide_eq_true_eq] at h
 exact ⟨h.1, h.2.1, zd8.1 h.2.2⟩
theorem z0c {i : Nat} (hi : i < c.zA.length) (h : G i = []) : drp c G i = false := by
 cases hd : drp c G i with
 | false => rfl
 | true =>
  have := (zns hi hd).2.2; rw [h] at this; simp at this
theorem zi8 {i : Nat} (h : drp c G i = false) : kc c G (i + 1) = kc c G i + 1 := by
 show kc c G i + cond (drp c G i) 0 1 = _
 rw [h]
 rfl
theorem zv2 {i : Nat} (h : drp c G i = true) : kc c G (i + 1) = kc c G i := by
 show kc c G i + cond (drp c G i) 0 1 = _
 rw [h]
 rfl
theorem zw3 {i j : Nat} (h : drp c G i = false) (hij : i < j) : kc c G i < kc c G j := by
 have := zkc c G (show i + 1 ≤ j from hij)
 rw [zi8 h] at this
 omega
theorem z8a {i j : Nat} (h : drp c G i = false) (h' : drp c G j = false) (e : kc c G i = kc c G j) : i = j := by
 rcases Nat.lt_trichotomy i j with h1 | h1 | h1
 · have := zw3 h h1; omega
 · exact h1
 · have := zw3 h' h1; omega
theorem z5j {i : Nat} (hi : i < c.zA.length) (h : drp c G i = false) : kc c G i < (zjj c G).length := by rw [zjf]; exact zw3 h hi
theorem zv1 {j : Nat} (hj : j < (zjj c G).length) : ∃ i, i < c.zA.length ∧ drp c G i = false ∧ kc c G i = j := by
 rw [zjf] at hj
 have : ∀ n, j < kc c G n → ∃ i, i < n ∧ drp c G i = false ∧ kc c G i = j := by
  intro n
  induction n with
  | zero => intro h; simp [kc] at h
  | succ n ih =>
   intro h; cases hd : drp c G n with
   | true =>
    rw [zv2 hd] at h; obtain ⟨i, h1, h2⟩ := ih h; exact ⟨i, by omega, h2⟩
   | false =>
    rw [zi8 hd] at h
    by_cases e : kc c G n = j
    · exact ⟨n, by omega, hd, e⟩
    · obtain ⟨i, h1, h2⟩ := ih (by omega); exact ⟨i, by omega, h2⟩
 exact this _ hj
theorem zp5 {i : Nat} (hi : i < c.zA.length) (h : drp c G i = false) : (zbu c G).zA[kc c G i]? = some (trn c G (cpy (G i) c.zA[i])) := z31 hi h
theorem zue (x : zC) : (trn c G x).Op = x.Op := by unfold trn; split <;> rfl
theorem zua (l : List zB) (x : zC) : zlv (cpy l x).Op = zlv x.Op ∧ zdj (cpy l x).Op = zdj x.Op ∧ ((cpy l x).Op = 18 ↔ x.Op = 18) := by
 rcases zlz l x with e | ⟨g, _, hk, _, _, e⟩
 · rw [e]; exact ⟨rfl, rfl, Iff.rfl⟩
 · unfold knl at hk; rw [Bool.and_eq_true, decide_eq_true_eq] at hk; rw [e, hk.1]; exact ⟨rfl, rfl, by simp⟩
theorem zug (hc : CdV m c) {i : Nat} (hi : i < c.zA.length) (h : drp c G i = false) {z : Int} : z ∈ zam (zbu c G) (kc c G i) ↔ ∃ k : Nat, (k : Int) ∈ zam c i ∧ z = (kc c G k : Int) := by
 have hx := lge hi
 have hmem := List.getElem_mem hi
 obtain ⟨c1, c2, _⟩ := zua (G i) c.zA[i]
 have hjt := zq9 hc (G i) hmem
 have hlen : (zbu c G).zA.length = kc c G c.zA.length := zjf c G
 have hlt : (kc c G i + 1 < (zbu c G).zA.length) ↔ i + 1 < c.zA.length := by
  rw [hlen, ← zi8 h]; constructor
  · intro hh; rcases Nat.lt_or_ge (i + 1) c.zA.length with h1 | h1
    · exact h1
    · have := zkc c G h1; omega
  · intro hh; have hdn : drp c G (c.zA.length - 1) = false := by
     cases hd : drp c G (c.zA.length - 1) with
     | false => rfl
     | true => have := (zns (by omega) hd).1; omega
    have h1 := zkc c G (show i + 1 ≤ c.zA.length - 1 by omega); have h2 := zw3 hdn (show c.zA.length - 1 < c.zA.length by omega); omega
 unfold zam
 rw [zp5 hi h, hx]
 simp only [zue, c1, c2, List.mem_append]
 have hjx : zdj (c.zA[i]).Op = true → cpy (G i) c.zA[i] = c.zA[i] := fun hj => by
  rcases zlz (G i) c.zA[i] with e | ⟨g, _, hk, _, _, e⟩
  · exact e
  · unfold knl at hk; rw [Bool.and_eq_true, decide_eq_true_eq] at hk; rw [hk.1] at hj; exact absurd hj (by decide)
 have htg : zdj (c.zA[i]).Op = true → (trn c G (cpy (G i) c.zA[i])).Target = (kc c G (c.zA[i]).Target.toNat : Int) := fun hj => by
  rw [hjx hj]; unfold trn; rw [ifp hj]
 constructor
 · rintro (hz | hz)
   · split at hz
     · rename_i e; have hz : z = (kc c G i : Int) + 1 := by simpa using hz
       refine ⟨i + 1, .inl ?_, by rw [hz, zi8 h]; omega⟩; rw [ifp ⟨hlt.1 e.1, e.2⟩]; simp
     · simp at hz
   · split at hz
     · rename_i e; have hz : z = (trn c G (cpy (G i) c.zA[i])).Target := by simpa using hz
       rw [htg e] at hz; rw [hjx e] at hjt; obtain ⟨t0, t1⟩ := hjt e; refine ⟨(c.zA[i]).Target.toNat, .inr ?_, hz⟩; rw [ifp e]; simp; omega
     · simp at hz
 · rintro ⟨k, hk | hk, rfl⟩
   · left; split at hk
     · rename_i e; have hk : (k : Int) = (i : Int) + 1 := by simpa using hk
       obtain rfl : k = i + 1 := by omega
       rw [ifp ⟨hlt.2 e.1, e.2⟩, zi8 h]; simp
     · simp at hk
   · right; split at hk
     · rename_i e; have hk : (k : Int) = (c.zA[i]).Target := by simpa using hk
       rw [ifp e, htg e, ← hk]; simp
     · simp at hk
variable {m : zI} {c : zF} {G : Nat → List zB} {R D : Nat → Bool}
theorem zv8 (hc : CdV m c) (hR : ∀ k, k < c.zA.length → (R k = true ↔ Rch c k)) (hcl : Cl c R D G) : ∀ k, k < c.zA.length → D k = true := by
 have hr : ∀ k, Rch c k → D k = true := by
  intro k h
  induction h with
  | ent h he => exact (hcl.fx _ h (by unfold fxB; rw [he]; rfl)).1
  | step h hs ih =>
   rename_i i k; have hil := h.lt hc; obtain ⟨k', e, hk⟩ := zgl hc hs; obtain rfl : k = k' := by omega
   cases hf : fxB c R k with
   | true => exact (hcl.fx k hk hf).1
   | false => exact (hcl.st i hil ih _ (lge hil) k hs hf).1
 intro k hk
 cases hf : fxB c R k with
 | true => exact (hcl.fx k hk hf).1
 | false =>
  unfold fxB at hf; rw [Bool.or_eq_false_iff, Bool.not_eq_false'] at hf; exact hr k ((hR k hk).1 hf.2)
theorem z3r {N : Nat} (hc : CdV m c) (ck : CkV N m c) (hGv : ∀ k, ∀ f ∈ G k, FctV m c f) : CdV m (zbu c G) := by
 have cka := zy0 hc ck hGv
 have hl := cka.len
 have hp := cka.pos
 have ht := cka.tr
 refine ⟨hc.m1, hc.m2, hc.sz, hl, hp, by omega, fun x hx => z5k (cka.ins x hx), fun t h => ?_⟩
 have h5 := cka.trap t h
 unfold zis at h5
 simp only [Bool.and_eq_true] at h5
 have h6 := zb6.1 h5.2.2.2
 omega
theorem zt6 (hcl : Cl c R D G) {k : Nat} (hk : k < c.zA.length) (he : zd0 c k = true) : drp c G k = false := z0c hk (hcl.fx k hk (by unfold fxB; rw [he]; rfl)).2
theorem z3s {i : Nat} (hi : i < c.zA.length) (h : (c.zA[i]).Op = 18) : drp c G i = false := by
 cases hd : drp c G i with
 | false => rfl
 | true =>
  have := (zns hi hd).2.1; unfold knl at this; rw [Bool.and_eq_true, decide_eq_true_eq] at this; omega
theorem z65 {k : Nat} (hk : k < c.zA.length) (he : zd0 c k = true) : zd0 (zbu c G) (kc c G k) = true := by
 unfold zd0 at he ⊢
 rw [Bool.or_eq_true] at he ⊢
 rcases he with he | he
 · left; unfold zmh at he ⊢; rw [Bool.or_eq_true, List.any_eq_true] at he ⊢; rcases he with he | ⟨t, ht, he⟩
   · left; have he := of_decide_eq_true he; subst he; rfl
   · right; have he := of_decide_eq_true he; refine ⟨_, List.mem_map.2 ⟨t, ht, rfl⟩, ?_⟩; simp [he]
 · right; cases k with
   | zero => cases he
   | succ j =>
    have hj : j < c.zA.length := by omega
    rw [zjx, lge hj] at he; have h18 : (c.zA[j]).Op = 18 := by simpa using he
    have hd := z3s (G := G) hj h18; rw [zi8 hd, zjx, zp5 hj hd]; have := (zua (G j) c.zA[j]).2.2.2 h18; simp [zue, this]
theorem z67 (hc : CdV m c) (hcl : Cl c R D G) {j : Nat} (hj : j < (zjj c G).length) (he : zd0 (zbu c G) j = true) : ∃ k, k < c.zA.length ∧ drp c G k = false ∧ kc c G k = j ∧ zd0 c k = true := by
 have hp := hc.pos
 unfold zd0 at he
 rw [Bool.or_eq_true] at he
 rcases he with he | he
 · unfold zmh at he; rw [Bool.or_eq_true, List.any_eq_true] at he; rcases he with he | ⟨t, ht, he⟩
   · have he := of_decide_eq_true he; subst he; have e0 : zd0 c 0 = true := by unfold zd0 zmh; simp
     exact ⟨0, hp, zt6 hcl hp e0, rfl, e0⟩
   · have he := of_decide_eq_true he; obtain ⟨s, hs, rfl⟩ := List.mem_map.1 (show t ∈ c.zP.map _ from ht); obtain ⟨h1, h2⟩ := hc.trap s hs; have hk : s.Handler.toNat < c.zA.length := by omega
     have e0 : zd0 c s.Handler.toNat = true := by
      unfold zd0 zmh; rw [Bool.or_eq_true, Bool.or_eq_true, List.any_eq_true]; exact .inl (.inr ⟨s, hs, by rw [decide_eq_true_eq]; omega⟩)
     have he : ((kc c G s.Handler.toNat : Nat) : Int) = (j : Int) := he; exact ⟨_, hk, zt6 hcl hk e0, by omega, e0⟩
 · cases j with
   | zero => cases he
   | succ p =>
    rw [zjx] at he; obtain ⟨i, hi, hd, rfl⟩ := zv1 (c := c) (G := G) (show p < (zjj c G).length by omega); rw [zp5 hi hd] at he; have h18 : (c.zA[i]).Op = 18 := by
     have : (trn c G (cpy (G i) c.zA[i])).Op = 18 := by simpa using he
     rw [zue] at this; exact (zua (G i) c.zA[i]).2.2.1 this
    have hi1 : i + 1 < c.zA.length := by
     rcases Nat.lt_or_ge (i + 1) c.zA.length with h1 | h1
     · exact h1
     · have := zkc c G h1; rw [zi8 hd, ← zjf] at this; omega
    have e0 : zd0 c (i + 1) = true := by
     unfold zd0; rw [zjx, lge hi]; simp [h18]
    exact ⟨i + 1, hi1, zt6 hcl hi1 e0, zi8 hd, e0⟩
theorem zwm : ∀ (d k : Nat), k < c.zA.length → c.zA.length - k ≤ d → Rch c k → ∃ k2, k2 < c.zA.length ∧ drp c G k2 = false ∧ kc c G k2 = kc c G k ∧ Rch c k2
 | 0, k, hk, hd, _ => by omega
 | d + 1, k, hk, hd, hr => by
  cases hdr : drp c G k with
  | false => exact ⟨k, hk, hdr, rfl, hr⟩
  | true =>
   obtain ⟨h1, h2, _⟩ := zns hk hdr; have hs : ((k + 1 : Nat) : Int) ∈ zam c k := by
    unfold knl at h2; rw [Bool.and_eq_true, decide_eq_true_eq] at h2; unfold zam; rw [lge hk]; simp only [List.mem_append]; left; rw [ifp ⟨h1, by rw [h2.1]; rfl⟩]; simp
   obtain ⟨k2, q1, q2, q3, q4⟩ := zwm d (k + 1) h1 (by omega) (.step hr hs); exact ⟨k2, q1, q2, by rw [q3, zv2 hdr], q4⟩
theorem z2w (hc : CdV m c) (hca : CdV m (zbu c G)) (hcl : Cl c R D G) {j : Nat} (h : Rch (zbu c G) j) : ∃ k, k < c.zA.length ∧ drp c G k = false ∧ kc c G k = j ∧ Rch c k := by
 induction h with
 | ent h he =>
  obtain ⟨k, h1, h2, h3, h4⟩ := z67 hc hcl h he; exact ⟨k, h1, h2, h3, .ent h1 h4⟩
 | step h hs ih =>
  obtain ⟨i, h1, h2, h3, h4⟩ := ih; rw [← h3] at hs; obtain ⟨k0, hk0, e⟩ := (zug hc h1 h2).1 hs; obtain ⟨k', e', hk'⟩ := zgl hc hk0; obtain rfl : k0 = k' := by omega
  obtain ⟨k, q1, q2, q3, q4⟩ := zwm (G := G) c.zA.length k0 hk' (by omega) (.step h4 hk0); exact ⟨k, q1, q2, by omega, q4⟩
def zva (c : zF) (G G' : Nat → List zB) (k : Nat) : List zB := G k ++ G' (kc c G k)
theorem z7h (x : zC) (l : List zB) (f : zB) : Beh (trn c G x) l f ↔ Beh x l f := by
 unfold trn
 split <;> exact Iff.rfl
theorem z7i {x : zC} {g l C : List zB} (hl : ∀ f ∈ l, f ∈ C) (hg : ∀ f ∈ g, f ∈ C) {f : zB} (h : Beh (cpy g x) l f) : Beh x C f := by
 rcases zlz g x with e | ⟨a, ha, hk, hne, hh, e⟩
 · rw [e] at h; exact zuc hl h
 · rw [e] at h; unfold knl at hk; rw [Bool.and_eq_true, decide_eq_true_eq, Bool.not_eq_true'] at hk; have hin : (⟨a.Register, x.zD, x.Place.Offset⟩ : zB) ∈ C := hg _ (zd8.1 hh); unfold Beh at h ⊢; rw [ifp hk.1]; rw [ifn (show ¬ (3 : Int) = 0 by decide), ifn (show ¬ (3 : Int) = 4 by decide), ifn (show ¬ ((3 : Int) = 2 ∨ (3 : Int) = 21) by decide), ifp rfl] at h; rcases h with ⟨h1, h2⟩ | ⟨q, hq, h1, h2⟩
   · exact .inl ⟨hl _ h1, h2⟩
   · exact .inr (.inr ⟨hk.2, .inr ⟨_, hin, rfl, rfl, q, hl _ hq, h1, h2⟩⟩)
theorem z6w (hc : CdV m c) (hca : CdV m (zbu c G)) (hR : ∀ k, k < c.zA.length → (R k = true ↔ Rch c k)) (hcl : Cl c R D G) {R' D' : Nat → Bool} {G' : Nat → List zB} (hR' : ∀ k, k < (zbu c G).zA.length → (R' k = true ↔ Rch (zbu c G) k)) (hcl' : Cl (zbu c G) R' D' G') :
 Cl c R D (zva c G G') := by
 have hD := zv8 hc hR hcl
 have hD' := zv8 hca hR' hcl'
 refine ⟨fun k hk hf => ?_, fun i hi hd x hx k hs hf => ?_⟩
 · obtain ⟨h1, h2⟩ := hcl.fx k hk hf; refine ⟨h1, ?_⟩; have hkd := z0c hk h2; have hkl := z5j hk hkd; have hfx : fxB (zbu c G) R' (kc c G k) = true := by
    unfold fxB at hf ⊢; rw [Bool.or_eq_true] at hf ⊢; rcases hf with hf | hf
    · exact .inl (z65 hk hf)
    · right; rw [Bool.not_eq_true'] at hf ⊢; cases hr : R' (kc c G k) with
      | false => rfl
      | true =>
       obtain ⟨k2, q1, q2, q3, q4⟩ := z2w hc hca hcl ((hR' _ hkl).1 hr); obtain rfl := z8a q2 hkd q3; rw [(hR _ q1).2 q4] at hf; cases hf
   unfold zva; rw [h2, (hcl'.fx _ hkl hfx).2]; rfl
 · obtain ⟨k', e', hk'⟩ := zgl hc hs; obtain rfl : k = k' := by omega
   rw [lge hi] at hx; cases hx; refine ⟨hD k hk', fun f hf2 => ?_⟩; have hlG : ∀ f ∈ G i, f ∈ zva c G G' i := fun f h => List.mem_append.2 (.inl h); have hlG' : ∀ f ∈ G' (kc c G i), f ∈ zva c G G' i := fun f h => List.mem_append.2 (.inr h); rcases List.mem_append.1 hf2 with h | h
   · exact zuc hlG ((hcl.st i hi hd _ (lge hi) k hs hf).2 f h)
   · cases hdi : drp c G i with
     | false =>
      have hs' : ((kc c G k : Nat) : Int) ∈ zam (zbu c G) (kc c G i) := (zug hc hi hdi).2 ⟨k, hs, rfl⟩; obtain ⟨j', e2, hj'⟩ := zgl hca hs'; obtain rfl : kc c G k = j' := by omega
      have hil := z5j hi hdi; cases hfx : fxB (zbu c G) R' (kc c G k) with
      | true => rw [(hcl'.fx _ hj' hfx).2] at h; simp at h
      | false =>
       have h2 := (hcl'.st _ hil (hD' _ hil) _ (zp5 hi hdi) _ hs' hfx).2 f h; rw [z7h] at h2; exact z7i hlG' hlG h2
     | true =>
      obtain ⟨d1, d2, d3⟩ := zns hi hdi; unfold knl at d2; rw [Bool.and_eq_true, decide_eq_true_eq, Bool.not_eq_true'] at d2; have hk1 : k = i + 1 := by
       unfold zam at hs; rw [lge hi] at hs; simp only [d2.1, List.mem_append] at hs; rcases hs with hs | hs
       · split at hs
         · have : (k : Int) = (i : Int) + 1 := by simpa using hs
           omega
         · simp at hs
       · rw [ifn (by decide)] at hs; simp at hs
      subst hk1; rw [zv2 hdi] at h; unfold Beh; rw [ifp d2.1]
      by_cases hr : f.Register = (c.zA[i]).R
      · right; right; refine ⟨d2.2, .inr ⟨_, hlG _ d3, rfl, rfl, f, hlG' f h, hr, ?_⟩⟩; obtain ⟨r, t, o⟩ := f; simp only at hr; subst hr; rfl
      · exact .inl ⟨hlG' f h, hr⟩
theorem z1s (hc : CdV m c) (hca : CdV m (zbu c G)) (hR : ∀ k, k < c.zA.length → (R k = true ↔ Rch c k)) (hi : Inv m c R D G) (hcl : Cl c R D G) {R' D' : Nat → Bool} {G' : Nat → List zB} (hR' : ∀ k, k < (zbu c G).zA.length → (R' k = true ↔ Rch (zbu c G) k)) (hcl' : Cl (zbu c G) R' D' G') {k : Nat} (hk : k < c.zA.length) : ∀ f ∈ G' (kc c G k), f ∈ G k := fun f hf =>
 (hi.ab D (zva c G G') (z6w hc hca hR hcl hR' hcl') k hk (zv8 hc hR hcl k hk)).2 f (List.mem_append.2 (.inr hf))
variable {m : zI} {c : zF} {G : Nat → List zB} {R D : Nat → Bool}
theorem zyh {x : zC} {l : List zB} (h : knl (trn c G (cpy l x)) = true) : trn c G (cpy l x) = x ∧ cpy l x = x ∧ knl x = true := by
 have hop : (cpy l x).Op = 0 := by
  unfold knl at h; rw [Bool.and_eq_true, decide_eq_true_eq, zue] at h; exact h.1
 rcases zlz l x with e | ⟨g, _, _, _, _, e⟩
 · rw [e] at hop; have ht : trn c G x = x := by unfold trn; rw [hop]; rfl
   rw [e, ht] at h; rw [e, ht]; exact ⟨rfl, rfl, h⟩
 · rw [e] at hop; have hop : (3 : Int) = 0 := hop; exact absurd hop (by decide)
theorem z8m {x : zC} {l : List zB} (hk : knl x = true) (h : cpy l x = x) : ∀ g ∈ l, g.Register ≠ x.R → zii l x g.Register = false := by
 intro g hg hne
 cases hh : zii l x g.Register with
 | false => rfl
 | true =>
  exfalso
  unfold cpy at h; rw [ifp hk] at h; have hn : l.findSome? (fun g => if (g.Register != x.R && zii l x g.Register) = true then some g.Register else none) ≠ none := by
   intro hn; rw [List.findSome?_eq_none_iff] at hn; have := hn g hg; rw [ifp (by rw [Bool.and_eq_true, bne_iff_ne]; exact ⟨hne, hh⟩)] at this; cases this
  cases hf : l.findSome? (fun g => if (g.Register != x.R && zii l x g.Register) = true then some g.Register else none) with
  | none => exact hn hf
  | some q =>
   rw [hf] at h; have e3 : (3 : Int) = x.Op := congrArg zC.Op h; unfold knl at hk; rw [Bool.and_eq_true, decide_eq_true_eq] at hk; omega
theorem z1y (hc : CdV m c) (hca : CdV m (zbu c G)) {G' : Nat → List zB} (hsub : ∀ k, k < c.zA.length → drp c G k = false → ∀ f ∈ G' (kc c G k), f ∈ G k) {j : Nat} (hj : j < (zbu c G).zA.length) :
 drp (zbu c G) G' j = false ∧ cpy (G' j) (zbu c G).zA[j] = (zbu c G).zA[j] := by
 obtain ⟨k, hk, hd, rfl⟩ := zv1 (c := c) (G := G) hj
 have hx := zp5 hk hd
 have hx2 : (zbu c G).zA[kc c G k] = trn c G (cpy (G k) c.zA[k]) := by
  rw [lge hj] at hx; exact Option.some.inj hx
 have hs := hsub k hk hd
 constructor
 · cases hdr : drp (zbu c G) G' (kc c G k) with
   | false => rfl
   | true =>
    exfalso
    obtain ⟨d1, d2, d3⟩ := zns hj hdr; rw [hx2] at d2 d3; obtain ⟨e1, e2, e3⟩ := zyh d2; rw [e1] at d3; have hk1 : k + 1 < c.zA.length := by
     rcases Nat.lt_or_ge (k + 1) c.zA.length with h1 | h1
     · exact h1
     · have := zkc c G h1; rw [zi8 hd, ← zjf] at this; have d1 : kc c G k + 1 < (zjj c G).length := d1; omega
    have : drp c G k = true := by
     unfold drp; rw [lge hk]; rw [Bool.and_eq_true, Bool.and_eq_true, decide_eq_true_eq]; exact ⟨hk1, e3, zd8.2 (hs _ d3)⟩
    rw [hd] at this; cases this
 · rw [hx2]; rcases zlz (G' (kc c G k)) (trn c G (cpy (G k) c.zA[k])) with e | ⟨g, hg, hkn, hne, hh, _⟩
   · exact e
   · exfalso
     obtain ⟨e1, e2, e3⟩ := zyh hkn; rw [e1] at hne hh; have h1 := z8m e3 e2 g (hs g hg) hne; have h2 : zii (G k) c.zA[k] g.Register = true := zd8.2 (hs _ (zd8.1 hh)); rw [h1] at h2; cases h2
theorem z1c {G' : Nat → List zB} (h : ∀ j, j < c.zA.length → drp c G' j = false) : ∀ j, j ≤ c.zA.length → kc c G' j = j
 | 0, _ => rfl
 | j + 1, hj => by rw [zi8 (h j (by omega)), z1c h j (by omega)]
theorem z8r (hc : CdV m c) {G' : Nat → List zB} (h : ∀ j (hj : j < c.zA.length), drp c G' j = false ∧ cpy (G' j) c.zA[j] = c.zA[j]) : zjj c G' = c.zA := by
 have hk := z1c (G' := G') (fun j hj => (h j hj).1)
 apply List.ext_getElem?
 intro j
 by_cases hj : j < c.zA.length
 · have := z31 hj (h j hj).1; rw [hk j (by omega), (h j hj).2] at this; rw [this, lge hj]
   congr 1
   unfold trn; split
   · rename_i hjm; have hjm2 := hjm; unfold zdj at hjm2; simp only [Bool.or_eq_true, decide_eq_true_eq] at hjm2; obtain ⟨t0, t1⟩ := (hc.ins _ (List.getElem_mem hj)).tg (by omega); have e : (kc c G' (c.zA[j]).Target.toNat : Int) = (c.zA[j]).Target := by rw [hk _ (by omega)]; omega
     rw [e]
   · rfl
 · have hl := zjf c G'; rw [hk _ (Nat.le_refl _)] at hl; rw [List.getElem?_eq_none (by omega), List.getElem?_eq_none (by omega)]
theorem z3a (N : Nat) (hN : 1000 < N) (hc : CdV m c) {c2 : zF} (h2 : c2.zA = c.zA) {G' : Nat → List zB} (h : ∀ j, j < c.zA.length → drp c G' j = false) (F : List (List zB)) :
 zx (zat.r0 N) N (0, c, c2, ⟨F, (List.range c.zA.length).map (ixA c G')⟩) = some (.inr ((c.zA.length : Int), c, c2, ⟨F, (List.range c.zA.length).map (ixA c G')⟩)) := by
 have hl := hc.len
 have := zde (f := zat.r0 N) (fun i => ((i : Int), c, c2, (⟨F, (List.range c.zA.length).map (ixA c G')⟩ : zV))) (fun _ => none) c.zA.length (fun i hi => by
  have hx := lge hi; have hI : ((List.range c.zA.length).map (ixA c G'))[i]? = some (ixA c G' i) := zih _ hi; have hix : ixA c G' i = (i : Int) := by unfold ixA; rw [h i hi, z1c h i (by omega)]; rfl
  generalize c.zA[i] = x at hx; simp only [zat.r0, zat.b0, zap, h2, hx, hI, hix, obs, dct (show (i : Int) < (c.zA.length : Int) by omega), ctr]; rw [w6e]; simp [zco, z7j])
  (by simp only [zat.r0, zat.b0, dcf (Int.lt_irrefl _), cfa]) (show c.zA.length < N by omega)
 simp only [nc0] at this
 rw [this, z24]
theorem plainTranslateLess : zgk := by
 intro m c hm hc
 refine ⟨2000000, ?_⟩
 obtain ⟨b, hb⟩ := z3f 2000000 (by decide) hc
 obtain ⟨n, e, h1, h2, h3, h4⟩ := zuf 2000000 (by decide) m hc
 unfold zat
 rw [z7k]
 simp only [obs, bnt, cfa]
 rw [hb]
 cases b with
 | false => rfl
 | true =>
  simp only [obs, bnt, cfa]; rw [zx7 hc, obs]
  by_cases he : e = 0
  · obtain ⟨hcv, G, g1, g2, g3, _, R, D, hR, hi, hcl⟩ := h4 he; have hil := hcv.len; subst he; have ck := z9m 2000000 (by decide) hc h2; cases ha : ((List.range c.zA.length).map G).all fun l => decide (l.length ≤ 60) with
    | false =>
     have ho : zf 2000000 m c = some (⟨⟨⟨#[]⟩, []⟩, [], []⟩, ⟨[], []⟩, 2) := by
      unfold zf; rw [g1, ha]; rfl
     rw [ho]; simp only [obs]; rw [z5g]; rfl
    | true =>
     have hG : ∀ k, (zc3 c G k).length ≤ 60 := fun k => by
      unfold zc3; split
      · rename_i hk; have := List.all_eq_true.1 ha (G k) (List.mem_map.2 ⟨k, by simpa using hk, rfl⟩); simpa using this
      · simp
     have hGv : ∀ k, ∀ f ∈ zc3 c G k, FctV m c f := fun k f hf => (g3 k).2.2 f (zqa hf); have hi' := z4v hi; have hcl' := z7e hcv hcl; rw [ha, ifp rfl, ← zyc c G] at g1; have htl := ck.tl; have ho := z14 2000000 (by decide) hcv (zxc ck.trap) (by omega) (G := zc3 c G) (fun k => by have := hG k; omega) g1; have hcka := zy0 hcv ck hGv; have hfew := z8k (c := zbu c (zc3 c G)) (by decide) hcka; have hwa := z34 hcv (zxc ck.trap) hc hGv; have hca := z3r hcv ck hGv; obtain ⟨n2, e2, k1, k2, k3, k4⟩ := zuf 2000000 (by decide) m hwa; have hck2 := z9l 2000000 (by decide) hwa hcka; rw [k2] at hck2; have e20 : e2 = 0 := congrArg Prod.snd (Option.some.inj hck2); obtain ⟨_, G', q1, _, q3, _, R', D', hR', hi2, hcl2⟩ := k4 e20; have hsub : ∀ k, k < c.zA.length → drp c (zc3 c G) k = false → ∀ f ∈ G' (kc c (zc3 c G) k), f ∈ zc3 c G k := fun k hk _ => z1s hcv hca hR hi' hcl' hR' hcl2 hk
     have hall : ((List.range (zbu c (zc3 c G)).zA.length).map G').all (fun l => decide (l.length ≤ 60)) = true := by
      rw [List.all_eq_true]; intro l hl; obtain ⟨j, hj, rfl⟩ := List.mem_map.1 hl; have hj : j < (zbu c (zc3 c G)).zA.length := by simpa using hj
      have hj : j < (zjj c (zc3 c G)).length := hj; obtain ⟨k, hk, hd, rfl⟩ := zv1 hj; have := zqt _ _ (znv (q3 (kc c (zc3 c G) k)).1) (hsub k hk hd); have := hG k; rw [decide_eq_true_eq]; omega
     rw [hall, ifp rfl, ← zyc (zbu c (zc3 c G)) G'] at q1; have hG2 : ∀ k, (zc3 (zbu c (zc3 c G)) G' k).length ≤ 100 := fun k => by
      by_cases hk : k < (zbu c (zc3 c G)).zA.length
      · rw [zl4 hk]; have := List.all_eq_true.1 hall (G' k) (List.mem_map.2 ⟨k, by simpa using hk, rfl⟩); rw [decide_eq_true_eq] at this; omega
      · have e : zc3 (zbu c (zc3 c G)) G' k = [] := ifn hk; rw [e]; exact Nat.zero_le _
     have htla := hcka.tl; have ho2 := z14 2000000 (by decide) hca (zxc hcka.trap) (by omega) (G := zc3 (zbu c (zc3 c G)) G') hG2 q1; have hsm : ∀ j (hj : j < (zbu c (zc3 c G)).zA.length), drp (zbu c (zc3 c G)) (zc3 (zbu c (zc3 c G)) G') j = false ∧ cpy (zc3 (zbu c (zc3 c G)) G' j) (zbu c (zc3 c G)).zA[j] = (zbu c (zc3 c G)).zA[j] := fun j hj =>
      z1y hcv hca (G' := zc3 (zbu c (zc3 c G)) G') (fun k hk hd f hf => hsub k hk hd f (zqa hf)) hj
     have hid : (zbu (zbu c (zc3 c G)) (zc3 (zbu c (zc3 c G)) G')).zA = (zbu c (zc3 c G)).zA := z8r hca hsm; rw [ho]; simp only [obs, bsf, cfa]; rw [hfew]; simp only [obs, bnt, cfa]; rw [zx7 hwa, obs, ho2]; simp only [obs, bsf, cfa]; rw [hid]; simp only [bsf, cfa, obs, lnm, List.length_range]; rw [z3a 2000000 (by decide) hca hid (fun j hj => (hsm j hj).1)]; rfl
  · have ho : zf 2000000 m c = some (⟨⟨⟨#[]⟩, []⟩, [], []⟩, ⟨[], []⟩, e) := by
     unfold zf; rw [h3 he]; simp only [obs]; rw [show (e != 0) = true by simpa using he]; rfl
    rw [ho]; simp only [obs]; rw [show (e != 0) = true by simpa using he, z5g]; rfl
end
end Go.Proofs.YtnpfkhdbmlhfhaaGreatDoor.M
namespace Go.Proofs.YtnpfkhdbmlhfhaaGreatDoor
theorem translateLess_card : Rows.TranslateLessUptoCardSaid := M.cardTranslateLess M.plainTranslateLess
#print axioms translateLess_card
end Go.Proofs.YtnpfkhdbmlhfhaaGreatDoor
