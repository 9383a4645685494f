/- TranslateOptimizes: the law answers true for every input of bulk at most 1048576, and its arguments read as they did; by the seat's second form, tied to the program's text. -/
import Derived.Test.YtblgefddnnlniaaGreatDoorPTranslateOptimizesx0
import Derived.Test.YtblgefddnnlniaaGreatDoorWTranslateOptimizes
namespace Go.Proofs.YtblgefddnnlniaaGreatDoor.M
open Go Go.Amx
set_option linter.unusedVariables false
set_option linter.unusedSimpArgs false
set_option maxRecDepth 100000
noncomputable section
variable {m : zI} {c : zF} {R : Nat → Bool}
def zjy (c : zF) (R D : Nat → Bool) (G : Nat → List zB) (r : List zB) (k : Nat) : Bool := !fxB c R k && (!D k || decide ((nxt D G r k).length < (G k).length))
theorem z8l (D : Nat → Bool) (G : Nat → List zB) (r : List zB) (k : Nat) (hd : D k = true) : (nxt D G r k).length ≤ (G k).length := by
 unfold nxt
 rw [hd, ctr]
 exact List.length_filter_le _ _
theorem z3s {D : Nat → Bool} {G : Nat → List zB} {r : List zB} {k : Nat} (he : zjy c R D G r k = false) (hf : fxB c R k = false) : D k = true ∧ ∀ f ∈ G k, f ∈ r := by
 unfold zjy at he
 rw [hf, Bool.not_false, Bool.true_and, Bool.or_eq_false_iff, Bool.not_eq_false'] at he
 refine ⟨he.1, fun f hf' => ?_⟩
 have h2 := of_decide_eq_false he.2
 have h3 : (G k).filter (fun f => zea r f) = G k := by
  have hl : ((G k).filter fun f => zea r f).length = (G k).length := by
   have h4 : nxt D G r k = (G k).filter fun f => zea r f := by unfold nxt; rw [he.1]; rfl
   rw [h4] at h2; have := List.length_filter_le (fun f => zea r f) (G k); omega
  rw [List.filter_eq_self]; exact List.length_filter_eq_length_iff.1 hl
 rw [← h3] at hf'
 exact ze7.1 (List.mem_filter.1 hf').2
theorem z0g (hc : CdV m c) {D : Nat → Bool} {G : Nat → List zB} {r : List zB} (hr : r.length ≤ 3840) {k : Nat} (hk : k < c.zA.length) (he : zjy c R D G r k = true) :
 mea (upd D k) (zfw G k (nxt D G r k)) c.zA.length < mea D G c.zA.length := by
 have h := zz9 D G k (nxt D G r k) c.zA.length
 rw [dct hk] at h
 simp only [ctr] at h
 unfold zjy at he
 rw [Bool.and_eq_true, Bool.or_eq_true] at he
 cases hd : D k with
 | false =>
  rw [hd] at h; have : nxt D G r k = r := by unfold nxt; rw [hd]; rfl
  rw [this] at h ⊢; simp only [cfa] at h; omega
 | true =>
  rw [hd] at h he; have := of_decide_eq_true (he.2.resolve_left (by decide)); simp only [ctr] at h; omega
theorem z7a {D : Nat → Bool} {G : Nat → List zB} {r : List zB} {k i : Nat} (hne : i ≠ k) (h : Nok c R D G i) : Nok c R (upd D k) (zfw G k (nxt D G r k)) i := by
 intro x hx q hq hf
 obtain ⟨h1, h2⟩ := h x hx q hq hf
 have e : zfw G k (nxt D G r k) i = G i := by unfold zfw; rw [ifn hne]
 rw [e]
 refine ⟨by unfold upd; split <;> first | rfl | exact h1, fun f hf' => ?_⟩
 unfold zfw at hf'
 split at hf'
 · rename_i eq; subst eq; unfold nxt at hf'; rw [h1, ctr] at hf'; exact h2 f (List.mem_filter.1 hf').1
 · exact h2 f hf'
structure Giv (m : zI) (c : zF) (R : Nat → Bool) (i : Nat) (x : zC) (gi r : List zB) : Prop where
 at_ : c.zA[i]? = some x
 mem : ∀ f, f ∈ r ↔ Beh x gi f
 so : zfk r
 ok : ∀ f ∈ r, FctV m c f
 un : ∀ f ∈ r, f ∈ zn8 c
 ab : ∀ D' G', Cl c R D' G' → D' i = true ∧ ∀ f ∈ G' i, f ∈ gi
theorem zta (hc : CdV m c) {i : Nat} {x : zC} {gi r : List zB} (h : Giv m c R i x gi r) : r.length ≤ 3840 := Nat.le_trans (zui _ _ (zr7 h.so) h.un) (zzz hc)
theorem z3i (hc : CdV m c) {D : Nat → Bool} {G : Nat → List zB} (h : Inv m c R D G) {i : Nat} (hi : i < c.zA.length) (hd : D i = true) {r : List zB} (hm : ∀ f, f ∈ r ↔ Beh c.zA[i] (G i) f) (hs : zfk r) : Giv m c R i c.zA[i] (G i) r :=
 ⟨lge hi, hm, hs, fun f hf => z31 (hc.ins _ (List.getElem_mem hi)) (h.ok i) ((hm f).1 hf), fun f hf => z7u hc (List.getElem_mem hi) (h.un i) ((hm f).1 hf), fun D' G' hcl => h.ab D' G' hcl i hi hd⟩
theorem z5d {i : Nat} (hi : i < c.zA.length) {x : zC} {gi r : List zB} (h : Giv m c R i x gi r) {k : Nat} (hk : (k : Int) ∈ zay c i) (hf : fxB c R k = false) : ∀ D' G', Cl c R D' G' → D' k = true ∧ ∀ f ∈ G' k, f ∈ r := by
 intro D' G' hcl
 obtain ⟨h1, h2⟩ := h.ab D' G' hcl
 obtain ⟨h3, h4⟩ := hcl.st i hi h1 x h.at_ k hk hf
 exact ⟨h3, fun f hf' => (h.mem f).2 (z5l h2 (h4 f hf'))⟩
theorem z0a (hc : CdV m c) {D : Nat → Bool} {G : Nat → List zB} (h : Inv m c R D G) {i : Nat} (hi : i < c.zA.length) {x : zC} {gi r : List zB} (g : Giv m c R i x gi r) {k : Nat} (hkl : k < c.zA.length) (hk : (k : Int) ∈ zay c i) (he : zjy c R D G r k = true) :
 Inv m c R (upd D k) (zfw G k (nxt D G r k)) := by
 have hf : fxB c R k = false := by
  unfold zjy at he; rw [Bool.and_eq_true, Bool.not_eq_true'] at he; exact he.1
 exact z49 hc h hkl hf g.so g.ok g.un (z5d hi g hk hf)
theorem zya {D : Nat → Bool} {G : Nat → List zB} {r : List zB} {k : Nat} : (upd D k) k = true ∧ ∀ f ∈ zfw G k (nxt D G r k) k, f ∈ r := by
 refine ⟨by simp [upd], fun f hf => ?_⟩
 unfold zfw at hf
 rw [ifp rfl] at hf
 unfold nxt at hf
 cases hd : D k with
 | true => rw [hd, ctr, List.mem_filter, ze7] at hf; exact hf.2
 | false => rw [hd, cfa] at hf; exact hf
theorem zra {D : Nat → Bool} {G : Nat → List zB} {r : List zB} {k q : Nat} (hd : D q = true) : (upd D k) q = true ∧ ∀ f ∈ zfw G k (nxt D G r k) q, f ∈ G q := by
 refine ⟨by unfold upd; split <;> first | rfl | exact hd, fun f hf => ?_⟩
 unfold zfw at hf
 split at hf
 · rename_i e; subst e; unfold nxt at hf; rw [hd, ctr] at hf; exact (List.mem_filter.1 hf).1
 · exact hf
structure QS (m : zI) (c : zF) (R : Nat → Bool) (i : Nat) (gi r : List zB) (M0 j : Nat) (D : Nat → Bool) (G : Nat → List zB) (o : List Int) : Prop where
 inv : Inv m c R D G
 mem : ∀ z ∈ o, ∃ k : Nat, z = (k : Int) ∧ k < c.zA.length ∧ D k = true
 di : D i = true
 gi : (i : Int) ∈ o ∨ G i = gi
 a : ∀ i', i' < c.zA.length → i' ≠ i → D i' = true → (i' : Int) ∈ o ∨ Nok c R D G i'
 b : ∀ t, t < j → ∀ k : Nat, (zay c i)[t]? = some (k : Int) → fxB c R k = false → D k = true ∧ ∀ f ∈ G k, f ∈ r
 le : o.length + mea D G c.zA.length ≤ M0
theorem z63 (hc : CdV m c) {i : Nat} (hi : i < c.zA.length) {x : zC} {gi r : List zB} (g : Giv m c R i x gi r) {M0 j : Nat} {D : Nat → Bool} {G : Nat → List zB} {o : List Int} (h : QS m c R i gi r M0 j D G o) {k : Nat} (hj : (zay c i)[j]? = some (k : Int)) (hkl : k < c.zA.length) :
 (zjy c R D G r k = true → QS m c R i gi r M0 (j + 1) (upd D k) (zfw G k (nxt D G r k)) (o ++ [(k : Int)])) ∧ (zjy c R D G r k = false → QS m c R i gi r M0 (j + 1) D G o) := by
 constructor
 · intro he; refine ⟨z0a hc h.inv hi g hkl (lmg hj) he, fun z hz => ?_, (zra (G := G) (r := r) h.di).1, ?_, fun i' hi' hne hd => ?_, fun t ht q hq hf => ?_, ?_⟩
   · rcases List.mem_append.1 hz with hz | hz
     · obtain ⟨q, e, hq, hd⟩ := h.mem z hz; exact ⟨q, e, hq, (zra (G := G) (r := r) hd).1⟩
     · obtain rfl : z = (k : Int) := by simpa using hz
       exact ⟨k, rfl, hkl, by simp [upd]⟩
   · by_cases e : i = k
     · subst e; exact .inl (by simp)
     · rcases h.gi with hg | hg
       · exact .inl (by simp [hg])
       · exact .inr (by unfold zfw; rw [ifn e]; exact hg)
   · by_cases e : i' = k
     · subst e; exact .inl (by simp)
     · unfold upd at hd; rw [ifn e] at hd; rcases h.a i' hi' hne hd with ha | ha
       · exact .inl (by simp [ha])
       · exact .inr (z7a e ha)
   · by_cases e : t = j
     · subst e; rw [hj] at hq; obtain rfl : k = q := by have := Option.some.inj hq; omega
       exact zya
     · obtain ⟨h1, h2⟩ := h.b t (by omega) q hq hf; obtain ⟨h3, h4⟩ := zra (G := G) (r := r) (k := k) h1; exact ⟨h3, fun f hf' => h2 f (h4 f hf')⟩
   · have := z0g hc (zta hc g) hkl he; have := h.le; simp only [lna, lns]; omega
 · intro he; refine ⟨h.inv, h.mem, h.di, h.gi, h.a, fun t ht q hq hf => ?_, h.le⟩
   by_cases e : t = j
   · subst e; rw [hj] at hq; obtain rfl : k = q := by have := Option.some.inj hq; omega
     exact z3s he hf
   · exact h.b t (by omega) q hq hf
theorem z2c (N : Nat) (hN : 1048600 < N) (hc : CdV m c) {i : Nat} (hi : i < c.zA.length) {x : zC} {gi r : List zB} (g : Giv m c R i x gi r) {M0 : Nat} (hM : M0 ≤ 1000000) {D : Nat → Bool} {G : Nat → List zB} {o : List Int} (h : QS m c R i gi r M0 0 D G o) :
 ∃ D' G' o', zf (zh.r4 N) N (zbx c, (List.range c.zA.length).map R, (List.range c.zA.length).map G, (List.range c.zA.length).map D, r, zay c i, ((zay c i).length : Int), 0, o, c) =
  some (zbx c, (List.range c.zA.length).map R, (List.range c.zA.length).map G', (List.range c.zA.length).map D', r, zay c i, ((zay c i).length : Int), ((zay c i).length : Int), o', c) ∧ QS m c R i gi r M0 (zay c i).length D' G' o' := by
 have hl := hc.len
 have hsl := zmj (c := c) (i := i)
 have hrl := zta hc g
 obtain ⟨s, hs, D', G', o', rfl, hq⟩ := zfy (f := zh.r4 N) (fun j s => ∃ D G o, s = (zbx c, (List.range c.zA.length).map R, (List.range c.zA.length).map G, (List.range c.zA.length).map D, r, zay c i, ((zay c i).length : Int), (j : Int), o, c) ∧ QS m c R i gi r M0 j D G o) (zay c i).length (by
  rintro j s hj ⟨D, G, o, rfl, h⟩
  have hx := lge hj; obtain ⟨k, hk0, hkl⟩ := zi0 hc (List.getElem_mem hj); rw [hk0] at hx; obtain ⟨q1, q2⟩ := z63 hc hi g h hx hkl; have hent : (zbx c)[k]? = some (zgt c k) := zcp _ hkl; have hR : ((List.range c.zA.length).map R)[k]? = some (R k) := zcp _ hkl; have hD : ((List.range c.zA.length).map D)[k]? = some (D k) := zcp _ hkl; have hG : ((List.range c.zA.length).map G)[k]? = some (G k) := zd1 _ hkl; have hgl := zqa hc h.inv k; have hol : o.length + 1 ≤ 1000000 ∨ zjy c R D G r k = false := by
   cases he : zjy c R D G r k with
   | false => exact .inr rfl
   | true =>
    have := (q1 he).le; simp only [lna, lns] at this; exact .inl (by omega)
  have hstep : zh.r4 N (zbx c, (List.range c.zA.length).map R, (List.range c.zA.length).map G, (List.range c.zA.length).map D, r, zay c i, ((zay c i).length : Int), (j : Int), o, c) =
   some (.again (if zjy c R D G r k = true then (zbx c, (List.range c.zA.length).map R, (List.range c.zA.length).map (zfw G k (nxt D G r k)), (List.range c.zA.length).map (upd D k), r, zay c i, ((zay c i).length : Int), ((j + 1 : Nat) : Int), o ++ [(k : Int)], c)
    else (zbx c, (List.range c.zA.length).map R, (List.range c.zA.length).map G, (List.range c.zA.length).map D, r, zay c i, ((zay c i).length : Int), ((j + 1 : Nat) : Int), o, c))) := by
   simp only [zh.r4, zh.b4, zac, hx, hent, hR, hD, hG, obs, dct (show (j : Int) < ((zay c i).length : Int) by omega), ctr, itn, lnm, List.length_range, ifp (show 0 ≤ (k : Int) by omega), ifp (show (k : Int) < (c.zA.length : Int) by omega), orB]; rw [w6e, zp1, zok G]; have hj1 : (j : Int) + 1 = ((j + 1 : Nat) : Int) := by omega
   rw [hj1]; have hfx : (zgt c k || !R k) = fxB c R k := rfl; rw [hfx]; unfold zjy at hol ⊢; cases hf : fxB c R k with
   | true => simp
   | false =>
    rw [hf] at hol; cases hd : D k with
    | true =>
     have hn : nxt D G r k = (G k).filter fun f => zea r f := by unfold nxt; rw [hd]; rfl
     rw [hd] at hol; simp only [cfa, ctr, Bool.not_false, bnt, Bool.true_and, Bool.false_or]; rw [z2f N (G k) r (by omega) (by omega) (by omega) (by omega), obs, ← hn, zok G]
     by_cases hlt : (nxt D G r k).length < (G k).length
     · rw [dct (show ((nxt D G r k).length : Int) < ((G k).length : Int) by omega), dct hlt]; have : o.length + 1 ≤ 1000000 := by
        rcases hol with h | h
        · exact h
        · rw [dct hlt] at h; simp at h
       simp [zmw this]
     · rw [dcf (show ¬ ((nxt D G r k).length : Int) < ((G k).length : Int) by omega), dcf hlt]; simp
    | false =>
     have hn : nxt D G r k = r := by unfold nxt; rw [hd]; rfl
     rw [hd] at hol; have : o.length + 1 ≤ 1000000 := by
      rcases hol with h | h
      · exact h
      · simp at h
     rw [hn]; simp [zmw this]
  cases he : zjy c R D G r k with
  | true => rw [he, ifp rfl] at hstep; exact ⟨_, hstep, _, _, _, rfl, q1 he⟩
  | false => rw [he, ifn (by decide)] at hstep; exact ⟨_, hstep, _, _, _, rfl, q2 he⟩)
  (by
   rintro s ⟨D, G, o, rfl, h⟩
   refine ⟨_, ?_, D, G, o, rfl, h⟩; simp only [zh.r4, zh.b4]; rw [dcf (Int.lt_irrefl _)]; rfl) (N := N) (by omega) (s := (zbx c, (List.range c.zA.length).map R, (List.range c.zA.length).map G, (List.range c.zA.length).map D, r, zay c i, ((zay c i).length : Int), 0, o, c)) ⟨D, G, o, rfl, h⟩
 exact ⟨D', G', o', hs, hq⟩
variable {m : zI} {c : zF} {R : Nat → Bool}
theorem zrf {α : Type} {f : α → Option (Stp α)} (I : Nat → α → Prop) (J : α → Prop) (h : ∀ n s, I n s → (∃ s' n', f s = some (.again s') ∧ I n' s' ∧ n' < n) ∨ (∃ s', f s = some (.leave s') ∧ J s')) :
 ∀ (N : Nat) (n : Nat) (s : α), I n s → n < N → ∃ s', zf f N s = some s' ∧ J s'
 | 0, n, s, _, hN => by omega
 | N + 1, n, s, hI, hN => by
  rcases h n s hI with ⟨s', n', h1, h2, h3⟩ | ⟨s', h1, h2⟩
  · obtain ⟨s2, h4, h5⟩ := zrf I J h N n' s' h2 (by omega); exact ⟨s2, by rw [zf, h1]; exact h4, h5⟩
  · exact ⟨s', by rw [zf, h1]; rfl, h2⟩
theorem zse {α : Type} (n : Nat) (v : α) : List.replicate n v = (List.range n).map fun _ => v := by
 apply List.ext_getElem
 · simp
 · intro i h1 h2; simp
theorem zwx : Inv m c R (fxB c R) (fun _ => []) where
 so k := List.Pairwise.nil
 ok k f hf := by simp at hf
 un k f hf := by simp at hf
 no k _ := rfl
 fx k hk hf := ⟨hf, rfl⟩
 ab D' G' hcl k hk hd := by
  obtain ⟨h1, h2⟩ := hcl.fx k hk hd; exact ⟨h1, fun f hf => by rw [h2] at hf; exact hf⟩
theorem z2d (N : Nat) (hN : 1048600 < N) (hc : CdV m c) : ∃ o, zf (zh.r0 N) N (zbx c, (List.range c.zA.length).map R, (List.range c.zA.length).map (fun _ => ([] : List zB)), (List.range c.zA.length).map (fun _ => false), [], (c.zA.length : Int), 0, c) =
 some (zbx c, (List.range c.zA.length).map R, (List.range c.zA.length).map (fun _ => ([] : List zB)), (List.range c.zA.length).map (fxB c R), o, (c.zA.length : Int), (c.zA.length : Int), c) ∧
 (∀ z ∈ o, ∃ k : Nat, z = (k : Int) ∧ k < c.zA.length ∧ fxB c R k = true) ∧ (∀ k, k < c.zA.length → fxB c R k = true → (k : Int) ∈ o) ∧ o.length ≤ c.zA.length := by
 have hl := hc.len
 obtain ⟨s, hs, o, rfl, h1, h2, h3⟩ := zfy (f := zh.r0 N) (fun i s => ∃ o, s = (zbx c, (List.range c.zA.length).map R, (List.range c.zA.length).map (fun _ => ([] : List zB)), (List.range c.zA.length).map (fun k => decide (k < i) && fxB c R k), o, (c.zA.length : Int), (i : Int), c) ∧
  (∀ z ∈ o, ∃ k : Nat, z = (k : Int) ∧ k < c.zA.length ∧ fxB c R k = true) ∧ (∀ k, k < i → fxB c R k = true → (k : Int) ∈ o) ∧ o.length ≤ i) c.zA.length (by
  rintro i s hi ⟨o, rfl, h1, h2, h3⟩
  have hent : (zbx c)[i]? = some (zgt c i) := zcp _ hi; have hR : ((List.range c.zA.length).map R)[i]? = some (R i) := zcp _ hi; have hD : ((List.range c.zA.length).map (fun k => decide (k < i) && fxB c R k))[i]? = some (decide (i < i) && fxB c R i) := zcp _ hi; simp only [zh.r0, zh.b0, zac, hent, hR, hD, obs, dct (show (i : Int) < (c.zA.length : Int) by omega), ctr, orB, itn, lnm, List.length_range, ifp (show 0 ≤ (i : Int) by omega), ifp (show (i : Int) < (c.zA.length : Int) by omega), lnc, ln0, zmw (show o.length + (0 + 1) ≤ 1000000 by omega)]; rw [w6e, show (zgt c i || !R i) = fxB c R i from rfl, zp1]; have hj1 : (i : Int) + 1 = ((i + 1 : Nat) : Int) := by omega
  rw [hj1]; cases hf : fxB c R i with
  | true =>
   refine ⟨_, rfl, o ++ [(i : Int)], ?_, fun z hz => ?_, fun k hk hfk => ?_, by simp; omega⟩
   · congr 4
     apply zn1; intro k _; unfold upd; split
     · rename_i e; subst e; rw [dct (Nat.lt_succ_self k), hf]; rfl
     · rename_i e; show (decide (k < i) && fxB c R k) = (decide (k < i + 1) && fxB c R k)
       congr 1
       by_cases h : k < i
       · rw [dct h, dct (by omega)]
       · rw [dcf h, dcf (by omega)]
   · rcases List.mem_append.1 hz with hz | hz
     · exact h1 z hz
     · obtain rfl : z = (i : Int) := by simpa using hz
       exact ⟨i, rfl, hi, hf⟩
   · by_cases e : k = i
     · subst e; simp
     · exact List.mem_append.2 (.inl (h2 k (by omega) hfk))
  | false =>
   refine ⟨_, rfl, o, ?_, h1, fun k hk hfk => ?_, by omega⟩
   · congr 4
     apply zn1; intro k _
     by_cases e : k = i
     · subst e; rw [hf]; simp
     · congr 1
       by_cases h : k < i
       · rw [dct h, dct (by omega)]
       · rw [dcf h, dcf (by omega)]
   · by_cases e : k = i
     · subst e; rw [hf] at hfk; cases hfk
     · exact h2 k (by omega) hfk)
  (by
   rintro s ⟨o, rfl, h1, h2, h3⟩
   refine ⟨_, ?_, o, rfl, h1, h2, h3⟩; simp only [zh.r0, zh.b0]; rw [dcf (Int.lt_irrefl _)]; rfl) (N := N) (by omega) (s := (zbx c, (List.range c.zA.length).map R, (List.range c.zA.length).map (fun _ => ([] : List zB)), (List.range c.zA.length).map (fun _ => false), [], (c.zA.length : Int), 0, c)) ⟨[], by
    have e : (fun k => decide (k < 0) && fxB c R k) = fun _ => false := by funext k; simp
    rw [e]; rfl, fun z hz => by simp at hz, fun k hk => by omega, Nat.le_refl _⟩
 refine ⟨o, ?_, h1, h2, h3⟩
 rw [hs]
 congr 5
 apply zn1
 intro k hk
 rw [dct hk]
 rfl
theorem z4g (N : Nat) (hN : 1048600 < N) (hc : CdV m c) (hR : ∀ k, k < c.zA.length → R k = true → Rch c k) (he : zad N c (zbx c) = some ((List.range c.zA.length).map R)) :
 ∃ D G, zh N c = some ((List.range c.zA.length).map G) ∧ Inv m c R D G ∧ Cl c R D G := by
 have hl := hc.len
 unfold zh
 rw [z0v N hN hc, obs, he, obs, ifp, ifp, itn, z54 (by omega), ctr, ifp, ifp, zzd (by omega), ctr, lnr, zse, zoe]
 obtain ⟨o, e0, o1, o2, o3⟩ := z2d (R := R) N hN hc
 rw [e0]
 simp only [obs]
 have hm0 := zyi (D := fxB c R) (G := fun _ => []) (fun k => by simp) c.zA.length
 obtain ⟨s, hs, D, G, rfl, h1, h2⟩ := zrf (f := zh.r2 N) (fun n s => ∃ D G o, s = (zbx c, (List.range c.zA.length).map R, (List.range c.zA.length).map G, (List.range c.zA.length).map D, o, c) ∧ Inv m c R D G ∧ (∀ z ∈ o, ∃ k : Nat, z = (k : Int) ∧ k < c.zA.length ∧ D k = true) ∧
  (∀ i, i < c.zA.length → D i = true → (i : Int) ∈ o ∨ Nok c R D G i) ∧ n = o.length + mea D G c.zA.length ∧ n ≤ 1000000)
  (fun s => ∃ D G, s = (zbx c, (List.range c.zA.length).map R, (List.range c.zA.length).map G, (List.range c.zA.length).map D, [], c) ∧ Inv m c R D G ∧ ∀ i, i < c.zA.length → D i = true → Nok c R D G i) (by
  rintro n s ⟨D, G, o, rfl, h1, h2, h3, hn, hn2⟩
  cases o with
  | nil => exact .inr ⟨_, by simp [zh.r2, zh.b2], D, G, rfl, h1, fun i hi hd => (h3 i hi hd).resolve_left (by simp)⟩
  | cons z o =>
   left; obtain ⟨i, rfl, hi, hd⟩ := h2 z (by simp); have hx := lge hi; have hG : ((List.range c.zA.length).map G)[i]? = some (G i) := zd1 _ hi; have hgl := zqa hc h1 i; have hb := z2g N (by omega) hc.m2 hc.sz (hc.ins _ (List.getElem_mem hi)) (h1.ok i) (show (G i).length < N by omega) (by omega); have g : Giv m c R i c.zA[i] (G i) (zhe c.zA[i] (G i)) := z3i hc h1 hi hd (fun f => ztd) (z11 (h1.so i)); simp only [lnc] at hn; obtain ⟨D', G', o', e1, q⟩ := z2c N hN hc hi g (M0 := o.length + mea D G c.zA.length) (by omega) (D := D) (G := G) (o := o) ⟨h1, fun z hz => h2 z (by simp [hz]), hd, .inr rfl, fun i' hi' hne hd' => by
    rcases h3 i' hi' hd' with h | h
    · rcases List.mem_cons.1 h with h | h
      · omega
      · exact .inl h
    · exact .inr h, fun t ht => by omega, Nat.le_refl _⟩
   refine ⟨_, o'.length + mea D' G' c.zA.length, ?_, ⟨D', G', o', rfl, q.inv, q.mem, fun i' hi' hd' => ?_, rfl, ?_⟩, ?_⟩
   · simp only [zh.r2, zh.b2, lnc]; rw [dct (by omega), ctr, ifp, ifp]; simp only [Int.toNat_zero, List.getElem?_cons_zero, obs, zac, hx, itn, hG, lnm, List.length_range]; rw [ifp, ifp, ifp]; simp only [hb, obs, zz0 (show c.zA.length ≤ 1000000 by omega) hi, show (1 : Int).toNat = 1 from rfl, List.drop_succ_cons, dr0, e1]
   · by_cases e : i' = i
     · subst e; rcases q.gi with hg | hg
       · exact .inl hg
       · right; intro x hx' k hk hf; rw [hx] at hx'; cases hx'; obtain ⟨t, ht⟩ := List.getElem?_of_mem hk; obtain ⟨b1, b2⟩ := q.b t (gei ht).1 k ht hf; exact ⟨b1, fun f hf' => by rw [hg]; exact (g.mem f).1 (b2 f hf')⟩
     · exact q.a i' hi' e hd'
   · have := q.le; omega
   · have := q.le; omega) N (o.length + mea (fxB c R) (fun _ => []) c.zA.length) (zbx c, (List.range c.zA.length).map R, (List.range c.zA.length).map (fun _ => ([] : List zB)), (List.range c.zA.length).map (fxB c R), o, c)
   ⟨fxB c R, fun _ => [], o, rfl, zwx, o1, fun i hi hd => .inl (o2 i hi hd), rfl, by omega⟩ (by omega)
 rw [hs]
 exact ⟨D, G, rfl, h1, ⟨h1.fx, h2⟩⟩
variable {m : zI} {c : zF} {R : Nat → Bool}
theorem z6x (N : Nat) (l t : List zB) (h : l.length < N) (hl : l.length ≤ 100000) (h' : t.length < N) (hl' : t.length < 1000000000) : zdt N l t = some (l.filter fun f => zea t f) := by
 unfold zdt
 have := zsr (f := zdt.r0 N) l (fun f => if zea t f = true then some f else none) (fun i acc => (l, t, acc, (i : Int))) (fun i x acc hx hacc => by
  have hi := (gei hx).1; simp only [zdt.r0, zdt.b0, zac, hx, obs, dct (show (i : Int) < (l.length : Int) by omega), ctr, zp4 N t x h' hl', lnc, ln0, zji (show acc.length + (0 + 1) ≤ 1000000000 by omega)]; rw [w6e]; cases zea t x <;> simp)
  (fun acc => by simp only [zdt.r0, zdt.b0, dcf (show ¬ (l.length : Int) < (l.length : Int) by omega), cfa]) h
 simp only [nc0] at this
 rw [this]
 simp only [obs]
 congr 1
 rw [← List.filterMap_eq_filter]
 congr 1
structure RS (m : zI) (c : zF) (R : Nat → Bool) (D0 : Nat → Bool) (G0 : Nat → List zB) (i : Nat) (r : List zB) (j : Nat) (D : Nat → Bool) (G : Nat → List zB) (b : Bool) : Prop where
 inv : Inv m c R D G
 sa : b = false → ∀ k, k < c.zA.length → D k = D0 k ∧ G k = G0 k
 me : b = true → mea D G c.zA.length < mea D0 G0 c.zA.length
 b : ∀ t, t < j → ∀ k : Nat, (zay c i)[t]? = some (k : Int) → fxB c R k = false → D k = true ∧ ∀ f ∈ G k, f ∈ r
theorem z6m (hc : CdV m c) {D0 : Nat → Bool} {G0 : Nat → List zB} {i : Nat} (hi : i < c.zA.length) {x : zC} {gi r : List zB} (g : Giv m c R i x gi r) {j : Nat} {D : Nat → Bool} {G : Nat → List zB} {b : Bool} (h : RS m c R D0 G0 i r j D G b) {k : Nat} (hj : (zay c i)[j]? = some (k : Int)) (hkl : k < c.zA.length) :
 (zjy c R D G r k = true → RS m c R D0 G0 i r (j + 1) (upd D k) (zfw G k (nxt D G r k)) true) ∧ (zjy c R D G r k = false → RS m c R D0 G0 i r (j + 1) D G b) := by
 constructor
 · intro he; refine ⟨z0a hc h.inv hi g hkl (lmg hj) he, (fun hb => by cases hb), fun _ => ?_, fun t ht q hq hf => ?_⟩
   · have h1 := z0g hc (zta hc g) hkl he; cases b with
     | true => have := h.me rfl; omega
     | false => rw [zww _ (h.sa rfl)] at h1; exact h1
   · by_cases e : t = j
     · subst e; rw [hj] at hq; obtain rfl : k = q := by have := Option.some.inj hq; omega
       exact zya
     · obtain ⟨h1, h2⟩ := h.b t (by omega) q hq hf; obtain ⟨h3, h4⟩ := zra (G := G) (r := r) (k := k) h1; exact ⟨h3, fun f hf' => h2 f (h4 f hf')⟩
 · intro he; refine ⟨h.inv, h.sa, h.me, fun t ht q hq hf => ?_⟩
   by_cases e : t = j
   · subst e; rw [hj] at hq; obtain rfl : k = q := by have := Option.some.inj hq; omega
     exact z3s he hf
   · exact h.b t (by omega) q hq hf
theorem z2z (N : Nat) (hN : 1048600 < N) (hc : CdV m c) {D0 : Nat → Bool} {G0 : Nat → List zB} {i : Nat} (hi : i < c.zA.length) {x : zC} {gi r : List zB} (g : Giv m c R i x gi r) {D : Nat → Bool} {G : Nat → List zB} {b : Bool} (h : RS m c R D0 G0 i r 0 D G b) :
 ∃ D' G' b', zf (zg.r6 N) N ((c.zA.length : Int), zbx c, (List.range c.zA.length).map R, (List.range c.zA.length).map D, (List.range c.zA.length).map G, b, (i : Int), r, zay c i, 0, c) =
  some ((c.zA.length : Int), zbx c, (List.range c.zA.length).map R, (List.range c.zA.length).map D', (List.range c.zA.length).map G', b', (i : Int), r, zay c i, ((zay c i).length : Int), c) ∧ RS m c R D0 G0 i r (zay c i).length D' G' b' ∧ (b' = false → b = false) := by
 have hl := hc.len
 have hsl := zmj (c := c) (i := i)
 have hrl := zta hc g
 obtain ⟨s, hs, D', G', b', rfl, hq⟩ := zfy (f := zg.r6 N) (fun j s => ∃ D G b', s = ((c.zA.length : Int), zbx c, (List.range c.zA.length).map R, (List.range c.zA.length).map D, (List.range c.zA.length).map G, b', (i : Int), r, zay c i, (j : Int), c) ∧ RS m c R D0 G0 i r j D G b' ∧ (b' = false → b = false)) (zay c i).length (by
  rintro j s hj ⟨D, G, b', rfl, h, hbb⟩
  have hx := lge hj; obtain ⟨k, hk0, hkl⟩ := zi0 hc (List.getElem_mem hj); rw [hk0] at hx; obtain ⟨q1, q2⟩ := z6m hc hi g h hx hkl; have hent : (zbx c)[k]? = some (zgt c k) := zcp _ hkl; have hel : (zbx c).length = c.zA.length := by simp [zbx]
  have hR : ((List.range c.zA.length).map R)[k]? = some (R k) := zcp _ hkl; have hD : ((List.range c.zA.length).map D)[k]? = some (D k) := zcp _ hkl; have hG : ((List.range c.zA.length).map G)[k]? = some (G k) := zd1 _ hkl; have hgl := zqa hc h.inv k; have hstep : zg.r6 N ((c.zA.length : Int), zbx c, (List.range c.zA.length).map R, (List.range c.zA.length).map D, (List.range c.zA.length).map G, b', (i : Int), r, zay c i, (j : Int), c) =
   some (.again (if zjy c R D G r k = true then ((c.zA.length : Int), zbx c, (List.range c.zA.length).map R, (List.range c.zA.length).map (upd D k), (List.range c.zA.length).map (zfw G k (nxt D G r k)), true, (i : Int), r, zay c i, ((j + 1 : Nat) : Int), c)
    else ((c.zA.length : Int), zbx c, (List.range c.zA.length).map R, (List.range c.zA.length).map D, (List.range c.zA.length).map G, b', (i : Int), r, zay c i, ((j + 1 : Nat) : Int), c))) := by
   simp only [zg.r6, zg.b6, zac, hx, hent, hel, hR, hD, hG, obs, dct (show (j : Int) < ((zay c i).length : Int) by omega), ctr, itn, lnm, List.length_range, ifp (show 0 ≤ (k : Int) by omega), ifp (show 0 ≤ (j : Int) by omega), ifp (show (j : Int) < ((zay c i).length : Int) by omega), ifp (show (k : Int) < (c.zA.length : Int) by omega), orB]; rw [w6e, zp1, zok G]; have hj1 : (j : Int) + 1 = ((j + 1 : Nat) : Int) := by omega
   rw [hj1]; have hfx : (zgt c k || !R k) = fxB c R k := rfl; rw [hfx]; unfold zjy; cases hf : fxB c R k with
   | true => simp
   | false =>
    cases hd : D k with
    | true =>
     have hn : nxt D G r k = (G k).filter fun f => zea r f := by unfold nxt; rw [hd]; rfl
     have hle := z8l D G r k hd; simp only [cfa, ctr, Bool.not_false, bnt, Bool.true_and, Bool.false_or]; rw [z6x N (G k) r (by omega) (by omega) (by omega) (by omega), obs, ← hn, zok G, zdz]
     by_cases hlt : (nxt D G r k).length < (G k).length
     · rw [dct (show ((nxt D G r k).length : Int) ≠ ((G k).length : Int) by omega), dct hlt]; simp
     · rw [dcf (show ¬ ((nxt D G r k).length : Int) ≠ ((G k).length : Int) by omega), dcf hlt]; simp
    | false =>
     have hn : nxt D G r k = r := by unfold nxt; rw [hd]; rfl
     rw [hn]; simp
  cases he : zjy c R D G r k with
  | true => rw [he, ifp rfl] at hstep; exact ⟨_, hstep, _, _, _, rfl, q1 he, fun h => by cases h⟩
  | false => rw [he, ifn (by decide)] at hstep; exact ⟨_, hstep, _, _, _, rfl, q2 he, hbb⟩)
  (by
   rintro s ⟨D, G, b', rfl, h, hbb⟩
   refine ⟨_, ?_, D, G, b', rfl, h, hbb⟩; simp only [zg.r6, zg.b6]; rw [dcf (Int.lt_irrefl _)]; rfl) (N := N) (by omega) (s := ((c.zA.length : Int), zbx c, (List.range c.zA.length).map R, (List.range c.zA.length).map D, (List.range c.zA.length).map G, b, (i : Int), r, zay c i, 0, c)) ⟨D, G, b, rfl, h, id⟩
 exact ⟨D', G', b', hs, hq⟩
theorem z20 (N : Nat) (hN : 1048600 < N) (hc : CdV m c) {D0 : Nat → Bool} {G0 : Nat → List zB} (h : Inv m c R D0 G0) :
 ∃ D G b, zf (zg.r4 N) N ((c.zA.length : Int), zbx c, (List.range c.zA.length).map R, (List.range c.zA.length).map D0, (List.range c.zA.length).map G0, false, 0, c) =
  some ((c.zA.length : Int), zbx c, (List.range c.zA.length).map R, (List.range c.zA.length).map D, (List.range c.zA.length).map G, b, (c.zA.length : Int), c) ∧ Inv m c R D G ∧
  (b = false → (∀ k, k < c.zA.length → D k = D0 k ∧ G k = G0 k) ∧ ∀ i, i < c.zA.length → D0 i = true → Nok c R D0 G0 i) ∧ (b = true → mea D G c.zA.length < mea D0 G0 c.zA.length) := by
 have hl := hc.len
 obtain ⟨s, hs, D, G, b, rfl, h1, h2, h3⟩ := zfy (f := zg.r4 N) (fun i s => ∃ D G b, s = ((c.zA.length : Int), zbx c, (List.range c.zA.length).map R, (List.range c.zA.length).map D, (List.range c.zA.length).map G, b, (i : Int), c) ∧ Inv m c R D G ∧
  (b = false → (∀ k, k < c.zA.length → D k = D0 k ∧ G k = G0 k) ∧ ∀ i', i' < i → D0 i' = true → Nok c R D0 G0 i') ∧ (b = true → mea D G c.zA.length < mea D0 G0 c.zA.length)) c.zA.length (by
  rintro i s hi ⟨D, G, b, rfl, h1, h2, h3⟩
  have hx := lge hi; have hD : ((List.range c.zA.length).map D)[i]? = some (D i) := zcp _ hi; have hG : ((List.range c.zA.length).map G)[i]? = some (G i) := zd1 _ hi; have hj1 : (i : Int) + 1 = ((i + 1 : Nat) : Int) := by omega
  cases hd : D i with
  | false =>
   refine ⟨_, ?_, D, G, b, rfl, h1, fun hb => ?_, h3⟩
   · simp only [zg.r4, zg.b4, itn, hD, hd, lnm, List.length_range]; rw [dct (by omega), ctr, ifp, ifp, w6e, hj1]; rfl
   · obtain ⟨q1, q2⟩ := h2 hb; refine ⟨q1, fun i' hi' hd' => ?_⟩
     by_cases e : i' = i
     · subst e; rw [← (q1 i' hi).1, hd] at hd'; cases hd'
     · exact q2 i' (by omega) hd'
  | true =>
   have hgl := zqa hc h1 i; obtain ⟨r, hr1, hr2, hr3, hr4⟩ := zwr N (by omega) (hc.ins _ (List.getElem_mem hi)) (h1.ok i) (by omega); have g : Giv m c R i c.zA[i] (G i) r := z3i hc h1 hi hd hr2 (hr3 (h1.so i)); obtain ⟨D', G', b', e1, q, qb⟩ := z2z N hN hc (D0 := D0) (G0 := G0) hi g (D := D) (G := G) (b := b) ⟨h1, fun hb => (h2 hb).1, h3, fun t ht => by omega⟩; refine ⟨_, ?_, D', G', b', rfl, q.inv, fun hb => ?_, q.me⟩
   · simp only [zg.r4, zg.b4, itn, hD, hd, hG, zac, hx, lnm, List.length_range]; rw [dct (by omega), ctr, ifp, ifp]; simp only [obs, bnt, cfa]; rw [ifp, ifp]; simp only [hr1, obs, zv4 (show c.zA.length ≤ 1000000 by omega) hi, e1]; rw [w6e, hj1]
   · obtain ⟨q1, q2⟩ := h2 (qb hb); refine ⟨q.sa hb, fun i' hi' hd' => ?_⟩
     by_cases e : i' = i
     · subst e; intro x hx' k hk hf; rw [hx] at hx'; cases hx'; obtain ⟨t, ht⟩ := List.getElem?_of_mem hk; obtain ⟨b1, b2⟩ := q.b t (gei ht).1 k ht hf; obtain ⟨k', hk', hkl⟩ := zi0 hc hk; obtain rfl : k = k' := by omega
       obtain ⟨s1, s2⟩ := q.sa hb k hkl; rw [← s1, ← s2, ← (q1 i' hi).2]; exact ⟨b1, fun f hf' => (g.mem f).1 (b2 f hf')⟩
     · exact q2 i' (by omega) hd')
  (by
   rintro s ⟨D, G, b, rfl, h1, h2, h3⟩
   refine ⟨_, ?_, D, G, b, rfl, h1, h2, h3⟩; simp only [zg.r4, zg.b4]; rw [dcf (Int.lt_irrefl _)]; rfl) (N := N) (by omega) (s := ((c.zA.length : Int), zbx c, (List.range c.zA.length).map R, (List.range c.zA.length).map D0, (List.range c.zA.length).map G0, false, 0, c)) ⟨D0, G0, false, rfl, h, fun _ => ⟨fun k _ => ⟨rfl, rfl⟩, fun i' hi' => by omega⟩, fun h => by cases h⟩
 exact ⟨D, G, b, hs, h1, h2, h3⟩
theorem z21 (N : Nat) (hN : 1048600 < N) (hc : CdV m c) (G : List (List zB)) : zf (zg.r0 N) N ((c.zA.length : Int), zbx c, (List.range c.zA.length).map R, (List.range c.zA.length).map (fun _ => false), G, 0, c) =
 some ((c.zA.length : Int), zbx c, (List.range c.zA.length).map R, (List.range c.zA.length).map (fxB c R), G, (c.zA.length : Int), c) := by
 have hl := hc.len
 have hel : (zbx c).length = c.zA.length := by simp [zbx]
 have := zdj (f := zg.r0 N) (fun i => ((c.zA.length : Int), zbx c, (List.range c.zA.length).map R, (List.range c.zA.length).map (fun k => decide (k < i) && fxB c R k), G, (i : Int), c)) c.zA.length (fun i hi => by
  have hent : (zbx c)[i]? = some (zgt c i) := zcp _ hi; have hR : ((List.range c.zA.length).map R)[i]? = some (R i) := zcp _ hi; have hD : ((List.range c.zA.length).map (fun k => decide (k < i) && fxB c R k))[i]? = some (decide (i < i) && fxB c R i) := zcp _ hi; simp only [zg.r0, zg.b0, zac, hent, hel, hR, hD, obs, dct (show (i : Int) < (c.zA.length : Int) by omega), ctr, orB, itn, lnm, List.length_range, ifp (show 0 ≤ (i : Int) by omega), ifp (show (i : Int) < (c.zA.length : Int) by omega)]; rw [w6e, show (zgt c i || !R i) = fxB c R i from rfl, zke]; have hj1 : (i : Int) + 1 = ((i + 1 : Nat) : Int) := by omega
  rw [hj1]
  congr 6
  apply zn1; intro k _
  by_cases e : k = i
  · subst e; rw [ifp rfl, dct (Nat.lt_succ_self k), Bool.true_and]
  · rw [ifn e]
    congr 1
    by_cases h : k < i
    · rw [dct h, dct (by omega)]
    · rw [dcf h, dcf (by omega)])
  (by simp only [zg.r0, zg.b0]; rw [dcf (Int.lt_irrefl _)]; rfl) (N := N) (by omega)
 have e0 : (fun k => decide (k < 0) && fxB c R k) = fun _ => false := by funext k; simp
 rw [e0] at this
 simp only [nc0] at this
 rw [this]
 congr 5
 apply zn1
 intro k hk
 rw [dct hk]
 rfl
theorem z2y (N : Nat) (hN : 1048600 < N) (hc : CdV m c) (G : Nat → List zB) : ∃ z, zf (zg.r8 N) N ((c.zA.length : Int), (List.range c.zA.length).map G, true, 0) = some ((c.zA.length : Int), (List.range c.zA.length).map G, ((List.range c.zA.length).map G).all (fun l => decide (l.length ≤ 60)), z) := by
 have hl := hc.len
 have := zdj (f := zg.r8 N) (fun i => ((c.zA.length : Int), (List.range c.zA.length).map G, (((List.range c.zA.length).map G).take i).all (fun l => decide (l.length ≤ 60)), (i : Int))) c.zA.length (fun i hi => by
  have hG : ((List.range c.zA.length).map G)[i]? = some (G i) := zd1 _ hi; simp only [zg.r8, zg.b8, itn, hG, lnm, List.length_range, obs]; rw [dct (show (i : Int) < (c.zA.length : Int) by omega), ctr, ifp (show 0 ≤ (i : Int) by omega), ifp (show (i : Int) < (c.zA.length : Int) by omega), zgu, obs, w6e, List.take_add_one, hG, List.all_append]; have e : decide (((G i).length : Int) ≤ 60) = decide ((G i).length ≤ 60) := by
   by_cases h : (G i).length ≤ 60
   · rw [dct h, dct (by omega)]
   · rw [dcf h, dcf (by omega)]
  rw [e]; simp)
  (by simp only [zg.r8, zg.b8]; rw [dcf (Int.lt_irrefl _)]; rfl) (N := N) (by omega)
 simp only [nc0, List.take_zero, List.all_nil] at this
 rw [this, List.take_of_length_le (by simp)]
 exact ⟨_, rfl⟩
theorem z4t (N : Nat) (hN : 1048600 < N) (hc : CdV m c) (he : zr N c = some ((List.range c.zA.length).map R)) :
 ∃ D G, zg N c = some ((List.range c.zA.length).map G, ((List.range c.zA.length).map G).all fun l => decide (l.length ≤ 60)) ∧ Inv m c R D G ∧ Cl c R D G := by
 have hl := hc.len
 unfold zg
 rw [zqz N hN hc, obs, he, obs, ifp, ifp, itn, zzd (by omega), ctr, ifp, ifp, z54 (by omega), ctr, zoe, zse _ ([] : List zB), z21 N hN hc]
 simp only [obs]
 have hm0 := zyi (D := fxB c R) (G := fun _ => []) (fun k => by simp) c.zA.length
 obtain ⟨s, hs, D, G, rfl, h1, h2⟩ := zrf (f := zg.r2 N) (fun n s => ∃ D G b, s = ((c.zA.length : Int), zbx c, (List.range c.zA.length).map R, (List.range c.zA.length).map D, (List.range c.zA.length).map G, b, c) ∧ Inv m c R D G ∧ (b = false → ∀ i, i < c.zA.length → D i = true → Nok c R D G i) ∧ n = cond b (mea D G c.zA.length + 1) 0)
  (fun s => ∃ D G, s = ((c.zA.length : Int), zbx c, (List.range c.zA.length).map R, (List.range c.zA.length).map D, (List.range c.zA.length).map G, false, c) ∧ Inv m c R D G ∧ ∀ i, i < c.zA.length → D i = true → Nok c R D G i) (by
  rintro n s ⟨D, G, b, rfl, h1, h2, hn⟩
  cases b with
  | false => exact .inr ⟨_, rfl, D, G, rfl, h1, h2 rfl⟩
  | true =>
   obtain ⟨D', G', b', e1, q1, q2, q3⟩ := z20 N hN hc h1; refine .inl ⟨_, cond b' (mea D' G' c.zA.length + 1) 0, by simp only [zg.r2, zg.b2, ctr, e1, obs], ⟨D', G', b', rfl, q1, fun hb i hi hd => ?_, rfl⟩, ?_⟩
   · obtain ⟨s1, s2⟩ := q2 hb; intro x hx k hk hf; obtain ⟨k', hk', hkl⟩ := zi0 hc hk; obtain rfl : k = k' := by omega
     rw [(s1 k hkl).1, (s1 k hkl).2, (s1 i hi).2]; exact s2 i hi (by rw [← (s1 i hi).1]; exact hd) x hx k hk hf
   · simp only [ctr] at hn; cases b' with
     | true => have := q3 rfl; simp only [ctr]; omega
     | false => simp only [cfa]; omega) N (mea (fxB c R) (fun _ => []) c.zA.length + 1) ((c.zA.length : Int), zbx c, (List.range c.zA.length).map R, (List.range c.zA.length).map (fxB c R), (List.range c.zA.length).map (fun _ => ([] : List zB)), true, c)
   ⟨fxB c R, fun _ => [], true, rfl, zwx, (fun h => by cases h), rfl⟩ (by omega)
 rw [hs]
 simp only [obs]
 obtain ⟨z, hz⟩ := z2y N hN hc G
 rw [hz]
 exact ⟨D, G, rfl, h1, ⟨h1.fx, h2⟩⟩
variable {m : zI} {c : zF}
theorem z1t (N : Nat) (hN : 1048600 < N) (hc : CdV m c) : ∃ G : Nat → List zB, zh N c = some ((List.range c.zA.length).map G) ∧
 zg N c = some ((List.range c.zA.length).map G, ((List.range c.zA.length).map G).all fun l => decide (l.length ≤ 60)) ∧ (∀ k, zfk (G k) ∧ (G k).length ≤ 3840 ∧ ∀ f ∈ G k, FctV m c f) ∧
 ∃ R D, (∀ k, k < c.zA.length → (R k = true ↔ Rch c k)) ∧ Inv m c R D G ∧ Cl c R D G := by
 obtain ⟨p, p1, p2, p3⟩ := z4e N hN hc
 obtain ⟨q, q1, q2, q3⟩ := z4q N hN hc
 have e : (List.range c.zA.length).map q = (List.range c.zA.length).map p := zn1 fun k hk => (z1e hc p2 p3 q2 q3 k hk).symm
 rw [e] at q1
 obtain ⟨D, G, h1, h2, h3⟩ := z4g N hN hc p2 p1
 obtain ⟨D', G', g1, g2, g3⟩ := z4t N hN hc q1
 have eg : (List.range c.zA.length).map G' = (List.range c.zA.length).map G := List.map_congr_left fun k hk => ((z1l hc h2 h3 g2 g3 k (by simpa using hk)).2).symm
 rw [eg] at g1
 exact ⟨G, h1, g1, fun k => ⟨h2.so k, zqa hc h2 k, h2.ok k⟩, p, D, fun k hk => ⟨p2 k hk, p3 k⟩, h2, h3⟩
theorem z6d (N : Nat) (F : List (List zB)) (h : F.length < N) (hl : F.length < 1000000000) : zbv N F = some (F.any fun l => decide (60 < l.length)) := by
 unfold zbv zab
 have := zt2 (f := zab.r0 N) F (fun l => decide (60 < l.length)) (fun i => (F, (F.length : Int), (i : Int))) (fun i y hy => by
  have hi := (gei hy).1; simp only [zab.r0, zab.b0, zfz, zac, hy, obs, dct (show (i : Int) < (F.length : Int) by omega), ctr]; rw [w6e]
  by_cases h : 60 < y.length
  · rw [dct (show (y.length : Int) > 60 by omega), dct h]; rfl
  · rw [dcf (show ¬ (y.length : Int) > 60 by omega), dcf h]; rfl)
  (by simp only [zab.r0, zab.b0, dcf (show ¬ (F.length : Int) < (F.length : Int) by omega), cfa]) h
 simp only [nc0] at this
 rw [this]
 have e := zpv F (fun l => decide (60 < l.length))
 cases hf : F.findIdx? (fun l => decide (60 < l.length)) with
 | none => rw [hf] at e; rw [← e]; simp [zax]
 | some k => rw [hf] at e; rw [← e]; simp [zax]
theorem z7w (F : List (List zB)) : (F.any fun l => decide (60 < l.length)) = !(F.all fun l => decide (l.length ≤ 60)) := by
 rw [List.not_all_eq_any_not]
 congr 1
 funext l
 by_cases h : 60 < l.length
 · rw [dct h, dcf (by omega)]; rfl
 · rw [dcf h, dct (by omega)]; rfl
theorem z0w (N : Nat) (hN : 1048600 < N) (m : zI) {c : zF} (hc : Wft En 1048576 Ty.zF c) : ∃ n e, zq N m c = some (n, e) ∧ zk N m c = some (n, e) ∧
 (e ≠ 0 → zdr N m c = some ([], e)) ∧ (e = 0 → CdV m c ∧ ∃ G : Nat → List zB, zdr N m c = some (if ((List.range c.zA.length).map G).all (fun l => decide (l.length ≤ 60)) = true then ((List.range c.zA.length).map G, 0) else ([], 2)) ∧
  zg N c = some ((List.range c.zA.length).map G, ((List.range c.zA.length).map G).all fun l => decide (l.length ≤ 60)) ∧ (∀ k, zfk (G k) ∧ (G k).length ≤ 3840 ∧ ∀ f ∈ G k, FctV m c f) ∧ zh N c = some ((List.range c.zA.length).map G) ∧
  ∃ R D, (∀ k, k < c.zA.length → (R k = true ↔ Rch c k)) ∧ Inv m c R D G ∧ Cl c R D G) := by
 obtain ⟨⟨n, e⟩, h1, h2⟩ := z3w N hN m hc
 refine ⟨n, e, h1, h2, fun he => ?_, fun he => ?_⟩
 · unfold zdr zf4; rw [h1, obs, obs, show (e != 0) = true by simpa using he]; rfl
 · subst he; obtain ⟨hcv, _⟩ := z80 N hN hc h2; have hil := hcv.len; obtain ⟨G, g1, g2, g3, g4⟩ := z1t N hN hcv; refine ⟨hcv, G, ?_, g2, g3, g1, g4⟩; unfold zdr zf4; rw [h1, obs, obs, bsf, cfa, g1, obs, z6d N _ (by simp; omega) (by simp; omega), obs, z7w]; cases ((List.range c.zA.length).map G).all fun l => decide (l.length ≤ 60) <;> rfl
variable {m : zI} {c : zF}
def knl (x : zC) : Bool := decide (x.Op = 0) && !x.Place.Based
def zhc (l : List zB) (x : zC) (r : Int) : Bool := zea l ⟨r, x.zD, x.Place.Offset⟩
def drp (c : zF) (G : Nat → List zB) (i : Nat) : Bool := match c.zA[i]? with | some x => decide (i + 1 < c.zA.length) && (knl x && zhc (G i) x x.R) | none => false
def kc (c : zF) (G : Nat → List zB) : Nat → Nat
 | 0 => 0
 | k + 1 => kc c G k + cond (drp c G k) 0 1
def ixA (c : zF) (G : Nat → List zB) (i : Nat) : Int := cond (drp c G i) (-1) (kc c G i : Int)
def cpy (l : List zB) (x : zC) : zC := if knl x = true then (match l.findSome? (fun g => if (g.Register != x.R && zhc l x g.Register) = true then some g.Register else none) with
 | some r => ⟨3, x.R, r, 0, 0, ⟨false, 0, 0⟩, ⟨false, 0, 0⟩, ⟨0, 0, 0⟩, ⟨0, 0, 0⟩, false, false, ⟨0, 0⟩, ⟨#[]⟩, ⟨#[]⟩, 0, 0, 0, 0⟩
 | none => x) else x
def trn (c : zF) (G : Nat → List zB) (x : zC) : zC := if zes x.Op = true then ⟨x.Op, x.R, x.A, x.B, x.zO, x.Place, x.From, x.zD, x.Second, x.Half, x.zJ, x.Number, x.Text, x.Other, x.Mask, (kc c G x.Target.toNat : Int), x.Pointer, x.Source⟩ else x
def zoi (c : zF) (G : Nat → List zB) (i : Nat) : Option zC := (c.zA[i]?).bind fun x => cond (drp c G i) none (some (trn c G (cpy (G i) x)))
def zmf (c : zF) (G : Nat → List zB) : List zC := (List.range c.zA.length).filterMap (zoi c G)
def zkh (c : zF) (G : Nat → List zB) : List zQ := c.zP.map fun t => ⟨(kc c G t.From.toNat : Int), (kc c G t.To.toNat : Int), t.Exception, (kc c G t.Handler.toNat : Int)⟩
def zky (c : zF) (G : Nat → List zB) : zF := ⟨c.Storage, zmf c G, zkh c G⟩
theorem zl9 (c : zF) (G : Nat → List zB) : ∀ k, kc c G k ≤ k
 | 0 => Nat.le_refl _
 | k + 1 => by have := zl9 c G k; simp only [kc]; cases drp c G k <;> simp <;> omega
theorem zs9 (c : zF) (G : Nat → List zB) {a b : Nat} (h : a ≤ b) : kc c G a ≤ kc c G b := by
 induction b with
 | zero =>
  have : a = 0 := by omega
  subst this; exact Nat.le_refl _
 | succ b ih =>
  by_cases e : a = b + 1
  · subst e; exact Nat.le_refl _
  · have := ih (by omega); simp only [kc]; omega
theorem zs7 (c : zF) (G : Nat → List zB) : ∀ k, k ≤ c.zA.length → ((List.range k).filterMap (zoi c G)).length = kc c G k
 | 0, _ => rfl
 | k + 1, h => by
  have hx := lge (show k < c.zA.length by omega); rw [List.range_succ, List.filterMap_append, lna, zs7 c G k (by omega), kc]
  congr 1
  unfold zoi; simp only [List.filterMap_cons, List.filterMap_nil, hx, obs]; cases drp c G k <;> rfl
theorem zqn (c : zF) (G : Nat → List zB) : (zmf c G).length = kc c G c.zA.length := zs7 c G _ (Nat.le_refl _)
theorem z36 {G : Nat → List zB} {i : Nat} (hi : i < c.zA.length) (hd : drp c G i = false) : (zmf c G)[kc c G i]? = some (trn c G (cpy (G i) c.zA[i])) := by
 have e : List.range c.zA.length = List.range i ++ (i :: List.range' (i + 1) (c.zA.length - (i + 1))) := by
  apply List.ext_getElem
  · simp; omega
  · intro t h3 h4; rw [List.getElem_append]; split
    · simp
    · rename_i h5; have h5' : i ≤ t := by simpa using h5
      by_cases e : t = i
      · subst e; simp
      · have : t - i ≠ 0 := by omega
        rw [List.getElem_cons]; simp [this]; omega
 unfold zmf
 rw [e, List.filterMap_append, List.getElem?_append_right (by rw [zs7 c G i (by omega)]; exact Nat.le_refl _), zs7 c G i (by omega), Nat.sub_self, List.filterMap_cons]
 have hn : zoi c G i = some (trn c G (cpy (G i) c.zA[i])) := by
  unfold zoi; rw [lge hi, obs, hd]; rfl
 rw [hn]
 rfl
theorem z0o {G : Nat → List zB} {y : zC} (h : y ∈ zmf c G) : ∃ (i : Nat) (hi : i < c.zA.length), drp c G i = false ∧ y = trn c G (cpy (G i) c.zA[i]) := by
 unfold zmf at h
 rw [List.mem_filterMap] at h
 obtain ⟨i, hi, h⟩ := h
 have hi : i < c.zA.length := by simpa using hi
 unfold zoi at h
 rw [lge hi, obs] at h
 cases hd : drp c G i with
 | true => rw [hd] at h; cases h
 | false => rw [hd] at h; cases h; exact ⟨i, hi, hd, rfl⟩
theorem zxk (x : zC) : zc5 x = some (knl x) := by
 unfold zc5 knl
 rw [zci, zgu, obs]
theorem zua (x : zC) : zfx x = some (knl x) := by
 unfold zfx knl
 rw [zci, zgu, obs]
theorem zxm (N : Nat) (l : List zB) (x : zC) (r : Int) (h : l.length < N) (hl : l.length < 1000000000) : ze9 N l x r = some (zhc l x r) := by
 unfold ze9 zhc
 rw [zph N l _ h hl]
 rfl
theorem zob (N : Nat) (l : List zB) (x : zC) (r : Int) (h : l.length < N) (hl : l.length < 1000000000) : zfh N l x r = some (zhc l x r) := by
 unfold zfh zhc
 rw [zp4 N l _ h hl]
 rfl
theorem z2e (N : Nat) (l : List zB) (x : zC) (h : l.length < N) (hl : l.length < 1000000000) : zbf N l x = some (cpy l x) := by
 unfold zbf cpy
 rw [zxk, obs]
 cases knl x with
 | false => rfl
 | true =>
  simp only [bnt, cfa, if_true]; generalize (⟨0, 0, 0, 0, 0, (⟨false, 0, 0⟩ : zL), (⟨false, 0, 0⟩ : zL), (⟨0, 0, 0⟩ : DataType), (⟨0, 0, 0⟩ : DataType), false, false, (⟨0, 0⟩ : Number), (⟨#[]⟩ : ByteArray), (⟨#[]⟩ : ByteArray), 0, 0, 0, 0⟩ : zC) = z; have := zbm (f := zbf.r0 N) (fun i => (l, l, (l.length : Int), (i : Int), x, z)) (fun i => (l[i]?).bind fun g => if (g.Register != x.R && zhc l x g.Register) = true then some (⟨3, x.R, g.Register, 0, 0, ⟨false, 0, 0⟩, ⟨false, 0, 0⟩, ⟨0, 0, 0⟩, ⟨0, 0, 0⟩, false, false, ⟨0, 0⟩, ⟨#[]⟩, ⟨#[]⟩, 0, 0, 0, 0⟩ : zC) else none) l.length (fun i hi => by
   have hx := lge hi; simp only [zbf.r0, zbf.b0, zac, hx, obs, dct (show (i : Int) < (l.length : Int) by omega), ctr, zxm N l x _ h hl, zgu]; rw [w6e]; cases (l[i].Register != x.R && zhc l x l[i].Register) <;> rfl)
   (by simp only [zbf.r0, zbf.b0, dcf (Int.lt_irrefl _), cfa]) h
  simp only [nc0] at this; rw [this, zi3]; have e : l.findSome? (fun g => if (g.Register != x.R && zhc l x g.Register) = true then some (⟨3, x.R, g.Register, 0, 0, ⟨false, 0, 0⟩, ⟨false, 0, 0⟩, ⟨0, 0, 0⟩, ⟨0, 0, 0⟩, false, false, ⟨0, 0⟩, ⟨#[]⟩, ⟨#[]⟩, 0, 0, 0, 0⟩ : zC) else none) =
   (l.findSome? (fun g => if (g.Register != x.R && zhc l x g.Register) = true then some g.Register else none)).map fun r => ⟨3, x.R, r, 0, 0, ⟨false, 0, 0⟩, ⟨false, 0, 0⟩, ⟨0, 0, 0⟩, ⟨0, 0, 0⟩, false, false, ⟨0, 0⟩, ⟨#[]⟩, ⟨#[]⟩, 0, 0, 0, 0⟩ := by
   have gen : ∀ (p : zB → Bool) (k : List zB), k.findSome? (fun g => if p g = true then some (⟨3, x.R, g.Register, 0, 0, ⟨false, 0, 0⟩, ⟨false, 0, 0⟩, ⟨0, 0, 0⟩, ⟨0, 0, 0⟩, false, false, ⟨0, 0⟩, ⟨#[]⟩, ⟨#[]⟩, 0, 0, 0, 0⟩ : zC) else none) =
    (k.findSome? (fun g => if p g = true then some g.Register else none)).map fun r => ⟨3, x.R, r, 0, 0, ⟨false, 0, 0⟩, ⟨false, 0, 0⟩, ⟨0, 0, 0⟩, ⟨0, 0, 0⟩, false, false, ⟨0, 0⟩, ⟨#[]⟩, ⟨#[]⟩, 0, 0, 0, 0⟩ := by
    intro p k
    induction k with
    | nil => rfl
    | cons g k ih =>
     rw [List.findSome?_cons, List.findSome?_cons]; cases p g with
     | true => rfl
     | false => simpa using ih
   exact gen (fun g => g.Register != x.R && zhc l x g.Register) l
  rw [e]; cases l.findSome? (fun g => if (g.Register != x.R && zhc l x g.Register) = true then some g.Register else none) <;> rfl
theorem z6c (N : Nat) (hN : 1000 < N) (hc : CdV m c) {G : Nat → List zB} (hG : ∀ k, (G k).length ≤ 100) (z : zF) (w : zV) :
 zf (zi.r0 N) N ((List.range c.zA.length).map G, [], 0, c.zA, (c.zA.length : Int), 0, c, z, w) =
  some ((List.range c.zA.length).map G, (List.range c.zA.length).map (ixA c G), (kc c G c.zA.length : Int), c.zA, (c.zA.length : Int), (c.zA.length : Int), c, z, w) := by
 have hl := hc.len
 have := zdj (f := zi.r0 N) (fun i => ((List.range c.zA.length).map G, (List.range i).map (ixA c G), (kc c G i : Int), c.zA, (c.zA.length : Int), (i : Int), c, z, w)) c.zA.length (fun i hi => by
  have hx := lge hi; have hF : ((List.range c.zA.length).map G)[i]? = some (G i) := zd1 _ hi; have hgl := hG i; have hk := zl9 c G i; have hkc : kc c G (i + 1) = kc c G i + cond (drp c G i) 0 1 := rfl; have hdr : drp c G i = (decide (i + 1 < c.zA.length) && (knl c.zA[i] && zhc (G i) c.zA[i] c.zA[i].R)) := by unfold drp; rw [hx]
  simp only [zi.r0, zi.b0, zac, hx, hF, obs, dct (show (i : Int) < (c.zA.length : Int) by omega), ctr, zxk, zxm N (G i) _ _ (show (G i).length < N by omega) (by omega), lnm, List.length_range, lnc, ln0, zmw (show i + (0 + 1) ≤ 1000000 by omega), zgu]; rw [w6e (n := (c.zA.length : Int) - 1), w6e (n := (i : Int) + 1), w6e (n := (kc c G i : Int) + 1), List.range_succ, List.map_append, hkc, hdr]; have e1 : decide ((i : Int) < (c.zA.length : Int) - 1) = decide (i + 1 < c.zA.length) := by
   by_cases h : i + 1 < c.zA.length
   · rw [dct h, dct (by omega)]
   · rw [dcf h, dcf (by omega)]
  rw [e1, Bool.and_assoc]; have hix : ixA c G i = cond (decide (i + 1 < c.zA.length) && (knl c.zA[i] && zhc (G i) c.zA[i] c.zA[i].R)) (-1) (kc c G i : Int) := by unfold ixA; rw [hdr]
  simp only [List.map_cons, List.map_nil, hix]; cases (decide (i + 1 < c.zA.length) && (knl c.zA[i] && zhc (G i) c.zA[i] c.zA[i].R)) <;> simp)
  (by simp only [zi.r0, zi.b0, dcf (Int.lt_irrefl _), cfa]) (show c.zA.length < N by omega)
 simpa [kc] using this
def zhb (c : zF) (G : Nat → List zB) : List Int := (List.range (c.zA.length + 1)).map fun k => (kc c G k : Int)
theorem z4f (N : Nat) (hN : 1000 < N) (hc : CdV m c) (G : Nat → List zB) : zbj N ((List.range c.zA.length).map (ixA c G)) = some (zhb c G) := by
 have hl := hc.len
 unfold zbj
 have := zdj (f := zbj.r0 N) (fun i => ((List.range (i + 1)).map (fun k => (kc c G k : Int)), (kc c G i : Int), (List.range c.zA.length).map (ixA c G), (c.zA.length : Int), (i : Int))) c.zA.length (fun i hi => by
  have hx : ((List.range c.zA.length).map (ixA c G))[i]? = some (ixA c G i) := zd1 _ hi; have hk := zl9 c G i; have hkc : kc c G (i + 1) = kc c G i + cond (drp c G i) 0 1 := rfl; simp only [zbj.r0, zbj.b0, zac, hx, obs, dct (show (i : Int) < (c.zA.length : Int) by omega), ctr, lnm, List.length_range, lnc, ln0, zmw (show i + 1 + (0 + 1) ≤ 1000000 by omega)]; rw [w6e (n := (i : Int) + 1), w6e (n := (kc c G i : Int) + 1), List.range_succ (n := i + 1), List.map_append, List.map_cons, List.map_nil, hkc]; unfold ixA; cases drp c G i with
  | true => rfl
  | false =>
   simp only [cfa]; rw [show ((kc c G i : Int) != -1) = true by rw [zdz]; simp]; rfl)
  (by simp only [zbj.r0, zbj.b0, dcf (Int.lt_irrefl _), cfa]) (show c.zA.length < N by omega)
 have e : ((List.range (0 + 1)).map (fun k => (kc c G k : Int))) = [0] := rfl
 simp only [nc0, e, show (kc c G 0 : Int) = 0 from rfl] at this
 rw [lnm, List.length_range, this]
 rfl
theorem zvh {G : Nat → List zB} {z : Int} (h0 : 0 ≤ z) (h1 : z ≤ (c.zA.length : Int)) : idx (zhb c G) z = some (kc c G z.toNat : Int) := by
 have : z = ((z.toNat : Nat) : Int) := by omega
 rw [this, zac, itn]
 exact zd1 _ (by omega)
theorem z19 (hc : CdV m c) (G : Nat → List zB) {x : zC} (hx : zes x.Op = true → 0 ≤ x.Target ∧ x.Target < (c.zA.length : Int)) : zgh x (zhb c G) = some (trn c G x) := by
 unfold zgh trn
 rw [zxl, obs]
 cases hj : zes x.Op with
 | false => rfl
 | true =>
  have := hx hj; rw [ctr, zvh (by omega) (by omega), obs, ifp rfl]
def TrV (c : zF) : Prop := ∀ t ∈ c.zP, 0 ≤ t.From ∧ t.From ≤ t.To ∧ t.To ≤ (c.zA.length : Int) ∧ 0 ≤ t.Handler ∧ t.Handler < (c.zA.length : Int)
theorem z9z {n : Nat} (h : n ≤ 1000000000) : Nat.ble (n * 32) zar = true := Nat.ble_eq_true_of_le (by show n * 32 ≤ 2 ^ 46; omega)
theorem z82 {n : Nat} (h : n ≤ 1000000000) : Nat.ble (n * 224) zar = true := Nat.ble_eq_true_of_le (by show n * 224 ≤ 2 ^ 46; omega)
theorem z4d (N : Nat) (hN : 1048600 < N) (hc : CdV m c) (ht : TrV c) (G : Nat → List zB) : zbi N c.zP (zhb c G) = some (zkh c G) := by
 have hl := hc.traps
 unfold zbi
 have := zsr (f := zbi.r0 N) c.zP (fun t => some (⟨(kc c G t.From.toNat : Int), (kc c G t.To.toNat : Int), t.Exception, (kc c G t.Handler.toNat : Int)⟩ : zQ)) (fun i acc => (zhb c G, acc, c.zP, (c.zP.length : Int), (i : Int))) (fun i t acc hx hacc => by
  have hi := (gei hx).1; obtain ⟨h1, h2, h3, h4, h5⟩ := ht t (lmg hx); simp only [zbi.r0, zbi.b0, zac, hx, obs, dct (show (i : Int) < (c.zP.length : Int) by omega), ctr, zvh (c := c) (G := G) h1 (show t.From ≤ _ by omega), zvh (c := c) (G := G) (show 0 ≤ t.To by omega) h3, zvh (c := c) (G := G) h4 (show t.Handler ≤ _ by omega), lnc, ln0, z9z (show acc.length + (0 + 1) ≤ 1000000000 by omega)]; rw [w6e]; rfl)
  (fun acc => by simp only [zbi.r0, zbi.b0, dcf (Int.lt_irrefl _), cfa]) (show c.zP.length < N by omega)
 simp only [nc0] at this
 rw [this]
 simp only [obs, zkh]
 congr 1
 rw [← List.filterMap_eq_map]
 rfl
variable {m : zI} {c : zF}
theorem zqg (l : List zB) (x : zC) : cpy l x = x ∨ ∃ g ∈ l, knl x = true ∧ g.Register ≠ x.R ∧ zhc l x g.Register = true ∧ cpy l x = ⟨3, x.R, g.Register, 0, 0, ⟨false, 0, 0⟩, ⟨false, 0, 0⟩, ⟨0, 0, 0⟩, ⟨0, 0, 0⟩, false, false, ⟨0, 0⟩, ⟨#[]⟩, ⟨#[]⟩, 0, 0, 0, 0⟩ := by
 unfold cpy
 split
 · rename_i hk; cases hf : l.findSome? (fun g => if (g.Register != x.R && zhc l x g.Register) = true then some g.Register else none) with
   | none => exact .inl rfl
   | some r =>
    right; obtain ⟨g, hg, h⟩ := eof hf; split at h
    · rename_i e; rw [Bool.and_eq_true, bne_iff_ne] at e; cases h; exact ⟨g, hg, hk, e.1, e.2, rfl⟩
    · cases h
 · exact .inl rfl
theorem zrp (hc : CdV m c) (l : List zB) {x : zC} (hx : x ∈ c.zA) (hj : zes (cpy l x).Op = true) : 0 ≤ (cpy l x).Target ∧ (cpy l x).Target < (c.zA.length : Int) := by
 rcases zqg l x with e | ⟨g, _, _, _, _, e⟩
 · rw [e] at hj ⊢; unfold zes at hj; simp only [Bool.or_eq_true, decide_eq_true_eq] at hj; exact (hc.ins x hx).tg (by omega)
 · rw [e] at hj; have hj : zes 3 = true := hj; exact absurd hj (by decide)
theorem z6b (N : Nat) (hN : 1000 < N) (hc : CdV m c) {G : Nat → List zB} (hG : ∀ k, (G k).length ≤ 100) (z : zF) (w : zV) :
 zf (zi.r2 N) N ((List.range c.zA.length).map G, (List.range c.zA.length).map (ixA c G), zhb c G, c.zA, (c.zA.length : Int), 0, z, w, ⟨c.Storage, [], zkh c G⟩) =
  some ((List.range c.zA.length).map G, (List.range c.zA.length).map (ixA c G), zhb c G, c.zA, (c.zA.length : Int), (c.zA.length : Int), z, w, zky c G) := by
 have hl := hc.len
 have := zdj (f := zi.r2 N) (fun i => ((List.range c.zA.length).map G, (List.range c.zA.length).map (ixA c G), zhb c G, c.zA, (c.zA.length : Int), (i : Int), z, w, (⟨c.Storage, (List.range i).filterMap (zoi c G), zkh c G⟩ : zF))) c.zA.length (fun i hi => by
  have hx := lge hi; have hF : ((List.range c.zA.length).map G)[i]? = some (G i) := zd1 _ hi; have hI : ((List.range c.zA.length).map (ixA c G))[i]? = some (ixA c G i) := zd1 _ hi; have hgl := hG i; have hnl : ((List.range i).filterMap (zoi c G)).length ≤ i := Nat.le_trans (List.length_filterMap_le _ _) (by simp); have hn : zoi c G i = cond (drp c G i) none (some (trn c G (cpy (G i) c.zA[i]))) := by unfold zoi; rw [hx]; rfl
  simp only [zi.r2, zi.b2, zac, hx, hF, hI, obs, dct (show (i : Int) < (c.zA.length : Int) by omega), ctr, z2e N (G i) c.zA[i] (show (G i).length < N by omega) (by omega), z19 hc G (zrp hc (G i) (List.getElem_mem hi)), lnc, ln0, z82 (show ((List.range i).filterMap (zoi c G)).length + (0 + 1) ≤ 1000000000 by omega)]; rw [w6e, List.range_succ, List.filterMap_append, List.filterMap_cons, List.filterMap_nil, hn]; unfold ixA; cases drp c G i with
  | true => simp
  | false =>
   simp only [cfa]; rw [show ((kc c G i : Int) != -1) = true by rw [zdz]; simp]; rfl)
  (by simp only [zi.r2, zi.b2, dcf (Int.lt_irrefl _), cfa]) (show c.zA.length < N by omega)
 simp only [nc0, List.range_zero, List.filterMap_nil] at this
 exact this
theorem z81 {l : List Bool} (h : l.length ≤ 1048576) : zjk 1 l = some l := by
 unfold zjk
 rw [show Nat.ble (l.length * 1) zar = true from Nat.ble_eq_true_of_le (by show l.length * 1 ≤ 2 ^ 46; omega)]
 rfl
theorem z73 (N : Nat) (hN : 1048600 < N) (hc : CdV m c) (ht : TrV c) (hst : c.Storage.Tags.length ≤ 1048576) {G : Nat → List zB} (hG : ∀ k, (G k).length ≤ 100) (hf : zdr N m c = some ((List.range c.zA.length).map G, 0)) :
 zi N m c = some (zky c G, ⟨(List.range c.zA.length).map G, (List.range c.zA.length).map (ixA c G)⟩, 0) := by
 unfold zi
 rw [hf]
 simp only [obs, bsf, cfa]
 rw [z6c N (by omega) hc hG]
 simp only [obs]
 rw [z4f N (by omega) hc G]
 simp only [obs]
 rw [z81 hst]
 simp only [obs]
 rw [z4d N hN hc ht G]
 simp only [obs]
 rw [show (⟨⟨c.Storage.Bytes, c.Storage.Tags⟩, [], zkh c G⟩ : zF) = ⟨c.Storage, [], zkh c G⟩ from rfl, z6b N (by omega) hc hG]
 rfl
variable {m : zI} {c : zF}
def zxa (k : Nat) (s : Bool) : Bool := match z0s (k : Int) s with | some u => u.Target == zes (k : Int) | none => false
theorem z74 : ((List.range 27).all fun k => zxa k true && zxa k false) = true := by kernel_rfl
theorem zth {x : zC} (h : inB x.Op 0 26 = true) {u : zM} (hu : zc3 x = some u) : u.Target = zes x.Op := by
 obtain ⟨h1, h2⟩ := zbr.1 h
 obtain ⟨k, hk⟩ : ∃ k : Nat, x.Op = (k : Int) := ⟨x.Op.toNat, by omega⟩
 have h3 := List.all_eq_true.1 z74 k (by simp; omega)
 rw [Bool.and_eq_true] at h3
 have h4 : zxa k x.zJ = true := by
  cases x.zJ with
  | true => exact h3.1
  | false => exact h3.2
 unfold zxa at h4
 rw [zuv, hk] at hu
 rw [hu] at h4
 rw [hk]
 exact beq_iff_eq.1 h4
theorem z3o {c c' : zF} (hs : c'.Storage = c.Storage) {x : zC} (h : zg8 m c x = 0) (hj : zes x.Op = false) : zg8 m c' x = 0 := by
 unfold zg8 at h ⊢
 by_cases hop : inB x.Op 0 26 = true
 · obtain ⟨f, u, hf, hu, ag, _⟩ := zng x hop; rw [ifp hop, hu] at h ⊢; have ht : u.Target = false := by rw [zth hop hu, hj]
   have h' : zkw m c x u = 0 := h; show zkw m c' x u = 0; have e : ze6 m c' x u = ze6 m c x u := by unfold ze6; rw [hs, ht]; simp
   unfold zkw at h' ⊢; rw [e]; exact h'
 · rw [ifn hop] at h; cases h
theorem z3n {c c' : zF} (hs : c'.Storage = c.Storage) {x : zC} (h : zg8 m c x = 0) {z : Int} (hz : 0 ≤ z ∧ z < (c'.zA.length : Int)) (hj : zes x.Op = true) :
 zg8 m c' ⟨x.Op, x.R, x.A, x.B, x.zO, x.Place, x.From, x.zD, x.Second, x.Half, x.zJ, x.Number, x.Text, x.Other, x.Mask, z, x.Pointer, x.Source⟩ = 0 := by
 generalize hy : (⟨x.Op, x.R, x.A, x.B, x.zO, x.Place, x.From, x.zD, x.Second, x.Half, x.zJ, x.Number, x.Text, x.Other, x.Mask, z, x.Pointer, x.Source⟩ : zC) = y
 have hop' : y.Op = x.Op := by rw [← hy]
 have huy : zc3 y = zc3 x := by rw [zuv, zuv, ← hy]
 unfold zg8 at h ⊢
 rw [hop', huy]
 by_cases hop : inB x.Op 0 26 = true
 · obtain ⟨f, u, hf, hu, ag, _⟩ := zng x hop; rw [ifp hop, hu] at h ⊢; have ht : u.Target = true := by rw [zth hop hu, hj]
   have h' : zkw m c x u = 0 := h; show zkw m c' y u = 0; have e1 : zg4 y u = zg4 x u := by unfold zg4; rw [← hy, ht]; simp
   have e2 : zjm m y = zjm m x := by rw [← hy]; rfl
   have e3 : y.zD = x.zD := by rw [← hy]
   have e4 : y.Second = x.Second := by rw [← hy]
   have e5 : y.Number = x.Number := by rw [← hy]
   have e6 : zk8 y = zk8 x := by rw [← hy]; rfl
   unfold zkw at h' ⊢; rw [e1, e2, e3, e4, e5, e6]; cases hr : ze6 m c x u with
   | true =>
    exfalso
    rw [hr] at h'; cases hx1 : zg4 x u with
    | true => rw [hx1] at h'; cases h'
    | false =>
     rw [hx1] at h'; cases hx2 : zjm m x with
     | true => rw [hx2] at h'; cases h'
     | false =>
      rw [hx2] at h'; simp only [cfa, ctr] at h'; split at h'
      · contradiction
      · split at h'
        · contradiction
        · cases h'
   | false =>
    have e7 : ze6 m c' y u = false := by
     have hr2 := hr; unfold ze6 at hr2 ⊢; simp only [Bool.or_eq_false_iff] at hr2 ⊢; obtain ⟨r1, r2, r3, r4, r5, r6, r7, r8⟩ := hr2; refine ⟨?_, ?_, ?_, ?_, ?_, ?_, ?_, ?_⟩
     · rw [← r1, ← hy]; rfl
     · rw [ht, Bool.true_and, Bool.not_eq_false', ← hy]; exact zbr.2 (by show 0 ≤ z ∧ z ≤ _; omega)
     · rw [← r3, ← hy]
     · rw [hs, ← r4, ← hy]
     · rw [hs, ← r5, ← hy]
     · rw [hs, ← r6, ← hy]; rfl
     · rw [hs, ← r7, ← hy]
     · rw [← r8, ← hy]
    rw [e7]; rw [hr] at h'; exact h'
 · rw [ifn hop] at h; cases h
theorem z3q (c : zF) {a r : Int} (ha : 0 ≤ a ∧ a < m.Registers) (hr : 0 ≤ r ∧ r < m.Registers) : zg8 m c ⟨3, r, a, 0, 0, ⟨false, 0, 0⟩, ⟨false, 0, 0⟩, ⟨0, 0, 0⟩, ⟨0, 0, 0⟩, false, false, ⟨0, 0⟩, ⟨#[]⟩, ⟨#[]⟩, 0, 0, 0, 0⟩ = 0 := by
 unfold zg8
 rw [ifp (show inB 3 0 26 = true by decide)]
 have hu : zc3 (⟨3, r, a, 0, 0, ⟨false, 0, 0⟩, ⟨false, 0, 0⟩, ⟨0, 0, 0⟩, ⟨0, 0, 0⟩, false, false, ⟨0, 0⟩, ⟨#[]⟩, ⟨#[]⟩, 0, 0, 0, 0⟩ : zC) = some ⟨true, true, false, false, false, false, false, false, false, false, false, false, false, false, 0, 0⟩ := rfl
 rw [hu, Option.getD_some]
 unfold zkw
 have h1 : zd7 m r = false := by unfold zd7; rw [Bool.not_eq_false']; exact zbr.2 (by omega)
 have h2 : zd7 m a = false := by unfold zd7; rw [Bool.not_eq_false']; exact zbr.2 (by omega)
 have e1 : zg4 (⟨3, r, a, 0, 0, ⟨false, 0, 0⟩, ⟨false, 0, 0⟩, ⟨0, 0, 0⟩, ⟨0, 0, 0⟩, false, false, ⟨0, 0⟩, ⟨#[]⟩, ⟨#[]⟩, 0, 0, 0, 0⟩ : zC) ⟨true, true, false, false, false, false, false, false, false, false, false, false, false, false, 0, 0⟩ = false := by
  unfold zg4; simp
 have e2 : ze6 m c (⟨3, r, a, 0, 0, ⟨false, 0, 0⟩, ⟨false, 0, 0⟩, ⟨0, 0, 0⟩, ⟨0, 0, 0⟩, false, false, ⟨0, 0⟩, ⟨#[]⟩, ⟨#[]⟩, 0, 0, 0, 0⟩ : zC) ⟨true, true, false, false, false, false, false, false, false, false, false, false, false, false, 0, 0⟩ = false := by
  unfold ze6 zl0; simp [h1, h2]
 rw [e1, e2]
 rfl
theorem z7b (hc : CdV m c) (he : ∀ x ∈ c.zA, zg8 m c x = 0) {G : Nat → List zB} (hG : ∀ k, ∀ f ∈ G k, FctV m c f) {y : zC} (hy : y ∈ zmf c G) : zg8 m (zky c G) y = 0 := by
 obtain ⟨i, hi, hd, rfl⟩ := z0o hy
 have hx := List.getElem_mem hi
 have h0 := he _ hx
 have hlast : kc c G c.zA.length = kc c G (c.zA.length - 1) + 1 := by
  have hp := hc.pos; obtain ⟨n, hn⟩ : ∃ n, c.zA.length = n + 1 := ⟨c.zA.length - 1, by omega⟩; have hdn : drp c G n = false := by
   unfold drp; rw [lge (show n < c.zA.length by omega), dcf (by omega)]; rfl
  rw [hn]; show kc c G n + cond (drp c G n) 0 1 = _; rw [hdn]; rfl
 unfold trn
 split
 · rename_i hj; obtain ⟨t0, t1⟩ := zrp hc (G i) hx hj; rcases zqg (G i) c.zA[i] with e | ⟨g, _, _, _, _, e⟩
   · rw [e] at hj t0 t1 ⊢; refine z3n (c := c) (c' := zky c G) rfl h0 ⟨by omega, ?_⟩ hj; show _ < ((zmf c G).length : Int); rw [zqn, hlast]; have := zs9 c G (show (c.zA[i]).Target.toNat ≤ c.zA.length - 1 by omega); omega
   · rw [e] at hj; have hj : zes 3 = true := hj; exact absurd hj (by decide)
 · rename_i hj; rcases zqg (G i) c.zA[i] with e | ⟨g, hg, hk, _, _, e⟩
   · rw [e] at hj ⊢; exact z3o (c := c) (c' := zky c G) rfl h0 (by simpa using hj)
   · rw [e]; have hr : 0 ≤ (c.zA[i]).R ∧ (c.zA[i]).R < m.Registers := by
      unfold knl at hk; rw [Bool.and_eq_true, decide_eq_true_eq] at hk; exact (hc.ins _ hx).r (.inl hk.1)
     exact z3q _ (hG i g hg).r hr
theorem z43 (hc : CdV m c) (ht : ∀ t ∈ c.zP, zj0 c t = true) {G : Nat → List zB} {t : zQ} (h : t ∈ zkh c G) : zj0 (zky c G) t = true := by
 unfold zkh at h
 obtain ⟨s, hs, rfl⟩ := List.mem_map.1 h
 have h0 := ht s hs
 unfold zj0 at h0 ⊢
 simp only [Bool.and_eq_true, decide_eq_true_eq] at h0 ⊢
 obtain ⟨h1, h2, h3, h4⟩ := h0
 have h1 := zbr.1 h1
 have h4 := zbr.1 h4
 have hp := hc.pos
 have hlen : ((zky c G).zA.length : Int) = (kc c G c.zA.length : Int) := by show ((zmf c G).length : Int) = _; rw [zqn]
 have hlast : kc c G c.zA.length = kc c G (c.zA.length - 1) + 1 := by
  obtain ⟨n, hn⟩ : ∃ n, c.zA.length = n + 1 := ⟨c.zA.length - 1, by omega⟩; have hdn : drp c G n = false := by
   unfold drp; rw [lge (show n < c.zA.length by omega), dcf (by omega)]; rfl
  rw [hn]; show kc c G n + cond (drp c G n) 0 1 = _; rw [hdn]; rfl
 have m1 := zs9 c G (show s.From.toNat ≤ s.To.toNat by omega)
 have m2 := zs9 c G (show s.To.toNat ≤ c.zA.length by omega)
 have m3 := zs9 c G (show s.Handler.toNat ≤ c.zA.length - 1 by omega)
 refine ⟨zbr.2 ⟨by omega, by omega⟩, by rw [hlen]; omega, h3, zbr.2 ⟨by omega, by rw [hlen]; omega⟩⟩
variable {m : zI} {c : zF}
theorem zm8 {n : Nat} {z : Int} (h0 : -1000000 ≤ z) (h1 : z ≤ 1000000) : Wfc En n (.sc (.int .i64 z)) := by
 have e1 : IntKind.i64.min = -9223372036854775808 := by decide
 have e2 : IntKind.i64.max = 9223372036854775807 := by decide
 exact .int (by rw [e1]; omega) (by rw [e2]; omega)
theorem z58 {n : Nat} {x : zC} (h : Wft En n Ty.zC x) {z : Int} (h0 : -1000000 ≤ z) (h1 : z ≤ 1000000) :
 Wft En n Ty.zC (⟨x.Op, x.R, x.A, x.B, x.zO, x.Place, x.From, x.zD, x.Second, x.Half, x.zJ, x.Number, x.Text, x.Other, x.Mask, z, x.Pointer, x.Source⟩ : zC) := by
 intro a ha
 have ha : a ∈ zdx ⟨x.Op, x.R, x.A, x.B, x.zO, x.Place, x.From, x.zD, x.Second, x.Half, x.zJ, x.Number, x.Text, x.Other, x.Mask, z, x.Pointer, x.Source⟩ := ha
 have key : a ∈ zdx x ∨ a = .sc (.int .i64 z) := by
  simp only [zdx, List.mem_cons, List.not_mem_nil, or_false] at ha ⊢; rcases ha with rfl | rfl | rfl | rfl | rfl | rfl | rfl | rfl | rfl | rfl | rfl | rfl | rfl | rfl | rfl | rfl | rfl | rfl | rfl | rfl | rfl | rfl | rfl | rfl | rfl | rfl | rfl <;> simp
 rcases key with h2 | rfl
 · exact h a h2
 · exact zm8 h0 h1
theorem z59 {n : Nat} {a r : Int} (ha : 0 ≤ a ∧ a ≤ 8) (hr : 0 ≤ r ∧ r ≤ 8) : Wft En n Ty.zC (⟨3, r, a, 0, 0, ⟨false, 0, 0⟩, ⟨false, 0, 0⟩, ⟨0, 0, 0⟩, ⟨0, 0, 0⟩, false, false, ⟨0, 0⟩, ⟨#[]⟩, ⟨#[]⟩, 0, 0, 0, 0⟩ : zC) := by
 intro b hb
 have hb : b ∈ zdx ⟨3, r, a, 0, 0, ⟨false, 0, 0⟩, ⟨false, 0, 0⟩, ⟨0, 0, 0⟩, ⟨0, 0, 0⟩, false, false, ⟨0, 0⟩, ⟨#[]⟩, ⟨#[]⟩, 0, 0, 0, 0⟩ := hb
 simp only [zdx, List.mem_cons, List.not_mem_nil, or_false] at hb
 rcases hb with rfl | rfl | rfl | rfl | rfl | rfl | rfl | rfl | rfl | rfl | rfl | rfl | rfl | rfl | rfl | rfl | rfl | rfl | rfl | rfl | rfl | rfl | rfl | rfl | rfl | rfl | rfl <;> first | exact zm8 (by omega) (by omega) | exact .bool | exact .str (Nat.zero_le _)
theorem z7z (hc : CdV m c) (hw : Wft En 1048576 Ty.zF c) {G : Nat → List zB} (hG : ∀ k, ∀ f ∈ G k, FctV m c f) {y : zC} (hy : y ∈ zmf c G) : Wft En 1048576 Ty.zC y := by
 obtain ⟨i, hi, hd, rfl⟩ := z0o hy
 have hx := List.getElem_mem hi
 have h0 := (zls hw).2.2.2.2 _ hx
 have hl := hc.len
 have hm := hc.m2
 have h1 : Wft En 1048576 Ty.zC (cpy (G i) c.zA[i]) := by
  rcases zqg (G i) c.zA[i] with e | ⟨g, hg, hk, _, _, e⟩
  · rw [e]; exact h0
  · rw [e]; have hr : 0 ≤ (c.zA[i]).R ∧ (c.zA[i]).R < m.Registers := by
     unfold knl at hk; rw [Bool.and_eq_true, decide_eq_true_eq] at hk; exact (hc.ins _ hx).r (.inl hk.1)
    have hg := (hG i g hg).r; exact z59 (by omega) (by omega)
 unfold trn
 split
 · rename_i hj; obtain ⟨t0, t1⟩ := zrp hc (G i) hx hj; have := zl9 c G (cpy (G i) c.zA[i]).Target.toNat; exact z58 h1 (by omega) (by omega)
 · exact h1
theorem z6a {n : Nat} {c : zF} (h : Wft En n Ty.zF c) : ∀ t ∈ c.zP, Wft En n Ty.zQ t := by
 have h4 := h (.lst Ty.zQ c.zP) (by show _ ∈ zff c; simp [zff])
 cases h4 with
 | lst _ h4 => exact h4
theorem z4a (hc : CdV m c) (ht : TrV c) (hw : Wft En 1048576 Ty.zF c) {G : Nat → List zB} (hG : ∀ k, ∀ f ∈ G k, FctV m c f) : Wft En 1048576 Ty.zF (zky c G) := by
 intro b hb
 have hl := hc.len
 have hb : b ∈ zff (zky c G) := hb
 simp only [zff, List.mem_cons, List.not_mem_nil, or_false] at hb
 rcases hb with rfl | rfl | rfl | rfl
 · exact hw _ (by show _ ∈ zff c; simp [zff, zky])
 · exact hw _ (by show _ ∈ zff c; simp [zff, zky])
 · refine .lst ?_ fun y hy => z7z hc hw hG hy; show (zmf c G).length ≤ 1048576; rw [zqn]; have := zl9 c G c.zA.length; omega
 · refine .lst (by show (zkh c G).length ≤ 1048576; unfold zkh; rw [lnm]; exact hc.traps) fun t h => ?_; obtain ⟨s, hs, rfl⟩ := List.mem_map.1 (show t ∈ c.zP.map _ from h); obtain ⟨h1, h2, h3, h4, h5⟩ := ht s hs; have k1 := zl9 c G s.From.toNat; have k2 := zl9 c G s.To.toNat; have k3 := zl9 c G s.Handler.toNat; intro b hb; have hb : b ∈ zn6 ⟨(kc c G s.From.toNat : Int), (kc c G s.To.toNat : Int), s.Exception, (kc c G s.Handler.toNat : Int)⟩ := hb; simp only [zn6, List.mem_cons, List.not_mem_nil, or_false] at hb; rcases hb with rfl | rfl | rfl | rfl
   · exact zm8 (by omega) (by omega)
   · exact zm8 (by omega) (by omega)
   · exact z6a hw s hs _ (by show _ ∈ zn6 s; simp [zn6])
   · exact zm8 (by omega) (by omega)
structure CkV (N : Nat) (m : zI) (c : zF) : Prop where
 mo : zgl m = some 0
 st : zkb N c.Storage = some 0
 ok : StoOk c.Storage
 pt : ∃ l, zbo N c.Storage = some l ∧ decide ((l.length : Int) > 0) = false
 m1 : 2 ≤ m.Registers ∧ m.Registers ≤ 8
 pos : 0 < c.zA.length
 len : c.zA.length ≤ 240
 tr : c.zP.length ≤ 40
 tl : c.Storage.Tags.length ≤ 64
 ins : ∀ x ∈ c.zA, zg8 m c x = 0
 trap : ∀ t ∈ c.zP, zj0 c t = true
theorem z52 (N : Nat) (hN : 1048600 < N) {m : zI} {c : zF} (hc : Wft En 1048576 Ty.zF c) {n : Int} (h : zk N m c = some (n, 0)) : CkV N m c := by
 obtain ⟨e, _, he2, he3⟩ := zrb m
 obtain ⟨i1, e1, e2, _, hs2, hs⟩ := zt1 N (by omega) c.Storage
 obtain ⟨w1, w2, w3, w4, w5⟩ := zls hc
 unfold zk at h
 try simp only [eS, eM, eC] at h
 rw [he2, hs2] at h
 simp only [obs] at h
 by_cases h0 : e = 0
 · subst h0; have hm := he3 rfl; simp only [bsf, cfa] at h
   by_cases h2 : e2 = 0
   · rcases hs with ⟨rfl, hs⟩ | ⟨ok, htl, _, _⟩
     · exact absurd h2 hs
     · subst h2; obtain ⟨l, hl1, hl2⟩ := zv3 N c.Storage htl (by omega); rw [hl1] at h; simp only [bsf, cfa, obs, orB] at h; cases hd : decide ((l.length : Int) > 0) with
       | true => rw [hd] at h; cases h
       | false =>
        rw [hd] at h hl2; simp only [cfa] at h
        by_cases hz : (c.zA.length : Int) = 0
        · rw [hz] at h; cases h
        · rw [zci, dcf hz] at h; simp only [cfa] at h; cases hb : (decide ((c.zA.length : Int) > 240) || decide ((c.zP.length : Int) > 40)) with
          | true => rw [hb] at h; cases h
          | false =>
           rw [hb] at h; simp only [cfa] at h; have := zqy N hN hm ok hc; rw [this] at h; simp only [Bool.or_eq_false_iff, decide_eq_false_iff_not] at hb; obtain ⟨r1, r2, r3⟩ := z24 (Option.some.inj h); exact ⟨he2, hs2, ok, ⟨l, hl1, hd⟩, hm, by omega, by omega, by omega, htl, r1, r2⟩
   · rw [zdz, dct h2] at h; simp only [ctr, Option.some.injEq, Prod.mk.injEq] at h; exact absurd h.2 h2
 · rw [zdz, dct h0] at h; simp only [ctr, Option.some.injEq, Prod.mk.injEq] at h; exact absurd h.2 h0
theorem z9y (N : Nat) (hN : 1048600 < N) {m : zI} {c : zF} (hc : Wft En 1048576 Ty.zF c) (h : CkV N m c) : zk N m c = some ((c.zA.length : Int), 0) := by
 obtain ⟨l, hl1, hl2⟩ := h.pt
 have hp := h.pos
 have hl := h.len
 have ht := h.tr
 unfold zk
 try simp only [eS, eM, eC]
 rw [h.mo, h.st]
 simp only [obs, bsf, cfa]
 rw [hl1]
 simp only [obs, orB, hl2, cfa]
 rw [zci, dcf (show ¬ (c.zA.length : Int) = 0 by omega)]
 simp only [cfa]
 rw [dcf (show ¬ (c.zA.length : Int) > 240 by omega), dcf (show ¬ (c.zP.length : Int) > 40 by omega)]
 simp only [Bool.or_false, cfa]
 rw [zqy N hN h.m1 h.ok hc]
 congr 1
 unfold zm0
 have e1 : (List.range c.zA.length).findSome? (gI m c) = none := by
  rw [List.findSome?_eq_none_iff]; intro i hi; have hi : i < c.zA.length := by simpa using hi
  unfold gI; rw [lge hi, obs, ifp (h.ins _ (List.getElem_mem hi))]
 have e2 : (List.range c.zP.length).findSome? (gT c) = none := by
  rw [List.findSome?_eq_none_iff]; intro i hi; have hi : i < c.zP.length := by simpa using hi
  unfold gT; rw [lge hi, obs, ifp (h.trap _ (List.getElem_mem hi))]
 rw [e1]
 simp only
 rw [e2]
theorem z18 (h : ∀ t ∈ c.zP, zj0 c t = true) : TrV c := by
 intro t ht
 have h0 := h t ht
 unfold zj0 at h0
 simp only [Bool.and_eq_true, decide_eq_true_eq] at h0
 obtain ⟨h1, h2, h3, h4⟩ := h0
 have h1 := zbr.1 h1
 have h4 := zbr.1 h4
 omega
theorem zy7 {N : Nat} (hc : CdV m c) (h : CkV N m c) {G : Nat → List zB} (hG : ∀ k, ∀ f ∈ G k, FctV m c f) : CkV N m (zky c G) := by
 have hl := h.len
 have hp := h.pos
 have hk := zl9 c G c.zA.length
 have hlen : (zky c G).zA.length = kc c G c.zA.length := zqn c G
 have hpos : 0 < kc c G c.zA.length := by
  obtain ⟨n, hn⟩ : ∃ n, c.zA.length = n + 1 := ⟨c.zA.length - 1, by omega⟩; have hdn : drp c G n = false := by
   unfold drp; rw [lge (show n < c.zA.length by omega), dcf (by omega)]; rfl
  rw [hn]; show 0 < kc c G n + cond (drp c G n) 0 1; rw [hdn]; simp
 exact ⟨h.mo, h.st, h.ok, h.pt, h.m1, by rw [hlen]; exact hpos, by rw [hlen]; omega, by show (zkh c G).length ≤ 40; unfold zkh; rw [lnm]; exact h.tr, h.tl, fun y hy => z7b hc h.ins hG hy, fun t ht => z43 hc h.trap ht⟩
variable {m : zI} {c : zF}
theorem z3p {x : zC} (h : zg8 m c x = 0) : x.Text.size ≤ 256 ∧ x.Other.size ≤ 256 := by
 unfold zg8 at h
 by_cases hop : inB x.Op 0 26 = true
 · obtain ⟨f, u, hf, hu, ag, _⟩ := zng x hop; rw [ifp hop, hu] at h; have h' : zkw m c x u = 0 := h; unfold zkw at h'; cases he : zg4 x u with
   | true => rw [he] at h'; cases h'
   | false =>
    rw [he] at h'; simp only [cfa] at h'; cases hl : zjm m x with
    | true => rw [hl] at h'; cases h'
    | false =>
     rw [hl] at h'; simp only [cfa] at h'
     by_cases h1 : zdl x.zD u.zD = 0
     · by_cases h2 : zdl x.Second u.Second = 0
       · rw [ifn, ifn] at h'; cases hr : ze6 m c x u with
         | true => rw [hr] at h'; simp at h'
         | false =>
          rw [hr] at h'; simp only [cfa] at h'
          by_cases h3 : zpr x.Number = 0
          · rw [ifn] at h'; cases hlg : zk8 x with
            | true => rw [hlg] at h'; cases h'
            | false =>
             unfold zk8 at hlg; simp only [Bool.or_eq_false_iff, decide_eq_false_iff_not] at hlg; omega
          · rw [ifp h3] at h'; exact absurd h' h3
       · rw [ifn, ifp h2] at h'; exact absurd h' h2
     · rw [ifp h1] at h'; exact absurd h' h1
 · rw [ifn hop] at h; cases h
theorem z8x {N : Nat} (hN : 1048600 < N) (h : CkV N m c) : zb9 N c = some true := by
 have hl := h.len
 unfold zb9
 have := zbm (f := zb9.r0 N) (fun i => ((i : Int), c)) (fun _ => (none : Option Bool)) c.zA.length (fun i hi => by
  have hx := lge hi; obtain ⟨t1, t2⟩ := z3p (h.ins _ (List.getElem_mem hi)); simp only [zb9.r0, zb9.b0, zac, hx, obs, dct (show (i : Int) < (c.zA.length : Int) by omega), dct (show (i : Int) < 244 by omega), ctr, orB]; rw [w6e, dcf (show ¬ ((c.zA[i]).Text.size : Int) > 300 by omega), dcf (show ¬ ((c.zA[i]).Other.size : Int) > 300 by omega)]; rfl)
  (by simp only [zb9.r0, zb9.b0, dcf (Int.lt_irrefl _), cfa, obs]) (show c.zA.length < N by omega)
 simp only [nc0] at this
 rw [this]
 have e : (List.range c.zA.length).findSome? (fun _ => (none : Option Bool)) = none := by simp
 rw [e]
 have hb := h.ok.le
 have ht := h.tl
 have htr := h.tr
 have hs : zer c.Storage = some true := by
  unfold zer; rw [dct (show (c.Storage.Bytes.size : Int) ≤ 1072 by omega), dct (show (c.Storage.Tags.length : Int) ≤ 67 by omega)]; rfl
 simp only [obs, zax, hs, ctr]
 rw [dct (show (c.zA.length : Int) < 244 by omega), dct (show (c.zP.length : Int) < 44 by omega)]
 rfl
theorem z1r (N : Nat) (hN : 1048600 < N) {F : List (List zB)} (hF : F.length ≤ 250) (hl : ∀ l ∈ F, l.length ≤ 64) : zb2 N F = some true := by
 unfold zb2
 have := zbm (f := zb2.r0 N) (fun i => (F, (i : Int))) (fun _ => (none : Option Bool)) F.length
  (fun i hi => by
   have hx := lge hi; have hxl := hl _ (List.getElem_mem hi); simp only [zb2.r0, zb2.b0, zac, hx, obs, dct (show (i : Int) < (F.length : Int) by omega), ctr, dct (show (i : Int) ≤ 250 by omega)]; rw [w6e, dcf (show ¬ ((F[i]).length : Int) > 64 by omega)]; rfl)
  (by simp only [zb2.r0, zb2.b0, dcf (Int.lt_irrefl _), cfa, obs]) (show F.length < N by omega)
 simp only [nc0] at this
 rw [this]
 have e : (List.range F.length).findSome? (fun _ => (none : Option Bool)) = none := by simp
 rw [e]
 simp only [obs, zax]
 rw [dct (show (F.length : Int) ≤ 250 by omega)]
theorem z3x (hc : CdV m c) {R D : Nat → Bool} {G : Nat → List zB} (hR : ∀ k, k < c.zA.length → (R k = true ↔ Rch c k)) (hi : Inv m c R D G) (hcl : Cl c R D G) : ∀ k, k < c.zA.length → zuu c ((List.range c.zA.length).map G) k = false := by
 have hD : ∀ k, k < c.zA.length → D k = true := by
  have hr : ∀ k, Rch c k → D k = true := by
   intro k h
   induction h with
   | ent h he => exact (hcl.fx _ h (by unfold fxB; rw [he]; rfl)).1
   | step h hs ih =>
    rename_i i k; have hil := h.lt hc; obtain ⟨k', e, hk⟩ := zi0 hc hs; obtain rfl : k = k' := by omega
    cases hf : fxB c R k with
    | true => exact (hcl.fx k hk hf).1
    | false => exact (hcl.st i hil ih _ (lge hil) k hs hf).1
  intro k hk; cases hf : fxB c R k with
  | true => exact (hcl.fx k hk hf).1
  | false =>
   unfold fxB at hf; rw [Bool.or_eq_false_iff, Bool.not_eq_false'] at hf; exact hr k ((hR k hk).1 hf.2)
 intro k hk
 have hF : ((List.range c.zA.length).map G)[k]? = some (G k) := zd1 _ hk
 unfold zuu
 rw [Bool.or_eq_false_iff]
 constructor
 · unfold zye zn5; rw [hF]; cases he : zgt c k with
   | false => rfl
   | true =>
    have := (hcl.fx k hk (by unfold fxB; rw [he]; rfl)).2; simp [this]
 · rw [List.any_eq_false]; intro i hi'; have hi' : i < c.zA.length := by simpa using hi'
   have hFi : ((List.range c.zA.length).map G)[i]? = some (G i) := zd1 _ hi'; unfold zwi; rw [Bool.and_eq_true, not_and]; intro hs; have hs := List.contains_iff_mem.1 hs; unfold zvi zn5; rw [hF, Bool.not_eq_true, Option.getD_some, List.any_eq_false]; intro f hf; have hb : znw c ((List.range c.zA.length).map G) i = zhe c.zA[i] (G i) := by unfold znw; rw [lge hi', hFi]
   rw [hb, Bool.not_eq_true, Bool.not_eq_false', ze7, ztd]; cases hx : fxB c R k with
   | true => rw [(hcl.fx k hk hx).2] at hf; simp at hf
   | false => exact (hcl.st i hi' (hD i hi') _ (lge hi') k hs hx).2 f hf
theorem z23 (N : Nat) (hN : 1048600 < N) {c : zF} (hc : CdV m c) {n : Int} (h2 : zk N m c = some (n, 0)) {R D : Nat → Bool} {G : Nat → List zB} (hR : ∀ k, k < c.zA.length → (R k = true ↔ Rch c k)) (hi : Inv m c R D G) (hcl : Cl c R D G) (hG : ∀ k, (G k).length ≤ 60)
 (hnl : (List.range ((List.range c.zA.length).map G).length).findSome? (lsE m c ((List.range c.zA.length).map G)) = none) :
 zd N m c ((List.range c.zA.length).map G) = some ((c.zA.length : Int), 0) := by
 have hil := hc.len
 have hFv : FsV m c ((List.range c.zA.length).map G) := ⟨by simp, z7c hnl⟩
 unfold zd zcx
 rw [h2]
 simp only [obs, bsf, cfa]
 rw [show ((((List.range c.zA.length).map G).length : Int) != (c.zA.length : Int)) = false by simp]
 simp only [cfa]
 rw [z4r N (by omega) ⟨hc.m1, hc.m2⟩ hc.sz _ (by simp; omega), hnl]
 simp only [obs, zax]
 rw [zqz N hN hc, obs, z2x N hN hc hFv]
 have e : ((List.range c.zA.length).map (zuu c ((List.range c.zA.length).map G))).findIdx? id = none := by
  rw [List.findIdx?_eq_none_iff]; intro b hb; obtain ⟨k, hk, rfl⟩ := List.mem_map.1 hb; exact z3x hc hR hi hcl k (by simpa using hk)
 rw [e]
 simp
theorem z3l {f : zB} (h : FctV m c f) : zli m c f = none := by
 obtain ⟨h1, h2, ⟨h3, h4⟩, h5⟩ := h
 have ho : ¬ zv8 c f = true := by
  unfold zv8; rw [Bool.not_eq_true, Bool.and_eq_false_iff]; rcases h5 with h5 | h5
  · left; simp [h5]
  · right; rw [Bool.not_eq_false']; exact zbr.2 (by omega)
 unfold zli
 rw [ifn (by rw [Bool.not_eq_false]; exact zbr.2 (by omega)), ifn (by rw [not_or, not_or]; exact ⟨fun h => h h2, h3, h4⟩), ifn ho]
theorem z44 {G : Nat → List zB} (hG : ∀ k, (G k).length ≤ 60 ∧ ∀ f ∈ G k, FctV m c f) (n : Nat) : (List.range ((List.range n).map G).length).findSome? (lsE m c ((List.range n).map G)) = none := by
 rw [List.findSome?_eq_none_iff]
 intro i hi
 have hi : i < n := by simpa using hi
 unfold lsE
 rw [zd1 G hi, obs, Option.map_eq_none_iff]
 unfold zym
 have := (hG i).1
 rw [ifn, List.findSome?_eq_none_iff]
 intro f hf
 exact z3l ((hG i).2 f hf)
variable {m : zI} {c : zF}
def zch (m : zI) (c : zF) (G : Nat → List zB) : Optimization := ⟨m, c, zky c G, ⟨(List.range c.zA.length).map G, (List.range c.zA.length).map (ixA c G)⟩⟩
theorem z6t (N : Nat) (hN : 1000 < N) (hc : CdV m c) (G : Nat → List zB) : zf (ze.r0 N) N ((c.zA.length : Int), List.replicate (c.zA.length + 1) (0 : Int), 0, zch m c G) = some ((c.zA.length : Int), zhb c G, (c.zA.length : Int), zch m c G) := by
 have hl := hc.len
 have := zdj (f := ze.r0 N) (fun i => ((c.zA.length : Int), (List.range (c.zA.length + 1)).map (fun k => if k ≤ i then (kc c G k : Int) else 0), (i : Int), zch m c G)) c.zA.length (fun i hi => by
  have hI : ((List.range c.zA.length).map (ixA c G))[i]? = some (ixA c G i) := zd1 _ hi; have hS : ((List.range (c.zA.length + 1)).map (fun k => if k ≤ i then (kc c G k : Int) else 0))[i]? = some (if i ≤ i then (kc c G i : Int) else 0) := zd1 _ (by omega); have hS1 : ((List.range (c.zA.length + 1)).map (fun k => if k ≤ i then (kc c G k : Int) else 0))[i + 1]? = some (if i + 1 ≤ i then (kc c G (i + 1) : Int) else 0) := zd1 _ (by omega); have hk := zl9 c G i; have hkc : kc c G (i + 1) = kc c G i + cond (drp c G i) 0 1 := rfl; have hk1 := zl9 c G (i + 1); have e1 : ((i : Int) + 1).toNat = i + 1 := by omega
  simp only [ze.r0, ze.b0, zch, zac, hI, hS, obs, itn, lnm, List.length_range, zoc]; rw [dct (show (i : Int) < (c.zA.length : Int) by omega), ctr, ifp (show 0 ≤ (i : Int) by omega), ifp (show (i : Int) < ((c.zA.length + 1 : Nat) : Int) by omega), w6e (n := (i : Int) + 1), ifp (show 0 ≤ (i : Int) + 1 by omega), ifp (show (i : Int) + 1 < ((c.zA.length + 1 : Nat) : Int) by omega), e1, hS1, obs, ifp (Nat.le_refl i), zok]; have e2 : w6 ((kc c G i : Int) + cond (ixA c G i != -1) 1 0) = (kc c G (i + 1) : Int) := by
   have : ((kc c G i : Int) + cond (ixA c G i != -1) 1 0) = (kc c G (i + 1) : Int) := by
    rw [hkc]; unfold ixA; cases drp c G i with
    | true => simp
    | false =>
     simp only [cfa]; rw [show ((kc c G i : Int) != -1) = true by rw [zdz]; simp]; simp
   rw [this]; exact w6e
  rw [e2, show (i : Int) + 1 = ((i + 1 : Nat) : Int) by omega]
  congr 4
  apply List.map_congr_left; intro k _; unfold zfw
  by_cases e : k = i + 1
  · subst e; rw [ifp rfl, ifp (Nat.le_refl _)]
  · rw [ifn e]; show (if k ≤ i then (kc c G k : Int) else 0) = if k ≤ i + 1 then (kc c G k : Int) else 0
    by_cases h : k ≤ i
    · rw [ifp h, ifp]
    · rw [ifn h, ifn])
  (by simp only [ze.r0, ze.b0]; rw [dcf (Int.lt_irrefl _)]; rfl) (show c.zA.length < N by omega)
 have e0 : List.replicate (c.zA.length + 1) (0 : Int) = (List.range (c.zA.length + 1)).map (fun k => if k ≤ 0 then (kc c G k : Int) else 0) := by
  rw [zse]; apply List.map_congr_left; intro k _; split
  · rename_i h; have : k = 0 := by omega
    subst this; rfl
  · rfl
 rw [e0]
 simp only [nc0] at this
 rw [this]
 congr 3
 unfold zhb
 apply List.map_congr_left
 intro k hk
 have hk : k < c.zA.length + 1 := by simpa using hk
 rw [ifp]
theorem zwj (b : ByteArray) : (b == b) = true := by
 cases b with
 | mk d =>
  show (d == d) = true; simp
theorem zn2 {G : Nat → List zB} {k : Nat} (hk : k ≤ c.zA.length) : (zhb c G)[k]? = some (kc c G k : Int) := zd1 _ (by omega)
theorem z6s (N : Nat) (hN : 1000 < N) (hc : CdV m c) {G : Nat → List zB} (hG : ∀ k, (G k).length ≤ 100) : zj (ze.r2 N) N ((c.zA.length : Int), zhb c G, 0, zch m c G) = some (.inr ((c.zA.length : Int), zhb c G, (c.zA.length : Int), zch m c G)) := by
 have hl := hc.len
 have hll : (zhb c G).length = c.zA.length + 1 := by simp [zhb]
 have := zbm (f := ze.r2 N) (fun i => ((c.zA.length : Int), zhb c G, (i : Int), zch m c G)) (fun _ => none) c.zA.length (fun i hi => by
  have hx := lge hi; have hmem := List.getElem_mem hi; have hI : ((List.range c.zA.length).map (ixA c G))[i]? = some (ixA c G i) := zd1 _ hi; have hF : ((List.range c.zA.length).map G)[i]? = some (G i) := zd1 _ hi; have hgl := hG i; have hI' : idx (zch m c G).Proof.Index (i : Int) = some (ixA c G i) := by rw [zac]; exact hI
  have hF' : idx (zch m c G).Proof.Facts (i : Int) = some (G i) := by rw [zac]; exact hF
  have hlow : (zhb c G)[i]? = some (kc c G i : Int) := zn2 (by omega); cases hd : drp c G i with
  | true =>
   have hd2 := hd; unfold drp at hd2; rw [hx] at hd2; rw [Bool.and_eq_true, Bool.and_eq_true, decide_eq_true_eq] at hd2; obtain ⟨d1, d2, d3⟩ := hd2; have hix : ixA c G i = -1 := by unfold ixA; rw [hd]; rfl
   generalize c.zA[i] = x at hx d2 d3; have hX : idx (zch m c G).Before.zA (i : Int) = some x := by rw [zac]; exact hx
   simp only [ze.r2, ze.b2, hX, hI', hF', hix, obs, zua, zob N (G i) x x.R (show (G i).length < N by omega) (by omega), d2, d3]; rw [dct (show (i : Int) < (c.zA.length : Int) by omega), w6e (n := (c.zA.length : Int) - 1), w6e (n := (i : Int) + 1), show ((i : Int) == (c.zA.length : Int) - 1) = false by rw [zci, dcf (by omega)]]; rfl
  | false =>
   have hix : ixA c G i = (kc c G i : Int) := by unfold ixA; rw [hd]; rfl
   have hy := z36 hi hd; have hkl : kc c G i < (zmf c G).length := (gei hy).1; have hjmp := zrp hc (G i) hmem; have hop := zqg (G i) c.zA[i]; have htg := (hc.ins _ hmem).tg; generalize c.zA[i] = x at hx hy hjmp hop htg; have hX : idx (zch m c G).Before.zA (i : Int) = some x := by rw [zac]; exact hx
   have hY : idx (zch m c G).After.zA (kc c G i : Int) = some (trn c G (cpy (G i) x)) := by rw [zac]; exact hy
   have hge : ¬ (kc c G i : Int) ≥ ((zch m c G).After.zA.length : Int) := by show ¬ (kc c G i : Int) ≥ ((zmf c G).length : Int); omega
   have hne1 : ((kc c G i : Int) == -1) = false := by rw [zci]; simp
   simp only [ze.r2, ze.b2, hX, hI', hF', hix, hY, hne1, hlow, hll, obs, zua, ztp, itn, bsf, cfa, dcf hge]; rw [dct (show (i : Int) < (c.zA.length : Int) by omega), ctr, ifp (show 0 ≤ (i : Int) by omega), ifp (show (i : Int) < ((c.zA.length + 1 : Nat) : Int) by omega), w6e (n := (i : Int) + 1)]; cases hj : zes x.Op with
   | true =>
    have hj2 := hj; unfold zes at hj2; simp only [Bool.or_eq_true, decide_eq_true_eq] at hj2; obtain ⟨t0, t1⟩ := htg (by omega); have hk : knl x = false := by unfold knl; rw [dcf (by omega)]; rfl
    have hcp : cpy (G i) x = x := by unfold cpy; rw [hk]; rfl
    have htr : trn c G (cpy (G i) x) = ⟨x.Op, x.R, x.A, x.B, x.zO, x.Place, x.From, x.zD, x.Second, x.Half, x.zJ, x.Number, x.Text, x.Other, x.Mask, (kc c G x.Target.toNat : Int), x.Pointer, x.Source⟩ := by rw [hcp]; unfold trn; rw [ifp hj]
    rw [htr]; simp only [ctr, hk, cfa, obs]; rw [ifp t0, ifp (show x.Target < ((c.zA.length + 1 : Nat) : Int) by omega), zn2 (show x.Target.toNat ≤ c.zA.length by omega)]; simp [zbw, zwj]
   | false =>
    simp only [cfa]; rcases hop with e | ⟨g, hg, hk, _, hh, e⟩
    · have htr : trn c G (cpy (G i) x) = x := by rw [e]; unfold trn; rw [hj]; rfl
      rw [htr]; have e2 : zbw [(x.Op == x.Op), (x.R == x.R), (x.A == x.A), (x.B == x.B), (x.zO == x.zO), (x.Place.Based == x.Place.Based), (x.Place.Pointer == x.Place.Pointer), (x.Place.Offset == x.Place.Offset), (x.From.Based == x.From.Based), (x.From.Pointer == x.From.Pointer), (x.From.Offset == x.From.Offset), (x.zD.Kind == x.zD.Kind), (x.zD.Length == x.zD.Length), (x.zD.Scale == x.zD.Scale), (x.Second.Kind == x.Second.Kind), (x.Second.Length == x.Second.Length), (x.Second.Scale == x.Second.Scale), (x.Half == x.Half), (x.zJ == x.zJ), (x.Number.N == x.Number.N), (x.Number.Scale == x.Number.Scale), (x.Text == x.Text), (x.Other == x.Other), (x.Mask == x.Mask), (x.Target == x.Target), (x.Pointer == x.Pointer), (x.Source == x.Source)] = true := by simp [zbw, zwj]
      rw [e2, zob N (G i) x _ (by omega) (by omega)]; generalize zbw _ = b1; cases knl x <;> cases b1 <;> cases zhc (G i) x x.A <;> rfl
    · have htr : trn c G (cpy (G i) x) = ⟨3, x.R, g.Register, 0, 0, ⟨false, 0, 0⟩, ⟨false, 0, 0⟩, ⟨0, 0, 0⟩, ⟨0, 0, 0⟩, false, false, ⟨0, 0⟩, ⟨#[]⟩, ⟨#[]⟩, 0, 0, 0, 0⟩ := by rw [e]; rfl
      rw [htr, zob N (G i) x _ (by omega) (by omega), hk]; simp only [ctr]; have e2 : ∀ p q : Int, zbw [((3 : Int) == 3), (p == p), (q == q), ((0 : Int) == 0), ((0 : Int) == 0), (false == false), ((0 : Int) == 0), ((0 : Int) == 0), (false == false), ((0 : Int) == 0), ((0 : Int) == 0), ((0 : Int) == 0), ((0 : Int) == 0), ((0 : Int) == 0), ((0 : Int) == 0), ((0 : Int) == 0), ((0 : Int) == 0), (false == false), (false == false), ((0 : Int) == 0), ((0 : Int) == 0), ((⟨#[]⟩ : ByteArray) == (⟨#[]⟩ : ByteArray)), ((⟨#[]⟩ : ByteArray) == (⟨#[]⟩ : ByteArray)), ((0 : Int) == 0), ((0 : Int) == 0), ((0 : Int) == 0), ((0 : Int) == 0)] = true := fun p q => by simp [zbw, zwj]
      rw [e2]; simp only [obs, ctr, hh]; generalize zbw _ = b1; cases b1 <;> rfl)
  (by simp only [ze.r2, ze.b2]; rw [dcf (Int.lt_irrefl _)]; rfl) (show c.zA.length < N by omega)
 simp only [nc0] at this
 rw [this]
 have e : (List.range c.zA.length).findSome? (fun _ => (none : Option (Int × Int))) = none := by simp
 rw [e]
theorem z6r (N : Nat) (hN : 1048600 < N) (hc : CdV m c) (ht : TrV c) (G : Nat → List zB) : zj (ze.r4 N) N ((c.zA.length : Int), zhb c G, 0, zch m c G) = some (.inr ((c.zA.length : Int), zhb c G, (c.zP.length : Int), zch m c G)) := by
 have hl := hc.traps
 have hll : (zhb c G).length = c.zA.length + 1 := by simp [zhb]
 have := zbm (f := ze.r4 N) (fun i => ((c.zA.length : Int), zhb c G, (i : Int), zch m c G)) (fun _ => none) c.zP.length (fun i hi => by
  have hx := lge hi; obtain ⟨h1, h2, h3, h4, h5⟩ := ht _ (List.getElem_mem hi); have hy : (zkh c G)[i]? = some ⟨(kc c G (c.zP[i]).From.toNat : Int), (kc c G (c.zP[i]).To.toNat : Int), (c.zP[i]).Exception, (kc c G (c.zP[i]).Handler.toNat : Int)⟩ := by unfold zkh; rw [List.getElem?_map, hx]; rfl
  generalize c.zP[i] = t at hx hy h1 h2 h3 h4 h5; have hX : idx (zch m c G).Before.zP (i : Int) = some t := by rw [zac]; exact hx
  have hY : idx (zch m c G).After.zP (i : Int) = some ⟨(kc c G t.From.toNat : Int), (kc c G t.To.toNat : Int), t.Exception, (kc c G t.Handler.toNat : Int)⟩ := by rw [zac]; exact hy
  have hlt : (i : Int) < ((zch m c G).Before.zP.length : Int) := by show (i : Int) < (c.zP.length : Int); omega
  simp only [ze.r4, ze.b4, hX, hY, hll, obs, dct hlt, ctr]; rw [ifp h1, ifp (show t.From < ((c.zA.length + 1 : Nat) : Int) by omega), zn2 (show t.From.toNat ≤ _ by omega), obs, ifp (show 0 ≤ t.To by omega), ifp (show t.To < ((c.zA.length + 1 : Nat) : Int) by omega), zn2 (show t.To.toNat ≤ _ by omega), obs, ifp h4, ifp (show t.Handler < ((c.zA.length + 1 : Nat) : Int) by omega), zn2 (show t.Handler.toNat ≤ _ by omega), obs, w6e]; simp [zbw])
  (by
   have hlt : ¬ (c.zP.length : Int) < ((zch m c G).Before.zP.length : Int) := Int.lt_irrefl _; simp only [ze.r4, ze.b4, dcf hlt, cfa]) (show c.zP.length < N by omega)
 simp only [nc0] at this
 rw [this]
 have e : (List.range c.zP.length).findSome? (fun _ => (none : Option (Int × Int))) = none := by simp
 rw [e]
variable {m : zI} {c : zF}
theorem zsi {β : Type} (n : Nat) : (List.range n).findSome? (fun _ => (none : Option β)) = none := by simp
theorem z03 (N : Nat) (l : List Bool) (h : l.length < N) (hl : l.length < 1000000000) : zj (zdu.r0 N) N (l, l, 0) = some (.inr (l, l, (l.length : Int))) := by
 have := zbm (f := zdu.r0 N) (fun i => (l, l, (i : Int))) (fun _ => none) l.length (fun i hi => by
  have hx := lge hi; simp only [zdu.r0, zdu.b0, zac, hx, obs, dct (show (i : Int) < (l.length : Int) by omega), ctr, bst, bnt, cfa]; rw [w6e]; rfl)
  (by simp only [zdu.r0, zdu.b0, dcf (Int.lt_irrefl _), cfa]) h
 simp only [nc0] at this
 rw [this, zsi]
theorem z4p (N : Nat) (hN : 1000 < N) (hc : CdV m c) {G : Nat → List zB} (hG : ∀ k, (G k).length ≤ 100) {i : Nat} (hi : i < c.zA.length) (hd : drp c G i = false) (hk : knl c.zA[i] = true) :
 zj (zag.r2 N) N ((List.range c.zA.length).map G, (i : Int), (kc c G i : Int), 0, zch m c G, c.zA[i]) = some (.inr ((List.range c.zA.length).map G, (i : Int), (kc c G i : Int), (m.Registers.toNat : Int), zch m c G, c.zA[i])) := by
 have hl := hc.len
 have hm := hc.m2
 have hm1 := hc.m1
 have hF : ((List.range c.zA.length).map G)[i]? = some (G i) := zd1 _ hi
 have hgl := hG i
 have hy := z36 hi hd
 have hop := zqg (G i) c.zA[i]
 have hY : idx (zch m c G).After.zA (kc c G i : Int) = some (trn c G (cpy (G i) c.zA[i])) := by rw [zac]; exact hy
 have hne1 : ((kc c G i : Int) == -1) = false := by rw [zci]; simp
 have := zbm (f := zag.r2 N) (fun r => ((List.range c.zA.length).map G, (i : Int), (kc c G i : Int), (r : Int), zch m c G, c.zA[i])) (fun _ => none) m.Registers.toNat (fun r hr => by
  have hcase : (((r : Int) != (c.zA[i]).R) && zhc (G i) c.zA[i] (r : Int)) = true → (trn c G (cpy (G i) c.zA[i])).Op = 3 := by
   intro h; rcases hop with e | ⟨g, hg, _, _, hh, e⟩
   · exfalso
     rw [Bool.and_eq_true] at h; obtain ⟨h1, h2⟩ := h; have h3 := ze7.1 h2; unfold cpy at e; rw [ifp hk] at e; have hne : (G i).findSome? (fun g => if (g.Register != (c.zA[i]).R && zhc (G i) c.zA[i] g.Register) = true then some g.Register else none) ≠ none := by
      intro hn; rw [List.findSome?_eq_none_iff] at hn; have := hn _ h3; rw [ifp (by rw [Bool.and_eq_true]; exact ⟨h1, h2⟩)] at this; cases this
     cases hf : (G i).findSome? (fun g => if (g.Register != (c.zA[i]).R && zhc (G i) c.zA[i] g.Register) = true then some g.Register else none) with
     | none => exact hne hf
     | some q =>
      rw [hf] at e; have e3 : (3 : Int) = (c.zA[i]).Op := congrArg zC.Op e; unfold knl at hk; rw [Bool.and_eq_true, decide_eq_true_eq] at hk; omega
   · rw [e]; rfl
  have hlt : (r : Int) < (zch m c G).Model.Registers := by show (r : Int) < m.Registers; omega
  have hFi : idx ((List.range c.zA.length).map G) (i : Int) = some (G i) := by rw [zac]; exact hF
  simp only [zag.r2, zag.b2, hFi, hY, hne1, obs, dct hlt, ctr, cfa, zob N (G i) c.zA[i] (r : Int) (show (G i).length < N by omega) (by omega)]; rw [zgu, obs, w6e]; cases hb : (((r : Int) != (c.zA[i]).R) && zhc (G i) c.zA[i] (r : Int)) with
  | false => rfl
  | true =>
   rw [hcase hb]; rfl)
  (by
   have hlt : ¬ ((m.Registers.toNat : Nat) : Int) < (zch m c G).Model.Registers := by show ¬ ((m.Registers.toNat : Nat) : Int) < m.Registers; omega
   simp only [zag.r2, zag.b2, dcf hlt, cfa]) (show m.Registers.toNat < N by omega)
 simp only [nc0] at this
 rw [this, zsi]
theorem z6p (N : Nat) (hN : 1048600 < N) (hc : CdV m c) {G : Nat → List zB} (hG : ∀ k, (G k).length ≤ 100) {b : Bool} (hf : zg N c = some ((List.range c.zA.length).map G, b)) : zag N (zch m c G) = some true := by
 have hl := hc.len
 have := zbm (f := zag.r0 N) (fun i => ((List.range c.zA.length).map G, (i : Int), zch m c G)) (fun _ => none) c.zA.length (fun i hi => by
  have hx := lge hi; have hgl := hG i; have hX : idx (zch m c G).Before.zA (i : Int) = some c.zA[i] := by rw [zac]; exact hx
  have hI : idx (zch m c G).Proof.Index (i : Int) = some (ixA c G i) := by rw [zac]; exact zd1 _ hi
  have hFi : idx ((List.range c.zA.length).map G) (i : Int) = some (G i) := by rw [zac]; exact zd1 _ hi
  have hlt : (i : Int) < ((zch m c G).Before.zA.length : Int) := by show (i : Int) < (c.zA.length : Int); omega
  have hw : w6 (((zch m c G).Before.zA.length : Int) - 1) = (c.zA.length : Int) - 1 := w6e (by show _ ≤ (c.zA.length : Int) - 1; omega) (by show (c.zA.length : Int) - 1 ≤ _; omega); have hdr : drp c G i = (decide (i + 1 < c.zA.length) && (knl c.zA[i] && zhc (G i) c.zA[i] c.zA[i].R)) := by unfold drp; rw [hx]
  have hthor := z4p N (by omega) hc hG hi; simp only [zag.r0, zag.b0, hX, hI, hFi, obs, dct hlt, ctr, zua, zob N (G i) c.zA[i] c.zA[i].R (show (G i).length < N by omega) (by omega), hw]; rw [w6e (n := (i : Int) + 1)]; cases hk : knl c.zA[i] with
  | false => rfl
  | true =>
   simp only [bnt, cfa]; have e1 : decide ((i : Int) < (c.zA.length : Int) - 1) = decide (i + 1 < c.zA.length) := by
    by_cases h : i + 1 < c.zA.length
    · rw [dct h, dct (by omega)]
    · rw [dcf h, dcf (by omega)]
   rw [e1, zgu, obs]; rw [hk, Bool.true_and, Bool.and_comm] at hdr; cases hb : (zhc (G i) c.zA[i] c.zA[i].R && decide (i + 1 < c.zA.length)) with
   | true =>
    rw [hb] at hdr; have : ixA c G i = -1 := by unfold ixA; rw [hdr]; rfl
    rw [this]; rfl
   | false =>
    rw [hb] at hdr; have : ixA c G i = (kc c G i : Int) := by unfold ixA; rw [hdr]; rfl
    rw [this, cfa, hthor hdr hk]; simp only [obs, zax]; rw [w6e (n := (i : Int) + 1)]; rfl)
  (by
   have hlt : ¬ (c.zA.length : Int) < ((zch m c G).Before.zA.length : Int) := Int.lt_irrefl _; simp only [zag.r0, zag.b0, dcf hlt, cfa]) (show c.zA.length < N by omega)
 unfold zag
 rw [show (zch m c G).Before = c from rfl, hf, obs]
 simp only [nc0] at this
 simp only
 rw [this, zsi]
 rfl
variable {m : zI} {c : zF}
theorem z4k (N : Nat) (s : Storage) (h : s.Tags.length < N) (hl : s.Tags.length < 1000000000) : zd5 N s s = some true := by
 unfold zd5 zdu
 rw [bst, ctr, bsf, cfa, z03 N _ h hl]
 rfl
theorem z2v (N : Nat) (hN : 1048600 < N) {c : zF} (hw : Wft En 1048576 Ty.zF c) {n : Int} (h2 : zk N m c = some (n, 0)) (hc : CdV m c) {R D : Nat → Bool} {G : Nat → List zB} (hR : ∀ k, k < c.zA.length → (R k = true ↔ Rch c k)) (hi : Inv m c R D G) (hcl : Cl c R D G) (hG : ∀ k, (G k).length ≤ 60) (hGv : ∀ k, ∀ f ∈ G k, FctV m c f) :
 ze N (zch m c G) = some ((c.zA.length : Int), 0) := by
 have hl := hc.len
 have ck := z52 N hN hw h2
 have ht := z18 ck.trap
 have hwa := z4a hc ht hw hGv
 have h2a := z9y N hN hwa (zy7 hc ck hGv)
 have hchk := z23 N hN hc h2 hR hi hcl hG (z44 (fun k => ⟨hG k, hGv k⟩) c.zA.length)
 have htl := ck.tl
 have hss : zd5 N (zch m c G).Before.Storage (zch m c G).After.Storage = some true := z4k N c.Storage (by omega) (by omega)
 have hwr : w6 (((zch m c G).Before.zA.length : Int) + 1) = ((c.zA.length + 1 : Nat) : Int) := by
  show w6 ((c.zA.length : Int) + 1) = _; rw [w6e]; omega
 unfold ze zcx
 rw [show zk N (zch m c G).Model (zch m c G).Before = some (n, 0) from h2, show zk N (zch m c G).Model (zch m c G).After = some (((zky c G).zA.length : Int), 0) from h2a]
 simp only [obs, bsf, cfa]
 rw [show zd N (zch m c G).Model (zch m c G).Before (zch m c G).Proof.Facts = some ((c.zA.length : Int), 0) from hchk]
 simp only [obs, bsf, cfa]
 rw [show (((zch m c G).Proof.Index.length : Int) != ((zch m c G).Before.zA.length : Int)) = false by show ((((List.range c.zA.length).map (ixA c G)).length : Int) != (c.zA.length : Int)) = false; simp]
 simp only [cfa, hss, obs, bnt, hwr]
 rw [ifp, ifp, itn, zmw (by omega), ctr, show ((zch m c G).Before.zA.length : Int) = (c.zA.length : Int) from rfl, z6t N (by omega) hc G]
 simp only [obs]
 rw [z6s N (by omega) hc (fun k => by have := hG k; omega)]
 simp only [obs, zax]
 have hll : (zhb c G).length = c.zA.length + 1 := by simp [zhb]
 rw [hll, ifp, ifp, itn, zn2 (Nat.le_refl _)]
 simp only [obs]
 rw [show (((zch m c G).After.zA.length : Int) != (kc c G c.zA.length : Int)) = false by show (((zmf c G).length : Int) != _) = false; rw [zqn]; simp]
 rw [show (((zch m c G).After.zP.length : Int) != ((zch m c G).Before.zP.length : Int)) = false by show (((zkh c G).length : Int) != (c.zP.length : Int)) = false; unfold zkh; simp]
 simp only [cfa, obs]
 rw [z6r N hN hc ht G]
 rfl
def zlx (c : zF) (G : Nat → List zB) (k : Nat) : List zB := if k < c.zA.length then G k else []
theorem zny {G : Nat → List zB} {k : Nat} (hk : k < c.zA.length) : zlx c G k = G k := ifp hk
theorem ztz {G : Nat → List zB} {k : Nat} {f : zB} (h : f ∈ zlx c G k) : f ∈ G k := by
 unfold zlx at h
 split at h
 · exact h
 · simp at h
theorem z48 {R D : Nat → Bool} {G : Nat → List zB} (h : Inv m c R D G) : Inv m c R D (zlx c G) where
 so k := by
  unfold zlx; split
  · exact h.so k
  · exact List.Pairwise.nil
 ok k f hf := h.ok k f (ztz hf)
 un k f hf := h.un k f (ztz hf)
 no k hd := by
  unfold zlx; split
  · exact h.no k hd
  · rfl
 fx k hk hf := by rw [zny hk]; exact h.fx k hk hf
 ab D' G' hcl k hk hd := by rw [zny hk]; exact h.ab D' G' hcl k hk hd
theorem z7s (hc : CdV m c) {R D : Nat → Bool} {G : Nat → List zB} (h : Cl c R D G) : Cl c R D (zlx c G) where
 fx k hk hf := by rw [zny hk]; exact h.fx k hk hf
 st i hi hd := fun x hx k hs hf => by
  obtain ⟨k', e, hk⟩ := zi0 hc hs; obtain rfl : k = k' := by omega
  rw [zny hk, zny hi]; exact h.st i hi hd x hx k hs hf
theorem zyj (c : zF) (G : Nat → List zB) : (List.range c.zA.length).map (zlx c G) = (List.range c.zA.length).map G := List.map_congr_left fun k hk => zny (by simpa using hk)
theorem z5t : zkq 2000000 (⟨⟨⟨#[]⟩, []⟩, [], []⟩ : zF) = some true := by kernel_rfl
theorem z71 : ((zit 2000000).bind fun r => zg 2000000 r).isSome = true := by kernel_rfl
theorem plainTranslateOptimizes : ze4 := by
 intro m c hm hc
 refine ⟨2000000, ?_⟩
 obtain ⟨b, hb⟩ := z3k 2000000 (by decide) hc
 obtain ⟨n, e, h1, h2, h3, h4⟩ := z0w 2000000 (by decide) m hc
 unfold zdw
 rw [z7v]
 simp only [obs, bnt, cfa]
 rw [hb]
 cases b with
 | false => rfl
 | true =>
  simp only [obs, bnt, cfa]; rw [z40 hc, obs]; unfold zl8 zcx; rw [h2]; simp only [obs]
  by_cases he : e = 0
  · obtain ⟨hcv, G, g1, g2, g3, _, R, D, hR, hi, hcl⟩ := h4 he; have hil := hcv.len; subst he; have ck := z52 2000000 (by decide) hc h2; simp only [bsf, cfa, obs, bst, ctr]; rw [g2]; cases ha : ((List.range c.zA.length).map G).all fun l => decide (l.length ≤ 60) with
    | false =>
     have ho : zi 2000000 m c = some (⟨⟨⟨#[]⟩, []⟩, [], []⟩, ⟨[], []⟩, 2) := by
      unfold zi; rw [g1, ha]; rfl
     rw [ho]; simp only [obs, Bool.not_false, ctr, bst, z5t]; rfl
    | true =>
     have hG : ∀ k, (zlx c G k).length ≤ 60 := fun k => by
      unfold zlx; split
      · rename_i hk; have := List.all_eq_true.1 ha (G k) (List.mem_map.2 ⟨k, by simpa using hk, rfl⟩); simpa using this
      · simp
     have hGv : ∀ k, ∀ f ∈ zlx c G k, FctV m c f := fun k f hf => (g3 k).2.2 f (ztz hf); have hi' := z48 hi; have hcl' := z7s hcv hcl; rw [ha, ifp rfl, ← zyj c G] at g1; rw [← zyj c G] at g2; have htl := ck.tl; have ho := z73 2000000 (by decide) hcv (z18 ck.trap) (by omega) (G := zlx c G) (fun k => by have := hG k; omega) g1; have hcka := zy7 hcv ck hGv; have hfew := z8x (c := zky c (zlx c G)) (by decide) hcka; have hff := z1r 2000000 (by decide) (F := (List.range c.zA.length).map (zlx c G)) (by simp; omega) (fun l hl => by
      obtain ⟨k, _, rfl⟩ := List.mem_map.1 hl; have := hG k; omega)
     have hca := z2v 2000000 (by decide) hc h2 hcv hR hi' hcl' hG hGv; have hth := z6p 2000000 (by decide) hcv (fun k => by have := hG k; omega) g2; unfold zch at hca hth; rw [ho]; simp only [obs, bnt, cfa, bsf]; rw [hfew]; simp only [obs, bnt, cfa]; rw [hff]; simp only [obs, bnt, cfa, lnm, List.length_range]; rw [dcf (show ¬ (c.zA.length : Int) > 250 by omega)]; simp only [cfa]; rw [hca]; simp only [obs, bst, ctr]; rw [hth]; rfl
  · obtain ⟨r, hr⟩ := Option.isSome_iff_exists.1 z71; rw [Option.bind_eq_some_iff] at hr; obtain ⟨t, ht1, ht2⟩ := hr; have ho : zi 2000000 m c = some (⟨⟨⟨#[]⟩, []⟩, [], []⟩, ⟨[], []⟩, e) := by
     unfold zi; rw [h3 he]; simp only [obs]; rw [show (e != 0) = true by simpa using he]; rfl
    rw [ho, ht1]; simp only [obs]; rw [show (e != 0) = true by simpa using he, show (e == 0) = false by simpa using he]; simp only [ctr, cfa, obs]; rw [ht2]; simp only [obs, bst, ctr, z5t]; rfl
end
end Go.Proofs.YtblgefddnnlniaaGreatDoor.M
namespace Go.Proofs.YtblgefddnnlniaaGreatDoor
theorem translateOptimizes_card : Rows.TranslateOptimizesUptoCardSaid := M.cardTranslateOptimizes M.plainTranslateOptimizes
#print axioms translateOptimizes_card
end Go.Proofs.YtblgefddnnlniaaGreatDoor
