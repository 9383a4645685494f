/- TranslateFacts: the law answers true for every input of bulk at most 1048576, and its arguments read as they did; by the seat's second form, tied to the program's text. -/
import Derived.Test.YtblgefddnnlniaaGreatDoorPTranslateFactsx0
import Derived.Test.YtblgefddnnlniaaGreatDoorWTranslateFacts
namespace Go.Proofs.YtblgefddnnlniaaGreatDoor.M
open Go Go.Amx
set_option linter.unusedVariables false
set_option linter.unusedSimpArgs false
set_option maxRecDepth 100000
noncomputable section
variable {m : zI} {c : zF} {R : Nat → Bool}
theorem z4a (N : Nat) (l t : List zB) (h : l.length < N) (hl : l.length ≤ 100000) (h' : t.length < N) (hl' : t.length < 1000000000) : zc9 N l t = some (l.filter fun f => ze6 t f) := by
 unfold zc9
 have := ztg (f := zc9.r0 N) l (fun f => if ze6 t f = true then some f else none) (fun i acc => (l, t, acc, (i : Int))) (fun i x acc hx hacc => by
  have hi := (gei hx).1; simp only [zc9.r0, zc9.b0, zay, hx, obs, dct (show (i : Int) < (l.length : Int) by omega), ctr, ztz N t x h' hl', lnc, ln0, zis (show acc.length + (0 + 1) ≤ 1000000000 by omega)]; rw [w6e]; cases ze6 t x <;> simp)
  (fun acc => by simp only [zc9.r0, zc9.b0, dcf (show ¬ (l.length : Int) < (l.length : Int) by omega), cfa]) h
 simp only [nc0] at this
 rw [this]
 simp only [obs]
 congr 1
 rw [← List.filterMap_eq_filter]
 congr 1
structure RS (m : zI) (c : zF) (R : Nat → Bool) (D0 : Nat → Bool) (G0 : Nat → List zB) (i : Nat) (r : List zB) (j : Nat) (D : Nat → Bool) (G : Nat → List zB) (b : Bool) : Prop where
 inv : Inv m c R D G
 sa : b = false → ∀ k, k < c.zA.length → D k = D0 k ∧ G k = G0 k
 me : b = true → mea D G c.zA.length < mea D0 G0 c.zA.length
 b : ∀ t, t < j → ∀ k : Nat, (zaw c i)[t]? = some (k : Int) → fxB c R k = false → D k = true ∧ ∀ f ∈ G k, f ∈ r
theorem z32 (hc : CdV m c) {D0 : Nat → Bool} {G0 : Nat → List zB} {i : Nat} (hi : i < c.zA.length) {x : zC} {gi r : List zB} (g : Giv m c R i x gi r) {j : Nat} {D : Nat → Bool} {G : Nat → List zB} {b : Bool} (h : RS m c R D0 G0 i r j D G b) {k : Nat} (hj : (zaw c i)[j]? = some (k : Int)) (hkl : k < c.zA.length) :
 (zi9 c R D G r k = true → RS m c R D0 G0 i r (j + 1) (upd D k) (zfc G k (nxt D G r k)) true) ∧ (zi9 c R D G r k = false → RS m c R D0 G0 i r (j + 1) D G b) := by
 constructor
 · intro he; refine ⟨zyr hc h.inv hi g hkl (lmg hj) he, (fun hb => by cases hb), fun _ => ?_, fun t ht q hq hf => ?_⟩
   · have h1 := zyx hc (zr0 hc g) hkl he; cases b with
     | true => have := h.me rfl; omega
     | false => rw [zvg _ (h.sa rfl)] at h1; exact h1
   · by_cases e : t = j
     · subst e; rw [hj] at hq; obtain rfl : k = q := by have := Option.some.inj hq; omega
       exact zws
     · obtain ⟨h1, h2⟩ := h.b t (by omega) q hq hf; obtain ⟨h3, h4⟩ := zp3 (G := G) (r := r) (k := k) h1; exact ⟨h3, fun f hf' => h2 f (h4 f hf')⟩
 · intro he; refine ⟨h.inv, h.sa, h.me, fun t ht q hq hf => ?_⟩
   by_cases e : t = j
   · subst e; rw [hj] at hq; obtain rfl : k = q := by have := Option.some.inj hq; omega
     exact z1r he hf
   · exact h.b t (by omega) q hq hf
theorem z06 (N : Nat) (hN : 1048600 < N) (hc : CdV m c) {D0 : Nat → Bool} {G0 : Nat → List zB} {i : Nat} (hi : i < c.zA.length) {x : zC} {gi r : List zB} (g : Giv m c R i x gi r) {D : Nat → Bool} {G : Nat → List zB} {b : Bool} (h : RS m c R D0 G0 i r 0 D G b) :
 ∃ D' G' b', zd (zf.r6 N) N ((c.zA.length : Int), zb4 c, (List.range c.zA.length).map R, (List.range c.zA.length).map D, (List.range c.zA.length).map G, b, (i : Int), r, zaw c i, 0, c) =
  some ((c.zA.length : Int), zb4 c, (List.range c.zA.length).map R, (List.range c.zA.length).map D', (List.range c.zA.length).map G', b', (i : Int), r, zaw c i, ((zaw c i).length : Int), c) ∧ RS m c R D0 G0 i r (zaw c i).length D' G' b' ∧ (b' = false → b = false) := by
 have hl := hc.len
 have hsl := zpm (c := c) (i := i)
 have hrl := zr0 hc g
 obtain ⟨s, hs, D', G', b', rfl, hq⟩ := zfb (f := zf.r6 N) (fun j s => ∃ D G b', s = ((c.zA.length : Int), zb4 c, (List.range c.zA.length).map R, (List.range c.zA.length).map D, (List.range c.zA.length).map G, b', (i : Int), r, zaw c i, (j : Int), c) ∧ RS m c R D0 G0 i r j D G b' ∧ (b' = false → b = false)) (zaw c i).length (by
  rintro j s hj ⟨D, G, b', rfl, h, hbb⟩
  have hx := lge hj; obtain ⟨k, hk0, hkl⟩ := zjv hc (List.getElem_mem hj); rw [hk0] at hx; obtain ⟨q1, q2⟩ := z32 hc hi g h hx hkl; have hent : (zb4 c)[k]? = some (zhc c k) := zcg _ hkl; have hel : (zb4 c).length = c.zA.length := by simp [zb4]
  have hR : ((List.range c.zA.length).map R)[k]? = some (R k) := zcg _ hkl; have hD : ((List.range c.zA.length).map D)[k]? = some (D k) := zcg _ hkl; have hG : ((List.range c.zA.length).map G)[k]? = some (G k) := zo4 _ hkl; have hgl := zo5 hc h.inv k; have hstep : zf.r6 N ((c.zA.length : Int), zb4 c, (List.range c.zA.length).map R, (List.range c.zA.length).map D, (List.range c.zA.length).map G, b', (i : Int), r, zaw c i, (j : Int), c) =
   some (.again (if zi9 c R D G r k = true then ((c.zA.length : Int), zb4 c, (List.range c.zA.length).map R, (List.range c.zA.length).map (upd D k), (List.range c.zA.length).map (zfc G k (nxt D G r k)), true, (i : Int), r, zaw c i, ((j + 1 : Nat) : Int), c)
    else ((c.zA.length : Int), zb4 c, (List.range c.zA.length).map R, (List.range c.zA.length).map D, (List.range c.zA.length).map G, b', (i : Int), r, zaw c i, ((j + 1 : Nat) : Int), c))) := by
   simp only [zf.r6, zf.b6, zay, hx, hent, hel, hR, hD, hG, obs, dct (show (j : Int) < ((zaw c i).length : Int) by omega), ctr, itn, lnm, List.length_range, ifp (show 0 ≤ (k : Int) by omega), ifp (show 0 ≤ (j : Int) by omega), ifp (show (j : Int) < ((zaw c i).length : Int) by omega), ifp (show (k : Int) < (c.zA.length : Int) by omega), orB]; rw [w6e, zow, zp4 G]; have hj1 : (j : Int) + 1 = ((j + 1 : Nat) : Int) := by omega
   rw [hj1]; have hfx : (zhc c k || !R k) = fxB c R k := rfl; rw [hfx]; unfold zi9; cases hf : fxB c R k with
   | true => simp
   | false =>
    cases hd : D k with
    | true =>
     have hn : nxt D G r k = (G k).filter fun f => ze6 r f := by unfold nxt; rw [hd]; rfl
     have hle := z5r D G r k hd; simp only [cfa, ctr, Bool.not_false, bnt, Bool.true_and, Bool.false_or]; rw [z4a N (G k) r (by omega) (by omega) (by omega) (by omega), obs, ← hn, zp4 G, zei]
     by_cases hlt : (nxt D G r k).length < (G k).length
     · rw [dct (show ((nxt D G r k).length : Int) ≠ ((G k).length : Int) by omega), dct hlt]; simp
     · rw [dcf (show ¬ ((nxt D G r k).length : Int) ≠ ((G k).length : Int) by omega), dcf hlt]; simp
    | false =>
     have hn : nxt D G r k = r := by unfold nxt; rw [hd]; rfl
     rw [hn]; simp
  cases he : zi9 c R D G r k with
  | true => rw [he, ifp rfl] at hstep; exact ⟨_, hstep, _, _, _, rfl, q1 he, fun h => by cases h⟩
  | false => rw [he, ifn (by decide)] at hstep; exact ⟨_, hstep, _, _, _, rfl, q2 he, hbb⟩)
  (by
   rintro s ⟨D, G, b', rfl, h, hbb⟩
   refine ⟨_, ?_, D, G, b', rfl, h, hbb⟩; simp only [zf.r6, zf.b6]; rw [dcf (Int.lt_irrefl _)]; rfl) (N := N) (by omega) (s := ((c.zA.length : Int), zb4 c, (List.range c.zA.length).map R, (List.range c.zA.length).map D, (List.range c.zA.length).map G, b, (i : Int), r, zaw c i, 0, c)) ⟨D, G, b, rfl, h, id⟩
 exact ⟨D', G', b', hs, hq⟩
theorem z07 (N : Nat) (hN : 1048600 < N) (hc : CdV m c) {D0 : Nat → Bool} {G0 : Nat → List zB} (h : Inv m c R D0 G0) :
 ∃ D G b, zd (zf.r4 N) N ((c.zA.length : Int), zb4 c, (List.range c.zA.length).map R, (List.range c.zA.length).map D0, (List.range c.zA.length).map G0, false, 0, c) =
  some ((c.zA.length : Int), zb4 c, (List.range c.zA.length).map R, (List.range c.zA.length).map D, (List.range c.zA.length).map G, b, (c.zA.length : Int), c) ∧ Inv m c R D G ∧
  (b = false → (∀ k, k < c.zA.length → D k = D0 k ∧ G k = G0 k) ∧ ∀ i, i < c.zA.length → D0 i = true → Nok c R D0 G0 i) ∧ (b = true → mea D G c.zA.length < mea D0 G0 c.zA.length) := by
 have hl := hc.len
 obtain ⟨s, hs, D, G, b, rfl, h1, h2, h3⟩ := zfb (f := zf.r4 N) (fun i s => ∃ D G b, s = ((c.zA.length : Int), zb4 c, (List.range c.zA.length).map R, (List.range c.zA.length).map D, (List.range c.zA.length).map G, b, (i : Int), c) ∧ Inv m c R D G ∧
  (b = false → (∀ k, k < c.zA.length → D k = D0 k ∧ G k = G0 k) ∧ ∀ i', i' < i → D0 i' = true → Nok c R D0 G0 i') ∧ (b = true → mea D G c.zA.length < mea D0 G0 c.zA.length)) c.zA.length (by
  rintro i s hi ⟨D, G, b, rfl, h1, h2, h3⟩
  have hx := lge hi; have hD : ((List.range c.zA.length).map D)[i]? = some (D i) := zcg _ hi; have hG : ((List.range c.zA.length).map G)[i]? = some (G i) := zo4 _ hi; have hj1 : (i : Int) + 1 = ((i + 1 : Nat) : Int) := by omega
  cases hd : D i with
  | false =>
   refine ⟨_, ?_, D, G, b, rfl, h1, fun hb => ?_, h3⟩
   · simp only [zf.r4, zf.b4, itn, hD, hd, lnm, List.length_range]; rw [dct (by omega), ctr, ifp, ifp, w6e, hj1]; rfl
   · obtain ⟨q1, q2⟩ := h2 hb; refine ⟨q1, fun i' hi' hd' => ?_⟩
     by_cases e : i' = i
     · subst e; rw [← (q1 i' hi).1, hd] at hd'; cases hd'
     · exact q2 i' (by omega) hd'
  | true =>
   have hgl := zo5 hc h1 i; obtain ⟨r, hr1, hr2, hr3, hr4⟩ := z09 N (by omega) (hc.ins _ (List.getElem_mem hi)) (h1.ok i) (by omega); have g : Giv m c R i c.zA[i] (G i) r := z1m hc h1 hi hd hr2 (hr3 (h1.so i)); obtain ⟨D', G', b', e1, q, qb⟩ := z06 N hN hc (D0 := D0) (G0 := G0) hi g (D := D) (G := G) (b := b) ⟨h1, fun hb => (h2 hb).1, h3, fun t ht => by omega⟩; refine ⟨_, ?_, D', G', b', rfl, q.inv, fun hb => ?_, q.me⟩
   · simp only [zf.r4, zf.b4, itn, hD, hd, hG, zay, hx, lnm, List.length_range]; rw [dct (by omega), ctr, ifp, ifp]; simp only [obs, bnt, cfa]; rw [ifp, ifp]; simp only [hr1, obs, zym (show c.zA.length ≤ 1000000 by omega) hi, e1]; rw [w6e, hj1]
   · obtain ⟨q1, q2⟩ := h2 (qb hb); refine ⟨q.sa hb, fun i' hi' hd' => ?_⟩
     by_cases e : i' = i
     · subst e; intro x hx' k hk hf; rw [hx] at hx'; cases hx'; obtain ⟨t, ht⟩ := List.getElem?_of_mem hk; obtain ⟨b1, b2⟩ := q.b t (gei ht).1 k ht hf; obtain ⟨k', hk', hkl⟩ := zjv hc hk; obtain rfl : k = k' := by omega
       obtain ⟨s1, s2⟩ := q.sa hb k hkl; rw [← s1, ← s2, ← (q1 i' hi).2]; exact ⟨b1, fun f hf' => (g.mem f).1 (b2 f hf')⟩
     · exact q2 i' (by omega) hd')
  (by
   rintro s ⟨D, G, b, rfl, h1, h2, h3⟩
   refine ⟨_, ?_, D, G, b, rfl, h1, h2, h3⟩; simp only [zf.r4, zf.b4]; rw [dcf (Int.lt_irrefl _)]; rfl) (N := N) (by omega) (s := ((c.zA.length : Int), zb4 c, (List.range c.zA.length).map R, (List.range c.zA.length).map D0, (List.range c.zA.length).map G0, false, 0, c)) ⟨D0, G0, false, rfl, h, fun _ => ⟨fun k _ => ⟨rfl, rfl⟩, fun i' hi' => by omega⟩, fun h => by cases h⟩
 exact ⟨D, G, b, hs, h1, h2, h3⟩
theorem z08 (N : Nat) (hN : 1048600 < N) (hc : CdV m c) (G : List (List zB)) : zd (zf.r0 N) N ((c.zA.length : Int), zb4 c, (List.range c.zA.length).map R, (List.range c.zA.length).map (fun _ => false), G, 0, c) =
 some ((c.zA.length : Int), zb4 c, (List.range c.zA.length).map R, (List.range c.zA.length).map (fxB c R), G, (c.zA.length : Int), c) := by
 have hl := hc.len
 have hel : (zb4 c).length = c.zA.length := by simp [zb4]
 have := zex (f := zf.r0 N) (fun i => ((c.zA.length : Int), zb4 c, (List.range c.zA.length).map R, (List.range c.zA.length).map (fun k => decide (k < i) && fxB c R k), G, (i : Int), c)) c.zA.length (fun i hi => by
  have hent : (zb4 c)[i]? = some (zhc c i) := zcg _ hi; have hR : ((List.range c.zA.length).map R)[i]? = some (R i) := zcg _ hi; have hD : ((List.range c.zA.length).map (fun k => decide (k < i) && fxB c R k))[i]? = some (decide (i < i) && fxB c R i) := zcg _ hi; simp only [zf.r0, zf.b0, zay, hent, hel, hR, hD, obs, dct (show (i : Int) < (c.zA.length : Int) by omega), ctr, orB, itn, lnm, List.length_range, ifp (show 0 ≤ (i : Int) by omega), ifp (show (i : Int) < (c.zA.length : Int) by omega)]; rw [w6e, show (zhc c i || !R i) = fxB c R i from rfl, zjo]; have hj1 : (i : Int) + 1 = ((i + 1 : Nat) : Int) := by omega
  rw [hj1]
  congr 6
  apply zm5; intro k _
  by_cases e : k = i
  · subst e; rw [ifp rfl, dct (Nat.lt_succ_self k), Bool.true_and]
  · rw [ifn e]
    congr 1
    by_cases h : k < i
    · rw [dct h, dct (by omega)]
    · rw [dcf h, dcf (by omega)])
  (by simp only [zf.r0, zf.b0]; rw [dcf (Int.lt_irrefl _)]; rfl) (N := N) (by omega)
 have e0 : (fun k => decide (k < 0) && fxB c R k) = fun _ => false := by funext k; simp
 rw [e0] at this
 simp only [nc0] at this
 rw [this]
 congr 5
 apply zm5
 intro k hk
 rw [dct hk]
 rfl
theorem z05 (N : Nat) (hN : 1048600 < N) (hc : CdV m c) (G : Nat → List zB) : ∃ z, zd (zf.r8 N) N ((c.zA.length : Int), (List.range c.zA.length).map G, true, 0) = some ((c.zA.length : Int), (List.range c.zA.length).map G, ((List.range c.zA.length).map G).all (fun l => decide (l.length ≤ 60)), z) := by
 have hl := hc.len
 have := zex (f := zf.r8 N) (fun i => ((c.zA.length : Int), (List.range c.zA.length).map G, (((List.range c.zA.length).map G).take i).all (fun l => decide (l.length ≤ 60)), (i : Int))) c.zA.length (fun i hi => by
  have hG : ((List.range c.zA.length).map G)[i]? = some (G i) := zo4 _ hi; simp only [zf.r8, zf.b8, itn, hG, lnm, List.length_range, obs]; rw [dct (show (i : Int) < (c.zA.length : Int) by omega), ctr, ifp (show 0 ≤ (i : Int) by omega), ifp (show (i : Int) < (c.zA.length : Int) by omega), zjb, obs, w6e, List.take_add_one, hG, List.all_append]; have e : decide (((G i).length : Int) ≤ 60) = decide ((G i).length ≤ 60) := by
   by_cases h : (G i).length ≤ 60
   · rw [dct h, dct (by omega)]
   · rw [dcf h, dcf (by omega)]
  rw [e]; simp)
  (by simp only [zf.r8, zf.b8]; rw [dcf (Int.lt_irrefl _)]; rfl) (N := N) (by omega)
 simp only [nc0, List.take_zero, List.all_nil] at this
 rw [this, List.take_of_length_le (by simp)]
 exact ⟨_, rfl⟩
theorem z2m (N : Nat) (hN : 1048600 < N) (hc : CdV m c) (he : zm N c = some ((List.range c.zA.length).map R)) :
 ∃ D G, zf N c = some ((List.range c.zA.length).map G, ((List.range c.zA.length).map G).all fun l => decide (l.length ≤ 60)) ∧ Inv m c R D G ∧ Cl c R D G := by
 have hl := hc.len
 unfold zf
 rw [zt0 N hN hc, obs, he, obs, ifp, ifp, itn, zxr (by omega), ctr, ifp, ifp, z3q (by omega), ctr, zne, zvb _ ([] : List zB), z08 N hN hc]
 simp only [obs]
 have hm0 := zwz (D := fxB c R) (G := fun _ => []) (fun k => by simp) c.zA.length
 obtain ⟨s, hs, D, G, rfl, h1, h2⟩ := zp9 (f := zf.r2 N) (fun n s => ∃ D G b, s = ((c.zA.length : Int), zb4 c, (List.range c.zA.length).map R, (List.range c.zA.length).map D, (List.range c.zA.length).map G, b, c) ∧ Inv m c R D G ∧ (b = false → ∀ i, i < c.zA.length → D i = true → Nok c R D G i) ∧ n = cond b (mea D G c.zA.length + 1) 0)
  (fun s => ∃ D G, s = ((c.zA.length : Int), zb4 c, (List.range c.zA.length).map R, (List.range c.zA.length).map D, (List.range c.zA.length).map G, false, c) ∧ Inv m c R D G ∧ ∀ i, i < c.zA.length → D i = true → Nok c R D G i) (by
  rintro n s ⟨D, G, b, rfl, h1, h2, hn⟩
  cases b with
  | false => exact .inr ⟨_, rfl, D, G, rfl, h1, h2 rfl⟩
  | true =>
   obtain ⟨D', G', b', e1, q1, q2, q3⟩ := z07 N hN hc h1; refine .inl ⟨_, cond b' (mea D' G' c.zA.length + 1) 0, by simp only [zf.r2, zf.b2, ctr, e1, obs], ⟨D', G', b', rfl, q1, fun hb i hi hd => ?_, rfl⟩, ?_⟩
   · obtain ⟨s1, s2⟩ := q2 hb; intro x hx k hk hf; obtain ⟨k', hk', hkl⟩ := zjv hc hk; obtain rfl : k = k' := by omega
     rw [(s1 k hkl).1, (s1 k hkl).2, (s1 i hi).2]; exact s2 i hi (by rw [← (s1 i hi).1]; exact hd) x hx k hk hf
   · simp only [ctr] at hn; cases b' with
     | true => have := q3 rfl; simp only [ctr]; omega
     | false => simp only [cfa]; omega) N (mea (fxB c R) (fun _ => []) c.zA.length + 1) ((c.zA.length : Int), zb4 c, (List.range c.zA.length).map R, (List.range c.zA.length).map (fxB c R), (List.range c.zA.length).map (fun _ => ([] : List zB)), true, c)
   ⟨fxB c R, fun _ => [], true, rfl, zvh, (fun h => by cases h), rfl⟩ (by omega)
 rw [hs]
 simp only [obs]
 obtain ⟨z, hz⟩ := z05 N hN hc G
 rw [hz]
 exact ⟨D, G, rfl, h1, ⟨h1.fx, h2⟩⟩
variable {m : zI} {c : zF}
theorem zz7 (N : Nat) (hN : 1048600 < N) (hc : CdV m c) : ∃ G : Nat → List zB, ze N c = some ((List.range c.zA.length).map G) ∧
 zf N c = some ((List.range c.zA.length).map G, ((List.range c.zA.length).map G).all fun l => decide (l.length ≤ 60)) ∧ (∀ k, zez (G k) ∧ (G k).length ≤ 3840 ∧ ∀ f ∈ G k, FctV m c f) ∧
 ∃ R D, (∀ k, k < c.zA.length → (R k = true ↔ Rch c k)) ∧ Inv m c R D G ∧ Cl c R D G := by
 obtain ⟨p, p1, p2, p3⟩ := z2a N hN hc
 obtain ⟨q, q1, q2, q3⟩ := z2k N hN hc
 have e : (List.range c.zA.length).map q = (List.range c.zA.length).map p := zm5 fun k hk => (zzt hc p2 p3 q2 q3 k hk).symm
 rw [e] at q1
 obtain ⟨D, G, h1, h2, h3⟩ := z2c N hN hc p2 p1
 obtain ⟨D', G', g1, g2, g3⟩ := z2m N hN hc q1
 have eg : (List.range c.zA.length).map G' = (List.range c.zA.length).map G := List.map_congr_left fun k hk => ((zz0 hc h2 h3 g2 g3 k (by simpa using hk)).2).symm
 rw [eg] at g1
 exact ⟨G, h1, g1, fun k => ⟨h2.so k, zo5 hc h2 k, h2.ok k⟩, p, D, fun k hk => ⟨p2 k hk, p3 k⟩, h2, h3⟩
theorem z3t (N : Nat) (F : List (List zB)) (h : F.length < N) (hl : F.length < 1000000000) : zbn N F = some (F.any fun l => decide (60 < l.length)) := by
 unfold zbn zu
 have := zup (f := zu.r0 N) F (fun l => decide (60 < l.length)) (fun i => (F, (F.length : Int), (i : Int))) (fun i y hy => by
  have hi := (gei hy).1; simp only [zu.r0, zu.b0, zfd, zay, hy, obs, dct (show (i : Int) < (F.length : Int) by omega), ctr]; rw [w6e]
  by_cases h : 60 < y.length
  · rw [dct (show (y.length : Int) > 60 by omega), dct h]; rfl
  · rw [dcf (show ¬ (y.length : Int) > 60 by omega), dcf h]; rfl)
  (by simp only [zu.r0, zu.b0, dcf (show ¬ (F.length : Int) < (F.length : Int) by omega), cfa]) h
 simp only [nc0] at this
 rw [this]
 have e := zsj F (fun l => decide (60 < l.length))
 cases hf : F.findIdx? (fun l => decide (60 < l.length)) with
 | none => rw [hf] at e; rw [← e]; simp [zbd]
 | some k => rw [hf] at e; rw [← e]; simp [zbd]
theorem z47 (F : List (List zB)) : (F.any fun l => decide (60 < l.length)) = !(F.all fun l => decide (l.length ≤ 60)) := by
 rw [List.not_all_eq_any_not]
 congr 1
 funext l
 by_cases h : 60 < l.length
 · rw [dct h, dcf (by omega)]; rfl
 · rw [dcf h, dct (by omega)]; rfl
theorem zx1 (N : Nat) (F : List (List zB)) {j : Nat} {l : List zB} (hj : F[j]? = some l) (hl : l.length ≤ 100000) (hN : 1000000 < N) : zaa (zaf.r2 N) N (F, F, (j : Int), 0) = some (.inr (F, F, (j : Int), (l.length : Int))) := by
 have := zdq (f := zaf.r2 N) (fun i => (F, F, (j : Int), (i : Int))) (fun _ => none) l.length (fun i hi => by
  have hx := lge hi; simp only [zaf.r2, zaf.b2, zay, hj, hx, obs, dct (show (i : Int) < (l.length : Int) by omega), ctr, zrh, zmm.2 rfl, bnt, cfa]; rw [w6e]; rfl)
  (by simp only [zaf.r2, zaf.b2, zay, hj, obs, dcf (Int.lt_irrefl _), cfa]) (show l.length < N by omega)
 simp only [nc0] at this
 rw [this]
 have : (List.range l.length).findSome? (fun _ => (none : Option Bool)) = none := by simp
 rw [this]
theorem zzk (N : Nat) (hN : 1000000 < N) (F : List (List zB)) (h : F.length ≤ 1000) (hl : ∀ l ∈ F, l.length ≤ 100000) : zaf N F F = some true := by
 unfold zaf
 rw [bsf, cfa]
 have := zdq (f := zaf.r0 N) (fun i => (F, F, (i : Int))) (fun _ => none) F.length (fun i hi => by
  have hx := lge hi; have hlen := hl _ (lmg hx); simp only [zaf.r0, zaf.b0, zay, hx, obs, dct (show (i : Int) < (F.length : Int) by omega), ctr, bsf, cfa, zx1 N F hx hlen hN, zbd]; rw [w6e]; rfl)
  (by simp only [zaf.r0, zaf.b0, dcf (Int.lt_irrefl _), cfa]) (show F.length < N by omega)
 simp only [nc0] at this
 rw [this]
 have : (List.range F.length).findSome? (fun _ => (none : Option Bool)) = none := by simp
 rw [this]
 rfl
theorem zzd (N : Nat) (hN : 1048600 < N) (m : zI) {c : zF} (hc : Wft En 1048576 Ty.zF c) : ∃ n e, zl N m c = some (n, e) ∧ zx N m c = some (n, e) ∧
 (e ≠ 0 → zcp N m c = some ([], e)) ∧ (e = 0 → CdV m c ∧ ∃ G : Nat → List zB, zcp N m c = some (if ((List.range c.zA.length).map G).all (fun l => decide (l.length ≤ 60)) = true then ((List.range c.zA.length).map G, 0) else ([], 2)) ∧
  zf N c = some ((List.range c.zA.length).map G, ((List.range c.zA.length).map G).all fun l => decide (l.length ≤ 60)) ∧ (∀ k, zez (G k) ∧ (G k).length ≤ 3840 ∧ ∀ f ∈ G k, FctV m c f) ∧ ze N c = some ((List.range c.zA.length).map G) ∧
  ∃ R D, (∀ k, k < c.zA.length → (R k = true ↔ Rch c k)) ∧ Inv m c R D G ∧ Cl c R D G) := by
 obtain ⟨⟨n, e⟩, h1, h2⟩ := z1v N hN m hc
 refine ⟨n, e, h1, h2, fun he => ?_, fun he => ?_⟩
 · unfold zcp zfi; rw [h1, obs, obs, show (e != 0) = true by simpa using he]; rfl
 · subst he; obtain ⟨hcv, _⟩ := z56 N hN hc h2; have hil := hcv.len; obtain ⟨G, g1, g2, g3, g4⟩ := zz7 N hN hcv; refine ⟨hcv, G, ?_, g2, g3, g1, g4⟩; unfold zcp zfi; rw [h1, obs, obs, bsf, cfa, g1, obs, z3t N _ (by simp; omega) (by simp; omega), obs, z47]; cases ((List.range c.zA.length).map G).all fun l => decide (l.length ≤ 60) <;> rfl
theorem plainTranslateFacts : zft := by
 intro m c hm hc
 refine ⟨2000000, ?_⟩
 obtain ⟨b, hb⟩ := z1o 2000000 (by decide) hc
 obtain ⟨n, e, h1, h2, h3, h4⟩ := zzd 2000000 (by decide) m hc
 unfold zeh
 rw [z44]
 simp only [obs, bnt, cfa]
 rw [hb]
 cases b with
 | false => rfl
 | true =>
  simp only [obs, bnt, cfa]; rw [z2t hc, obs]; unfold ziv; rw [h2]
  by_cases he : e = 0
  · obtain ⟨hcv, G, g1, g2, g3, _⟩ := h4 he; have hil := hcv.len; subst he; rw [g1, g2]; cases ha : ((List.range c.zA.length).map G).all fun l => decide (l.length ≤ 60) with
    | false => rfl
    | true =>
     have hs := zzk 2000000 (by decide) ((List.range c.zA.length).map G) (by simp; omega) (fun l hl => by
      obtain ⟨k, _, rfl⟩ := List.mem_map.1 hl; have := (g3 k).2.1; omega)
     simp only [obs, if_true, bsf, cfa, bnt, bst, ctr]; rw [hs]; rfl
  · rw [h3 he]; simp only [obs]; rw [show (e != 0) = true by simpa using he]; simp
end
end Go.Proofs.YtblgefddnnlniaaGreatDoor.M
namespace Go.Proofs.YtblgefddnnlniaaGreatDoor
theorem translateFacts_card : Rows.TranslateFactsUptoCardSaid := M.cardTranslateFacts M.plainTranslateFacts
#print axioms translateFacts_card
end Go.Proofs.YtblgefddnnlniaaGreatDoor
