/- A machine that evaluates the program's form by typed values, and the proof that it is sound: part 3. -/
import Derived.Lib.LaidTab
import Derived.Laws.Externs
import Derived.Sort.Grow
import Derived.WalkSmall
import Derived.ChangeReads
import Derived.ChangeSame
import Derived.Below
import Derived.Lib.LaidU8
import Derived.ChangeShapes
import Derived.OpenShut
import Derived.Test.YtmifhmfokbigiaaGreatDoorA2
namespace Go.Amx
set_option linter.unusedVariables false
set_option linter.unusedSimpArgs false
section
variable {U : Uni} {C : Ctx U} {μ : Mp} {H : Fz} {E : List (AV U)} {h h' : za U} {a : Act} {w : World} {o : Oper} {v : AV U}
theorem zlt (E : List (AV U)) (i : Nat) (v : AV U) (t : Nat) : (E.set i v).getD t .dead = if i = t ∧ t < E.length then v else E.getD t .dead := by
 have := zhg E (some i) v t
 simpa [zc4] using this
def z58 : SlotM U → Nat → Prop
 | .ptr k _, k' => k' = k
 | .fn _ ks, k' => k' ∈ ks
 | _, _ => False
theorem zli {p : Nat × SlotM U} {l : List (Nat × SlotM U)} {k : Nat} (hk : k ∈ zhl E l) : k ∈ zhl E (p :: l) := by
 obtain ⟨i, m⟩ := p
 cases m <;> simp only [zhl]
 · exact mra _ hk
 all_goals exact hk
theorem zkg : ∀ (l : List (Nat × SlotM U)) (r : List (Dyn U) × List Nat), zdk C E h l = some r → ∀ n rest q, zet C n l (r.1 ++ rest) = some q → q.1.length = n ∧ q.2.2 = rest
 | [], r, hd, n, rest, q, he => by
  cases hd; cases he; simp
 | (i, .val t) :: l, r, hd, n, rest, q, he => by
  simp only [zdk, oba] at hd; obtain ⟨x, h1, r', h2, hd⟩ := hd; cases hd; simp only [zet, List.cons_append, oba] at he; obtain ⟨x', h3, q', h4, he⟩ := he; cases he; obtain ⟨g1, g2⟩ := zkg l r' h2 n rest q' h4; exact ⟨by simp [g1], g2⟩
 | (i, .ptr k off) :: l, r, hd, n, rest, q, he => by
  simp only [zdk] at hd; split at hd
  · obtain ⟨_, h2⟩ := zdb hd; simp only [zet, oba] at he; obtain ⟨q', h4, he⟩ := he; cases he; obtain ⟨g1, g2⟩ := zkg l r h2 n rest q' h4; exact ⟨by simp [g1], g2⟩
  · cases hd
 | (i, .own k t) :: l, r, hd, n, rest, q, he => by
  simp only [zdk] at hd; have key : ∀ (d : Dyn U) (r' : List (Dyn U) × List Nat), zdk C E h l = some r' → r.1 = d :: r'.1 → q.1.length = n ∧ q.2.2 = rest := by
   intro d r' h2 h3; rw [h3] at he; simp only [zet, List.cons_append, oba] at he; obtain ⟨x', h3, q', h4, he⟩ := he; cases he; obtain ⟨g1, g2⟩ := zkg l r' h2 n rest q' h4; exact ⟨by simp [g1], g2⟩
  split at hd
  · split at hd
    · split at hd
      · obtain ⟨_, h2⟩ := zdb hd; rw [oba] at h2; obtain ⟨r', h2, h3⟩ := h2; cases h3; exact key _ r' h2 rfl
      · cases hd
    · cases hd
  · rw [oba] at hd; obtain ⟨r', h2, h3⟩ := hd; cases h3; exact key _ r' h2 rfl
  · cases hd
 | (i, .same j) :: l, r, hd, n, rest, q, he => by
  simp only [zdk] at hd; have key : zdk C E h l = some r → q.1.length = n ∧ q.2.2 = rest := by
   intro h2; simp only [zet, oba] at he; obtain ⟨q', h4, he⟩ := he; cases he; obtain ⟨g1, g2⟩ := zkg l r h2 n rest q' h4; exact ⟨by simp [g1], g2⟩
  split at hd
  · exact key (zdb hd).2
  · exact key hd
  · cases hd
 | (i, .fn f ks) :: l, r, hd, n, rest, q, he => by
  simp only [zdk] at hd; split at hd
  · obtain ⟨_, h2⟩ := zdb hd; simp only [zet, oba] at he; obtain ⟨q', h4, he⟩ := he; cases he; obtain ⟨g1, g2⟩ := zkg l r h2 n rest q' h4; exact ⟨by simp [g1], g2⟩
  · cases hd
theorem zacw {caps : List (AV U)} {ks : List Nat} (hl : caps.length = ks.length) (hz : ((caps.zip ks).all fun (p : AV U × Nat) => match p.1 with | .ptr k 0 => Nat.beq k p.2 | _ => false) = true) : caps = ks.map fun k => .ptr k 0 := by
 induction caps generalizing ks with
 | nil => cases ks with
  | nil => rfl
  | cons => simp at hl
 | cons c caps ih => cases ks with
  | nil => simp at hl
  | cons k ks =>
   simp only [List.zip_cons_cons, List.all_cons, baa] at hz; rw [List.map_cons, ← ih (by simpa using hl) hz.2]; have h1 := hz.1; cases c with
   | ptr k' off =>
    cases off with
    | zero =>
     have := Nat.eq_of_beq_eq_true h1; rw [this]
    | succ => cases h1
   | _ => cases h1
theorem zjs (L : ELaws C.En) (s : St C μ H E h a w) (bs : List Nat) : ∀ (l : List (Nat × SlotM U)) (r : List (Dyn U) × List Nat), zdk C E h l = some r → ∀ n rest (q : List (AV U) × za U × List (Dyn U)), zet C n l (r.1 ++ rest) = some q → (∀ k ∈ zhl E l, k ∈ bs) →
 ∃ ml ss, zm1 μ ml ss ∧ ss.filterMap id = r.2 ∧ (∀ k ∈ r.2, ∃ ver t xs, zc h k = some (.arr ver t xs)) ∧ (∀ q ∈ ml, q.2.box = false) ∧ ml.map (·.1) = q.2.1.map (·.1) ∧
  ∀ μ1, zgx μ1 ml → (∀ p ∈ l, ∀ k lc, z58 p.2 k → μ k = some lc → lc.box = true → μ1 k = some lc) → zj1 C.En μ1 (zb3 μ H w bs) w ml q.2.1 ∧ ∀ t u, V C.En μ H (E.getD t .dead) u → V C.En μ1 (zb3 μ H w bs) (q.1.getD t .dead) u
 | [], r, hd, n, rest, q, he, hb => by
  cases hd; cases he; refine ⟨[], [], .nil, rfl, (fun k hk => by simp at hk), (fun q hq => by simp at hq), rfl, fun μ1 _ _ => ⟨.nil, fun t u _ => ?_⟩⟩; have : ((List.replicate n (.dead : AV U)).getD t .dead) = .dead := by
   rw [gda, List.getElem?_replicate]; split <;> rfl
  show V C.En μ1 _ ((List.replicate n (.dead : AV U)).getD t .dead) u; rw [this]; exact .dead _
 | (i, .val t) :: l, r, hd, n, rest, q, he, hb => by
  simp only [zdk, oba] at hd; obtain ⟨x, h1, r', h2, hd⟩ := hd; cases hd; simp only [zet, List.cons_append, oba] at he; obtain ⟨x', h3, q', h4, he⟩ := he; cases he; have hx := zo6 h3; subst hx; obtain ⟨ml, ss, g1, g2, g3, g4, g6, g5⟩ := zjs L s bs l r' h2 n rest q' h4 (fun k hk => hb k (zli hk)); refine ⟨ml, ss, g1, g2, g3, g4, g6, fun μ1 hw hk => ?_⟩; obtain ⟨p1, p2⟩ := g5 μ1 hw (fun p hp => hk p (mca _ hp)); refine ⟨p1, fun t' u hV => ?_⟩; simp only; rw [zlt]; split
  · rename_i e; obtain ⟨e, _⟩ := e; subst e; exact zte L s.sim.toMem h1 hV (fun k hk => ⟨hb k (by rw [zhl]; exact mla _ hk), fun lc hlc => s.sim.obj k lc hlc⟩) μ1
  · exact p2 t' u hV
 | (i, .ptr k off) :: l, r, hd, n, rest, q, he, hb => by
  simp only [zdk] at hd; split at hd
  · rename_i k' off' hE; obtain ⟨hk0, h2⟩ := zdb hd; simp only [baa, zbw, decide_eq_true_eq] at hk0; obtain ⟨rfl, rfl⟩ := hk0; simp only [zet, oba] at he; obtain ⟨q', h4, he⟩ := he; cases he; obtain ⟨ml, ss, g1, g2, g3, g4, g6, g5⟩ := zjs L s bs l r h2 n rest q' h4 (fun k hk => hb k (zli hk)); refine ⟨ml, ss, g1, g2, g3, g4, g6, fun μ1 hw hk => ?_⟩; obtain ⟨p1, p2⟩ := g5 μ1 hw (fun p hp => hk p (mca _ hp)); refine ⟨p1, fun t' u hV => ?_⟩; simp only; rw [zlt]; split
    · rename_i e; obtain ⟨e, _⟩ := e; subst e; rw [hE] at hV; cases hV with
      | ptr hl hbx ha => exact .ptr (hk _ msa k _ rfl hl hbx) hbx ha
    · exact p2 t' u hV
  · cases hd
 | (i, .own k t) :: l, r, hd, n, rest, q, he, hb => by
  simp only [zdk] at hd; have hb' : ∀ k ∈ zhl E l, k ∈ bs := fun k hk => hb k (zli hk); split at hd
  · rename_i k' ver ww hE; split at hd
    · rename_i ver' t' xs hg; split at hd
      · rename_i eq heq; obtain ⟨hv0, h2⟩ := zdb hd; simp only [zbw, decide_eq_true_eq] at hv0; subst hv0; obtain ⟨eq⟩ := eq; subst eq; rw [oba] at h2; obtain ⟨r', h2, h3⟩ := h2; cases h3; simp only [zet, List.cons_append, oba] at he; obtain ⟨x', h3, q', h4, he⟩ := he; cases he; have hx := zo6 h3; subst hx; rw [L.ofTo, zr9]; obtain ⟨ml, ss, g1, g2, g3, g4, g6, g5⟩ := zjs L s bs l r' h2 n rest q' h4 hb'; have hV0 := s.env i; rw [hE] at hV0; cases hV0 with
        | own hl hbx hv hpp hh =>
         rename_i lk; obtain ⟨ob, r1, r2⟩ := s.sim.obj k' lk hl; rw [hg] at r1; cases r1; have hown := hh r2.2.1.symm; refine ⟨(k, zn6 lk ww) :: ml, some k' :: ss, .cons (fun b o hh => ⟨k', lk, rfl, hl, hbx, zxi hh⟩) g1, by simp [g2], fun k2 hk2 => ?_, fun p hp => ?_, by simp [g6], fun μ1 hw hk => ?_⟩
         · rcases mco hk2 with rfl | hk2
           · exact ⟨_, _, _, hg⟩
           · exact g3 k2 hk2
         · rcases mco hp with rfl | hp
           · rfl
           · exact g4 p hp
         · obtain ⟨p1, p2⟩ := g5 μ1 (fun p hp => hw p (mca _ hp)) (fun p hp => hk p (mca _ hp)); refine ⟨.cons ⟨rfl, zxg L (zf9 s.sim.toMem bs) r2 hown⟩ p1, fun t' u hV => ?_⟩; simp only; rw [zlt]; split
           · rename_i e; obtain ⟨e, _⟩ := e; subst e; rw [hE] at hV; cases hV with
             | own hl2 hb2 hv2 hp2 hh2 =>
              rw [hl] at hl2; cases hl2; exact .own (hw _ msa) rfl (Nat.le_refl _) hp2 fun _ => z05 (hh2 r2.2.1.symm)
           · exact p2 t' u hV
      · cases hd
    · cases hd
  · rename_i hE; rw [oba] at hd; obtain ⟨r', h2, h3⟩ := hd; cases h3; simp only [zet, List.cons_append, oba] at he; obtain ⟨x', h3, q', h4, he⟩ := he; cases he; have hx := zo6 h3; subst hx; rw [L.ofTo]; obtain ⟨ml, ss, g1, g2, g3, g4, g6, g5⟩ := zjs L s bs l r' h2 n rest q' h4 hb'; refine ⟨(k, ⟨false, none, 0, 0, C.En.sz t, 0⟩) :: ml, none :: ss, .cons (fun b o ⟨o0, h1, _⟩ => by cases h1) g1, by simp [g2], g3, fun p hp => ?_, by simp [g6], fun μ1 hw hk => ?_⟩
    · rcases mco hp with rfl | hp
      · rfl
      · exact g4 p hp
    · obtain ⟨p1, p2⟩ := g5 μ1 (fun p hp => hw p (mca _ hp)) (fun p hp => hk p (mca _ hp)); refine ⟨.cons ⟨rfl, rfl, rfl, rfl, rfl, rfl, rfl⟩ p1, fun t' u hV => ?_⟩; simp only; rw [zlt]; split
      · rename_i e; obtain ⟨e, _⟩ := e; subst e; rw [hE] at hV; have hu := hV.int; exact .own (hw _ msa) rfl (Nat.le_refl _) ⟨_, _, _, hu⟩ fun _ => ⟨Nat.le_refl _, hu, rfl⟩
      · exact p2 t' u hV
  · cases hd
 | (i, .same j) :: l, r, hd, n, rest, q, he, hb => by
  simp only [zdk] at hd; have key : zdk C E h l = some r → E.getD i .dead = E.getD j .dead → ∃ ml ss, zm1 μ ml ss ∧ ss.filterMap id = r.2 ∧ (∀ k ∈ r.2, ∃ ver t xs, zc h k = some (.arr ver t xs)) ∧ (∀ q ∈ ml, q.2.box = false) ∧ ml.map (·.1) = q.2.1.map (·.1) ∧
   ∀ μ1, zgx μ1 ml → (∀ p ∈ (i, SlotM.same j) :: l, ∀ k lc, z58 p.2 k → μ k = some lc → lc.box = true → μ1 k = some lc) → zj1 C.En μ1 (zb3 μ H w bs) w ml q.2.1 ∧ ∀ t u, V C.En μ H (E.getD t .dead) u → V C.En μ1 (zb3 μ H w bs) (q.1.getD t .dead) u := by
   intro h2 hij; simp only [zet, oba] at he; obtain ⟨q', h4, he⟩ := he; cases he; obtain ⟨ml, ss, g1, g2, g3, g4, g6, g5⟩ := zjs L s bs l r h2 n rest q' h4 (fun k hk => hb k (zli hk)); refine ⟨ml, ss, g1, g2, g3, g4, g6, fun μ1 hw hk => ?_⟩; obtain ⟨p1, p2⟩ := g5 μ1 hw (fun p hp => hk p (mca _ hp)); refine ⟨p1, fun t' u hV => ?_⟩; simp only; rw [zlt]; split
   · rename_i e; obtain ⟨e, _⟩ := e; subst e; rw [hij] at hV; exact p2 j u hV
   · exact p2 t' u hV
  split at hd
  · rename_i h1 h2; obtain ⟨h3, h4⟩ := zdb hd; simp only [baa, zbw, decide_eq_true_eq] at h3; obtain ⟨rfl, rfl⟩ := h3; exact key h4 (h1.trans h2.symm)
  · rename_i h1 h2; exact key hd (h1.trans h2.symm)
  · cases hd
 | (i, .fn f ks) :: l, r, hd, n, rest, q, he, hb => by
  simp only [zdk] at hd; split at hd
  · rename_i g caps hE; obtain ⟨hk0, h2⟩ := zdb hd; obtain ⟨hk1, hz⟩ := (baa _ _).mp hk0; simp only [baa, zbw, decide_eq_true_eq] at hk1; obtain ⟨rfl, hlen⟩ := hk1; have hcaps := zacw hlen hz; simp only [zet, oba] at he; obtain ⟨q', h4, he⟩ := he; cases he; obtain ⟨ml, ss, g1, g2, g3, g4, g6, g5⟩ := zjs L s bs l r h2 n rest q' h4 (fun k hk => hb k (zli hk)); refine ⟨ml, ss, g1, g2, g3, g4, g6, fun μ1 hw hk => ?_⟩; obtain ⟨p1, p2⟩ := g5 μ1 hw (fun p hp => hk p (mca _ hp)); refine ⟨p1, fun t' u hV => ?_⟩; simp only; rw [zlt]; split
    · rename_i e; obtain ⟨e, _⟩ := e; subst e; rw [hE, hcaps] at hV; cases hV with
      | fn hn hv =>
       refine .fn hn fun j c hj => ?_; have hc := hv j c hj; rw [gem, oma] at hj; obtain ⟨k, hkj, rfl⟩ := hj; generalize hu : Array.getD _ _ _ = u' at hc ⊢; cases hc with
       | ptr hl hbx ha => exact .ptr (hk _ msa k _ (lma hkj) hl hbx) hbx ha
    · exact p2 t' u hV
  · cases hd
end
section
variable {U : Uni} {C : Ctx U} {μ : Mp} {H : Fz} {E : List (AV U)} {h h' : za U} {a : Act} {w : World} {o : Oper} {v : AV U}
def zh8 (C : Ctx U) (base : Nat → Nat) : List (Nat × U.Ty × List Nat) → List (Dyn U) → Option (za U)
 | [], [] => some []
 | (k, t, owns) :: l, d :: ds => (d.as t).bind fun x => match zhj (base k) owns 0 (C.En.enc t x) with
  | some r => (zh8 C base l ds).bind fun h => some ((k, .box r.1) :: (r.2 ++ h))
  | none => none
 | _, _ => none
theorem zxo : ∀ (l : List (Nat × U.Ty × List Nat)) (ds : List (Dyn U)), zun C l ds = zh8 C (fun k => 4000000 + 1000 * k) l ds
 | [], [] => rfl
 | [], _ :: _ => rfl
 | _ :: _, [] => rfl
 | (k, t, owns) :: l, d :: ds => by
  simp only [zun, zh8, zxo l ds]
  congr 1
theorem zsn (L : ELaws C.En) (s : St C μ H E h a w) (bs : List Nat) (base : Nat → Nat) : ∀ (l : List (Nat × U.Ty × List Nat)) (r : List (Dyn U) × List Nat), zo3 C h l = some r → ∀ hs, zh8 C base l r.1 = some hs →
 (∀ k ∈ zlc h l, (∃ lc, μ k = some lc ∧ lc.box = false) → k ∈ bs) →
 ∃ ml ss hs' kb ka, zm1 μ ml ss ∧ List.Perm (ss.filterMap id) (kb ++ ka) ∧ kb.Sublist (l.map (·.1)) ∧ ka.Sublist r.2 ∧ (∀ k ∈ kb, ∃ cs, zc h k = some (.box cs)) ∧ (∀ k ∈ r.2, ∃ ver t xs, zc h k = some (.arr ver t xs)) ∧
  hs'.Sublist hs ∧ (l.map (·.1)).Sublist (hs.map (·.1)) ∧ (∀ p ∈ l, ∀ lc, μ p.1 = some lc → (p.1, lc) ∈ ml) ∧ (∀ q ∈ ml, q.2.box = true → μ q.1 = some q.2) ∧
  ml.map (·.1) = hs'.map (·.1) ∧ ((∀ p ∈ l, μ p.1 ≠ none) → hs' = hs) ∧ ∀ μ1, zgx μ1 ml → zj1 C.En μ1 (zb3 μ H w bs) w ml hs'
 | [], r, hd, hs, he, hb => by
  cases hd; cases he; exact ⟨[], [], [], [], [], .nil, .nil, .slnil, .slnil, (fun k hk => by simp at hk), (fun k hk => by simp at hk), .slnil, .slnil, (fun p hp => by simp at hp), (fun p hp => by simp at hp), rfl, (fun _ => rfl), fun μ1 _ => .nil⟩
 | (k, t, owns) :: l, r, hd, hs, he, hb => by
  simp only [zo3] at hd; split at hd
  · rename_i cs hg; rw [oba] at hd; obtain ⟨x, h1, hd⟩ := hd; split at hd
    · rename_i ks hk; rw [oba] at hd; obtain ⟨r', h2, hd⟩ := hd; cases hd; simp only [zh8, oba] at he; obtain ⟨x', h3, he⟩ := he; have hx := zo6 h3; subst hx; split at he
      · rename_i oz hoz; rw [oba] at he; obtain ⟨hs0, h4, he⟩ := he; cases he; obtain ⟨oz1, oz2⟩ := oz; have hbk : ∀ k' ∈ zfq owns 0 cs, (∃ lc, μ k' = some lc ∧ lc.box = false) → k' ∈ bs := fun k' hk' => hb k' (by simp only [zlc, hg]; exact mla _ hk'); obtain ⟨ml, ss, hs', kb, ka, g1, g2, g3, g4, g5, g6, g7, g7', g8, g9, g9', g11, g10⟩ := zsn L s bs base l r' h2 hs0 h4 (fun k' hk' => hb k' (by simp only [zlc, hg]; exact mra _ hk')); have hks : ∀ k' ∈ ks ++ r'.2, ∃ ver t xs, zc h k' = some (.arr ver t xs) := fun k' hk' => by
         rcases mpa hk' with hk' | hk'
         · exact (zjv cs 0 ks hk).1 k' hk'
         · exact g6 k' hk'
        have hsub : (l.map (·.1)).Sublist ((oz2 ++ hs0).map (·.1)) := by
         rw [List.map_append]; exact g7'.trans (List.sublist_append_right _ _)
        cases hq : μ k with
        | none =>
         refine ⟨ml, ss, hs', kb, ka, g1, g2, g3.trans (List.sublist_cons_self _ _), g4.trans (List.sublist_append_right _ _), g5, hks, (g7.trans (List.sublist_append_right _ _)).trans (List.sublist_cons_self _ _), .cons_cons _ hsub, fun p hp lc hlc => ?_, g9, g9', (fun hh => absurd hq (hh _ msa)), g10⟩; rcases mco hp with rfl | hp
         · rw [hq] at hlc; cases hlc
         · exact g8 p hp lc hlc
        | some lc =>
         obtain ⟨ob, r1, r2⟩ := s.sim.obj k lc hq; rw [hg] at r1; cases r1; have r2' := r2; obtain ⟨q1, q2, b, o', q3, q4, q5⟩ := r2'; have hle : 0 + cs.length ≤ cs.length := by omega
         have hcl := zwe (k := k) L r2 q3 hle; simp only [List.drop_zero, List.take_length, Nat.add_zero] at hcl; obtain ⟨hel, href⟩ := L.reify _ _ _ h1; rw [List.length_map] at hel; have hm := s.sim.toMem; have hmem : ∀ k' ver ww (j : Nat), cs[j]? = some (.own k' ver ww) → (owns.contains (0 + j) = false → k' ∈ bs) ∧ zlg C μ H h w k' := by
          intro k' ver ww j hj; refine ⟨fun hcj => hbk k' (zoe _ _ _ hj hcj) ?_, fun lc' hlc' => s.sim.obj k' lc' hlc'⟩; have hv := (hcl j _ hj).1; generalize (w.cell? ⟨b, o' + j, none⟩).getD undef = u at hv; cases hv with
          | own hl hb0 _ _ _ => exact ⟨_, hl, hb0⟩
         obtain ⟨ml1, ss1, f1, f2, f3, f5, f6, f4⟩ := zpk L (zf9 hm bs) (base k) owns cs 0 (C.En.enc t x') oz1 oz2 ks (fun j => (w.cell? ⟨b, o' + j, none⟩).getD undef)
          (fun j c hj => (hcl j c hj).1) (fun k' ver ww hm' => by obtain ⟨j, hj⟩ := List.getElem?_of_mem hm'; exact (hmem k' ver ww j hj).2) (by rw [hel, L.sz])
          (fun j c c2 hj hj2 => ⟨href j _ c2 (by rw [gem, hj]; rfl) hj2, L.fz _ _ _ (lma hj2)⟩)
          (fun j c hj hcj => by
           have hjl := (gea hj).1; have hj2 : j < (C.En.enc t x').length := by rw [L.sz]; omega
           exact zrw L hm (hcl j c hj).1 (fun k' ver ww e => by subst e; exact ⟨(hmem k' ver ww j hj).1 hcj, (hmem k' ver ww j hj).2⟩) (href j _ _ (by rw [gem, hj]; rfl) (lga hj2)) (L.fz _ _ _ (List.getElem_mem hj2)) zh6) hk hoz
         refine ⟨(k, lc) :: (ml1 ++ ml), some k :: (ss1 ++ ss), (k, .box oz1) :: (oz2 ++ hs'), k :: kb, ks ++ ka, .cons (fun b2 o2 hh => ⟨k, lc, rfl, hq, rfl, hh⟩) (f1.append g1), ?_, .cons_cons _ g3, .append (List.Sublist.refl _) g4, fun k' hk' => ?_, hks, .cons_cons _ (.append (List.Sublist.refl _) g7), .cons_cons _ hsub, fun p hp lc' hlc' => ?_, fun p hp hpb => ?_, by simp [f6, g9'], (fun hh => by rw [g11 fun p hp => hh p (mca _ hp)]), fun μ1 hw => ?_⟩
         · simp only [List.filterMap_cons, id_eq, List.filterMap_append, f2, List.cons_append]; refine List.Perm.cons _ ?_; refine (List.Perm.append_left ks g2).trans ?_; rw [← List.append_assoc, ← List.append_assoc]; exact List.Perm.append_right _ List.perm_append_comm
         · rcases mco hk' with rfl | hk'
           · exact ⟨cs, hg⟩
           · exact g5 k' hk'
         · rcases mco hp with rfl | hp
           · rw [hq] at hlc'; cases hlc'; exact msa
           · exact mca _ (mra _ (g8 p hp lc' hlc'))
         · rcases mco hp with rfl | hp
           · exact hq
           · rcases mpa hp with hp | hp
             · rw [f5 p hp] at hpb; cases hpb
             · exact g9 p hp hpb
         · obtain ⟨p1, p2⟩ := f4 μ1 (fun p hp => hw p (mca _ (mla _ hp))); have p3 := g10 μ1 (fun p hp => hw p (mca _ (mra _ hp))); refine .cons ⟨rfl, q1, q2, b, o', q3, by rw [f3]; exact q4, fun j c' hj => ?_⟩ (p1.append p3); have hjl := (gea hj).1; rw [f3] at hjl; obtain ⟨_, t2, t3⟩ := hcl j _ (lga hjl); obtain ⟨cv, t4⟩ := Option.isSome_iff_exists.1 t2; have := p2 j c' hj; rw [t4] at this; exact ⟨cv, t4, t3, this⟩
      · cases he
    · cases hd
  · cases hd
end
section
variable {U : Uni} {C : Ctx U} {μ : Mp} {H : Fz} {E : List (AV U)} {h h' : za U} {a : Act} {w : World} {o : Oper} {v : AV U}
theorem V.owns {En : Enc U} {μ : Mp} {H : Fz} {av : AV U} {v : Value} (h : V En μ H av v) {k : Nat} (hk : k ∈ zfb av) : ∃ lc, μ k = some lc ∧ lc.box = false := by
 have one : ∀ {k' ver : Nat} {ww : zac} {u : Value}, V En μ H (.own k' ver ww) u → ∃ lc, μ k' = some lc ∧ lc.box = false := by
  intro k' ver ww u hV; cases hV with
  | own hl hb _ _ _ => exact ⟨_, hl, hb⟩
 have many : ∀ (cs : List (AV U)), k ∈ cs.foldr (fun c acc => match c with | .own k _ _ => k :: acc | _ => acc) [] → ∃ ver ww, AV.own k ver ww ∈ cs := by
  intro cs
  induction cs with
  | nil => intro hk; simp at hk
  | cons c cs ih =>
   intro hk; rw [List.foldr_cons] at hk; have rest : k ∈ cs.foldr (fun c acc => match c with | .own k _ _ => k :: acc | _ => acc) [] → ∃ ver ww, AV.own k ver ww ∈ c :: cs := fun hh => by
    obtain ⟨ver, ww, hm⟩ := ih hh; exact ⟨ver, ww, mca _ hm⟩
   cases c with
   | own k' ver ww =>
    simp only [List.mem_cons] at hk; rcases hk with rfl | hk
    · exact ⟨ver, ww, msa⟩
    · exact rest hk
   | _ => exact rest hk
 cases h with
 | own hl hb hv hp hh => simp [zfb] at hk; subst hk; exact ⟨_, hl, hb⟩
 | agg hn hv =>
  obtain ⟨ver, ww, hm⟩ := many _ hk; obtain ⟨j, hj⟩ := List.getElem?_of_mem hm; exact one (hv j _ hj)
 | fn hn hv =>
  obtain ⟨ver, ww, hm⟩ := many _ hk; obtain ⟨j, hj⟩ := List.getElem?_of_mem hm; exact one (hv j _ hj)
 | _ => simp [zfb] at hk
theorem zsc (s : St C μ H E h a w) : ∀ (l : List (Nat × SlotM U)) (k : Nat), k ∈ zhl E l → ∃ lc, μ k = some lc ∧ lc.box = false
 | [], k, hk => by simp [zhl] at hk
 | (i, m) :: l, k, hk => by
  cases m with
  | val t =>
   rw [zhl] at hk; rcases mpa hk with hk | hk
   · exact (s.env i).owns hk
   · exact zsc s l k hk
  | _ => exact zsc s l k (by simpa [zhl] using hk)
theorem zaff (L : ELaws C.En) (s : St C μ H E h a w) {μs : Mp} {Hs : Fz} {ws : World} (S : zem C.ro μs Hs ws μ H w) (hpk : ∀ k l, μs k = some l → l.box = true → k ∈ C.pk) {sp : Spec U} {ds : List (Dyn U)} {E1 : List (AV U)} {h1 : za U}
 (hd : dec C sp E h = some ds) (he : zlu C sp E.length ds = some (E1, h1)) : ∃ μ1 H1, St C μ1 H1 E1 h1 a w ∧ zem C.ro μs Hs ws μ1 H1 w ∧ E1.length = E.length := by
 unfold dec at hd
 simp only [oba] at hd
 obtain ⟨ra, hda, rb, hdb, hd⟩ := hd
 obtain ⟨hck, hd⟩ := zdb hd
 cases hd
 obtain ⟨hdis, hlent⟩ := (baa _ _).mp hck
 unfold zlu at he
 simp only [oba] at he
 obtain ⟨q, hea, hB, heb, he⟩ := he
 obtain ⟨hok, he⟩ := zdb he
 cases he
 obtain ⟨hspec, hdk⟩ := (baa _ _).mp hok
 have hnd := zfz hdis
 have hnk := zfz hdk
 obtain ⟨hlen, hrest⟩ := zkg _ _ hda _ _ _ hea
 rw [hrest, zxo] at heb
 have hm := s.sim.toMem
 haveI : DecidablePred fun k => ∃ lc, μ k = some lc ∧ lc.box = false := fun k => Classical.propDecidable _
 obtain ⟨bs, hbs⟩ : ∃ bs : List Nat, ∀ k, k ∈ bs ↔ k ∈ zhl E sp.slots ++ zlc h sp.boxes ∧ ∃ lc, μ k = some lc ∧ lc.box = false :=
  ⟨(zhl E sp.slots ++ zlc h sp.boxes).filter fun k => decide (∃ lc, μ k = some lc ∧ lc.box = false), fun k => by rw [List.mem_filter, decide_eq_true_iff]⟩
 obtain ⟨mlS, ssS, s1, s2, s3, s4, s4', s5⟩ := zjs L s bs _ _ hda _ _ _ hea (fun k hk => (hbs k).2 ⟨mla _ hk, zsc s _ k hk⟩)
 obtain ⟨mlB, ssB, hs', kb, ka, b1, b2, b3, b4, b5, b6, b7, b7', b8, b9, b9', _, b10⟩ := zsn L s bs _ _ _ hdb _ heb (fun k hk h0 => (hbs k).2 ⟨mra _ hk, h0⟩)
 have hkeys : (mlS ++ mlB).map (·.1) = (q.2.1 ++ hs').map (·.1) := by rw [List.map_append, List.map_append, s4', b9']
 have hsl : (q.2.1 ++ hs').Sublist (q.2.1 ++ hB) := .append (List.Sublist.refl _) b7
 have hnml : ((mlS ++ mlB).map (·.1)).Nodup := by
  rw [hkeys]; exact (hsl.map _).nodup hnk
 have hwi := zgf hnml
 have hbox : ∀ k, zv5 sp.boxes k = true → ∀ lc, μ k = some lc → zch (mlS ++ mlB) k = some lc := by
  intro k hk lc hlc; unfold zv5 at hk; rw [List.any_eq_true] at hk; obtain ⟨p, hp, hpk'⟩ := hk; have := Nat.eq_of_beq_eq_true hpk'; subst this; exact hwi _ (mra _ (b8 p hp lc hlc))
 unfold z73 at hspec
 obtain ⟨hsp1, hsp2⟩ := (baa _ _).mp hspec
 obtain ⟨t1, t2⟩ := s5 (zch (mlS ++ mlB)) (fun p hp => hwi p (mla _ hp)) (fun p hp k lc hk hlc _ => by
  refine hbox k ?_ lc hlc; have := lat hsp2 p hp; obtain ⟨i, m⟩ := p; cases m with
  | ptr k' off => cases hk; exact this
  | fn f ks => exact lat this k hk
  | _ => exact hk.elim)
 have t3 := b10 (zch (mlS ++ mlB)) (fun p hp => hwi p (mra _ hp))
 have hrel : zj1 C.En (zch (mlS ++ mlB)) (zb3 μ H w bs) w (mlS ++ mlB) (q.2.1 ++ hs') := t1.append t3
 have hfr : zm1 μ (mlS ++ mlB) (ssS ++ ssB) := s1.append b1
 have hss : (ssS ++ ssB).filterMap id = ra.2 ++ ssB.filterMap id := by rw [List.filterMap_append, s2]
 have hmemss : ∀ k, k ∈ (ssS ++ ssB).filterMap id → k ∈ ra.2 ++ rb.2 ∨ ∃ cs, zc h k = some (.box cs) := by
  intro k hk; rw [hss] at hk; rcases mpa hk with hk | hk
  · exact .inl (mla _ hk)
  · rcases mpa (b2.subset hk) with hk | hk
    · exact .inr (b5 k hk)
    · exact .inl (mra _ (b4.subset hk))
 have hnss : ((ssS ++ ssB).filterMap id).Nodup := by
  rw [hss]; have hperm : List.Perm (ra.2 ++ ssB.filterMap id) (kb ++ (ra.2 ++ ka)) := by
   refine (List.Perm.append_left _ b2).trans ?_; rw [← List.append_assoc, ← List.append_assoc]; exact List.Perm.append_right _ List.perm_append_comm
  rw [hperm.nodup_iff, List.nodup_append]; refine ⟨(b3.trans b7').nodup ?_, (List.Sublist.append (List.Sublist.refl _) b4).nodup hnd, fun k hk k' hk' e => ?_⟩
  · rw [List.map_append] at hnk; exact (List.nodup_append.1 hnk).2.1
  · subst e; obtain ⟨cs, g1⟩ := b5 k hk; rcases mpa hk' with hk' | hk'
    · obtain ⟨_, _, _, g2⟩ := s3 k hk'; rw [g1] at g2; cases g2
    · obtain ⟨_, _, _, g2⟩ := b6 k (b4.subset hk'); rw [g1] at g2; cases g2
 have hfree : ∀ k l b o, k ∈ (ssS ++ ssB).filterMap id → μ k = some l → l.holds b o → zb3 μ H w bs b o = none := by
  intro k l b o hk hl hh; refine zp0 hm (fun k' hk' e => ?_) hl hh; subst e; obtain ⟨g1, lc, g2, g3⟩ := (hbs k').1 hk'; rcases hmemss k' hk with g4 | ⟨cs, g4⟩
  · have := lat hlent k' g1; simp only [Bool.not_eq_true', List.contains_eq_mem, decide_eq_false_iff_not] at this; exact this g4
  · obtain ⟨ob, g5, g6⟩ := s.sim.obj k' lc g2; rw [g4] at g5; cases g5; rw [g6.1] at g3; cases g3
 have hmem1 := zq8 hm (zq9 hm bs) hfr hnss hfree
 have hplace : ∀ k l b o, zch (mlS ++ mlB) k = some l → l.holds b o → ∃ k0 l0, k0 ∈ (ssS ++ ssB).filterMap id ∧ μ k0 = some l0 ∧ l0.box = l.box ∧ l0.holds b o := fun k l b o hk hh => zp3 hfr (zgm hk) hh
 refine ⟨zch (mlS ++ mlB), zb3 μ H w bs, ?_, ?_, hlen⟩
 · refine {
    env := fun t => t2 t _ (s.env t)
    size := hlen.trans s.size
    sim := { toMem := hmem1, obj := fun k l hk => ?_ }
    glob := s.glob.mono (zf9 hm bs)
    defers := s.defers }
   obtain ⟨ob, g1, g2⟩ := ztm hrel (zgm hk); exact ⟨ob, zov hnk (hsl.subset g1), g2⟩
 · refine {
    robox := S.robox
    le := Fz.le_trans S.le (zf9 hm bs)
    box := fun k l hk hb => hbox k (lat hsp1 k (hpk k l hk hb)) l (S.box k l hk hb)
    wd := S.wd
    frz := fun b o hb => ?_
    loc := fun k l b o hk hh => ?_ }
   · unfold zb3 at hb; split at hb
     · rename_i hx; obtain ⟨k, l, g1, g2, g3⟩ := hx; obtain ⟨_, lc, g4, g5⟩ := (hbs k).1 g1; rw [g2] at g4; cases g4; exact .inr (S.arr hm g2 g5 g3)
     · exact S.frz b o hb
   · obtain ⟨k0, l0, _, g1, _, g2⟩ := hplace k l b o hk hh; exact S.loc k0 l0 b o g1 g2
end
section
variable {U : Uni} {C : Ctx U}
theorem zw4 {P : Program} {Q : Exit → Act → World → Prop} {a : Act} {w : World} {c : Code} (I : Nat → Act → World → Prop) (n : Nat) (h₀ : I n a w)
 (round : ∀ n a w, I n a w → c.wp P (Exit.then (fun a' w' => ∃ m, m < n ∧ I m a' w') Q) a w) : (Code.loop c).wp P Q a w := by
 intro b k cs
 have key : ∀ n a w, I n a w →
  ∃ e a' w', Q e a' w' ∧ Arrives P (lone (b.at a (.code c :: .inLoop c :: k)) cs w) b k cs e a' w' := by
  intro n
  induction n using Nat.strongRecOn with
  | _ n ih =>
   intro a w hI; obtain ⟨e, a₁, w₁, hq, harr⟩ := round n a w hI b (.inLoop c :: k) cs; cases e with
   | normal =>
    obtain ⟨m, hlt, hI₁⟩ := hq; obtain ⟨e₂, a₂, w₂, hq₂, harr₂⟩ := ih m hlt a₁ w₁ hI₁; exact ⟨e₂, a₂, w₂, hq₂, .of_steps (Steps.trans harr (.one step_inLoop)) harr₂⟩
   | exit id => exact ⟨_, a₁, w₁, hq, .pass (x := .inLoop c) rfl (fun _ _ => .inl (by simp)) harr⟩
   | goto l => exact ⟨_, a₁, w₁, hq, .pass (x := .inLoop c) rfl (fun _ _ => .inl (by simp)) harr⟩
   | ret => exact ⟨_, a₁, w₁, hq, .pass (x := .inLoop c) rfl (fun _ _ => .inl (by simp)) harr⟩
   | panic ch => exact ⟨_, a₁, w₁, hq, .pass (x := .inLoop c) rfl (fun _ _ => .inl (by simp)) harr⟩
   | outgrown => exact ⟨_, a₁, w₁, hq, .pass (x := .inLoop c) rfl (fun _ _ => .inl (by simp)) harr⟩
 obtain ⟨e, a', w', hq, harr⟩ := key n a w h₀
 exact ⟨e, a', w', hq, .of_steps (.one step_loop) harr⟩
theorem zzj : ∀ (l : List Nat) (E : List (AV U)), (zt9 l E).length = E.length ∧ (∀ t, t ∉ l → (zt9 l E).getD t .dead = E.getD t .dead) ∧ ∀ t, t ∈ l → (zt9 l E).getD t .dead = .dead
 | [], E => ⟨rfl, fun _ _ => rfl, fun t ht => by simp at ht⟩
 | d :: l, E => by
  obtain ⟨h1, h2, h3⟩ := zzj l (E.set d .dead); refine ⟨by rw [zt9, List.foldl_cons]; exact h1.trans (by simp), fun t ht => ?_, fun t ht => ?_⟩
  · rw [zt9, List.foldl_cons]; refine (h2 t fun hh => ht (mca _ hh)).trans ?_; have hne : ¬ d = t := fun e => ht (e ▸ msa); rw [zlt, if_neg (fun hh => hne hh.1)]
  · rw [zt9, List.foldl_cons]
    by_cases hl : t ∈ l
    · exact h3 t hl
    · refine (h2 t hl).trans ?_; have hd : d = t := by
       rcases mco ht with e | e
       · exact e.symm
       · exact absurd e hl
      rw [zlt]; split
      · rfl
      · rename_i hh; have : ¬ t < E.length := fun x => hh ⟨hd, x⟩; rw [gda, List.getElem?_eq_none (Nat.le_of_not_lt this)]; rfl
theorem z8o (L : CLaws C) (O : OOK C) (X : XOK C) {μs : Mp} {Hs : Fz} {ws : World} : ∀ (c : Code) (E : List (AV U)) (h : za U) (R : Type) (k : List (AV U) → Option R) (r : R), zlq C c = true → zm7 C c E h k = some r →
 ∃ E', k E' = some r ∧ E'.length = E.length ∧ (∀ t, t ∉ zrs c → E'.getD t .dead = E.getD t .dead) ∧
  ∀ (μ : Mp) (H : Fz) (a : Act) (w : World) (Q : Exit → Act → World → Prop), St C μ H E h a w → zem C.ro μs Hs ws μ H w → (∀ μ' H' a' w', St C μ' H' E' h a' w' → zem C.ro μs Hs ws μ' H' w' → Q .normal a' w') → c.wp C.P Q a w := by
 intro c
 induction c with
 | skip =>
  intro E h R k r _ hc; exact ⟨E, hc, rfl, fun _ _ => rfl, fun μ H a w Q s S hq => wp_skip (hq μ H a w s S)⟩
 | region id ops draw =>
  intro E h R k r hq hc; cases draw with
  | true => cases hq
  | false =>
   have hq' : ops.toList.all (ziu C) = true := hq; obtain ⟨E', h', hk, rn⟩ := zg1 L O X _ true none [] _ _ _ _ r hc (fun g w e => by cases e); have hh := rn.quiet rfl hq'; subst hh; refine ⟨E', hk, rn.len, fun t ht => rn.same rfl t fun o ho e => ht (List.mem_filterMap.2 ⟨o, ho, e⟩), fun μ H a w Q s S hq => wp_region_list ?_⟩; have htop : ∀ (l : List Oper), ∃ rows, z4o C ops rows l := by
    intro l
    induction l with
    | nil => exact ⟨[], .nil⟩
    | cons o l ih =>
     obtain ⟨rows, ih⟩ := ih; exact ⟨⟨0, zla o, zjy ops o, zab C o, [], true⟩ :: rows, .cons ⟨rfl, rfl, rfl, rfl⟩ ih⟩
   obtain ⟨rows, ht⟩ := htop ops.toList; exact (rn.run rows ht).sound L.e s S fun μ' H' a' w' s' S' => hq μ' H' a' w' s' S'
 | seq x y ihx ihy =>
  intro E h R k r hq hc; obtain ⟨h1, h2⟩ := (baa _ _).mp (show (zlq C x && zlq C y) = true from hq); obtain ⟨E1, k1, l1, s1, q1⟩ := ihx E h R _ r h1 hc; obtain ⟨E2, k2, l2, s2, q2⟩ := ihy E1 h R k r h2 k1; refine ⟨E2, k2, l2.trans l1, fun t ht => (s2 t fun hh => ht (mra _ hh)).trans (s1 t fun hh => ht (mla _ hh)), fun μ H a w Q s S hq => wp_seq (q1 μ H a w _ s S fun μ' H' a' w' s' S' => ?_)⟩; exact q2 μ' H' a' w' Q s' S' hq
 | cond c x y ihx ihy =>
  intro E h R k r hq hc; obtain ⟨h1, h2⟩ := (baa _ _).mp (show (zlq C x && zlq C y) = true from hq); simp only [zm7] at hc; split at hc
  · rename_i t ht; have hv : ∀ (μ : Mp) (H : Fz) (a : Act) (w : World), St C μ H E h a w → a.eval c = .bool t := fun μ H a w s => (ht ▸ zuf (x := c) (fun t _ => s.env t) s.glob : V C.En μ H (.sc (.bool t)) (a.eval c)).int; cases t with
    | true =>
     obtain ⟨E1, k1, l1, s1, q1⟩ := ihx E h R k r h1 hc; exact ⟨E1, k1, l1, fun t ht => s1 t fun hh => ht (mla _ hh), fun μ H a w Q s S hq => wp_cond (hv μ H a w s) (q1 μ H a w Q s S hq)⟩
    | false =>
     obtain ⟨E1, k1, l1, s1, q1⟩ := ihy E h R k r h2 hc; exact ⟨E1, k1, l1, fun t ht => s1 t fun hh => ht (mra _ hh), fun μ H a w Q s S hq => wp_cond (hv μ H a w s) (q1 μ H a w Q s S hq)⟩
  · cases hc
 | _ => intro E h R k r hq; cases hq
def zi8 (id : Nat) (body : Code) : Code → Prop
 | .seq a b => zi8 id body a ∨ zi8 id body b
 | .cond _ a b => zi8 id body a ∨ zi8 id body b
 | .block i c => (i = id ∧ c = .loop body) ∨ zi8 id body c
 | .loop c => zi8 id body c
 | _ => False
theorem zwf (i : Nat) (c : Code) : (∃ b, c = .loop b ∧ zdm (.block i c) = i :: zdm b) ∨ ((∀ b, c ≠ .loop b) ∧ zdm (.block i c) = zdm c) := by
 cases c <;> first | exact .inl ⟨_, rfl, rfl⟩ | exact .inr ⟨(fun _ e => by cases e), rfl⟩
theorem zzy (id i : Nat) (c : Code) : (∃ b, c = .loop b ∧ zdh id (.block i c) = cond (Nat.beq i id) (some b) (zdh id b)) ∨ ((∀ b, c ≠ .loop b) ∧ zdh id (.block i c) = zdh id c) := by
 cases c <;> first | exact .inl ⟨_, rfl, rfl⟩ | exact .inr ⟨(fun _ e => by cases e), rfl⟩
theorem zhz {id : Nat} {body : Code} : ∀ {c : Code}, zi8 id body c → id ∈ zdm c
 | .seq a b, h => by
  rcases h with h | h
  · exact mla _ (zhz h)
  · exact mra _ (zhz h)
 | .cond _ a b, h => by
  rcases h with h | h
  · exact mla _ (zhz h)
  · exact mra _ (zhz h)
 | .block i c, h => by
  have ih := fun h => zhz (id := id) (body := body) (c := c) h; rcases zwf i c with ⟨b, rfl, e⟩ | ⟨hn, e⟩
  · rw [e]; rcases h with ⟨rfl, _⟩ | h
    · exact msa
    · exact mca _ (ih h)
  · rw [e]; rcases h with ⟨_, e2⟩ | h
    · exact absurd e2 (hn _)
    · exact ih h
 | .loop c, h => zhz (c := c) h
 | .skip, h => h.elim
 | .region .., h => h.elim
 | .rangeFunc .., h => h.elim
 | .exit _, h => h.elim
 | .scope _, h => h.elim
 | .label _, h => h.elim
 | .goto _, h => h.elim
 | .ret, h => h.elim
 | .refuse _, h => h.elim
theorem zhf {id : Nat} : ∀ {c : Code}, id ∉ zdm c → zdh id c = none
 | .seq a b, h => by
  have h1 := zhf (id := id) (c := a) (fun x => h (mla _ x)); have h2 := zhf (id := id) (c := b) (fun x => h (mra _ x)); simp [zdh, h1, h2]
 | .cond _ a b, h => by
  have h1 := zhf (id := id) (c := a) (fun x => h (mla _ x)); have h2 := zhf (id := id) (c := b) (fun x => h (mra _ x)); simp [zdh, h1, h2]
 | .block i c, h => by
  have ih := fun h => zhf (id := id) (c := c) h; rcases zwf i c with ⟨b, rfl, e⟩ | ⟨hn, e⟩
  · rw [e] at h; have h1 : ¬ i = id := fun x => h (x ▸ msa); have h2 := ih (fun x => h (mca _ x)); simp only [zdh, zbw, h1, decide_false, cond_false] at h2 ⊢; exact h2
  · rw [e] at h; rcases zzy id i c with ⟨b, rfl, _⟩ | ⟨_, e2⟩
    · exact absurd rfl (hn b)
    · rw [e2]; exact ih h
 | .loop c, h => zhf (c := c) h
 | .skip, h => rfl
 | .region .., h => rfl
 | .rangeFunc .., h => rfl
 | .exit _, h => rfl
 | .scope _, h => rfl
 | .label _, h => rfl
 | .goto _, h => rfl
 | .ret, h => rfl
 | .refuse _, h => rfl
theorem zjx {id : Nat} {body : Code} : ∀ {c : Code}, (zdm c).Nodup → zi8 id body c → zdh id c = some body
 | .seq a b, hn, h => by
  have hn' := List.nodup_append.1 hn; have ih1 := fun x => zjx (id := id) (body := body) (c := a) hn'.1 x; have ih2 := fun x => zjx (id := id) (body := body) (c := b) hn'.2.1 x; rcases h with h | h
  · simp [zdh, ih1 h]
  · have : id ∉ zdm a := fun x => hn'.2.2 id x id (zhz h) rfl; simp [zdh, zhf this, ih2 h]
 | .cond _ a b, hn, h => by
  have hn' := List.nodup_append.1 hn; have ih1 := fun x => zjx (id := id) (body := body) (c := a) hn'.1 x; have ih2 := fun x => zjx (id := id) (body := body) (c := b) hn'.2.1 x; rcases h with h | h
  · simp [zdh, ih1 h]
  · have : id ∉ zdm a := fun x => hn'.2.2 id x id (zhz h) rfl; simp [zdh, zhf this, ih2 h]
 | .block i c, hn, h => by
  have ih := fun hn h => zjx (id := id) (body := body) (c := c) hn h; rcases zwf i c with ⟨b, rfl, e⟩ | ⟨hnl, e⟩
  · rw [e] at hn; obtain ⟨h1, h2⟩ := List.nodup_cons.1 hn; rcases h with ⟨rfl, e2⟩ | h
    · cases e2; simp [zdh, zbw]
    · have hid : id ∈ zdm b := zhz (c := .loop b) h; have : ¬ i = id := fun x => h1 (x ▸ hid); have h3 := ih h2 h; simp only [zdh, zbw, this, decide_false, cond_false] at h3 ⊢; exact h3
  · rw [e] at hn; rcases zzy id i c with ⟨b, rfl, _⟩ | ⟨_, e2⟩
    · exact absurd rfl (hnl b)
    · rw [e2]; rcases h with ⟨_, e3⟩ | h
      · exact absurd e3 (hnl _)
      · exact ih hn h
 | .loop c, hn, h => zjx (c := c) hn h
 | .skip, hn, h => h.elim
 | .region .., hn, h => h.elim
 | .rangeFunc .., hn, h => h.elim
 | .exit _, hn, h => h.elim
 | .scope _, hn, h => h.elim
 | .label _, hn, h => h.elim
 | .goto _, hn, h => h.elim
 | .ret, hn, h => h.elim
 | .refuse _, hn, h => h.elim
theorem zwg {t : U.Ty} {d : Dyn U} {x : U.den t} (h : d.as t = some x) : (⟨t, x⟩ : Dyn U) = d := by
 unfold Dyn.as at h
 obtain ⟨ty, val⟩ := d
 split at h
 · rename_i e _; cases h; cases e; rfl
 · cases h
theorem zaaw (t : U.Ty) (d : Dyn U) : zii U [t] [d] = d.as t := rfl
theorem zacr (d : Dyn U) (l : List (Dyn U)) : zii U [] (d :: l) = none := rfl
theorem zacq (t : U.Ty) : zii U [t] [] = none := rfl
theorem zacp (t : U.Ty) (d d' : Dyn U) (l : List (Dyn U)) : zii U [t] (d :: d' :: l) = none := rfl
theorem zaco (t t' : U.Ty) (ts : List U.Ty) : zii U (t :: t' :: ts) [] = none := rfl
theorem z9q {α β : Type} {a : Option α} {b : Option β} {x : α} {y : β} (h : (a.bind fun x => b.bind fun y => some (x, y)) = some (x, y)) : a = some x ∧ b = some y := by
 cases a with
 | none => cases h
 | some a => cases b with
  | none => cases h
  | some b => cases h; exact ⟨rfl, rfl⟩
theorem zw6 (ts : List U.Ty) : ∀ (l : List (Dyn U)) (y : PT U ts), zii U ts l = some y → zdy U ts y = l := by
 induction ts with
 | nil =>
  intro l y h; cases l with
  | nil => rfl
  | cons d l => rw [zacr] at h; injection h
 | cons t ts ih =>
  cases ts with
  | nil =>
   intro l y h; cases l with
   | nil => rw [zacq] at h; injection h
   | cons d l =>
    cases l with
    | nil =>
     rw [zaaw] at h; rw [← zwg h]; rfl
    | cons d' l => rw [zacp] at h; injection h
  | cons t2 ts =>
   intro l y h; cases l with
   | nil => rw [zaco] at h; injection h
   | cons d l =>
    obtain ⟨x, y'⟩ := y; obtain ⟨h1, h2⟩ := z9q (α := U.den t) (β := PT U (t2 :: ts)) h; have := ih l y' h2; rw [← this, ← zwg h1]; rfl
end
section
variable {U : Uni} {C : Ctx U}
def zlz (C : Ctx U) (μs : Mp) (Hs : Fz) (ws : World) (N : Nat) (E : List (AV U)) (h : za U) (a : Act) (w : World) : Prop :=
 ∃ μ H, St C μ H E h a w ∧ zem C.ro μs Hs ws μ H w ∧ E.length = N
variable {μs : Mp} {Hs : Fz} {ws : World} {N : Nat}
structure KOk (C : Ctx U) (μs : Mp) (Hs : Fz) (ws : World) (N : Nat) {R0 R : Type} (Fin : R0 → Act → World → Prop) (K : Kont U R0 R) (r : R) (Q : Exit → Act → World → Prop) : Prop where
 norm : ∀ E h a w, K.norm E h = some r → zlz C μs Hs ws N E h a w → Q .normal a w
 exit : ∀ i E h a w, K.exit i E h = some r → zlz C μs Hs ws N E h a w → Q (.exit i) a w
 ret : ∀ E h a w, K.ret E h = some r → zlz C μs Hs ws N E h a w → Q .ret a w
 res : ∀ r0 a w, K.res r0 = some r → Fin r0 a w → Q .ret a w
def LOK (C : Ctx U) (fn : Func) (ct : Ct U) (L : Nat → Option (Cut U (PT U (ct.results ++ ct.outs)))) : Prop := ∀ id cut, L id = some cut → match cut with
 | .plain sp ts f => ∀ x y, f x = some y → ∃ n, zh (zon C fn L sp ts id) n x = some y
 | .rets sp ts f => ∀ x y, f x = some y → ∃ n, zp (zom C fn ct L sp ts id) n x = some y
variable {fn : Func} {ct : Ct U} {L : Nat → Option (Cut U (PT U (ct.results ++ ct.outs)))}
def zabt (C : Ctx U) (μs : Mp) (Hs : Fz) (ws : World) (N : Nat) (fn : Func) (ct : Ct U) (r0 : PT U (ct.results ++ ct.outs)) (a : Act) (w : World) : Prop := ∃ E h, zmo C fn ct E h = some r0 ∧ zlz C μs Hs ws N E h a w
def Snd (C : Ctx U) (μs : Mp) (Hs : Fz) (ws : World) (fn : Func) (ct : Ct U) (L : Nat → Option (Cut U (PT U (ct.results ++ ct.outs)))) (c : Code) : Prop :=
 (∀ id body, zi8 id body c → zgj fn id = some body) → ∀ {R : Type} (K : Kont U (PT U (ct.results ++ ct.outs)) R) (E : List (AV U)) (h : za U) (r : R), zht C L c K E h = some r →
  ∀ (a : Act) (w : World) (Q : Exit → Act → World → Prop), zlz C μs Hs ws fn.ntmps E h a w → KOk C μs Hs ws fn.ntmps (zabt C μs Hs ws fn.ntmps fn ct) K r Q → c.wp C.P Q a w
theorem zn8 (L' : ELaws C.En) (hpk : ∀ k l, μs k = some l → l.box = true → k ∈ C.pk) {E : List (AV U)} {h : za U} {a : Act} {w : World} (hh : zlz C μs Hs ws N E h a w) {sp : Spec U} {ts : List U.Ty} {x : PT U ts} {n : Nat} (hn : n = N) {s : List (AV U) × za U}
 (hd : (dec C sp E h).bind (zii U ts) = some x) (he : zlu C sp n (zdy U ts x) = some s) : zlz C μs Hs ws N s.1 s.2 a w := by
 obtain ⟨μ, H, s1, s2, s3⟩ := hh
 rw [oba] at hd
 obtain ⟨ds, h1, h2⟩ := hd
 rw [zw6 ts ds x h2, hn, ← s3] at he
 obtain ⟨μ1, H1, t1, t2, t3⟩ := zaff L' s1 s2 hpk h1 he
 exact ⟨μ1, H1, t1, t2, t3.trans s3⟩
theorem zr8 {γ : Type} {ts : List U.Ty} {d : Option (List (Dyn U))} {f : PT U ts → γ} {r : γ} (h : (d.bind fun l => (zii U ts l).bind fun y => some (f y)) = some r) : ∃ y, d.bind (zii U ts) = some y ∧ f y = r := by
 rw [oba] at h
 obtain ⟨l, h1, h⟩ := h
 rw [oba] at h
 obtain ⟨y, h2, h3⟩ := h
 injection h3 with h3
 exact ⟨y, by rw [h1]; exact h2, h3⟩
theorem z7f {R0 : Type} {L : Nat → Option (Cut U R0)} {id : Nat} {body : Code} (hn : ∀ b, body ≠ .loop b) {R : Type} (K : Kont U R0 R) (E : List (AV U)) (h : za U) :
 zht C L (.block id body) K E h = zht C L body { K with exit := fun i E h => cond (Nat.beq i id) (K.norm E h) (K.exit i E h) } E h := by
 cases body <;> first | rfl | exact absurd rfl (hn _)
theorem z66 (L' : ELaws C.En) (hpk : ∀ k l, μs k = some l → l.box = true → k ∈ C.pk) {id : Nat} {body : Code} (hbody : zgj fn id = some body) (ih : Snd C μs Hs ws fn ct L body) (hin : ∀ id b, zi8 id b body → zgj fn id = some b)
 {sp : Spec U} {ts : List U.Ty} {y : PT U ts} {Q : Exit → Act → World → Prop} (hQ : ∀ E h a w, zlz C μs Hs ws fn.ntmps E h a w → (dec C sp E h).bind (zii U ts) = some y → Q (.exit id) a w) (n : Nat) (x : PT U ts) (hit : zh (zon C fn L sp ts id) n x = some y)
 {E : List (AV U)} {h : za U} {a : Act} {w : World} (hh : zlz C μs Hs ws fn.ntmps E h a w) (hd : (dec C sp E h).bind (zii U ts) = some x) : (Code.loop body).wp C.P Q a w := by
 refine zw4 (fun n a w => ∃ x E h, zh (zon C fn L sp ts id) n x = some y ∧ zlz C μs Hs ws fn.ntmps E h a w ∧ (dec C sp E h).bind (zii U ts) = some x) n ⟨x, E, h, hit, hh, hd⟩ ?_
 rintro n a w ⟨x, E, h, hit, hh, hd⟩
 cases n with
 | zero => cases hit
 | succ n =>
  rw [zh, oba] at hit; obtain ⟨st, h1, h2⟩ := hit; unfold zon at h1; rw [hbody] at h1; simp only [z8f, oba] at h1; obtain ⟨s, h3, h4⟩ := h1; refine ih hin _ s.1 s.2 st h4 a w _ (zn8 L' hpk hh rfl hd h3) ?_; refine ⟨fun E' h' a' w' hk hh' => ?_, fun i E' h' a' w' hk hh' => ?_, fun E' h' a' w' hk _ => by simp at hk, fun r0 a' w' hk _ => by simp at hk⟩
  · obtain ⟨z, hz, e⟩ := zr8 hk; subst e; exact ⟨n, Nat.lt_succ_self n, z, E', h', h2, hh', hz⟩
  · simp only [zbw] at hk
    by_cases e : i = id
    · subst e; simp only [decide_true, cond_true] at hk; obtain ⟨z, hz, e⟩ := zr8 hk; subst e; cases h2; exact hQ E' h' a' w' hh' hz
    · simp [e] at hk
theorem z86 (L' : ELaws C.En) (hpk : ∀ k l, μs k = some l → l.box = true → k ∈ C.pk) {id : Nat} {body : Code} (hbody : zgj fn id = some body) (ih : Snd C μs Hs ws fn ct L body) (hin : ∀ id b, zi8 id b body → zgj fn id = some b)
 {sp : Spec U} {ts : List U.Ty} {y : PT U (ct.results ++ ct.outs) ⊕ PT U ts} {Q : Exit → Act → World → Prop} (hQ : ∀ E h a w z, y = .inr z → zlz C μs Hs ws fn.ntmps E h a w → (dec C sp E h).bind (zii U ts) = some z → Q (.exit id) a w)
 (hR : ∀ r0 a w, y = .inl r0 → zabt C μs Hs ws fn.ntmps fn ct r0 a w → Q .ret a w) (n : Nat) (x : PT U ts) (hit : zp (zom C fn ct L sp ts id) n x = some y)
 {E : List (AV U)} {h : za U} {a : Act} {w : World} (hh : zlz C μs Hs ws fn.ntmps E h a w) (hd : (dec C sp E h).bind (zii U ts) = some x) : (Code.loop body).wp C.P Q a w := by
 refine zw4 (fun n a w => ∃ x E h, zp (zom C fn ct L sp ts id) n x = some y ∧ zlz C μs Hs ws fn.ntmps E h a w ∧ (dec C sp E h).bind (zii U ts) = some x) n ⟨x, E, h, hit, hh, hd⟩ ?_
 rintro n a w ⟨x, E, h, hit, hh, hd⟩
 cases n with
 | zero => cases hit
 | succ n =>
  rw [zp, oba] at hit; obtain ⟨st, h1, h2⟩ := hit; unfold zom at h1; rw [hbody] at h1; simp only [z5i, oba] at h1; obtain ⟨s, h3, h4⟩ := h1; refine ih hin _ s.1 s.2 st h4 a w _ (zn8 L' hpk hh rfl hd h3) ?_; refine ⟨fun E' h' a' w' hk hh' => ?_, fun i E' h' a' w' hk hh' => ?_, fun E' h' a' w' hk hh' => ?_, fun r0 a' w' hk hf => ?_⟩
  · obtain ⟨z, hz, e⟩ := zr8 hk; subst e; exact ⟨n, Nat.lt_succ_self n, z, E', h', h2, hh', hz⟩
  · simp only [zbw] at hk
    by_cases e : i = id
    · subst e; simp only [decide_true, cond_true] at hk; obtain ⟨z, hz, e⟩ := zr8 hk; subst e; cases h2; exact hQ E' h' a' w' z rfl hh' hz
    · simp [e] at hk
  · simp only [oba] at hk; obtain ⟨r0, h5, h6⟩ := hk; cases h6; cases h2; exact hR r0 a' w' rfl ⟨E', h', h5, hh'⟩
  · cases hk; cases h2; exact hR r0 a' w' rfl hf
theorem KOk.then {R0 R : Type} {Fin : R0 → Act → World → Prop} {K : Kont U R0 R} {r : R} {Q : Exit → Act → World → Prop} (k : KOk C μs Hs ws N Fin K r Q) {f : List (AV U) → za U → Option R} {next : Act → World → Prop}
 (hf : ∀ E h a w, f E h = some r → zlz C μs Hs ws N E h a w → next a w) : KOk C μs Hs ws N Fin { K with norm := f } r (Exit.then next Q) :=
 ⟨hf, k.exit, k.ret, k.res⟩
theorem z32 (LC : CLaws C) (O : OOK C) (X : XOK C) (hL : LOK C fn ct L) (hpk : ∀ k l, μs k = some l → l.box = true → k ∈ C.pk) (c : Code) : Snd C μs Hs ws fn ct L c ∧ ∀ body, c = .loop body → Snd C μs Hs ws fn ct L body := by
 induction c with
 | skip => exact ⟨fun hin R K E h r hc a w Q hh k => wp_skip (k.norm E h a w hc hh), fun _ e => by cases e⟩
 | region id ops draw =>
  refine ⟨fun hin R K E h r hc a w Q hh k => ?_, fun _ e => by cases e⟩; obtain ⟨μ, H, s, S, hn⟩ := hh; rw [zht] at hc; obtain ⟨μ1, H1, f, s1⟩ := s.give LC.e (zqv ((C.pre id).map fun i => E.getD i .dead)); exact z2w LC O X hc s1 (S.froze s.sim.toMem f) fun E' h' hk hlen μ' H' a' w' s' S' => k.norm E' h' a' w' hk ⟨μ', H', s', S', by rw [hlen, zmz, hn]⟩
 | seq x y ihx ihy =>
  refine ⟨fun hin R K E h r hc a w Q hh k => wp_seq ?_, fun _ e => by cases e⟩; have hix : ∀ id b, zi8 id b x → zgj fn id = some b := fun id b hb => hin id b (.inl hb); have hiy : ∀ id b, zi8 id b y → zgj fn id = some b := fun id b hb => hin id b (.inr hb); rw [zht] at hc; split at hc
  · rename_i d hbj; rw [oba] at hc; obtain ⟨b, h1, h2⟩ := hc; have hq : zlq C x = true := by
     unfold z4h at hbj; split at hbj
     · exact ((baa _ _).mp (zdb hbj).1).2
     · cases hbj
    obtain ⟨μ, H, s, S, hn⟩ := hh; obtain ⟨E', hk, hl, hs, hw⟩ := z8o LC O X x E h _ _ b hq h1; refine hw μ H a w _ s S fun μ' H' a' w' s' S' => ?_; obtain ⟨k1, k2, k3⟩ := zzj (zrs x) E; have hb := zmq hk; refine ihy.1 hiy K _ h r h2 a' w' Q ⟨μ', H', s'.weak (by rw [zf5, k1, hl]) fun t => ?_, S', by rw [zf5, k1]; exact hn⟩ k; rw [zhg, k1]; split
    · rename_i e; obtain ⟨e1, _⟩ := e; cases e1; exact .inl hb.symm
    · by_cases ht : t ∈ zrs x
      · exact .inr (k3 t ht)
      · exact .inl ((k2 t ht).trans (hs t ht).symm)
  split at hc
  · exact ihx.1 hix _ E h r hc a w _ hh (k.then fun E' h' a' w' hk hh' => ihy.1 hiy K E' h' r hk a' w' Q hh' k)
  · rename_i sp ts hj; rw [oba] at hc; obtain ⟨z, h1, h2⟩ := hc; rw [oba] at h2; obtain ⟨s, h3, h4⟩ := h2; refine ihx.1 hix _ E h z h1 a w _ hh ⟨fun E' h' a' w' hk hh' => ?_, fun i E' h' a' w' hk _ => by simp at hk, fun E' h' a' w' hk _ => by simp at hk, fun r0 a' w' hk _ => by simp at hk⟩; obtain ⟨_, _, _, _, hn⟩ := hh; exact ihy.1 hiy K s.1 s.2 r h4 a' w' Q (zn8 LC.e hpk hh' hn hk h3) k
 | cond c x y ihx ihy =>
  refine ⟨fun hin R K E h r hc a w Q hh k => ?_, fun _ e => by cases e⟩; rw [zht] at hc; split at hc
  · rename_i t ht; obtain ⟨μ, H, s, S, hn⟩ := hh; have hv := (ht ▸ zuf (x := c) (fun t _ => s.env t) s.glob : V C.En μ H (.sc (.bool t)) (a.eval c)).int; refine wp_cond hv ?_; cases t with
    | true => exact ihx.1 (fun id b hb => hin id b (.inl hb)) K E h r hc a w Q ⟨μ, H, s, S, hn⟩ k
    | false => exact ihy.1 (fun id b hb => hin id b (.inr hb)) K E h r hc a w Q ⟨μ, H, s, S, hn⟩ k
  · cases hc
 | block id body ih =>
  refine ⟨fun hin R K E h r hc a w Q hh k => wp_block ?_, fun _ e => by cases e⟩
  by_cases hl : ∃ b, body = .loop b
  · obtain ⟨b, rfl⟩ := hl; have ihb := ih.2 b rfl; have hbody := hin id b (.inl ⟨rfl, rfl⟩); have hin' : ∀ id' b', zi8 id' b' b → zgj fn id' = some b' := fun id' b' hb => hin id' b' (.inr hb); have hlen := hh; obtain ⟨_, _, _, _, hn⟩ := hlen; rw [zht] at hc; split at hc
    · rename_i sp ts f hLid; rw [oba] at hc; obtain ⟨x, h1, h2⟩ := hc; rw [oba] at h2; obtain ⟨y, h3, h4⟩ := h2; rw [oba] at h4; obtain ⟨s, h5, h6⟩ := h4; obtain ⟨n, hit⟩ := hL id _ hLid x y h3; refine z66 LC.e hpk hbody ihb hin' (fun E' h' a' w' hh' hd' => ?_) n x hit hh h1; show (if id = id then _ else _); rw [if_pos rfl]; exact k.norm s.1 s.2 a' w' h6 (zn8 LC.e hpk hh' hn hd' h5)
    · rename_i sp ts f hLid; rw [oba] at hc; obtain ⟨x, h1, h2⟩ := hc; rw [oba] at h2; obtain ⟨y, h3, h4⟩ := h2; obtain ⟨n, hit⟩ := hL id _ hLid x y h3; refine z86 LC.e hpk hbody ihb hin' (fun E' h' a' w' z hz hh' hd' => ?_) (fun r0 a' w' hz hf => ?_) n x hit hh h1
      · subst hz; simp only [zdt, oba] at h4; obtain ⟨s, h5, h6⟩ := h4; show (if id = id then _ else _); rw [if_pos rfl]; exact k.norm s.1 s.2 a' w' h6 (zn8 LC.e hpk hh' hn hd' h5)
      · subst hz; exact k.res r0 a' w' h4 hf
    · cases hc
  · have hn : ∀ b, body ≠ .loop b := fun b e => hl ⟨b, e⟩; rw [z7f hn] at hc; refine ih.1 (fun id' b' hb => hin id' b' (.inr hb)) _ E h r hc a w _ hh ⟨k.norm, fun i E' h' a' w' hk hh' => ?_, k.ret, k.res⟩; simp only [zbw] at hk
    by_cases e : i = id
    · subst e; simp only [decide_true, cond_true] at hk; show (if i = i then _ else _); rw [if_pos rfl]; exact k.norm E' h' a' w' hk hh'
    · simp only [e, decide_false, cond_false] at hk; show (if i = id then _ else _); rw [if_neg e]; exact k.exit i E' h' a' w' hk hh'
 | loop body ih => exact ⟨fun hin R K E h r hc => by simp [zht] at hc, fun b e => by cases e; exact ih.1⟩
 | exit id => exact ⟨fun hin R K E h r hc a w Q hh k => wp_exit (k.exit id E h a w hc hh), fun _ e => by cases e⟩
 | ret => exact ⟨fun hin R K E h r hc a w Q hh k => wp_ret (k.ret E h a w hc hh), fun _ e => by cases e⟩
 | rangeFunc => exact ⟨fun hin R K E h r hc => by simp [zht] at hc, fun _ e => by cases e⟩
 | scope => exact ⟨fun hin R K E h r hc => by simp [zht] at hc, fun _ e => by cases e⟩
 | label => exact ⟨fun hin R K E h r hc => by simp [zht] at hc, fun _ e => by cases e⟩
 | goto => exact ⟨fun hin R K E h r hc => by simp [zht] at hc, fun _ e => by cases e⟩
 | refuse => exact ⟨fun hin R K E h r hc => by simp [zht] at hc, fun _ e => by cases e⟩
end
section
variable {U : Uni} {C : Ctx U} {μ : Mp} {H : Fz} {E : List (AV U)} {h h' : za U} {a : Act} {w : World} {v : AV U}
theorem z3k {P : Program} {w : World} {α : Type} (f : α → Sem Value) : ∀ (l : List α) (us : List Value), l.length = us.length → (∀ (i : Nat) x u, l[i]? = some x → us[i]? = some u → (f x).run P w = .ok u w) → (l.mapM f).run P w = .ok us w
 | [], [], _, _ => by simp
 | x :: l, u :: us, hl, h => by
  have := z3k (P := P) (w := w) f l us (by simpa using hl) (fun i x u h1 h2 => h (i + 1) x u (by simpa using h1) (by simpa using h2)); simp [List.mapM_cons, Sem.run_bind, h 0 x u rfl rfl, this]
 | [], _ :: _, hl, _ => by simp at hl
 | _ :: _, [], hl, _ => by simp at hl
def zvn (tmps : Array Value) : ResultVar → Sem Value
 | .tmp t => pure (tmps.getD t undef)
 | .cell a t => do loadVar t (← asAddr (tmps.getD a undef))
def zwp (us : List Value) : Value := match us with | [u] => u | _ => .tuple us.toArray
theorem zxf {fn : Func} {tmps : Array Value} {P : Program} {w : World} {us : List Value} (hl : fn.results.toList.length = us.length) (hr : ∀ (i : Nat) x u, fn.results.toList[i]? = some x → us[i]? = some u → (zvn tmps x).run P w = .ok u w) :
 (results fn tmps).run P w = .ok (zwp us) w := by
 have hm := z3k (P := P) (w := w) (zvn tmps) fn.results.toList us hl hr
 have he : (fn.results.mapM (zvn tmps)).run P w = .ok us.toArray w := by
  rw [Array.mapM_eq_mapM_toList]; simp [hm]
 have hf : results fn tmps = (do
  let vs ← fn.results.mapM (zvn tmps)
  pure (if h : vs.size = 1 then vs[0] else .tuple vs)) := by
  unfold results
  congr 1
 rw [hf, Sem.run_bind, he]
 cases us with
 | nil => simp [zwp, Result.andThen]
 | cons u us => cases us with
  | nil => simp [zwp, Result.andThen]
  | cons u2 us => simp [zwp, Result.andThen]
def z2x (C : Ctx U) (E : List (AV U)) (h : za U) : ResultVar → Option (AV U)
 | .tmp t => some (E.getD t .dead)
 | .cell a T => (zix C h (E.getD a .dead) fun cs => some cs).bind (zmw C T)
theorem zm6 {fresh : List Nat} {rv : ResultVar} {rs : List ResultVar} {ty : U.Ty} {ts : List U.Ty} {l : List (Dyn U) × List Nat × List Nat} (hl : zc9 C E h fresh (rv :: rs) (ty :: ts) = some l) :
 ∃ v x ks l', z2x C E h rv = some v ∧ zi1 C h ty v = some x ∧ ze0 h fresh 0 v.cells = some ks ∧ zc9 C E h [] rs ts = some l' ∧ l = (⟨ty, x⟩ :: l'.1, ks ++ l'.2.1, zfq fresh 0 v.cells ++ l'.2.2) := by
 cases rv with
 | tmp t =>
  simp only [zc9, oba] at hl; obtain ⟨x, h1, ks, h2, l', h3, h4⟩ := hl; cases h4; exact ⟨_, x, ks, l', rfl, h1, h2, h3, rfl⟩
 | cell a T =>
  simp only [zc9] at hl; rw [oba] at hl; obtain ⟨v, h0, hl⟩ := hl; simp only [oba] at hl; obtain ⟨x, h1, ks, h2, l', h3, h4⟩ := hl; cases h4; exact ⟨v, x, ks, l', h0, h1, h2, h3, rfl⟩
theorem zvp (L : CLaws C) (s : St C μ H E h a w) {rv : ResultVar} (hr : z2x C E h rv = some v) : ∃ u, (zvn a.tmps rv).run C.P w = .ok u w ∧ V C.En μ H v u := by
 cases rv with
 | tmp t =>
  cases hr; exact ⟨_, rfl, s.env t⟩
 | cell p T =>
  simp only [z2x, oba] at hr; obtain ⟨cs, h1, h2⟩ := hr
  let o : Oper := { dst := none, op := .load T (.tmp p), type := T, pos := "", after := #[], guard := none }
  obtain ⟨b, o', hp, hc⟩ := zu2 L (s.pre o) (x := .tmp p) (by simp [zab, o]) (by simp [o, Op.operands]) h1; obtain ⟨cv, hr, hv⟩ := z3m hc h2; refine ⟨cv, ?_, hv⟩; simp only [Act.eval] at hp; simp [zvn, hp, asAddr, Sem.run_bind, hr]
theorem zri {k : Nat} : ∀ (cs : List (AV U)) (j : Nat), k ∈ zfq [] j cs ↔ ∃ ver ww, AV.own k ver ww ∈ cs
 | [], j => by simp [zfq]
 | c :: cs, j => by
  have ih := zri (k := k) cs (j + 1); unfold zfq; cases c with
  | own k' ver' ww' =>
   simp only [List.contains_nil, List.mem_cons, ih]; constructor
   · rintro (rfl | ⟨ver, ww, h⟩)
     · exact ⟨ver', ww', .inl rfl⟩
     · exact ⟨ver, ww, .inr h⟩
   · rintro ⟨ver, ww, h | h⟩
     · cases h; exact .inl rfl
     · exact .inr ⟨ver, ww, h⟩
  | _ =>
   simp only [List.contains_nil, List.mem_cons, reduceCtorEq, false_or]; exact ih
theorem zaci (L : ELaws C.En) (s : St C μ H E h a w) {bs : List Nat} {t : U.Ty} {x : U.den t} {u : Value} (hr : zi1 C h t v = some x) (hV : V C.En μ H v u) (hb : ∀ k ∈ zfq [] 0 v.cells, k ∈ bs) (μ1 : Mp) : V C.En μ1 (zb3 μ H w bs) (C.En.value t x) u := by
 obtain ⟨hp, hl, href⟩ := zj8 L hr
 refine zte L s.sim.toMem hr hV (fun k hk => ⟨hb k ?_, fun lc hlc => s.sim.obj k lc hlc⟩) μ1
 rw [zri]
 cases v with
 | own k' ver ww =>
  simp [zfb] at hk; subst hk; exact ⟨ver, ww, by simp [AV.cells]⟩
 | agg cs =>
  simp only [AV.cells]; simp only [zfb] at hk; clear hr hV hb hp hl href
  induction cs with
  | nil => simp at hk
  | cons c cs ih =>
   rw [List.foldr_cons] at hk; have rest : k ∈ cs.foldr (fun c acc => match c with | .own k _ _ => k :: acc | _ => acc) [] → ∃ ver ww, AV.own k ver ww ∈ c :: cs := fun hh => by
    obtain ⟨ver, ww, hm⟩ := ih hh; exact ⟨ver, ww, mca _ hm⟩
   cases c with
   | own k' ver ww =>
    simp only [List.mem_cons] at hk; rcases hk with rfl | hk
    · exact ⟨ver, ww, msa⟩
    · exact rest hk
   | _ => exact rest hk
 | fn f cs =>
  exfalso
  have h1 : (C.En.enc t x).length = 1 := by rw [L.sz, ← hl]; rfl
  have h2 := href 0 (.fn f cs) ((C.En.enc t x)[0]) rfl (lga (by omega)); have hfz := L.fz t x _ (List.getElem_mem (by omega : 0 < (C.En.enc t x).length)); rcases h2 with e | ⟨e, _⟩
  · rw [← e] at hfz; rcases hfz with ⟨_, e2, _⟩ | ⟨_, _, e2⟩ <;> cases e2
  · cases e
 | _ => simp [zfb] at hk
theorem zuy (L : CLaws C) (s : St C μ H E h a w) (bs : List Nat) : ∀ (rs : List ResultVar) (ts : List U.Ty) (l : List (Dyn U) × List Nat × List Nat), zc9 C E h [] rs ts = some l → (∀ k ∈ l.2.2, (∃ lc, μ k = some lc ∧ lc.box = false) → k ∈ bs) →
 l.1.length = ts.length ∧ l.2.1 = [] ∧ ∃ us, rs.length = us.length ∧ (∀ (i : Nat) x u, rs[i]? = some x → us[i]? = some u → (zvn a.tmps x).run C.P w = .ok u w) ∧ ∀ μ1, F2 (V C.En μ1 (zb3 μ H w bs)) (l.1.map fun d => C.En.value d.ty d.val) us
 | [], [], l, hl, hb => by
  cases hl; exact ⟨rfl, rfl, [], rfl, (fun i x u h1 => by simp at h1), fun μ1 => .nil⟩
 | [], _ :: _, l, hl, hb => by simp [zc9] at hl
 | .tmp _ :: _, [], l, hl, hb => by simp [zc9] at hl
 | .cell _ _ :: _, [], l, hl, hb => by simp [zc9] at hl
 | rv :: rs, ty :: ts, l, hl, hb => by
  obtain ⟨v, x, ks, l', h1, h2, h3, h4, rfl⟩ := zm6 hl; obtain ⟨g1, g2, us, g3, g4, g5⟩ := zuy L s bs rs ts l' h4 (fun k hk => hb k (mra _ hk)); obtain ⟨u, r1, r2⟩ := zvp L s h1; have hks := zsj 0 ks h3; refine ⟨by simp [g1], by simp [hks, g2], u :: us, by simp [g3], fun i y u' q1 q2 => ?_, fun μ1 => .cons (zaci L.e s h2 r2 (fun k hk => hb k (mla _ hk) ?_) μ1) (g5 μ1)⟩
  · cases i with
    | zero => cases q1; cases q2; exact r1
    | succ i => exact g4 i y u' (by simpa using q1) (by simpa using q2)
  · rw [zri] at hk; obtain ⟨ver, ww, hm⟩ := hk; obtain ⟨hp, _, _⟩ := zj8 L.e h2; have hc := V.cells r2 hp; obtain ⟨j, hj⟩ := List.getElem?_of_mem hm; have hv := hc.2 j _ hj; generalize Array.getD u.cells j undef = u0 at hv; cases hv with
    | own hl hb0 _ _ _ => exact ⟨_, hl, hb0⟩
theorem z2s (L : CLaws C) (s : St C μ H E h a w) (bs : List Nat) {fresh : List Nat} {rv : ResultVar} {ty : U.Ty} {l : List (Dyn U) × List Nat × List Nat} (hl : zc9 C E h fresh [rv] [ty] = some l) (hb : ∀ k ∈ l.2.2, (∃ lc, μ k = some lc ∧ lc.box = false) → k ∈ bs)
 {base : Nat} {cs' : List (AV U)} {hs : za U} {d : Dyn U} (hd : l.1 = [d]) (ho : zhj base fresh 0 (C.En.enc d.ty d.val) = some (cs', hs)) :
 ∃ u ml ss, (zvn a.tmps rv).run C.P w = .ok u w ∧ zm1 μ ml ss ∧ ss.filterMap id = l.2.1 ∧ (∀ k ∈ l.2.1, ∃ ver t xs, zc h k = some (.arr ver t xs)) ∧ (∀ q ∈ ml, q.2.box = false) ∧ ml.map (·.1) = hs.map (·.1) ∧
  ∀ μ1, zgx μ1 ml → zj1 C.En μ1 (zb3 μ H w bs) w ml hs ∧ V C.En μ1 (zb3 μ H w bs) (cond (C.En.agg d.ty) (.agg cs') (cs'.headD .dead)) u := by
 obtain ⟨v, x, ks, l', h1, h2, h3, h4, rfl⟩ := zm6 hl
 cases h4
 simp only [List.cons.injEq, and_true] at hd
 subst hd
 simp only [List.append_nil] at hb ⊢
 obtain ⟨u, r1, r2⟩ := zvp L s h1
 obtain ⟨hp, hlen, href⟩ := zj8 L.e h2
 rw [List.length_map] at hlen
 have hc := V.cells r2 hp
 have hm := s.sim.toMem
 have hown : ∀ (j : Nat) k ver ww, v.cells[j]? = some (.own k ver ww) → (∃ lc, μ k = some lc ∧ lc.box = false) := by
  intro j k ver ww hj; have hv := hc.2 j _ hj; generalize Array.getD u.cells j undef = u0 at hv; cases hv with
  | own hl hb0 _ _ _ => exact ⟨_, hl, hb0⟩
 obtain ⟨ml, ss, f1, f2, f3, f5, f6, f4⟩ := zpk L.e (zf9 hm bs) base fresh v.cells 0 (C.En.enc ty x) cs' hs ks (fun j => u.cells.getD j undef)
  (fun j c hj => hc.2 j c hj) (fun k ver ww _ lc hlc => s.sim.obj k lc hlc) (by rw [hlen, L.e.sz])
  (fun j c c2 hj hj2 => ⟨href j _ c2 (by rw [gem, hj]; rfl) hj2, L.e.fz _ _ _ (lma hj2)⟩)
  (fun j c hj hcj => by
   have hjl := (gea hj).1; have hj2 : j < (C.En.enc ty x).length := by rw [L.e.sz]; omega
   exact zrw L.e hm (hc.2 j c hj) (fun k ver ww e => by subst e; exact ⟨hb k (zoe _ _ _ hj hcj) (hown j k ver ww hj), fun lc hlc => s.sim.obj k lc hlc⟩) (href j _ _ (by rw [gem, hj]; rfl) (lga hj2)) (L.e.fz _ _ _ (List.getElem_mem hj2)) zh6) h3 ho
 refine ⟨u, ml, ss, r1, f1, f2, (zjv v.cells 0 ks h3).1, f5, f6, fun μ1 hw => ?_⟩
 obtain ⟨p1, p2⟩ := f4 μ1 hw
 refine ⟨p1, ?_⟩
 cases ha : C.En.agg ty with
 | true =>
  unfold zi1 at h2; rw [ha] at h2; cases v with
  | agg cs =>
   cases r2 with
   | agg hn hv =>
    refine .agg ?_ p2; rw [f3]; simpa [AV.cells] using hn
  | _ => simp at h2
 | false =>
  have hc1 : cs'.length = 1 := by rw [f3, hlen]; exact L.e.one ty ha
  have hh : cs'[0]? = some (cs'.headD .dead) := by
   cases cs' with
   | nil => simp at hc1
   | cons c l => rfl
  have := p2 0 _ hh; have hu : u.cells.getD 0 undef = u := by
   have hv1 : v.cells = [v] := by
    unfold zi1 at h2; rw [ha] at h2; cases v with
    | agg cs => simp at h2
    | _ => rfl
   have : u.cells = #[u] := by
    cases v with
    | agg cs => unfold zi1 at h2; rw [ha] at h2; simp at h2
    | sc v' => cases r2; cases u <;> first | rfl | cases hp
    | dead => cases hp
    | tup => cases hp
    | _ => exact zwc (V.one rfl r2)
   rw [this]; rfl
  rw [hu] at this; exact this
end
section
variable {U : Uni} {C : Ctx U} {μ : Mp} {H : Fz} {E : List (AV U)} {h h' : za U} {a : Act} {w : World} {v : AV U}
def zer : Nat → List (Md U) → List (Nat × U.Ty × List Nat)
 | _, [] => []
 | j, .ptr t true owns :: ms => (1000000 + j, t, owns) :: zer (j + 1) ms
 | j, .ptr _ false _ :: ms => zer (j + 1) ms
 | j, .val _ :: ms => zer j ms
 | j, .clo _ _ :: ms => zer j ms
theorem zlp : ∀ (ms : List (Md U)) (j : Nat) (r : List (Dyn U) × List Nat × List Nat), zop C h j ms = some r → zo3 C h (zer j ms) = some (r.1, r.2.1) ∧ zlc h (zer j ms) = r.2.2
 | [], j, r, hr => by cases hr; exact ⟨rfl, rfl⟩
 | .ptr t true owns :: ms, j, r, hr => by
  simp only [zop] at hr; split at hr
  · rename_i cs hg; simp only [oba] at hr; obtain ⟨x, h1, ks, h2, l, h3, h4⟩ := hr; cases h4; obtain ⟨g1, g2⟩ := zlp ms (j + 1) l h3; refine ⟨?_, ?_⟩
    · simp only [zer, zo3, hg, h1, h2, g1, obz]
    · simp only [zer, zlc, hg, g2]
  · cases hr
 | .ptr _ false _ :: ms, j, r, hr => zlp ms (j + 1) r hr
 | .val _ :: ms, j, r, hr => zlp ms j r hr
 | .clo _ _ :: ms, j, r, hr => zlp ms j r hr
theorem znj : ∀ (ms : List (Md U)) (j : Nat) (ps : List (Pl U)) (ds : List (Dyn U)) (o : za U), ps = zmt ms → zhi C j ps ds = some o → zh8 C (fun k => 2000000 + 1000 * (k - 1000000)) (zer j ms) ds = some o
 | [], j, ps, ds, o, hp, ho => by
  subst hp; cases ds with
  | nil => exact ho
  | cons => simp [zmt, zhi] at ho
 | .ptr t true owns :: ms, j, ps, ds, o, hp, ho => by
  subst hp; cases ds with
  | nil => simp [zmt, zhi] at ho
  | cons d ds =>
   simp only [zmt, zhi, oba] at ho; obtain ⟨x, h1, oz, h2, r, h3, h4⟩ := ho; cases h4; have := znj ms (j + 1) _ ds r rfl h3; simp only [zer, zh8, h1, obz]; rw [show 2000000 + 1000 * (1000000 + j - 1000000) = 2000000 + 1000 * j by omega, h2]; simp only [this, obz]
 | .ptr _ false _ :: ms, j, ps, ds, o, hp, ho => by
  subst hp; simp only [zmt] at ho; cases ds with
  | nil => exact znj ms (j + 1) _ [] o rfl (by simpa [zhi] using ho)
  | cons d ds => exact znj ms (j + 1) _ (d :: ds) o rfl (by simpa [zhi] using ho)
 | .val _ :: ms, j, ps, ds, o, hp, ho => znj ms j ps ds o (by rw [hp]; rfl) ho
 | .clo _ _ :: ms, j, ps, ds, o, hp, ho => znj ms j ps ds o (by rw [hp]; rfl) ho
theorem zk8 : ∀ (ms : List (Md U)) (j : Nat) (p : Nat × U.Ty × List Nat), p ∈ zer j ms → p.1 ∈ zmh j ms
 | [], j, p, hp => by simp [zer] at hp
 | .ptr t true owns :: ms, j, p, hp => by
  simp only [zer, List.mem_cons] at hp; rcases hp with rfl | hp
  · exact msa
  · exact mca _ (zk8 ms (j + 1) p hp)
 | .ptr _ false _ :: ms, j, p, hp => mca _ (zk8 ms (j + 1) p hp)
 | .val _ :: ms, j, p, hp => zk8 ms j p hp
 | .clo _ _ :: ms, j, p, hp => zk8 ms j p hp
theorem zpp : ∀ (ms : List (Md U)) (j k : Nat), k ∈ zdg j ms → 1000000 + j ≤ k
 | [], j, k, hk => by simp [zdg] at hk
 | .ptr _ true _ :: ms, j, k, hk => by have := zpp ms (j + 1) k hk; omega
 | .ptr _ false _ :: ms, j, k, hk => by
  simp only [zdg, List.mem_cons] at hk; rcases hk with rfl | hk
  · omega
  · have := zpp ms (j + 1) k hk; omega
 | .val _ :: ms, j, k, hk => zpp ms j k hk
 | .clo _ _ :: ms, j, k, hk => zpp ms j k hk
theorem zmj : ∀ (ms : List (Md U)) (j : Nat) (p : Nat × U.Ty × List Nat), p ∈ zer j ms → 1000000 + j ≤ p.1
 | [], j, p, hp => by simp [zer] at hp
 | .ptr t true owns :: ms, j, p, hp => by
  simp only [zer, List.mem_cons] at hp; rcases hp with rfl | hp
  · exact Nat.le_refl _
  · have := zmj ms (j + 1) p hp; omega
 | .ptr _ false _ :: ms, j, p, hp => by have := zmj ms (j + 1) p hp; omega
 | .val _ :: ms, j, p, hp => zmj ms j p hp
 | .clo _ _ :: ms, j, p, hp => zmj ms j p hp
theorem zmi : ∀ (ms : List (Md U)) (j : Nat) (p : Nat × U.Ty × List Nat), p ∈ zer j ms → p.1 ∉ zdg j ms
 | [], j, p, hp => by simp [zer] at hp
 | .ptr t true owns :: ms, j, p, hp => by
  simp only [zer, List.mem_cons] at hp; intro hk; rcases hp with rfl | hp
  · have := zpp ms (j + 1) _ hk; simp only at this; omega
  · exact zmi ms (j + 1) p hp hk
 | .ptr _ false _ :: ms, j, p, hp => by
  intro hk; simp only [zdg, List.mem_cons] at hk; rcases hk with e | hk
  · have := zmj ms (j + 1) p hp; omega
  · exact zmi ms (j + 1) p hp hk
 | .val _ :: ms, j, p, hp => zmi ms j p hp
 | .clo _ _ :: ms, j, p, hp => zmi ms j p hp
theorem zne : ∀ (ms : List (Md U)) (j k : Nat), k ∈ zdg j ms → k ∈ zmh j ms
 | [], j, k, hk => by simp [zdg] at hk
 | .ptr _ true _ :: ms, j, k, hk => mca _ (zne ms (j + 1) k hk)
 | .ptr _ false _ :: ms, j, k, hk => by
  simp only [zdg, List.mem_cons] at hk; rcases hk with rfl | hk
  · exact msa
  · exact mca _ (zne ms (j + 1) k hk)
 | .val _ :: ms, j, k, hk => zne ms j k hk
 | .clo _ _ :: ms, j, k, hk => zne ms j k hk
theorem zmc : ∀ (ms : List (Md U)) (j : Nat) (ds : List (Dyn U)) (E0 : List (AV U)) (h0 : za U) (us : List Value), zds C j ms ds = some (E0, h0) → F2 (V C.En μ H) E0 us → ∀ k ∈ zmh j ms, ∃ l, μ k = some l ∧ l.box = true
 | [], j, ds, E0, h0, us, ho, hA, k, hk => by simp [zmh] at hk
 | .val t :: ms, j, ds, E0, h0, us, ho, hA, k, hk => by
  cases ds with
  | nil => simp [zds] at ho
  | cons d ds =>
   simp only [zds, oba] at ho; obtain ⟨x, h1, ⟨E1, h1'⟩, h2, h3⟩ := ho; cases h3; cases hA with
   | cons _ hA => exact zmc ms j ds _ h1' _ h2 hA k hk
 | .ptr t wr owns :: ms, j, ds, E0, h0, us, ho, hA, k, hk => by
  cases ds with
  | nil => simp [zds] at ho
  | cons d ds =>
   simp only [zds, oba] at ho; obtain ⟨x, h1, ⟨E1, h1'⟩, h2, h3⟩ := ho; split at h3
   · cases h3; cases hA with
     | cons hV hA =>
      simp only [zmh, List.mem_cons] at hk; rcases hk with rfl | hk
      · cases hV with
        | ptr hl hb _ => exact ⟨_, hl, hb⟩
      · exact zmc ms (j + 1) ds _ h1' _ h2 hA k hk
   · cases h3
 | .clo f n :: ms, j, ds, E0, h0, us, ho, hA, k, hk => by
  simp only [zds, oba] at ho; obtain ⟨⟨E1, h1'⟩, h2, h3⟩ := ho; cases h3; cases hA with
  | cons hV hA =>
   obtain ⟨vs, _, hF⟩ := zw0 hV; have := hF.append hA; simp only [List.take_append_drop] at this; exact zmc ms j ds _ h1' _ h2 this k hk
theorem zqq : ∀ (ms : List (Md U)) (j : Nat) (ds : List (Dyn U)) (E0 : List (AV U)) (h0 : za U), zds C j ms ds = some (E0, h0) → ∀ k cs, (k, Ob.box cs) ∈ h0 → k ∈ zmh j ms
 | [], j, ds, E0, h0, ho, k, cs, hk => by
  cases ds with
  | nil => cases ho; simp at hk
  | cons => simp [zds] at ho
 | .val t :: ms, j, ds, E0, h0, ho, k, cs, hk => by
  cases ds with
  | nil => simp [zds] at ho
  | cons d ds =>
   simp only [zds, oba] at ho; obtain ⟨x, h1, ⟨E1, h1'⟩, h2, h3⟩ := ho; cases h3; exact zqq ms j ds _ _ h2 k cs hk
 | .ptr t wr owns :: ms, j, ds, E0, h0, ho, k, cs, hk => by
  cases ds with
  | nil => simp [zds] at ho
  | cons d ds =>
   simp only [zds, oba] at ho; obtain ⟨x, h1, ⟨E1, h1'⟩, h2, h3⟩ := ho; split at h3
   · rename_i oz hoz; cases h3; simp only [List.mem_cons, Prod.mk.injEq, List.mem_append] at hk; rcases hk with ⟨rfl, _⟩ | hk | hk
     · exact msa
     · obtain ⟨_, _, e⟩ := zn4 _ _ _ _ hoz _ hk; cases e
     · exact mca _ (zqq ms (j + 1) ds _ _ h2 k cs hk)
   · cases h3
 | .clo f n :: ms, j, ds, E0, h0, ho, k, cs, hk => by
  simp only [zds, oba] at ho; obtain ⟨⟨E1, h1'⟩, h2, h3⟩ := ho; cases h3; exact zqq ms j ds _ _ h2 k cs hk
theorem zr4 {base : Nat → Nat} : ∀ (l : List (Nat × U.Ty × List Nat)) (ds : List (Dyn U)) (hs : za U), zh8 C base l ds = some hs → ∀ k cs, (k, Ob.box cs) ∈ hs → ∃ p ∈ l, p.1 = k
 | [], ds, hs, he, k, cs, hk => by
  cases ds with
  | nil => cases he; simp at hk
  | cons => simp [zh8] at he
 | (k0, t, owns) :: l, ds, hs, he, k, cs, hk => by
  cases ds with
  | nil => simp [zh8] at he
  | cons d ds =>
   simp only [zh8, oba] at he; obtain ⟨x, h1, he⟩ := he; split at he
   · rename_i oz hoz; rw [oba] at he; obtain ⟨r, h2, h3⟩ := he; cases h3; simp only [List.mem_cons, Prod.mk.injEq, List.mem_append] at hk; rcases hk with ⟨rfl, _⟩ | hk | hk
     · exact ⟨_, msa, rfl⟩
     · obtain ⟨_, _, e⟩ := zn4 _ _ _ _ hoz _ hk; cases e
     · obtain ⟨p, hp, e⟩ := zr4 l ds r h2 k cs hk; exact ⟨p, mca _ hp, e⟩
   · cases he
theorem zv8 : ∀ {l m : List Nat}, zv9 l m = true → l = m
 | [], [], _ => rfl
 | [], _ :: _, h => by cases h
 | _ :: _, [], h => by cases h
 | a :: l, b :: m, h => by
  simp only [zv9, baa] at h; rw [Nat.eq_of_beq_eq_true h.1, zv8 h.2]
theorem zny : ∀ (rs : List ResultVar) (ts : List U.Ty) (fresh : List Nat) (l : List (Dyn U) × List Nat × List Nat), zc9 C E h fresh rs ts = some l → l.1.length = ts.length ∧ rs.length = ts.length
 | [], [], fresh, l, hl => by cases hl; exact ⟨rfl, rfl⟩
 | [], _ :: _, fresh, l, hl => by simp [zc9] at hl
 | .tmp _ :: _, [], fresh, l, hl => by simp [zc9] at hl
 | .cell _ _ :: _, [], fresh, l, hl => by simp [zc9] at hl
 | rv :: rs, ty :: ts, fresh, l, hl => by
  obtain ⟨v, x, ks, l', h1, h2, h3, h4, rfl⟩ := zm6 hl; obtain ⟨g1, g2⟩ := zny rs ts [] l' h4; exact ⟨by simp [g1], by simp [g2]⟩
theorem z2r (L : CLaws C) (s : St C μ H E h a w) (bs : List Nat) {fn : Func} {fresh : List Nat} {ts : List U.Ty} {l : List (Dyn U) × List Nat × List Nat} (hl : zc9 C E h fresh fn.results.toList ts = some l)
 (hb : ∀ k ∈ l.2.2, (∃ lc, μ k = some lc ∧ lc.box = false) → k ∈ bs) {base : Nat} {r : AV U × za U} (hr : zbl C base fresh l.1 = some r) :
 ∃ u ml ss, (results fn a.tmps).run C.P w = .ok u w ∧ zm1 μ ml ss ∧ ss.filterMap id = l.2.1 ∧ (∀ k ∈ l.2.1, ∃ ver t xs, zc h k = some (.arr ver t xs)) ∧ (∀ q ∈ ml, q.2.box = false) ∧ ml.map (·.1) = r.2.map (·.1) ∧
  ∀ μ1, zgx μ1 ml → zj1 C.En μ1 (zb3 μ H w bs) w ml r.2 ∧ V C.En μ1 (zb3 μ H w bs) r.1 u := by
 obtain ⟨hlen, hlen2⟩ := zny _ _ _ _ hl
 cases fresh with
 | nil =>
  obtain ⟨g1, g2, us, g3, g4, g5⟩ := zuy L s bs _ _ _ hl hb; have hrun := zxf g3 g4; have hr2 : r.2 = [] := zq3 (r1 := r.1) (qr := r.2) hr; refine ⟨zwp us, [], [], hrun, .nil, by rw [g2]; rfl, by rw [g2]; exact fun k hk => by simp at hk, (fun q hq => by simp at hq), by rw [hr2]; rfl, fun μ1 _ => ⟨by rw [hr2]; exact .nil, ?_⟩⟩; have hF := g5 μ1; unfold zbl at hr; split at hr
  · rename_i d hd; rw [hd] at hF; cases hr; cases hF with
    | cons h1 h2 => cases h2; exact h1
  · rename_i l1 hne; cases hr; have hne' : ∀ u, us ≠ [u] := by
     intro u e; subst e; have := hF.length; simp only [List.length_map, List.length_cons, List.length_nil] at this; obtain ⟨d, hd⟩ := List.length_eq_one_iff.1 this; exact hne d hd
    have hu : zwp us = .tuple us.toArray := by
     cases us with
     | nil => rfl
     | cons u us => cases us with
      | nil => exact absurd rfl (hne' u)
      | cons => rfl
    rw [hu]; refine .tup (by simpa using hF.length) fun j c hj => ?_; have hjl := (gea hj).1; have hju : j < us.length := by rw [← hF.length]; exact hjl
    have := hF.get j c us[j] hj (lga hju); have e : us.toArray.getD j undef = us[j] := by simp [Array.getD, hju]
    rw [e]; exact this
 | cons f0 fs =>
  unfold zbl at hr; split at hr
  · rename_i d hd; simp only [oba] at hr; obtain ⟨⟨cs', hs⟩, h1, h2⟩ := hr; cases h2; have hts : ts.length = 1 := by rw [← hlen, hd]; rfl
    obtain ⟨ty, rfl⟩ := List.length_eq_one_iff.1 hts; obtain ⟨rv, hrv⟩ := List.length_eq_one_iff.1 (hlen2.trans hts); rw [hrv] at hl; obtain ⟨u, ml, ss, r1, r2, r3, r4, r5, r6, r7⟩ := z2s L s bs hl hb hd h1; refine ⟨u, ml, ss, ?_, r2, r3, r4, r5, r6, r7⟩; have := zxf (fn := fn) (tmps := a.tmps) (P := C.P) (w := w) (us := [u]) (by rw [hrv]; rfl) (fun i x u' q1 q2 => by
     rw [hrv] at q1; cases i with
     | zero => cases q1; cases q2; exact r1
     | succ i => simp at q1)
    exact this
  · simp at hr
end
section
variable {U : Uni} {C : Ctx U} {μ : Mp} {H : Fz} {E : List (AV U)} {h h' : za U} {a : Act} {w : World} {v : AV U}
theorem zxl (L : CLaws C) {fn : Func} {ct : Ct U} {μ0 : Mp} {H0 : Fz} {w0 : World} {E0 : List (AV U)} {h0 : za U} {ds : List (Dyn U)} {us : List Value} (hargs : zds C 0 ct.params ds = some (E0, h0)) (hA : F2 (V C.En μ0 H0) E0 us)
 (hro : C.ro = zdg 0 ct.params) (hok : ∀ y, zzp C ct y = true) (s : St C μ H E h a w) (S : zem C.ro μ0 H0 w0 μ H w) {y : PT U (ct.results ++ ct.outs)} (hf : zmo C fn ct E h = some y) :
 ∃ u, (results fn a.tmps).run C.P w = .ok u w ∧ z7u C ct ct.fresh μ0 H0 w0 y u w := by
 unfold zmo at hf
 rw [oba] at hf
 obtain ⟨l, hl, hf⟩ := hf
 rw [oba] at hf
 obtain ⟨l', hl', hf⟩ := hf
 obtain ⟨hck, hy⟩ := zdb hf
 have hoky := hok y
 unfold zzp at hoky
 split at hoky
 · rename_i r o hr ho; obtain ⟨hdis, hlent⟩ := (baa _ _).mp hck; have hdk := hoky; have hnd := zfz hdis; have hnk := zfz hdk; have hty := zw6 _ _ _ hy; obtain ⟨hlen, _⟩ := zny _ _ _ _ hl; have htake : (zdy U (ct.results ++ ct.outs) y).take ct.results.length = l.1 := by rw [hty, ← hlen]; exact List.take_left
   have zph : (zdy U (ct.results ++ ct.outs) y).drop ct.results.length = l'.1 := by rw [hty, ← hlen]; exact List.drop_left
   rw [htake] at hr; rw [zph] at ho; have hm := s.sim.toMem
   haveI : DecidablePred fun k => ∃ lc, μ k = some lc ∧ lc.box = false := fun k => Classical.propDecidable _
   obtain ⟨bs, hbs⟩ : ∃ bs : List Nat, ∀ k, k ∈ bs ↔ k ∈ l.2.2 ++ l'.2.2 ∧ ∃ lc, μ k = some lc ∧ lc.box = false :=
    ⟨(l.2.2 ++ l'.2.2).filter fun k => decide (∃ lc, μ k = some lc ∧ lc.box = false), fun k => by rw [List.mem_filter, decide_eq_true_iff]⟩
   obtain ⟨u, mlF, ssF, hrun, s1, s2, s3, s4, s4', s5⟩ := z2r L s bs hl (fun k hk h1 => (hbs k).2 ⟨mla _ hk, h1⟩) hr; obtain ⟨hdb, hbk⟩ := zlp _ _ _ hl'; have heb := znj ct.params 0 _ _ o rfl ho; obtain ⟨mlB, ssB, hs', kb, ka, b1, b2, b3, b4, b5, b6, b7, b7', b8, b9, b9', b11, b10⟩ := zsn L.e s bs _ _ _ hdb _ heb (fun k hk h1 => (hbs k).2 ⟨mra _ (by rw [← hbk]; exact hk), h1⟩); have hpk : ∀ k ∈ zmh 0 ct.params, ∃ lc, μ0 k = some lc ∧ lc.box = true := zmc _ _ _ _ _ _ hargs hA; have hhs : hs' = o := b11 fun p hp => by
    obtain ⟨lc, h1, h2⟩ := hpk p.1 (zk8 _ _ _ hp); rw [S.box _ _ h1 h2]; simp
   subst hhs; have hkeys : (mlF ++ mlB).map (·.1) = (r.2 ++ hs').map (·.1) := by rw [List.map_append, List.map_append, s4', b9']
   have hnml : ((mlF ++ mlB).map (·.1)).Nodup := by rw [hkeys]; exact hnk
   have hwi := zgf hnml; obtain ⟨t1, t2⟩ := s5 (zch (mlF ++ mlB)) (fun p hp => hwi p (mla _ hp)); have t3 := b10 (zch (mlF ++ mlB)) (fun p hp => hwi p (mra _ hp)); have hrel : zj1 C.En (zch (mlF ++ mlB)) (zb3 μ H w bs) w (mlF ++ mlB) (r.2 ++ hs') := t1.append t3; have hfr : zm1 μ (mlF ++ mlB) (ssF ++ ssB) := s1.append b1; have hss : (ssF ++ ssB).filterMap id = l.2.1 ++ ssB.filterMap id := by rw [List.filterMap_append, s2]
   have hmemss : ∀ k, k ∈ (ssF ++ ssB).filterMap id → k ∈ l.2.1 ++ l'.2.1 ∨ ∃ cs, zc h k = some (.box cs) := by
    intro k hk; rw [hss] at hk; rcases mpa hk with hk | hk
    · exact .inl (mla _ hk)
    · rcases mpa (b2.subset hk) with hk | hk
      · exact .inr (b5 k hk)
      · exact .inl (mra _ (b4.subset hk))
   have hnss : ((ssF ++ ssB).filterMap id).Nodup := by
    rw [hss]; have hperm : List.Perm (l.2.1 ++ ssB.filterMap id) (kb ++ (l.2.1 ++ ka)) := by
     refine (List.Perm.append_left _ b2).trans ?_; rw [← List.append_assoc, ← List.append_assoc]; exact List.Perm.append_right _ List.perm_append_comm
    rw [hperm.nodup_iff, List.nodup_append]; refine ⟨(b3.trans b7').nodup ?_, (List.Sublist.append (List.Sublist.refl _) b4).nodup hnd, fun k hk k' hk' e => ?_⟩
    · rw [List.map_append] at hnk; exact (List.nodup_append.1 hnk).2.1
    · subst e; obtain ⟨cs, g1⟩ := b5 k hk; rcases mpa hk' with hk' | hk'
      · obtain ⟨_, _, _, g2⟩ := s3 k hk'; rw [g1] at g2; cases g2
      · obtain ⟨_, _, _, g2⟩ := b6 k (b4.subset hk'); rw [g1] at g2; cases g2
   have hfree : ∀ k l b o, k ∈ (ssF ++ ssB).filterMap id → μ k = some l → l.holds b o → zb3 μ H w bs b o = none := by
    intro k lk b o hk hlk hh; refine zp0 hm (fun k' hk' e => ?_) hlk hh; subst e; obtain ⟨g1, lc, g2, g3⟩ := (hbs k').1 hk'; rcases hmemss k' hk with g4 | ⟨cs, g4⟩
    · have := lat hlent k' g1; simp only [Bool.not_eq_true', List.contains_eq_mem, decide_eq_false_iff_not] at this; exact this g4
    · obtain ⟨ob, g5, g6⟩ := s.sim.obj k' lc g2; rw [g4] at g5; cases g5; rw [g6.1] at g3; cases g3
   have hmem1 := zq8 hm (zq9 hm bs) hfr hnss hfree; have hboxes : ∀ k lk, (k, lk) ∈ mlF ++ mlB → lk.box = true → μ0 k = some lk ∧ (zdg 0 ct.params).contains k = false := by
    intro k lk hk hb; rcases mpa hk with hk | hk
    · rw [s4 _ hk] at hb; cases hb
    · have hμ := b9 _ hk hb; obtain ⟨ob, g1, g2⟩ := ztm t3 hk; have hob : ∃ cs, ob = .box cs := by
       cases ob with
       | box cs => exact ⟨cs, rfl⟩
       | arr => have := g2.1; rw [hb] at this; cases this
      obtain ⟨cs, rfl⟩ := hob; obtain ⟨p, hp, e⟩ := zr4 _ _ _ heb k cs g1; subst e; obtain ⟨l0, e1, e2⟩ := hpk p.1 (zk8 _ _ _ hp); have := S.box _ _ e1 e2; rw [hμ] at this; cases this; exact ⟨e1, by simpa using zmi _ _ _ hp⟩
   refine ⟨u, hrun, r.1, r.2, hs', mlF ++ mlB, zb3 μ H w bs, by rw [htake]; exact hr, by rw [zph]; exact ho, hnml, hrel, hmem1, t2, Fz.le_trans S.le (zf9 hm bs), fun k lk hk hb => (hboxes k lk hk hb).1, hro ▸ S.wd, fun b o hb => ?_, fun k lk b o hk hh => ?_⟩
   · rw [← hro]; unfold zb3 at hb; split at hb
     · rename_i hx; obtain ⟨k, lk, g1, g2, g3⟩ := hx; obtain ⟨_, lc, g4, g5⟩ := (hbs k).1 g1; rw [g2] at g4; cases g4; exact .inr (S.arr hm g2 g5 g3)
     · exact S.frz b o hb
   · cases hb : lk.box with
     | true =>
      obtain ⟨e1, e2⟩ := hboxes k lk hk hb; exact .inr ⟨k, lk, e1, e2, hh⟩
     | false =>
      obtain ⟨k0, l0, _, g1, g2, g3⟩ := zp3 hfr hk hh; rcases S.arr hm g1 (by rw [g2]; exact hb) g3 with e | ⟨k1, l1, e1, e2, e3, e4⟩
      · exact .inl e
      · exact .inr ⟨k1, l1, e1, hro ▸ e2, e4⟩
 · cases hoky
theorem z84 (L : CLaws C) (O : OOK C) (X : XOK C) {f : FuncId} {fn : Func} {ct : Ct U} {Lp : Nat → Option (Cut U (PT U (ct.results ++ ct.outs)))} (hf : C.P.funcs[f]? = some fn) (hnm : (fn.name == "runtime.NumGoroutine") = false) (hbs : fn.body.isSome = true) (hL : LOK C fn ct Lp)
 (hok : ∀ y, zzp C ct y = true)
 (hct : ∀ ds y, ct.fn ds = some y → runF C fn ct Lp ds = some y) : zib C f ct := by
 refine ⟨⟨fn, hf, hbs, hnm⟩, fun ds y hy E0 h0 ha μ H w us hA hS hG => ?_⟩
 have hrun := hct ds y hy
 unfold runF at hrun
 split at hrun
 · cases hrun
 · rename_i body hbody; rw [ha] at hrun; simp only [obz] at hrun; obtain ⟨hck, hrun⟩ := zdb hrun; obtain ⟨h1, hck⟩ := (baa _ _).mp hck; obtain ⟨h2, hck⟩ := (baa _ _).mp hck; obtain ⟨h3, h4⟩ := (baa _ _).mp hck; have hro := zv8 h2; have hpkk := zv8 h3; have hnd := zfz h4; have hle := Nat.le_of_ble_eq_true h1; obtain ⟨hargs, hnk⟩ := zsb ha; have hAl : E0.length = us.length := hA.length; have hpk : ∀ k l, μ k = some l → l.box = true → k ∈ C.pk := fun k l hk hb => by
    rw [hpkk]; obtain ⟨ob, g1, g2⟩ := hS.obj k l hk; cases ob with
    | box cs => exact zqq _ _ _ _ _ hargs k cs (zrb g1)
    | arr => have := g2.1; rw [hb] at this; cases this
   have hrob : ∀ k l, C.ro.contains k = true → μ k = some l → l.box = true := fun k l hk hl => by
    rw [hro] at hk; obtain ⟨l0, g1, g2⟩ := zmc _ _ _ _ _ _ hargs hA k (zne _ _ _ (by simpa using hk)); rw [hl] at g1; cases g1; exact g2
   have hlen : (E0 ++ List.replicate (fn.ntmps - E0.length) (.dead : AV U)).length = fn.ntmps := by simp; omega
   have hsize : (us.toArray ++ Array.replicate (fn.ntmps - us.toArray.size) undef).size = fn.ntmps := by simp; omega
   have hst : St C μ H (E0 ++ List.replicate (fn.ntmps - E0.length) .dead) h0 { tmps := us.toArray ++ Array.replicate (fn.ntmps - us.toArray.size) undef, defers := [] } w := by
    refine { env := fun t => ?_, size := by rw [hlen, hsize], sim := hS, glob := hG, defers := rfl }
    by_cases ht : t < E0.length
    · have e1 : (E0 ++ List.replicate (fn.ntmps - E0.length) (.dead : AV U)).getD t .dead = E0[t] := by
       rw [gda, List.getElem?_append_left ht, lga ht]; rfl
      have htu : t < us.length := by omega
      have e2 : ({ tmps := us.toArray ++ Array.replicate (fn.ntmps - us.toArray.size) undef, defers := [] } : Act).eval (.tmp t) = us[t] := by
       simp only [Act.eval, agd]; rw [Array.getElem?_append_left (by simpa using htu)]; simp [htu]
      rw [e1, e2]; exact hA.get t _ _ (lga ht) (lga htu)
    · have e1 : (E0 ++ List.replicate (fn.ntmps - E0.length) (.dead : AV U)).getD t .dead = .dead := by
       rw [gda, List.getElem?_append_right (by omega), List.getElem?_replicate]; split <;> rfl
      rw [e1]; exact .dead _
   refine calls_of_wp hf hbody ?_; refine (z32 (μs := μ) (Hs := H) (ws := w) L O X hL hpk body).1 (fun id b hb => ?_) _ _ _ y hrun _ w _ ⟨μ, H, hst, .first hrob, hlen⟩ ?_
   · unfold zgj; rw [hbody]; exact zjx hnd hb
   · have fin : ∀ E h a w', zmo C fn ct E h = some y → zlz C μ H w fn.ntmps E h a w' → a.defers = [] ∧ ∃ v, (results fn a.tmps).run C.P w' = .ok v w' ∧ z7u C ct ct.fresh μ H w y v w' := by
      intro E h a w' hfn hh; obtain ⟨μ1, H1, s1, S1, _⟩ := hh; exact ⟨s1.defers, zxl L hargs hA hro hok s1 S1 hfn⟩
     refine ⟨fun E h a w' hk hh => fin E h a w' hk hh, fun i E h a w' hk _ => by simp at hk, fun E h a w' hk hh => fin E h a w' hk hh, fun r0 a w' hk hf0 => ?_⟩; cases hk; obtain ⟨E, h, g1, g2⟩ := hf0; exact fin E h a w' g1 g2
theorem zof {C C' : Ctx U} (e : C.En = C'.En) : ∀ (ms : List (Md U)) (j : Nat) (ds : List (Dyn U)), zds C j ms ds = zds C' j ms ds
 | [], j, [] => rfl
 | [], j, _ :: _ => rfl
 | .val t :: ms, j, [] => rfl
 | .val t :: ms, j, d :: ds => by simp only [zds, zof e ms j ds, e]
 | .ptr t wr owns :: ms, j, [] => rfl
 | .ptr t wr owns :: ms, j, d :: ds => by simp only [zds, zof e ms (j + 1) ds, e]
 | .clo f n :: ms, j, [] => by simp only [zds, zof e ms j []]
 | .clo f n :: ms, j, d :: ds => by simp only [zds, zof e ms j (d :: ds)]
theorem z7q {C C' : Ctx U} (e : C.En = C'.En) (ms : List (Md U)) (ds : List (Dyn U)) : zk4 C ms ds = zk4 C' ms ds := by
 unfold zk4
 rw [zof e]
theorem zru {C C' : Ctx U} (e : C.En = C'.En) : ∀ (ps : List (Pl U)) (j : Nat) (ds : List (Dyn U)), zhi C j ps ds = zhi C' j ps ds
 | [], j, [] => rfl
 | [], j, _ :: _ => rfl
 | p :: ps, j, [] => by
  obtain ⟨k, off, ty, wr, owns⟩ := p; cases wr with
  | true => rfl
  | false => simp only [zhi, zru e ps (j + 1) []]
 | p :: ps, j, d :: ds => by
  obtain ⟨k, off, ty, wr, owns⟩ := p; cases wr with
  | true => simp only [zhi, zru e ps (j + 1) ds, e]
  | false => simp only [zhi, zru e ps (j + 1) (d :: ds)]
theorem z2t {C C' : Ctx U} (e : C.En = C'.En) (base : Nat) (fresh : List Nat) (l : List (Dyn U)) : zbl C base fresh l = zbl C' base fresh l := by
 unfold zbl
 rw [e]
theorem GOK.ctx {C C' : Ctx U} {H : Fz} {w : World} (e1 : C.En = C'.En) (e2 : C.G = C'.G) (h : GOK C H w) : GOK C' H w where
 val := fun g av hg => by
  rw [← e1]; exact h.val g av (by rw [e2]; exact hg)
 size := fun g t xs hg => by
  rw [← e1]; exact h.size g t xs (by rw [e2]; exact hg)
theorem zib.ctx {C C' : Ctx U} {f : FuncId} {ct : Ct U} (e0 : C.P = C'.P) (e1 : C.En = C'.En) (e2 : C.G = C'.G) (m : zib C f ct) : zib C' f ct := by
 refine ⟨e0 ▸ m.1, fun ds y hy E0 h0 ha μ H w us hA hS hG => ?_⟩
 rw [← z7q e1] at ha
 rw [← e1] at hA hS
 have := m.2 ds y hy E0 h0 ha μ H w us hA hS (hG.ctx e1.symm e2.symm)
 rw [← e0]
 refine this.mono fun e w' hb => ?_
 cases e with
 | returned u =>
  obtain ⟨rv, hf, ho, ml, H', g1, g2, g3, g4, g5, g6, g7⟩ := hb; exact ⟨rv, hf, ho, ml, H', by rw [← z2t e1]; exact g1, by rw [← zru e1]; exact g2, g3, e1 ▸ g4, g5, e1 ▸ g6, g7⟩
 | panicked c => exact hb
 | outgrown => exact hb
end
theorem z64 {U : Uni} {C : Ctx U} {f : FuncId} {fn : Func} {ct : Ct U} (hf : C.P.funcs[f]? = some fn) (hnm : (fn.name == "runtime.NumGoroutine") = false) (hbs : fn.body.isSome = true) (h : ∀ ds y, ct.fn ds = some y → False) : zib C f ct :=
 ⟨⟨fn, hf, hbs, hnm⟩, fun ds y hy => (h ds y hy).elim⟩
section
variable {U : Uni} {C : Ctx U}
def AllF {R : Type} : (ts : List U.Ty) → Fnc U ts R → (List (Dyn U) → Option R) → Prop
 | [], f, G => G [] = f
 | t :: ts, f, G => ∀ x, AllF ts (f x) fun ds => G (⟨t, x⟩ :: ds)
theorem z0p {R : Type} : ∀ (ts : List U.Ty) (f : Fnc U ts R) (G : List (Dyn U) → Option R), AllF ts f G → ∀ ds y, app U ts f ds = some y → G ds = some y
 | [], f, G, h, [], y, hy => by
  have h' : G [] = f := h; have hy' : f = some y := hy; rw [h', hy']
 | [], f, G, h, _ :: _, y, hy => by cases hy
 | t :: ts, f, G, h, [], y, hy => by cases hy
 | t :: ts, f, G, h, d :: ds, y, hy => by
  have hy' : ((d.as t).bind fun x => app U ts (f x) ds) = some y := hy; rw [oba] at hy'; obtain ⟨x, h1, h2⟩ := hy'; rw [← zwg h1]; exact z0p ts (f x) _ (h x) ds y h2
theorem zos {α : Type} : ∀ {l : List (Nat × α)} {i : Nat} {x : α}, pick l i = some x → (i, x) ∈ l
 | [], i, x, h => by cases h
 | (j, y) :: l, i, x, h => by
  simp only [pick, zbw] at h
  by_cases e : j = i
  · subst e; simp at h; subst h; exact msa
  · simp [e] at h; exact mca _ (zos h)
theorem ze5 {α : Type} {P : α → Prop} : ∀ p ∈ ([] : List α), P p := fun p hp => by simp at hp
theorem all_cons {α : Type} {P : α → Prop} {a : α} {l : List α} (h : P a) (t : ∀ p ∈ l, P p) : ∀ p ∈ a :: l, P p := fun p hp => by
 rcases mco hp with rfl | hp
 · exact h
 · exact t p hp
variable {fn : Func} {ct : Ct U} {L : Nat → Option (Cut U (PT U (ct.results ++ ct.outs)))}
def LOK1 (C : Ctx U) (fn : Func) (ct : Ct U) (L : Nat → Option (Cut U (PT U (ct.results ++ ct.outs)))) (p : Nat × Cut U (PT U (ct.results ++ ct.outs))) : Prop := match p.2 with
 | .plain sp ts f => ∀ x y, f x = some y → ∃ n, zh (zon C fn L sp ts p.1) n x = some y
 | .rets sp ts f => ∀ x y, f x = some y → ∃ n, zp (zom C fn ct L sp ts p.1) n x = some y
theorem zzh {l : List (Nat × Cut U (PT U (ct.results ++ ct.outs)))} (hL : L = pick l) (h : ∀ p ∈ l, LOK1 C fn ct L p) : LOK C fn ct L := by
 intro id cut hc
 rw [hL] at hc
 have := h _ (zos hc)
 unfold LOK1 at this
 cases cut <;> exact this
theorem zzb {l : List (Nat × Ct U)} (hO : C.O = pick l) (h : ∀ p ∈ l, zib C p.1 p.2) : OOK C := by
 intro f ct hc
 rw [hO] at hc
 exact h _ (zos hc)
def cur {R : Type} : (ts : List U.Ty) → (List (Dyn U) → Option R) → Fnc U ts R
 | [], G => G []
 | t :: ts, G => fun x => cur ts fun ds => G (⟨t, x⟩ :: ds)
theorem z57 {R : Type} : ∀ (ts : List U.Ty) (G : List (Dyn U) → Option R), AllF ts (cur ts G) G
 | [], G => rfl
 | t :: ts, G => fun x => z57 ts fun ds => G (⟨t, x⟩ :: ds)
theorem zac2 {R : Type} {ts : List U.Ty} {f : Fnc U ts R} {G : List (Dyn U) → Option R} (h : cur ts G = f) : ∀ ds y, app U ts f ds = some y → G ds = some y := by
 subst h
 exact z0p ts _ G (z57 ts G)
def LE (C : Ctx U) (fn : Func) (ct : Ct U) (L : Nat → Option (Cut U (PT U (ct.results ++ ct.outs)))) (p : Nat × Cut U (PT U (ct.results ++ ct.outs))) : Prop := match p.2 with
 | .plain sp ts f => ∃ r n, f = zh r n ∧ zon C fn L sp ts p.1 = r
 | .rets sp ts f => ∃ r n, f = zp r n ∧ zom C fn ct L sp ts p.1 = r
def Ls (C : Ctx U) (fn : Func) (ct : Ct U) (L : Nat → Option (Cut U (PT U (ct.results ++ ct.outs)))) : List (Nat × Cut U (PT U (ct.results ++ ct.outs))) → Prop
 | [] => True
 | p :: l => LE C fn ct L p ∧ Ls C fn ct L l
theorem z85 : ∀ {l : List (Nat × Cut U (PT U (ct.results ++ ct.outs)))}, Ls C fn ct L l → ∀ p ∈ l, LE C fn ct L p
 | [], _, p, hp => by simp at hp
 | q :: l, h, p, hp => by
  rcases mco hp with rfl | hp
  · exact h.1
  · exact z85 h.2 p hp
theorem zaek {l : List (Nat × Cut U (PT U (ct.results ++ ct.outs)))} (hL : L = pick l) (h : Ls C fn ct L l) : LOK C fn ct L := by
 refine zzh hL fun p hp => ?_
 have h0 := z85 h p hp
 obtain ⟨id, cut⟩ := p
 cases cut with
 | plain sp ts f =>
  obtain ⟨r, n, h1, h2⟩ : ∃ r n, f = zh r n ∧ zon C fn L sp ts id = r := h0; exact fun x y hy => ⟨n, by rw [h2, ← h1]; exact hy⟩
 | rets sp ts f =>
  obtain ⟨r, n, h1, h2⟩ : ∃ r n, f = zp r n ∧ zom C fn ct L sp ts id = r := h0; exact fun x y hy => ⟨n, by rw [h2, ← h1]; exact hy⟩
structure Kp (C0 : Ctx U) where
 f : Nat
 t : Ct U
 m : zib C0 f t
def Osk {C0 : Ctx U} (l : List (Kp C0)) : List (Nat × Ct U) := l.map fun k => (k.f, k.t)
theorem zafx {C0 : Ctx U} (e0 : C0.P = C.P) (e1 : C0.En = C.En) (e2 : C0.G = C.G) {l : List (Kp C0)} (hO : C.O = pick (Osk l)) : OOK C := by
 refine zzb hO fun p hp => ?_
 obtain ⟨k, _, rfl⟩ := List.mem_map.1 hp
 exact k.m.ctx e0 e1 e2
def zwi (P : Program) (p : Nat × Nat) : Prop := ∀ (args : List Value) v, zxr p.2 args = some v → ∀ w, (callFunc p.1 args.toArray).run P w = .ok (.value v) w
theorem zyp {l : List (Nat × Nat)} (hX : C.X = pick l) (h : ∀ p ∈ l, zwi C.P p) : XOK C := by
 intro f n hc
 rw [hX] at hc
 exact h _ (zos hc)
theorem z4p {w w' : World} (h : RowKit.Below w.heap.size w w') : Wd (fun _ _ => False) w w' := ⟨h.os, h.tape, h.output, h.size, fun b hb => .inl (h.block b hb)⟩
theorem zxh {f : FuncId} {ct : Ct U} (hfn : ∃ fn, C.P.funcs[f]? = some fn ∧ fn.body.isSome = true ∧ (fn.name == "runtime.NumGoroutine") = false) {t : U.Ty} (hres : ct.results = [t]) (houts : ct.outs = []) (hfresh : ct.fresh = []) (hps : zmt ct.params = [])
 (h : ∀ ds y, ct.fn ds = some y → ∀ E0 h0, zk4 C ct.params ds = some (E0, h0) → ∀ μ H w us, Args C.En μ H E0 us → Mem μ H w → GOK C H w → ∃ x, zdy U (ct.results ++ ct.outs) y = [⟨t, x⟩] ∧
  Calls C.P f us.toArray w fun e w' => ∃ u, e = .returned u ∧ Wd (fun _ _ => False) w w' ∧ V C.En zh6 H (C.En.value t x) u) : zib C f ct := by
 refine ⟨hfn, fun ds y hy E0 h0 ha μ H w us hA hS hG => ?_⟩
 obtain ⟨x, hx, hcalls⟩ := h ds y hy E0 h0 ha μ H w us hA hS.toMem hG
 refine hcalls.mono fun e w' hb => ?_
 obtain ⟨u, rfl, hw, hV⟩ := hb
 have hm : Mem zh6 H w' := ⟨fun b o v hv => by rw [hw.cell (zf0 (hS.frz b o v hv)) (by simp)]; exact hS.frz b o v hv, (fun k k' l l' b o h1 => by cases h1), (fun k l b o h1 => by cases h1), (fun k l b o h1 => by cases h1)⟩
 have hmg : (zch [] : Mp) = zh6 := rfl
 refine ⟨C.En.value t x, [], [], [], H, ?_, ?_, List.nodup_nil, .nil, hm, hV, H.le_refl, (fun k l hk => by simp at hk), hw.weaken fun _ _ _ hf => hf.elim, fun b o hb => .inl hb, fun k l b o hk => by simp at hk⟩
 · rw [hx, hres, hfresh]; rfl
 · rw [hx, hres, hps]; rfl
end
section
variable {U : Uni} {C : Ctx U}
theorem zacy {P : Program} {o : Oper} {a : Act} {w : World} {T T' e : TypeId} {x : Operand} (ho : o.op = .binOp .eql T x (.const (.slice none 0 0)) T') (hu : P.underlying T = some (.slice e)) {ad : Option Addr} {n cap : Nat} (hx : a.eval x = .slice ad n cap) :
 (execOp a.eval o).run P w = .ok (.value (.bool ad.isNone)) w := by
 have hc : a.eval (.const (.slice none 0 0)) = .slice none 0 0 := rfl
 have hq : ∀ d, (Op.equalIn (d + 1) T (.slice ad n cap) (.slice none 0 0)).run P w = .ok ad.isNone w := by
  intro d; rw [Op.equalIn]; cases ad <;> simp [Sem.run_bind, run_underlying hu]
 have hb : (binOp .eql T (.slice ad n cap) (.slice none 0 0)).run P w = .ok (.bool ad.isNone) w := by
  simp only [binOp]; simp [Op.equal, Op.maxDepth, hq 9999]
 simp [execOp, ho, hx, hc, eqGuard, hb]
theorem z7e {fn : Func} {ct : Ct U} {ds : List (Dyn U)} {E0 : List (AV U)} {h0 : za U} (ha : zk4 C ct.params ds = some (E0, h0)) (hro : C.ro = zdg 0 ct.params) (hle : E0.length ≤ fn.ntmps) {μ : Mp} {H : Fz} {w : World} {us : List Value}
 (hA : Args C.En μ H E0 us) (hS : Sim C.En μ H h0 w) (hG : GOK C H w) : zlz C μ H w fn.ntmps (E0 ++ List.replicate (fn.ntmps - E0.length) .dead) h0 { tmps := us.toArray ++ Array.replicate (fn.ntmps - us.toArray.size) undef, defers := [] } w := by
 obtain ⟨hargs, hnk⟩ := zsb ha
 have hAl : E0.length = us.length := hA.length
 have hrob : ∀ k l, C.ro.contains k = true → μ k = some l → l.box = true := fun k l hk hl => by
  rw [hro] at hk; obtain ⟨l0, g1, g2⟩ := zmc _ _ _ _ _ _ hargs hA k (zne _ _ _ (by simpa using hk)); rw [hl] at g1; cases g1; exact g2
 have hlen : (E0 ++ List.replicate (fn.ntmps - E0.length) (.dead : AV U)).length = fn.ntmps := by simp; omega
 have hsize : (us.toArray ++ Array.replicate (fn.ntmps - us.toArray.size) undef).size = fn.ntmps := by simp; omega
 refine ⟨μ, H, { env := fun t => ?_, size := by rw [hlen, hsize], sim := hS, glob := hG, defers := rfl }, .first hrob, hlen⟩
 by_cases ht : t < E0.length
 · have e1 : (E0 ++ List.replicate (fn.ntmps - E0.length) (.dead : AV U)).getD t .dead = E0[t] := by
    rw [gda, List.getElem?_append_left ht, lga ht]; rfl
   have htu : t < us.length := by omega
   have e2 : ({ tmps := us.toArray ++ Array.replicate (fn.ntmps - us.toArray.size) undef, defers := [] } : Act).eval (.tmp t) = us[t] := by
    simp only [Act.eval, agd]; rw [Array.getElem?_append_left (by simpa using htu)]; simp [htu]
   rw [e1, e2]; exact hA.get t _ _ (lga ht) (lga htu)
 · have e1 : (E0 ++ List.replicate (fn.ntmps - E0.length) (.dead : AV U)).getD t .dead = .dead := by
    rw [gda, List.getElem?_append_right (by omega), List.getElem?_replicate]; split <;> rfl
   rw [e1]; exact .dead _
theorem zsm (L : CLaws C) (O : OOK C) (X : XOK C) {f : FuncId} {fn : Func} {ct : Ct U} {Lp : Nat → Option (Cut U (PT U (ct.results ++ ct.outs)))} (hf : C.P.funcs[f]? = some fn) (hnm : (fn.name == "runtime.NumGoroutine") = false) (hL : LOK C fn ct Lp) (hok : ∀ y, zzp C ct y = true)
 {A X1 Y : Code} {id : Nat} {o1 o2 : Oper} {T T' e : TypeId} (hbody : fn.body = some (.seq A (.seq (.seq (.region id #[o1, o2] false) (.cond (.tmp 4) X1 .skip)) Y))) (ho1 : o1.op = .move (.tmp 0)) (hd1 : o1.dst = some 3) (hg1 : o1.guard = none)
 (ho2 : o2.op = .binOp .eql T (.tmp 3) (.const (.slice none 0 0)) T') (hd2 : o2.dst = some 4) (hg2 : o2.guard = none) (hu : C.P.underlying T = some (.slice e)) (hn : fn.ntmps = 8) (hj : C.joins = fun _ => none)
 (hids : zdm (.seq A (.seq (.seq (.region id #[o1, o2] false) (.cond (.tmp 4) X1 .skip)) Y)) = []) (hro : C.ro = []) (hpk : C.pk = []) {t : U.Ty} (hps : ct.params = [.val (C.En.sl t)])
 (hA : ∀ xs : List (U.den t), zht C Lp A ({ norm := fun E h => some (E, h), exit := fun _ _ _ => none, ret := fun _ _ => none, res := fun _ => none } : Kont U (PT U (ct.results ++ ct.outs)) (List (AV U) × za U)) [.lst t xs, .dead, .dead, .dead, .dead, .dead, .dead, .dead] [] = some ([.lst t xs, .dead, .sc (.slice none 0 0), .dead, .dead, .dead, .dead, .dead], []))
 (hY : ∀ ds y, ct.fn ds = some y → ∃ xs : List (U.den t), ds = [⟨C.En.sl t, C.En.toSl t xs⟩] ∧ ∀ b, (b = true → xs = []) →
  zht C Lp (.cond (.tmp 4) X1 .skip) { norm := zht C Lp Y ({ norm := zmo C fn ct, exit := fun _ _ _ => none, ret := zmo C fn ct, res := some } : Kont U (PT U (ct.results ++ ct.outs)) (PT U (ct.results ++ ct.outs))), exit := fun _ _ _ => none, ret := zmo C fn ct, res := some } [.lst t xs, .dead, .sc (.slice none 0 0), .lst t xs, .sc (.bool b), .dead, .dead, .dead] [] = some y) : zib C f ct := by
 refine ⟨⟨fn, hf, by rw [hbody]; rfl, hnm⟩, fun ds y hy E0 h0 ha μ H w us hA' hS hG => ?_⟩
 obtain ⟨xs, hds, hYb⟩ := hY ds y hy
 have hval : C.En.value (C.En.sl t) (C.En.toSl t xs) = .lst t xs := by simp [Enc.value, L.e.slAgg, L.e.slEnc]
 obtain ⟨hargs, _⟩ := zsb ha
 have hE : E0 = [.lst t xs] ∧ h0 = [] := by
  rw [hps, hds] at hargs; simp only [zds, oba] at hargs; obtain ⟨x, h1, r, h2, h3⟩ := hargs; have := zo6 h1; subst this; cases h2; cases h3; exact ⟨by simp [hval], rfl⟩
 have hro' : C.ro = zdg 0 ct.params := by rw [hro, hps]; rfl
 have hpk' : ∀ k l, μ k = some l → l.box = true → k ∈ C.pk := fun k l hk hb => by
  obtain ⟨ob, g1, g2⟩ := hS.obj k l hk; rw [hE.2] at g1; cases g1
 have hh := z7e (fn := fn) ha hro' (by rw [hE.1, hn]; simp) hA' hS hG
 rw [hE.1, hE.2] at hh
 have hlist : ([.lst t xs] ++ List.replicate (fn.ntmps - ([.lst t xs] : List (AV U)).length) .dead : List (AV U)) = [.lst t xs, .dead, .dead, .dead, .dead, .dead, .dead, .dead] := by rw [hn]; rfl
 rw [hlist] at hh
 have hnoloop : ∀ {c : Code}, zdm c = [] → ∀ i b, zi8 i b c → zgj fn i = some b := fun {c} hc i b hb => by
  have := zhz hb; rw [hc] at this; simp at this
 have hlA : zdm A = [] := by simp [zdm] at hids; exact hids.1
 have hlC : zdm (.cond (.tmp 4) X1 .skip) = [] := by simp [zdm] at hids ⊢; exact hids.2.1
 have hlY : zdm Y = [] := by simp [zdm] at hids; exact hids.2.2
 have fin : ∀ E h a w', zmo C fn ct E h = some y → zlz C μ H w fn.ntmps E h a w' → a.defers = [] ∧ ∃ v, (results fn a.tmps).run C.P w' = .ok v w' ∧ z7u C ct ct.fresh μ H w y v w' := by
  intro E h a w' hfn hh; obtain ⟨μ1, H1, s1, S1, _⟩ := hh; exact ⟨s1.defers, zxl L hargs hA' hro' hok s1 S1 hfn⟩
 have snd := fun c => (z32 (μs := μ) (Hs := H) (ws := w) L O X hL hpk' c).1
 refine calls_of_wp hf hbody (wp_seq ?_)
 refine snd A (hnoloop hlA) _ _ _ _ (hA xs) _ w _ hh ⟨fun E1 h1 a1 w1 hk hh1 => ?_, fun i E' h' a' w' hk _ => by simp at hk, fun E' h' a' w' hk _ => by simp at hk, fun r0 a' w' hk _ => by simp at hk⟩
 cases hk
 show (Code.seq _ Y).wp _ _ _ _
 refine wp_seq (wp_seq (wp_region_list ?_))
 obtain ⟨μ1, H1, s1, S1, hl1⟩ := hh1
 have hgood : ∃ v h', some (v, h') = some ((.lst t xs : AV U), ([] : za U)) ∧ zj2 C [.lst t xs, .dead, .sc (.slice none 0 0), .dead, .dead, .dead, .dead, .dead] [] o1 v h' := by
  refine zur L O X (k := fun v h => some (v, h)) ?_ ?_
  · unfold zzv; rw [ho1]; rfl
  · unfold zj4; rw [ho1]
 obtain ⟨v1, h1', e1, g1⟩ := hgood
 cases e1
 rw [show (#[o1, o2] : Array Oper).toList = [o1, o2] from rfl]
 rw [wpList, if_pos (by simp [Region.wanted, hg1])]
 refine .inl (s1.go L.e S1 g1 fun μ2 H2 a2 w2 s2 S2 => ?_)
 rw [hd1] at s2
 rw [wpList, if_pos (by simp [Region.wanted, hg2])]
 have hV := s2.env 3
 have hE3 : (zc4 [.lst t xs, .dead, .sc (.slice none 0 0), .dead, .dead, .dead, .dead, .dead] (some 3) (.lst t xs) : List (AV U)).getD 3 .dead = .lst t xs := rfl
 rw [hE3] at hV
 generalize hq : a2.eval (.tmp 3) = u at hV
 cases hV with
 | lst hnl hcap had g2 g3 g4 =>
  rename_i ad n cap b o'; have hb : ad.isNone = true → xs = [] := fun hN => by
   refine Classical.byContradiction fun hne => ?_; rw [had hne] at hN; cases hN
  left; refine zlh (zacy ho2 hu hq) ?_; have A2 := zf1.stay (C := C) (h := ([] : za U)) s2.sim.toMem; have s3 := s2.after L.e A2 (d := o2.dst) (cv := .bool ad.isNone) (v := .sc (.bool ad.isNone)) (.sc _); have S3 := S2; rw [hd2] at s3 ⊢; rw [wpList]; have hlast : (zc4 (zc4 [.lst t xs, .dead, .sc (.slice none 0 0), .dead, .dead, .dead, .dead, .dead] (some 3) (.lst t xs)) (some 4) (.sc (.bool ad.isNone)) : List (AV U)) = [.lst t xs, .dead, .sc (.slice none 0 0), .lst t xs, .sc (.bool ad.isNone), .dead, .dead, .dead] := rfl; rw [hlast] at s3; refine snd _ (hnoloop hlC) _ _ _ _ (hYb ad.isNone hb) _ w2 _ ⟨μ2, H2, s3, S3, by rw [hn]; rfl⟩ ?_; refine ⟨fun E' h' a' w' hk hh' => ?_, fun i E' h' a' w' hk _ => by simp at hk, fun E' h' a' w' hk hh' => fin E' h' a' w' hk hh', fun r0 a' w' hk hf0 => ?_⟩
  · refine snd Y (hnoloop hlY) _ _ _ _ hk _ w' _ hh' ⟨fun E h a w' hk hh => fin E h a w' hk hh, fun i E h a w' hk _ => by simp at hk, fun E h a w' hk hh => fin E h a w' hk hh, fun r0 a' w' hk hf0 => ?_⟩; cases hk; obtain ⟨E, h, g1, g2⟩ := hf0; exact fin E h a' w' g1 g2
  · cases hk; obtain ⟨E, h, g1, g2⟩ := hf0; exact fin E h a' w' g1 g2
end
section
variable {U : Uni} {C : Ctx U}
def Sp {α : Type} (rd : List (AV U) → Option (α × List (AV U))) (en : α → List (AV U)) : Prop := ∀ l x r, rd l = some (x, r) → ∃ p, l = p ++ r ∧ F2 Ref p (en x)
theorem Sp.step {α β : Type} {rd : List (AV U) → Option (α × List (AV U))} {en : α → List (AV U)} (s : Sp rd en) {l : List (AV U)} {f : α × List (AV U) → Option β} {q : β} (h : (rd l).bind f = some q) :
 ∃ y r p, l = p ++ r ∧ F2 Ref p (en y) ∧ f (y, r) = some q := by
 rw [oba] at h
 obtain ⟨⟨y, r⟩, h1, h2⟩ := h
 obtain ⟨p, h3, h4⟩ := s l y r h1
 exact ⟨y, r, p, h3, h4, h2⟩
theorem F2.refl_ref : ∀ (l : List (AV U)), F2 Ref l l
 | [] => .nil
 | c :: l => .cons (.inl rfl) (F2.refl_ref l)
def z76 : AV U → Bool
 | .sc _ => true
 | _ => false
theorem z4u {c : AV U} (h : z76 c = true) : ∃ v, c = .sc v := by
 cases c <;> first | exact ⟨_, rfl⟩ | cases h
def fzc : AV U → Bool
 | .sc v => v.oneCell'
 | .lst _ _ => true
 | _ => false
theorem zaa5 {c : AV U} (h : fzc c = true) : Fzc c := by
 cases c <;> first | exact .inl ⟨_, rfl, h⟩ | exact .inr ⟨_, _, rfl⟩ | cases h
theorem z56 {P : AV U → Bool} {l : List (AV U)} (h : l.all P = true) {c : AV U} (hc : c ∈ l) : P c = true := lat h c hc
def goOk (C : Ctx U) (p : TypeId × U.Ty) : Bool := (match za4 C p.1 with | some n => Nat.beq n (C.En.sz p.2) | none => false) && (match zdi C p.1 with | some b => b == C.En.agg p.2 | none => false)
theorem zabc (e : ELaws C.En) {l : List (TypeId × U.Ty)} (hl : C.En.ofGo = pick l) (h : l.all (goOk C) = true) : CLaws C where
 e := e
 go := fun T t ht => by
  rw [hl] at ht; have h1 := lat h _ (zos ht); unfold goOk at h1; obtain ⟨h2, h3⟩ := (baa _ _).mp h1; simp only at h2 h3; constructor
  · split at h2
    · rename_i n hn; rw [hn, Nat.eq_of_beq_eq_true h2]
    · cases h2
  · split at h3
    · rename_i b hb; rw [hb]
      congr 1
      exact eq_of_beq h3
    · cases h3
theorem zadt {μ : Mp} {H : Fz} {w : World} (hG : GOK C H w) (hm : Mem μ H w) {g : Nat} {name : String} {t : U.Ty} {xs : List (U.den t)} {k : IntKind} {zs : List Int} (hg : C.G g = some (.rarr t xs)) (hn : C.P.globalNamed name = some g)
 (henc : ∀ (i : Nat) x, xs[i]? = some x → ∃ z, zs[i]? = some z ∧ C.En.enc t x = [.sc (.int k z)]) (hl : zs.length = xs.length) (hsz : C.En.sz t = 1) : Lib.TabIs C.P w name k zs := by
 obtain ⟨cs, T, fz, h1, h2⟩ := hG.size g t xs hg
 have hV := (hG.val g _ hg).2 μ
 rw [hsz, Nat.mul_one] at h2
 have hcs : cs = (zs.map fun z => Value.int k z).toArray := by
  apply Array.ext
  · simp [h2, hl]
  · intro i hi1 hi2; have hix : i < xs.length := by omega
    generalize hq : (Value.pointer (some ⟨g, 0, none⟩)) = u at hV; cases hV with
    | rarr gg g1 g2 =>
     rename_i b o; injection hq with hq; injection hq with hq; injection hq with e1 e2; subst e1 e2; obtain ⟨z, hz, he⟩ := henc i xs[i] (lga hix); have c0 : (C.En.enc t xs[i])[0]? = some (.sc (.int k z)) := by rw [he]; rfl
     have hH := g1 i _ (lga hix) 0 _ c0; have hv := (g2 i _ (lga hix) 0 _ c0).int; rw [hv, hsz] at hH; have hc := hm.frz _ _ _ hH; simp only [Nat.mul_one, Nat.add_zero, Nat.zero_add] at hc; unfold World.cell? at hc; rw [h1] at hc; simp only at hc; have hzi : zs[i]? = some z := hz; have : cs[i]? = some (.int k z) := hc; rw [Array.getElem?_eq_getElem hi1] at this; rw [Option.some.inj this]; have hzl : i < zs.length := by omega
     rw [lga hzl] at hzi; simp [Option.some.inj hzi]
 unfold Lib.TabIs World.var?
 rw [hn]
 simp only [obz, h1]
 rw [hcs]
theorem zaby (w : World) (k : Nat) (os : Array Obj) : Wd (fun _ _ => False) w (Sort.grow (w.drewN k) os) := by
 refine ⟨rfl, rfl, rfl, by simp [Sort.grow, World.drewN], fun b hb => .inl ?_⟩
 simp [Sort.grow, World.drewN, Array.getElem?_append, hb]
theorem z4m {R : Type} {t : U.Ty} {f : U.den t → Option R} {ds : List (Dyn U)} {y : R} (h : app U (R := R) [t] f ds = some y) : ∃ x, ds = [⟨t, x⟩] ∧ f x = some y := by
 cases ds with
 | nil => cases h
 | cons d ds =>
  have h' : ((d.as t).bind fun x => app U (R := R) [] (f x) ds) = some y := h; rw [oba] at h'; obtain ⟨x, h1, h2⟩ := h'; cases ds with
  | nil => exact ⟨x, by rw [zwg h1], h2⟩
  | cons => cases h2
theorem app2 {R : Type} {t t' : U.Ty} {f : U.den t → U.den t' → Option R} {ds : List (Dyn U)} {y : R} (h : app U (R := R) [t, t'] f ds = some y) : ∃ x x', ds = [⟨t, x⟩, ⟨t', x'⟩] ∧ f x x' = some y := by
 cases ds with
 | nil => cases h
 | cons d ds =>
  have h' : ((d.as t).bind fun x => app U (R := R) [t'] (f x) ds) = some y := h; rw [oba] at h'; obtain ⟨x, h1, h2⟩ := h'; obtain ⟨x', h3, h4⟩ := z4m h2; exact ⟨x, x', by rw [h3, zwg h1], h4⟩
end
theorem z0u {P : Program} (nm : String) (x y c : Int) (hc : ¬ c.toNat > 1) (w : World) : (Extern.MathBitsCarry.three nm #[.int .u64 x, .int .u64 y, .int .u64 c]).run P w = .ok (x.toNat, y.toNat, c.toNat) w := by
 have h : Extern.MathBitsCarry.three nm #[.int .u64 x, .int .u64 y, .int .u64 c] = (do
  let c' := (← asInt (.int .u64 c)).toNat
  if c' > 1 then unsupported (.noEntry ("extern/math/bits." ++ nm ++ ": a carry that is neither 0 nor 1"))
  pure ((← asInt (.int .u64 x)).toNat, (← asInt (.int .u64 y)).toNat, c')) := rfl
 rw [h]
 simp [asInt, asIntOf]
 omega
def zqe : Array Value → Sem Value := fun args => do
 let (x, y, b) ← Extern.MathBitsCarry.three "Sub64" args
 pure (Extern.MathBitsCarry.pair ((x + Extern.MathBitsCarry.m64 - y - b) % Extern.MathBitsCarry.m64) (if x < y + b then 1 else 0))
theorem z91 {P : Program} (x y c : Int) (hc : ¬ c.toNat > 1) (w : World) : (Go.add64Entry #[.int .u64 x, .int .u64 y, .int .u64 c]).run P w = .ok (.tuple #[.int .u64 ((((x.toNat + y.toNat + c.toNat) % 2 ^ 64 : Nat)) : Int), .int .u64 ((((x.toNat + y.toNat + c.toNat) / 2 ^ 64 : Nat)) : Int)]) w := by
 unfold add64Entry
 rw [Sem.run_bind, z0u _ x y c hc]
 rfl
theorem z72 {P : Program} (x y c : Int) (hc : ¬ c.toNat > 1) (w : World) : (zqe #[.int .u64 x, .int .u64 y, .int .u64 c]).run P w = .ok (.tuple #[.int .u64 ((((x.toNat + 2 ^ 64 - y.toNat - c.toNat) % 2 ^ 64 : Nat)) : Int), .int .u64 ((((if x.toNat < y.toNat + c.toNat then 1 else 0 : Nat))) : Int)]) w := by
 unfold zqe
 rw [Sem.run_bind, z0u _ x y c hc]
 rfl
theorem z7w {P : Program} {f : FuncId} {fn : Func} (hf : P.funcs[f]? = some fn) (hname : (fn.name == "runtime.NumGoroutine") = false) (hb : fn.body.isNone = true) (hn : Extern.findNext fn = none) (he : Extern.find fn = some add64Entry) : zwi P (f, 0) := by
 intro args v h w
 match args, h with
 | [.int .u64 x, .int .u64 y, .int .u64 c], h =>
  simp only [zxr] at h; split at h
  · cases h
  · rename_i hc; cases h; rw [run_callFunc_extern hf hname hb hn he]; show ((add64Entry #[.int .u64 x, .int .u64 y, .int .u64 c]).run P w).andThen _ = _; rw [z91 x y c hc]; rfl
theorem z7v {P : Program} {f : FuncId} {fn : Func} (hf : P.funcs[f]? = some fn) (hname : (fn.name == "runtime.NumGoroutine") = false) (hb : fn.body.isNone = true) (hn : Extern.findNext fn = none) (he : Extern.find fn = some zqe) : zwi P (f, 1) := by
 intro args v h w
 match args, h with
 | [.int .u64 x, .int .u64 y, .int .u64 c], h =>
  simp only [zxr] at h; split at h
  · cases h
  · rename_i hc; cases h; rw [run_callFunc_extern hf hname hb hn he]; show ((zqe #[.int .u64 x, .int .u64 y, .int .u64 c]).run P w).andThen _ = _; rw [z72 x y c hc]; rfl
theorem zabu {P : Program} {f : FuncId} {fn : Func} (hf : P.funcs[f]? = some fn) (hname : (fn.name == "runtime.NumGoroutine") = false) (hb : fn.body.isNone = true) (hn : Extern.findNext fn = none) (he : Extern.find fn = some Extern.BytealgCompare.compare) : zwi P (f, 2) := by
 intro args v h w
 match args, h with
 | [.string x, .string y], h =>
  cases h; rw [run_callFunc_extern hf hname hb hn he]; rfl
open Go.RowKit
structure Bulk (B : {H : Type} → DataW H → Nat) : Prop where
 str : ∀ {H : Type} (l : List UInt8), l.length ≤ B (DataW.lit (H := H) (.string l))
 len : ∀ {H : Type} (es sp : List (DataW H)), es.length ≤ B (.slice es sp)
 elem : ∀ {H : Type} (es sp : List (DataW H)) d, d ∈ es → B d ≤ B (.slice es sp)
 part : ∀ {H : Type} (es : List (DataW H)) d, d ∈ es → B d ≤ B (.agg es)
section
variable {U : Uni}
inductive Wfc (En : Enc U) (n : Nat) : AV U → Prop
 | int {k z} : k.min ≤ z → z ≤ k.max → Wfc En n (.sc (.int k z))
 | bool {b} : Wfc En n (.sc (.bool b))
 | str {s : ByteArray} : s.size ≤ n → Wfc En n (.sc (.string s))
 | lst {t xs} : xs.length ≤ n → (∀ x ∈ xs, ∀ c ∈ En.enc t x, Wfc En n c) → Wfc En n (.lst t xs)
def Wft (En : Enc U) (n : Nat) (t : U.Ty) (x : U.den t) : Prop := ∀ c ∈ En.enc t x, Wfc En n c
variable {C : Ctx U}
def zki (w : World) : Fz := fun b o => w.cell? ⟨b, o, none⟩
def zti (w : World) (b : Nat) : Bool := decide (b < w.heap.size)
def zkj (C : Ctx U) (T : TypeId) (t : U.Ty) : Prop :=
 ∀ (B : {H : Type} → DataW H → Nat), Bulk (fun {H} => B (H := H)) → ∀ {H : Type} (enc : TypeId × Value → H) (w : World) (held : Bool) (fuel : Nat) (cs : List Value) (d : DataW H) (ps : List MemPlace), DataW.trod enc C.P w 0 (fun _ => true) held fuel T cs = some (d, ps) →
  (∃ x : U.den t, cs.length = C.En.sz t ∧ (∀ (j : Nat) c u, (C.En.enc t x)[j]? = some c → cs[j]? = some u → V C.En zh6 (zki w) c u) ∧ ∀ n, B d ≤ n → Wft C.En n t x) ∧
  ∀ w', Below w.heap.size w w' → DataW.trod enc C.P w' 0 (zti w) held fuel T cs = some (d, ps)
theorem zad5 {T : TypeId} {t : U.Ty} {k : IntKind} (hu : C.P.underlying T = some (.int k)) (hsz : C.En.sz t = 1) (he : ∀ n : Int, ∃ x : U.den t, C.En.enc t x = [.sc (.int k n)]) : zkj C T t := by
 intro B hB H enc w held fuel cs d ps h
 obtain ⟨n, rfl, hx, hw⟩ := DataW.trod_int hu h
 cases hx
 obtain ⟨x, hx⟩ := he n
 refine ⟨⟨x, by rw [hsz]; rfl, fun j c u hj hu => ?_, fun m hm c hc => ?_⟩, fun w' hb => ?_⟩
 · rw [hx] at hj; cases j with
   | zero => cases hj; cases hu; exact .sc _
   | succ j => simp at hj
 · rw [hx] at hc; simp at hc; subst hc; simp only [Lit.wf, baa, decide_eq_true_eq] at hw; exact .int hw.1 hw.2
 · cases fuel with
   | zero => simp [DataW.trod] at h
   | succ fuel =>
    unfold DataW.trod; rw [hu]; simp [hw]
theorem zad4 {T : TypeId} {t : U.Ty} (hu : C.P.underlying T = some .string) (hsz : C.En.sz t = 1) (he : ∀ s : ByteArray, ∃ x : U.den t, C.En.enc t x = [.sc (.string s)]) : zkj C T t := by
 intro B hB H enc w held fuel cs d ps h
 obtain ⟨s, rfl, hx, hs⟩ := DataW.trod_string hu h
 cases hx
 obtain ⟨x, hx⟩ := he s
 refine ⟨⟨x, by rw [hsz]; rfl, fun j c u hj hu => ?_, fun m hm c hc => ?_⟩, fun w' hb => ?_⟩
 · rw [hx] at hj; cases j with
   | zero => cases hj; cases hu; exact .sc _
   | succ j => simp at hj
 · rw [hx] at hc; simp at hc; subst hc; have := hB.str (H := H) s.data.toList; have hl : s.data.toList.length = s.size := Array.length_toList; exact .str (by omega)
 · cases fuel with
   | zero => simp [DataW.trod] at h
   | succ fuel =>
    unfold DataW.trod; rw [hu]; exact if_pos hs
theorem zrq {w : World} {a : Addr} {v : Value} (h : w.cell? a = some v) : a.spot = none := by
 unfold World.cell? at h
 split at h
 · split at h
   · cases h
   · rename_i hs; cases hq : a.spot with
     | none => rfl
     | some x => rw [hq] at hs; simp at hs
 · cases h
theorem cells?_at {w : World} {a : Addr} {n : Nat} {cs : List Value} (h : w.cells? 0 a n = some cs) : cs.length = n ∧ ∀ (j : Nat) v, cs[j]? = some v → w.cell? (a.add j) = some v := by
 unfold World.cells? at h
 rw [if_pos (Nat.zero_le _)] at h
 have hl : cs.length = n := by
  have := Lib.mapM_length h; simpa using this
 refine ⟨hl, fun j v hj => ?_⟩
 have hjn : j < n := by rw [← hl]; exact (gea hj).1
 obtain ⟨b, h1, h2⟩ := Lib.mapM_at h j j (by simp [hjn])
 rw [hj] at h1
 cases h1
 exact h2
theorem cells?_below {w w' : World} (hb : Below w.heap.size w w') {a : Addr} {n : Nat} {cs : List Value} (h : w.cells? 0 a n = some cs) : w'.cells? 0 a n = some cs := by
 unfold World.cells? at h ⊢
 rw [if_pos (Nat.zero_le _)] at h ⊢
 refine Go.mapM_carry h fun i v _ _ hv => ?_
 rw [hb.cell (World.block_lt_of_cell? w _ hv)]
 exact hv
theorem zto (L : ELaws C.En) {T e : TypeId} {t : U.Ty} (hu : C.P.underlying T = some (.slice e)) (hce : C.P.cellsOf e = C.En.sz t) (hr : zkj C e t) : zkj C T (C.En.sl t) := by
 intro B hB H enc w held fuel cs d ps h
 have hsz : C.En.sz (C.En.sl t) = 1 := L.one _ (L.slAgg t)
 have hpos := L.pos t
 have h' := h
 cases fuel with
 | zero => simp [DataW.trod] at h
 | succ fuel =>
  rcases DataW.trod_slice hu h with ⟨rfl, hx⟩ | ⟨a, len, cap, elems, rest, n, hf, rfl, hx, hb0, hl, hm, hlen, hel, hsp, hns⟩
  · cases hx; refine ⟨⟨C.En.toSl t [], by rw [hsz]; rfl, fun j c u hj hu => ?_, fun m _ c hc => ?_⟩, fun w' hb => ?_⟩
    · rw [L.slEnc] at hj; cases j with
      | zero => cases hj; cases hu; exact .lst (b := 0) (o := 0) rfl (Nat.le_refl _) (fun hh => absurd rfl hh) (fun _ _ => undef) (fun i x hx => by simp at hx) (fun i x hx => by simp at hx)
      | succ j => simp at hj
    · rw [L.slEnc] at hc; simp at hc; subst hc; exact .lst (Nat.zero_le _) (fun x hx => by simp at hx)
    · unfold DataW.trod; rw [hu]; rfl
  · cases hx; cases hf; have each : ∀ i, i < len → ∃ y cs', elems[i]? = some y ∧ w.cells? 0 (a.add (i * C.En.sz t)) (C.En.sz t) = some cs' ∧ DataW.trod enc C.P w 0 (fun _ => true) held fuel e cs' = some y := by
     intro i hi; have := hel i hi; rw [hce, lga (by omega), oba] at this; obtain ⟨cs', h1, h2⟩ := this; exact ⟨_, cs', lga (by omega), h1, h2⟩
    have eachx : ∀ i, i < len → ∃ x : U.den t, (∀ (j : Nat) c, (C.En.enc t x)[j]? = some c → ∃ u, w.cell? ((a.add (i * C.En.sz t)).add j) = some u ∧ V C.En zh6 (zki w) c u) ∧ ∀ y, elems[i]? = some y → ∀ n, B y.1 ≤ n → Wft C.En n t x := by
     intro i hi; obtain ⟨y, cs', h1, h2, h3⟩ := each i hi; obtain ⟨⟨x, g1, g2, g3⟩, _⟩ := hr B hB enc w held fuel cs' y.1 y.2 h3; obtain ⟨g4, g5⟩ := cells?_at h2; refine ⟨x, fun j c hj => ?_, fun y' hy' n hn => ?_⟩
     · have hjl : j < cs'.length := by rw [g1, ← L.sz t x]; exact (gea hj).1
       have := lga hjl; exact ⟨_, g5 j _ this, g2 j c _ hj this⟩
     · rw [h1] at hy'; cases hy'; exact g3 n hn
    obtain ⟨xs, hxl, hxs⟩ : ∃ xs : List (U.den t), xs.length = len ∧ ∀ i x, xs[i]? = some x → (∀ (j : Nat) c, (C.En.enc t x)[j]? = some c → ∃ u, w.cell? ((a.add (i * C.En.sz t)).add j) = some u ∧ V C.En zh6 (zki w) c u) ∧ ∀ y, elems[i]? = some y → ∀ n, B y.1 ≤ n → Wft C.En n t x := by
     refine ⟨(List.range len).pmap (fun i hi => (eachx i hi).choose) (fun i hi => by simpa using hi), by simp, fun i x hx => ?_⟩; have hi : i < len := by
      have := (gea hx).1; simpa using this
     have : x = (eachx i hi).choose := by
      obtain ⟨_, hh⟩ := gea hx; rw [← hh]; simp
     rw [this]; exact (eachx i hi).choose_spec
    have hcell : ∀ i x, xs[i]? = some x → ∀ (j : Nat) c, (C.En.enc t x)[j]? = some c → ∃ u, w.cell? ⟨a.block, a.off + (i * C.En.sz t + j), none⟩ = some u ∧ V C.En zh6 (zki w) c u := by
     intro i x hx j c hj; obtain ⟨u, h1, h2⟩ := (hxs i x hx).1 j c hj; refine ⟨u, ?_, h2⟩; rw [← h1]
     congr 1
     have hs : a.spot = none ∨ 0 < i * C.En.sz t + j := by
      by_cases hz : 0 < i * C.En.sz t + j
      · exact .inr hz
      · left; have e1 : i * C.En.sz t = 0 := by omega
        have e2 : j = 0 := by omega
        rw [e1, e2] at h1; have := zrq h1; simpa [Addr.add] using this
     simp only [Addr.add]; obtain ⟨ab, ao, asp⟩ := a; rcases hs with hs | hs
     · simp only at hs; subst hs; split <;> split <;> simp_all <;> omega
     · split <;> split <;> simp_all <;> omega
    refine ⟨⟨C.En.toSl t xs, by rw [hsz]; rfl, fun j c u hj hu => ?_, fun m hm c hc => ?_⟩, fun w' hb => ?_⟩
    · rw [L.slEnc] at hj; cases j with
      | succ j => simp at hj
      | zero =>
       cases hj; cases hu; refine .lst (b := a.block) (o := a.off) hxl.symm hl (fun hne => ?_) (fun i j => (w.cell? ⟨a.block, a.off + (i * C.En.sz t + j), none⟩).getD undef) (fun i x hx j c hj => ?_) (fun i x hx j c hj => ?_)
       · have h0 : 0 < xs.length := List.length_pos_iff.2 hne; have hc0 : 0 < (C.En.enc t xs[0]).length := by rw [L.sz]; exact hpos
         obtain ⟨u, h1, _⟩ := (hxs 0 _ (lga h0)).1 0 _ (lga hc0); have hsp := zrq h1; rw [Nat.zero_mul] at hsp; have : a.spot = none := by simpa [Addr.add] using hsp
         obtain ⟨ab, ao, asp⟩ := a; simp only at this; subst this; rfl
       · obtain ⟨u, h1, _⟩ := hcell i x hx j c hj; show w.cell? _ = _; rw [h1]; rfl
       · obtain ⟨u, h1, h2⟩ := hcell i x hx j c hj; rw [h1]; exact h2
    · rw [L.slEnc] at hc; simp at hc; subst hc; have h1 := hB.len (elems.map (·.1)) (rest.map (·.1)); refine .lst ?_ fun x hx c hc => ?_
      · simp only [List.length_map] at h1; omega
      · obtain ⟨i, hi⟩ := List.getElem?_of_mem hx; have hil : i < elems.length := by rw [hlen, ← hxl]; exact (gea hi).1
        have hy := lga hil; have h2 := hB.elem (elems.map (·.1)) (rest.map (·.1)) elems[i].1 (List.mem_map.2 ⟨elems[i], List.getElem_mem hil, rfl⟩); exact (hxs i x hi).2 _ hy m (Nat.le_trans h2 hm) c hc
    ·
     have carry : ∀ i y, i < cap → (w.cells? 0 (a.add (i * C.P.cellsOf e)) (C.P.cellsOf e)).bind (DataW.trod enc C.P w 0 (fun _ => true) held fuel e) = some y → (w'.cells? 0 (a.add (i * C.P.cellsOf e)) (C.P.cellsOf e)).bind (DataW.trod enc C.P w' 0 (zti w) held fuel e) = some y := by
      intro i y _ hy; rw [oba] at hy ⊢; obtain ⟨cs', h1, h2⟩ := hy; exact ⟨cs', cells?_below hb h1, (hr B hB enc w held fuel cs' y.1 y.2 h2).2 w' hb⟩
     unfold DataW.trod at h ⊢; rw [hu] at h ⊢; simp only at h ⊢; rw [if_pos ⟨Nat.zero_le _, hl, hm⟩] at h ⊢; rw [oba] at h ⊢; obtain ⟨es, h1, h2⟩ := h; refine ⟨es, Go.mapM_carry h1 fun i y hi _ hy => carry i y (by simp at hi; omega) hy, ?_⟩; rw [oma] at h2 ⊢; obtain ⟨rs, h3, h4⟩ := h2; refine ⟨rs, ?_, h4⟩; rw [if_pos trivial] at h3
     by_cases hlt : a.block < w.heap.size
     · rw [if_pos (by simp [zti, hlt])]; exact Go.mapM_carry h3 fun i y hi _ hy => carry (len + i) y (by simp at hi; omega) hy
     · rw [if_neg (by simp [zti, hlt])]; have hcap : cap = len := by
        refine Classical.byContradiction fun hne => ?_; have hpos' : 0 < cap - len := by omega
        obtain ⟨y, _, hy⟩ := Lib.mapM_at h3 0 0 (by simp [hpos']); rw [oba] at hy; obtain ⟨cs', g1, _⟩ := hy; obtain ⟨g2, g3⟩ := cells?_at g1; rw [hce] at g2; have hc0 : 0 < cs'.length := by omega
        have := World.block_lt_of_cell? w _ (g3 0 _ (lga hc0)); simp only [Addr.add] at this; split at this <;> split at this <;> simp_all
       rw [hcap] at h3; simpa using h3
def zoz (C : Ctx U) : Nat → List Field → List (TypeId × U.Ty) → Bool
 | _, [], [] => true
 | off, f :: fs, p :: ps => Nat.beq f.type p.1 && (Nat.beq f.offset off && (Nat.beq (C.P.cellsOf p.1) (C.En.sz p.2) && zoz C (off + C.En.sz p.2) fs ps))
 | _, _, _ => false
def ztf (C : Ctx U) : List (TypeId × U.Ty) → Nat
 | [] => 0
 | p :: ps => C.En.sz p.2 + ztf C ps
def zmp (C : Ctx U) : List (Dyn U) → List (AV U)
 | [] => []
 | d :: ds => C.En.enc d.ty d.val ++ zmp C ds
theorem zxm (L : ELaws C.En) (B : {H : Type} → DataW H → Nat) (hB : Bulk (fun {H} => B (H := H))) {H : Type} (enc : TypeId × Value → H) (w : World) (held : Bool) (fuel : Nat) (cs : List Value) : ∀ (ps : List (TypeId × U.Ty)) (fs : List Field) (off : Nat) (xs : List (DataW H × List MemPlace)),
 zoz C off fs ps = true → (∀ p ∈ ps, zkj C p.1 p.2) → fs.mapM (fun f => DataW.trod enc C.P w 0 (fun _ => true) held fuel f.type ((cs.drop f.offset).take (C.P.cellsOf f.type))) = some xs → cs.length = off + ztf C ps →
 (∃ ds : List (Dyn U), ds.map (·.ty) = ps.map (·.2) ∧ (zmp C ds).length = ztf C ps ∧ (∀ (j : Nat) c u, (zmp C ds)[j]? = some c → cs[off + j]? = some u → V C.En zh6 (zki w) c u) ∧ ∀ n, (∀ x ∈ xs, B x.1 ≤ n) → ∀ c ∈ zmp C ds, Wfc C.En n c) ∧
 ∀ w', Below w.heap.size w w' → fs.mapM (fun f => DataW.trod enc C.P w' 0 (zti w) held fuel f.type ((cs.drop f.offset).take (C.P.cellsOf f.type))) = some xs
 | [], [], off, xs, hok, hr, hm, hl => by
  simp at hm; subst hm; exact ⟨⟨[], rfl, rfl, fun j c u hj => by simp [zmp] at hj, fun n _ c hc => by simp [zmp] at hc⟩, fun w' _ => by simp⟩
 | [], _ :: _, off, xs, hok, hr, hm, hl => by simp [zoz] at hok
 | _ :: _, [], off, xs, hok, hr, hm, hl => by simp [zoz] at hok
 | p :: ps, f :: fs, off, xs, hok, hr, hm, hl => by
  simp only [zoz, baa, zbw, decide_eq_true_eq] at hok; obtain ⟨h1, h2, h3, h4⟩ := hok; rw [List.mapM_cons] at hm; simp only [Option.bind_eq_bind, Option.pure_def, oba, Option.some.injEq] at hm; obtain ⟨y, hy, ys, hys, rfl⟩ := hm; simp only [ztf] at hl; obtain ⟨⟨ds, g1, g2, g3, g4⟩, g5⟩ := zxm L B hB enc w held fuel cs ps fs (off + C.En.sz p.2) ys h4 (fun q hq => hr q (mca _ hq)) hys (by omega); rw [h1, h2, h3] at hy; obtain ⟨⟨x, k1, k2, k3⟩, k4⟩ := hr p msa B hB enc w held fuel _ y.1 y.2 hy; have hxl := L.sz p.2 x; refine ⟨⟨⟨p.2, x⟩ :: ds, by simp [g1], by simp [zmp, ztf, g2, hxl], fun j c u hj hu => ?_, fun n hn c hc => ?_⟩, fun w' hb => ?_⟩
  · simp only [zmp] at hj; rw [List.getElem?_append] at hj; split at hj
    · rename_i hlt; refine k2 j c u hj ?_; rw [List.getElem?_take, if_pos (by omega), List.getElem?_drop]; exact hu
    · rename_i hge; refine g3 _ c u hj ?_; rw [← hu]
      congr 1
      omega
  · simp only [zmp, List.mem_append] at hc; rcases hc with hc | hc
    · exact k3 n (hn _ msa) c hc
    · exact g4 n (fun x hx => hn x (mca _ hx)) c hc
  · rw [List.mapM_cons]; have e1 := k4 w' hb; rw [h1, h2, h3, e1, g5 w' hb]; rfl
theorem zng (L : ELaws C.En) {T : TypeId} {fs : Array Field} {t : U.Ty} {ps : List (TypeId × U.Ty)} (hu : C.P.underlying T = some (.struct fs)) (hok : zoz C 0 fs.toList ps = true) (hsz : C.P.cellsOf T = ztf C ps) (hst : C.En.sz t = ztf C ps) (hr : ∀ p ∈ ps, zkj C p.1 p.2)
 (hmk : ∀ y : PT U (ps.map (·.2)), ∃ x : U.den t, C.En.enc t x = zmp C (zdy U (ps.map (·.2)) y)) : zkj C T t := by
 intro B hB H enc w held fuel cs d ps' h
 obtain ⟨xs, n, rfl, hx, hl, hxl, hf⟩ := DataW.trod_struct hu h
 cases hx
 have h' := h
 unfold DataW.trod at h'
 rw [hu] at h'
 have hm : fs.toList.mapM (fun f => DataW.trod enc C.P w 0 (fun _ => true) held n f.type ((cs.drop f.offset).take (C.P.cellsOf f.type))) = some xs := by
  have hh : (if cs.length = C.P.cellsOf T then (fs.toList.mapM fun f => DataW.trod enc C.P w 0 (fun _ => true) held n f.type ((cs.drop f.offset).take (C.P.cellsOf f.type))).map fun xs => ((DataW.agg (xs.map (·.1)) : DataW H), xs.flatMap (·.2)) else none) = some (.agg (xs.map (·.1)), xs.flatMap (·.2)) := by
   revert h'
   cases cs with
   | nil => exact id
   | cons c r => cases c <;> cases r <;> exact id
  rw [if_pos hl, oma] at hh; obtain ⟨xs', h1, h2⟩ := hh; rw [h1]
  congr 1
  apply List.ext_getElem?; intro i; have hll : xs'.length = fs.size := by have := Lib.mapM_length h1; simpa using this
  by_cases hi : i < fs.size
  · obtain ⟨b, hb1, hb2⟩ := Lib.mapM_at h1 i fs[i] (by simp [hi]); rw [hb1, ← hf i fs[i] (by simp [hi]), hb2]
  · rw [List.getElem?_eq_none (by omega), List.getElem?_eq_none (by omega)]
 obtain ⟨⟨ds, g1, g2, g3, g4⟩, g5⟩ := zxm L B hB enc w held n cs ps fs.toList 0 xs hok hr hm (by rw [hl, hsz]; omega)
 have hy : ∃ y : PT U (ps.map (·.2)), zdy U (ps.map (·.2)) y = ds := by
  have key : ∀ (ts : List U.Ty) (ds : List (Dyn U)), ds.map (·.ty) = ts → ∃ y : PT U ts, zdy U ts y = ds := by
   intro ts
   induction ts with
   | nil =>
    intro ds h; simp at h; subst h; exact ⟨(), rfl⟩
   | cons t ts ih =>
    intro ds h; cases ds with
    | nil => simp at h
    | cons d ds =>
     simp only [List.map_cons, List.cons.injEq] at h; obtain ⟨rfl, h2⟩ := h; cases ts with
     | nil =>
      simp at h2; subst h2; exact ⟨d.val, rfl⟩
     | cons t2 ts =>
      obtain ⟨y, hy⟩ := ih ds h2; exact ⟨(d.val, y), by rw [← hy]; rfl⟩
  exact key _ ds g1
 obtain ⟨y, rfl⟩ := hy
 obtain ⟨x, hx⟩ := hmk y
 refine ⟨⟨x, by rw [hl, hsz, hst], fun j c u hj hu => ?_, fun m hm c hc => ?_⟩, fun w' hb => ?_⟩
 · rw [hx] at hj; exact g3 j c u hj (by rw [Nat.zero_add]; exact hu)
 · rw [hx] at hc; refine g4 m (fun z hz => ?_) c hc; exact Nat.le_trans (hB.part _ _ (List.mem_map.2 ⟨z, hz, rfl⟩)) hm
 · have h5 := g5 w' hb; unfold DataW.trod; rw [hu]; have hh : (if cs.length = C.P.cellsOf T then (fs.toList.mapM fun f => DataW.trod enc C.P w' 0 (zti w) held n f.type ((cs.drop f.offset).take (C.P.cellsOf f.type))).map fun xs => ((DataW.agg (xs.map (·.1)) : DataW H), xs.flatMap (·.2)) else none) = some (.agg (xs.map (·.1)), xs.flatMap (·.2)) := by
    rw [if_pos hl, h5]; rfl
   revert hh
   cases cs with
   | nil => exact id
   | cons c r => cases c <;> cases r <;> exact id
end
open Go.RowKit Go.ChangeShapes
section
variable {U : Uni} {C : Ctx U}
def zld (En : Enc U) : Nat → DataW Unit → List (AV U) → Option (List (AV U))
 | n + 1, .lit (.int k z), .sc (.int k' z') :: r => cond (k == k' && z == z') (some r) none
 | n + 1, .agg ds, l => ds.foldlM (fun l d => zld En n d l) l
 | n + 1, .slice es _, .lst t xs :: r => cond (Nat.beq es.length xs.length && (es.zip xs).all fun p => match zld En n p.1 (En.enc t p.2) with | some [] => true | _ => false) (some r) none
 | _, _, _ => none
def zrn : Nat → List (Nat × Nat × TypeId) → Nat → Bool
 | off, [], tot => Nat.beq off tot
 | off, s :: ss, tot => Nat.beq s.1 off && zrn (off + s.2.1) ss tot
def zyw (P : Program) (fs : List Field) : List (Nat × Nat × TypeId) := fs.map fun f => (f.offset, P.cellsOf f.type, f.type)
def zpv (P : Program) : Nat → TypeId → Bool
 | 0, _ => false
 | n + 1, T => match P.underlying T with
  | some (.int _) => true
  | some (.array m e) => Nat.beq (P.cellsOf T) (m * P.cellsOf e) && zpv P n e
  | some (.struct fs) => zrn 0 (zyw P fs.toList) (P.cellsOf T) && fs.toList.all fun f => zpv P n f.type
  | some (.slice e) => zpv P n e
  | _ => false
theorem zae6 (L : ELaws C.En) {w : World} {t : U.Ty} {xs : List (U.den t)} {a : Addr} {len cap : Nat} (hl : len = xs.length) (hc : len ≤ cap)
 (h : ∀ i x, xs[i]? = some x → ∀ (j : Nat) c, (C.En.enc t x)[j]? = some c → ∃ u, w.cell? ((a.add (i * C.En.sz t)).add j) = some u ∧ V C.En zh6 (zki w) c u) : V C.En zh6 (zki w) (.lst t xs) (.slice (some a) len cap) := by
 have hpos := L.pos t
 have hcell : ∀ i x, xs[i]? = some x → ∀ (j : Nat) c, (C.En.enc t x)[j]? = some c → ∃ u, w.cell? ⟨a.block, a.off + (i * C.En.sz t + j), none⟩ = some u ∧ V C.En zh6 (zki w) c u := by
  intro i x hx j c hj; obtain ⟨u, h1, h2⟩ := h i x hx j c hj; refine ⟨u, ?_, h2⟩; rw [← h1]
  congr 1
  have hs : a.spot = none ∨ 0 < i * C.En.sz t + j := by
   by_cases hz : 0 < i * C.En.sz t + j
   · exact .inr hz
   · left; have e1 : i * C.En.sz t = 0 := by omega
     have e2 : j = 0 := by omega
     rw [e1, e2] at h1; have := zrq h1; simpa [Addr.add] using this
  simp only [Addr.add]; obtain ⟨ab, ao, asp⟩ := a; rcases hs with hs | hs
  · simp only at hs; subst hs; split <;> split <;> simp_all <;> omega
  · split <;> split <;> simp_all <;> omega
 refine .lst (b := a.block) (o := a.off) hl hc (fun hne => ?_) (fun i j => (w.cell? ⟨a.block, a.off + (i * C.En.sz t + j), none⟩).getD undef) (fun i x hx j c hj => ?_) (fun i x hx j c hj => ?_)
 · have h0 : 0 < xs.length := List.length_pos_iff.2 hne; have hc0 : 0 < (C.En.enc t xs[0]).length := by rw [L.sz]; exact hpos
   obtain ⟨u, h1, _⟩ := h 0 _ (lga h0) 0 _ (lga hc0); have hsp := zrq h1; rw [Nat.zero_mul] at hsp; have : a.spot = none := by simpa [Addr.add] using hsp
   obtain ⟨ab, ao, asp⟩ := a; simp only at this; subst this; rfl
 · obtain ⟨u, h1, _⟩ := hcell i x hx j c hj; show w.cell? _ = _; rw [h1]; rfl
 · obtain ⟨u, h1, h2⟩ := hcell i x hx j c hj; rw [h1]; exact h2
theorem z7j {En : Enc U} {n : Nat} {es sp : List (DataW Unit)} {l rest : List (AV U)} (h : zld En (n + 1) (.slice es sp) l = some rest) :
 ∃ t xs, l = .lst t xs :: rest ∧ es.length = xs.length ∧ ∀ p ∈ es.zip xs, zld En n p.1 (En.enc t p.2) = some [] := by
 cases l with
 | nil => simp [zld] at h
 | cons c r =>
  cases c with
  | lst t xs =>
   have h' : cond (Nat.beq es.length xs.length && (es.zip xs).all fun p => match zld En n p.1 (En.enc t p.2) with | some [] => true | _ => false) (some r) none = some rest := h; obtain ⟨h1, h2⟩ := zdb h'; cases h2; simp only [baa, zbw, decide_eq_true_eq, List.all_eq_true] at h1; refine ⟨t, xs, rfl, h1.1, fun p hp => ?_⟩; have := h1.2 p hp; split at this
   · assumption
   · cases this
  | _ => simp [zld] at h
theorem zabb {En : Enc U} {n : Nat} {k : IntKind} {z : Int} {l rest : List (AV U)} (h : zld En (n + 1) (.lit (.int k z)) l = some rest) : l = .sc (.int k z) :: rest := by
 cases l with
 | nil => simp [zld] at h
 | cons c r =>
  cases c with
  | sc v =>
   cases v with
   | int k' z' =>
    have h' : cond (k == k' && z == z') (some r) none = some rest := h; obtain ⟨h1, h2⟩ := zdb h'; cases h2; simp only [baa, beq_iff_eq] at h1; obtain ⟨rfl, rfl⟩ := h1; rfl
   | _ => simp [zld] at h
  | _ => simp [zld] at h
theorem zyi (L : ELaws C.En) {w : World} {sp : Nat → Bool} {held : Bool} : ∀ (n m fuel : Nat) (T : TypeId) (cs : List Value) (d : DataW Unit) (ps : List MemPlace) (av rest : List (AV U)), zpv C.P m T = true → DataW.trod (fun _ => ()) C.P w 0 sp held fuel T cs = some (d, ps) → zld C.En n d av = some rest →
 ∃ p, av = p ++ rest ∧ F2 (V C.En zh6 (zki w)) p cs
 | 0, m, fuel, T, cs, d, ps, av, rest, hp, h, hd => by simp [zld] at hd
 | n + 1, 0, fuel, T, cs, d, ps, av, rest, hp, h, hd => by simp [zpv] at hp
 | n + 1, m + 1, fuel, T, cs, d, ps, av, rest, hp, h, hd => by
  have segs : ∀ (g : Nat) (ss : List (Nat × Nat × TypeId)) (ys : List (DataW Unit × List MemPlace)) (off : Nat) (av rest : List (AV U)), ss.length = ys.length → (∀ (i : Nat) s, ss[i]? = some s → zpv C.P m s.2.2 = true ∧ DataW.trod (fun _ => ()) C.P w 0 sp held g s.2.2 ((cs.drop s.1).take s.2.1) = ys[i]?) →
   zrn off ss cs.length = true → (ys.map (·.1)).foldlM (fun l d => zld C.En n d l) av = some rest → ∃ p, av = p ++ rest ∧ F2 (V C.En zh6 (zki w)) p (cs.drop off) := by
   intro g ss
   induction ss with
   | nil =>
    intro ys off av rest hl _ ht hf; cases ys with
    | cons => simp at hl
    | nil =>
     simp [zrn] at ht; simp at hf; subst hf; subst ht; exact ⟨[], rfl, by rw [List.drop_length]; exact .nil⟩
   | cons s ss ih =>
    intro ys off av rest hl hh ht hf; cases ys with
    | nil => simp at hl
    | cons y ys =>
     simp only [zrn, baa, zbw, decide_eq_true_eq] at ht; obtain ⟨e, ht⟩ := ht; simp only [List.map_cons, List.foldlM_cons, Option.bind_eq_bind, oba] at hf; obtain ⟨mid, h1, h2⟩ := hf; obtain ⟨k1, k2⟩ := hh 0 s rfl; obtain ⟨p1, e1, f1⟩ := zyi L n m g _ _ y.1 y.2 av mid k1 (by rw [k2]; rfl) h1; obtain ⟨p2, e2, f2⟩ := ih ys (off + s.2.1) mid rest (by simpa using hl) (fun i s hs => hh (i + 1) s hs) ht h2; refine ⟨p1 ++ p2, by rw [e1, e2, List.append_assoc], ?_⟩; have : cs.drop off = (cs.drop s.1).take s.2.1 ++ cs.drop (off + s.2.1) := by
      rw [e, ← List.drop_drop, List.take_append_drop]
     rw [this]; exact f1.append f2
  unfold zpv at hp; split at hp
  · rename_i k hu; obtain ⟨z, rfl, hx, _⟩ := DataW.trod_int hu h; cases hx; exact ⟨_, zabb hd, .cons (.sc _) .nil⟩
  · rename_i q e hu; obtain ⟨xs, g, rfl, hx, hl, hxl, hall⟩ := DataW.trod_array hu h; cases hx; simp only [baa, zbw, decide_eq_true_eq] at hp; have hd' : (xs.map (·.1)).foldlM (fun l d => zld C.En n d l) av = some rest := hd; have tl : ∀ (k i : Nat), zrn (i * C.P.cellsOf e) ((List.range' i k).map fun i => (i * C.P.cellsOf e, C.P.cellsOf e, e)) ((i + k) * C.P.cellsOf e) = true := by
     intro k
     induction k with
     | zero => intro i; simp [zrn]
     | succ k ih =>
      intro i; simp only [List.range'_succ, List.map_cons, zrn, baa, zbw, decide_eq_true_eq, true_and]; have := ih (i + 1); rw [Nat.add_mul, Nat.one_mul] at this; rw [show (i + (k + 1)) = i + 1 + k by omega]; exact this
    obtain ⟨p, e1, f1⟩ := segs g ((List.range' 0 q).map fun i => (i * C.P.cellsOf e, C.P.cellsOf e, e)) xs 0 av rest (by simp [hxl]) (fun i s hs => by
     simp only [gem, oma] at hs; obtain ⟨i', h1, rfl⟩ := hs; rw [List.getElem?_eq_some_iff] at h1; obtain ⟨h2, h3⟩ := h1; simp at h2 h3; subst h3; exact ⟨hp.2, hall i (by omega)⟩) (by have := tl q 0; rw [Nat.zero_mul, Nat.zero_add] at this; rw [hl, hp.1]; exact this) hd'
    exact ⟨p, e1, by simpa using f1⟩
  · rename_i fs hu; obtain ⟨xs, g, rfl, hx, hl, hxl, hall⟩ := DataW.trod_struct hu h; cases hx; simp only [baa] at hp; have hd' : (xs.map (·.1)).foldlM (fun l d => zld C.En n d l) av = some rest := hd; obtain ⟨p, e1, f1⟩ := segs g (zyw C.P fs.toList) xs 0 av rest (by simp [zyw, hxl]) (fun i s hs => by
     simp only [zyw, gem, oma] at hs; obtain ⟨f, h1, rfl⟩ := hs; exact ⟨lat hp.2 f (lma h1), hall i f (by simpa using h1)⟩) (by rw [hl]; exact hp.1) hd'
    exact ⟨p, e1, by simpa using f1⟩
  · rename_i e hu; rcases DataW.trod_slice hu h with ⟨rfl, hx⟩ | ⟨a, len, cap, elems, rs, g, rfl, rfl, hx, _, hlc, _, hlen, hel, _, _⟩
    · cases hx; simp [zld] at hd
    · cases hx; obtain ⟨t, xs, e0, h3, h4⟩ := z7j hd; simp only [List.length_map] at h3; refine ⟨[.lst t xs], e0, .cons (zae6 L (by omega) hlc fun i x hx j c hj => ?_) .nil⟩; have hi : i < len := by have := (gea hx).1; omega
      have hh := hel i hi; rw [lga (by omega), oba] at hh; obtain ⟨cs', g1, g2⟩ := hh; have hz := h4 (elems[i].1, x) (lma (i := i) (List.getElem?_zip_eq_some.2 ⟨by rw [gem, lga (show i < elems.length by omega)]; rfl, hx⟩)); obtain ⟨p, e1, f1⟩ := zyi L n m g e cs' elems[i].1 elems[i].2 _ [] hp g2 hz; simp only [List.append_nil] at e1; subst e1; obtain ⟨g3, g4⟩ := cells?_at g1; have hsz : C.P.cellsOf e = C.En.sz t := by rw [← g3, ← f1.length, L.sz]
      have hjl : j < cs'.length := by rw [← f1.length]; exact (gea hj).1
      refine ⟨cs'[j], ?_, f1.get j _ _ hj (lga hjl)⟩; rw [← hsz]; exact g4 j _ (lga hjl)
  · cases hp
end
section
variable {U : Uni} {C : Ctx U}
theorem z5w {α : Type} {β : Type} (f : α → List β) (n : Nat) : ∀ (xs : List α), (∀ x ∈ xs, (f x).length = n) → ∀ i x, xs[i]? = some x → ∀ (j : Nat) c, (f x)[j]? = some c → (xs.flatMap f)[i * n + j]? = some c
 | [], _, i, x, hx, _, _, _ => by simp at hx
 | y :: ys, hl, i, x, hx, j, c, hj => by
  have hy := hl y msa; cases i with
  | zero =>
   cases hx; have : j < (f y).length := (gea hj).1; simp only [List.flatMap_cons, Nat.zero_mul, Nat.zero_add]; rw [List.getElem?_append_left this]; exact hj
  | succ i =>
   simp only [List.flatMap_cons]; rw [List.getElem?_append_right (by rw [hy, Nat.succ_mul]; omega), hy, show (i + 1) * n + j - n = i * n + j by rw [Nat.succ_mul]; omega]; exact z5w f n ys (fun x hx => hl x (mca _ hx)) i x hx j c hj
theorem z30 {α : Type} {β : Type} (f : α → List β) (n : Nat) : ∀ (xs : List α), (∀ x ∈ xs, (f x).length = n) → (xs.flatMap f).length = xs.length * n
 | [], _ => by simp
 | y :: ys, hl => by
  simp only [List.flatMap_cons, List.length_append, List.length_cons, hl y msa, z30 f n ys fun x hx => hl x (mca _ hx)]; rw [Nat.succ_mul]; omega
def zabo (C : Ctx U) (laid : List (String × DataW Unit)) (p : Nat × AV U) : Bool :=
 match p.2 with
 | .rarr t xs => laid.any fun x => (match C.P.globalNamed x.1 with | some g => Nat.beq g p.1 | none => false) && ((match (C.P.globals[p.1]?).map (·.type) with | some T => zpv C.P 8 T | none => false) && (match zld C.En 8 x.2 (xs.flatMap (C.En.enc t)) with | some [] => true | _ => false))
 | _ => false
theorem zaeo (L : ELaws C.En) {globs : List (Nat × AV U)} (hG : C.G = pick globs) {laid : List (String × DataW Unit)} (hb : globs.all (zabo C laid) = true) {W : World} (hL : laidMet C.P laid W) : GOK C (zki W) W := by
 have key : ∀ g av, C.G g = some av → ∃ t xs cs T fz, av = .rarr t xs ∧ W.heap[g]? = some (.cells cs T fz) ∧ F2 (V C.En zh6 (zki W)) (xs.flatMap (C.En.enc t)) cs.toList := by
  intro g av hg; rw [hG] at hg; have h1 := lat hb _ (zos hg); unfold zabo at h1; simp only at h1; split at h1
  · rename_i t xs; simp only [List.any_eq_true, baa] at h1; obtain ⟨⟨nm, d⟩, hm, h2, h3, h4⟩ := h1; obtain ⟨g', T, cs, fuel, p, k1, k2, k3, k4⟩ := Lib.laidMet.reads hL hm; simp only at h2 h4; rw [k1] at h2; simp only [zbw, decide_eq_true_eq] at h2; subst h2; rw [k2] at h3; simp only at h3; split at h4
    · rename_i h4'; obtain ⟨q, e1, f1⟩ := zyi L 8 8 fuel T cs.toList d p _ [] h3 k4 h4'; simp only [List.append_nil] at e1; subst e1; unfold World.var? at k3; rw [k1] at k3; simp only [obz] at k3; split at k3
      · rename_i cs' T' fz hh; cases k3; exact ⟨t, xs, cs, T', fz, rfl, hh, f1⟩
      · cases k3
    · cases h4
  · cases h1
 constructor
 · intro g av hg; obtain ⟨t, xs, cs, T, fz, rfl, h1, h2⟩ := key g av hg; have cell : ∀ i x, xs[i]? = some x → ∀ (j : Nat) c, (C.En.enc t x)[j]? = some c → ∃ u, W.cell? ⟨g, 0 + (i * C.En.sz t + j), none⟩ = some u ∧ V C.En zh6 (zki W) c u := by
    intro i x hx j c hj; have h3 := z5w (C.En.enc t) (C.En.sz t) xs (fun x _ => L.sz t x) i x hx j c hj; have hlt : i * C.En.sz t + j < cs.toList.length := by rw [← h2.length]; exact (gea h3).1
    refine ⟨cs.toList[i * C.En.sz t + j], ?_, h2.get _ _ _ h3 (lga hlt)⟩; unfold World.cell?; rw [h1, Nat.zero_add]; simp only [Array.length_toList] at hlt; simp [hlt]
   refine ⟨?_, fun μ => ?_⟩
   · trivial
   · refine .rarr (fun i j => (W.cell? ⟨g, 0 + (i * C.En.sz t + j), none⟩).getD undef) (fun i x hx j c hj => ?_) (fun i x hx j c hj => ?_)
     · obtain ⟨u, k1, k2⟩ := cell i x hx j c hj; show W.cell? _ = _; rw [k1]; rfl
     · obtain ⟨u, k1, k2⟩ := cell i x hx j c hj; rw [k1]; exact k2.mono (Fz.le_refl _) (fun k l hk => by cases hk)
 · intro g t xs hg; obtain ⟨t', xs', cs, T, fz, e, h1, h2⟩ := key g _ hg; cases e; refine ⟨cs, T, fz, h1, ?_⟩; have := h2.length; rw [z30 (C.En.enc t) (C.En.sz t) xs fun x _ => L.sz t x] at this; simpa using this.symm
theorem z7y (L : CLaws C) {T : TypeId} {t : U.Ty} (hagg : zdi C T = some (C.En.agg t)) {W : World} {base : Nat} {v : Value} (hok : Value.okWide C.P W .any base T v) {T' : TypeDesc} (hu : C.P.underlying T = some T')
 (hb : T' = .bool ∨ T' = .string ∨ (∃ k, T' = .int k) ∨ (∃ e, T' = .slice e) ∨ ∃ fs, T' = .struct fs) {x : U.den t} {w : World} (hl : v.cells.toList.length = C.En.sz t) (hV : ∀ (j : Nat) c u, (C.En.enc t x)[j]? = some c → v.cells.toList[j]? = some u → V C.En zh6 (zki w) c u) :
 V C.En zh6 (zki w) (C.En.value t x) v := by
 unfold zdi at hagg
 unfold Value.okWide at hok
 rw [hu] at hagg hok
 have hsz := L.e.sz t x
 have plain : v.cells = #[v] → C.En.agg t = false → V C.En zh6 (zki w) (C.En.value t x) v := by
  intro hv ha; rw [hv] at hV; unfold Enc.value; rw [ha]; have h1 := L.e.one t ha; rw [h1] at hsz; cases he : C.En.enc t x with
  | nil => rw [he] at hsz; simp at hsz
  | cons c r => exact hV 0 c v (by rw [he]; rfl) rfl
 rcases hb with rfl | rfl | ⟨k, rfl⟩ | ⟨e, rfl⟩ | ⟨fs, rfl⟩
 · simp only [Option.some.injEq] at hagg; refine plain ?_ hagg.symm; simp only [Cell.okWide, hu, Cell.ok] at hok; cases v <;> first | rfl | exact absurd hok id
 · simp only [Option.some.injEq] at hagg; refine plain ?_ hagg.symm; simp only [Cell.okWide, hu, Cell.ok] at hok; cases v <;> first | rfl | exact absurd hok id
 · simp only [Option.some.injEq] at hagg; refine plain ?_ hagg.symm; simp only [Cell.okWide, hu, Cell.ok] at hok; cases v <;> first | rfl | exact absurd hok id
 · simp only [Option.some.injEq] at hagg; refine plain ?_ hagg.symm; simp only [Cell.okWide, hu, Cell.ok] at hok; cases v <;> first | rfl | exact absurd hok id
 · simp only [Option.some.injEq] at hagg; obtain ⟨cs, rfl, _, _⟩ := hok; unfold Enc.value; rw [← hagg]; have hl' : cs.toList.length = C.En.sz t := hl; refine .agg (by rw [hsz, ← hl']; simp) fun j c hj => ?_; have hj' : j < cs.size := by
    have := (gea hj).1; have e : cs.toList.length = cs.size := Array.length_toList; omega
   rw [agd, Array.getElem?_eq_getElem hj']; exact hV j c _ hj (by show cs.toList[j]? = _; simp [hj'])
structure ParOk (C : Ctx U) (p : TypeId × U.Ty) : Prop where
 rd : zkj C p.1 p.2
 agg : zdi C p.1 = some (C.En.agg p.2)
 kind : ∃ T', C.P.underlying p.1 = some T' ∧ (T' = .bool ∨ T' = .string ∨ (∃ k, T' = .int k) ∨ (∃ e, T' = .slice e) ∨ ∃ fs, T' = .struct fs)
theorem z1s (L : CLaws C) (B : {H : Type} → DataW H → Nat) (hB : Bulk (fun {H} => B (H := H))) {H : Type} (enc : TypeId × Value → H) (W : World) (base : Nat) (held : Bool) : ∀ (ps : List (TypeId × U.Ty)) (vs : List Value) (ds : List (DataW H)) (pl : List MemPlace),
 (∀ p ∈ ps, ParOk C p) → (∀ (j : Nat) t v, (ps.map (·.1))[j]? = some t → vs[j]? = some v → Value.okWide C.P W .any base t v) → DataW.TrodAll enc C.P W 0 (fun _ => true) held (ps.map (·.1)) vs ds pl →
 ∃ es : List (Dyn U), es.map (·.ty) = ps.map (·.2) ∧ F2 (V C.En zh6 (zki W)) (es.map fun e => C.En.value e.ty e.val) vs ∧ ds.length = ps.length ∧ (∀ n, (∀ d ∈ ds, B d ≤ n) → ∀ e ∈ es, Wft C.En n e.ty e.val) ∧
  ∀ w', Below W.heap.size W w' → DataW.TrodAll enc C.P w' 0 (zti W) held (ps.map (·.1)) vs ds pl
 | [], vs, ds, pl, _, _, h => by
  obtain ⟨rfl, rfl, rfl⟩ := trodAll_nil h; exact ⟨[], rfl, .nil, rfl, fun n _ e he => by simp at he, fun w' _ => h⟩
 | p :: ps, vs, ds, pl, hp, hval, h => by
  obtain ⟨v, vs', d, ds', p1, q, rfl, rfl, rfl, ⟨fuel, h1⟩, h2⟩ := trodAll_cons h; obtain ⟨es, g1, g2, g3, g4, g5⟩ := z1s L B hB enc W base held ps vs' ds' q (fun q hq => hp q (mca _ hq)) (fun j t v ht hv => hval (j + 1) t v ht hv) h2; have P := hp p msa; obtain ⟨⟨x, k1, k2, k3⟩, k4⟩ := P.rd B hB enc W held fuel _ d p1 h1; obtain ⟨T', u1, u2⟩ := P.kind; refine ⟨⟨p.2, x⟩ :: es, by simp [g1], .cons (z7y L P.agg (hval 0 p.1 v rfl rfl) u1 u2 k1 k2) g2, by simp [g3], fun n hn e he => ?_, fun w' hb => ?_⟩
  · rcases mco he with rfl | he
    · exact k3 n (hn _ msa)
    · exact g4 n (fun d hd => hn d (mca _ hd)) e he
  · exact ⟨p1, q, ⟨fuel, k4 w' hb⟩, g5 w' hb, rfl⟩
theorem z1w (L : CLaws C) {f : FuncId} {fn : Func} {bt : TypeId} {ps : List (TypeId × U.Ty)} (hps : fn.params.toList = ps.map (·.1)) (hrt : fn.resultTypes = #[bt]) (hbt : C.P.underlying bt = some .bool) (hpar : ∀ p ∈ ps, ParOk C p)
 (B : {H : Type} → DataW H → Nat) (hB : Bulk (fun {H} => B (H := H))) (n : Nat)
 (law : ∀ es : List (Dyn U), es.map (·.ty) = ps.map (·.2) → (∀ e ∈ es, Wft C.En n e.ty e.val) → ∃ (ct : Ct U) (y : PT U (ct.results ++ ct.outs)), zib C f ct ∧ zk4 C ct.params es = some (es.map fun e => C.En.value e.ty e.val, []) ∧ ct.fn es = some y ∧ zbl C 9000000 ct.fresh ((zdy U (ct.results ++ ct.outs) y).take ct.results.length) = some (.sc (.bool true), []))
 {H : Type} {enc : TypeId × Value → H} {s : ChangeSpec} (hsv : s.vars = []) (hs : ∀ ds : List (DataW H), ds.length = ps.length → (s.fn H ds).results = [.lit (.bool true)] ∧ (s.fn H ds).args = ds ∧ (s.fn H ds).vars = [])
 {apart fresh handsOn : Bool} {W : World} {base : Nat} {args : Array Value} {ds gs : List (DataW H)} {before : List MemPlace} (hval : ∀ (j : Nat) t v, fn.params[j]? = some t → args[j]? = some v → Value.okWide C.P W .any base t v)
 (hW : DataW.Whole enc C.P fn.params.toList s.vars apart W args.toList ds gs before) (hG : GOK C (zki W) W) (hbd : ∀ d ∈ ds, B d ≤ n) :
 Calls C.P f args W fun e W' => ∃ v, e = .returned v ∧ s.post enc C.P fn apart fresh handsOn false W args v W' := by
 have hW' := hW
 obtain ⟨p, q, hA, hV, rfl, hfz, hnd⟩ := hW
 rw [hsv] at hV
 obtain ⟨rfl, rfl⟩ := trodVars_none hV
 rw [hps] at hA
 obtain ⟨es, g1, g2, g3, g4, g5⟩ := z1s L B hB enc W base true ps args.toList ds p hpar (fun j t v ht hv => hval j t v (by rw [← Array.getElem?_toList, hps]; exact ht) (by rw [← Array.getElem?_toList]; exact hv)) hA
 obtain ⟨ct, y, M, h1, h2, h3⟩ := law es g1 (g4 n hbd)
 have hS : Sim C.En zh6 (zki W) [] W := { frz := fun b o v h => h, apart := fun k k' l l' b o hk => (by cases hk), free := fun k l b o hk => (by cases hk), inside := fun k l b o hk => (by cases hk), obj := fun k l hk => (by cases hk) }
 have hc := M.2 es y h2 _ _ h1 zh6 (zki W) W args.toList g2 hS hG
 rw [Array.toArray_toList] at hc
 refine hc.mono fun e W' he => ?_
 cases e with
 | panicked c => exact absurd he id
 | outgrown => exact absurd he id
 | returned u =>
  obtain ⟨rv, hf, ho, ml, H', r1, r2, r3, r4, r5, r6, r7, r8, r9, r10, r11⟩ := he; rw [h3] at r1; cases r1; obtain rfl : u = .bool true := by cases r6; rfl
  have hbel : Below W.heap.size W W' := by
   refine Wd.below (r9.weaken fun b o _ hh => (by obtain ⟨k, l, hk, _⟩ := hh; cases hk))
  obtain ⟨s1, s2, s3⟩ := hs (ds ++ []) (by simpa using g3); refine ⟨_, rfl, ds, [], p ++ [], [], p, [], hW', ?_, ?_, ?_, ?_, fun h => by cases h⟩
  · rw [s1, hrt]; exact ⟨[], [], shut_bool hbt true, rfl, rfl⟩
  · rw [s2, hps, List.append_nil]; exact g5 W' hbel
  · rw [s3, hsv]; rfl
  · exact hbel.frame _
end
theorem zadi {n : Int} (h1 : -9223372036854775808 ≤ n) (h2 : n ≤ 9223372036854775807) : IntKind.wrap .i64 n = n := by
 have e : (2 : Int) ^ (IntKind.i64.bits) = 18446744073709551616 := by decide
 have e' : (2 : Int) ^ (IntKind.i64.bits - 1) = 9223372036854775808 := by decide
 unfold IntKind.wrap
 simp only [e, e']
 have : IntKind.i64.signed = true := rfl
 simp only [this, Bool.true_and, decide_eq_true_eq, ge_iff_le]
 split <;> omega
theorem zbq {R α : Type} {f : α → Option (Round R α)} (S : Nat → α) (g : Nat → Option R) (n : Nat) (h : ∀ i, i < n → f (S i) = some (match g i with | some r => .result r | none => .again (S (i + 1)))) (hl : f (S n) = some (.leave (S n))) {N : Nat} (hN : n < N) :
 zp f N (S 0) = some (match (List.range n).findSome? g with | some r => .inl r | none => .inr (S n)) := by
 have key : ∀ k i N, i + k = n → k < N → zp f N (S i) = some (match (List.range' i k).findSome? g with | some r => .inl r | none => .inr (S n)) := by
  intro k
  induction k with
  | zero =>
   intro i N hi hN; obtain ⟨m, rfl⟩ : ∃ m, N = m + 1 := ⟨N - 1, by omega⟩; obtain rfl : i = n := by omega
   simp only [zp, hl, obz]; rfl
  | succ k ih =>
   intro i N hi hN; obtain ⟨m, rfl⟩ : ∃ m, N = m + 1 := ⟨N - 1, by omega⟩; simp only [zp, h i (by omega), obz, List.range'_succ, List.findSome?_cons]; cases hg : g i with
   | some r => rfl
   | none => exact ih (i + 1) m (by omega) (by omega)
 rw [List.range_eq_range']
 exact key n 0 N (by omega) hN
theorem zas {α : Type} {f : α → Option (Stp α)} (S : Nat → α) (n : Nat) (h : ∀ i, i < n → f (S i) = some (.again (S (i + 1)))) (hl : f (S n) = some (.leave (S n))) {N : Nat} (hN : n < N) : zh f N (S 0) = some (S n) := by
 have key : ∀ k i N, i + k = n → k < N → zh f N (S i) = some (S n) := by
  intro k
  induction k with
  | zero =>
   intro i N hi hN; obtain ⟨m, rfl⟩ : ∃ m, N = m + 1 := ⟨N - 1, by omega⟩; obtain rfl : i = n := by omega
   simp only [zh, hl, obz]
  | succ k ih =>
   intro i N hi hN; obtain ⟨m, rfl⟩ : ∃ m, N = m + 1 := ⟨N - 1, by omega⟩; simp only [zh, h i (by omega), obz]; exact ih (i + 1) m (by omega) (by omega)
 exact key n 0 N (by omega) hN
theorem z44 {α : Type} {f : α → Option (Stp α)} (I : Nat → α → Prop) (n : Nat) (h : ∀ i s, i < n → I i s → ∃ s', f s = some (.again s') ∧ I (i + 1) s') (hl : ∀ s, I n s → ∃ s', f s = some (.leave s') ∧ I n s') {N : Nat} (hN : n < N) {s : α} (h0 : I 0 s) : ∃ s', zh f N s = some s' ∧ I n s' := by
 have key : ∀ k i N s, i + k = n → k < N → I i s → ∃ s', zh f N s = some s' ∧ I n s' := by
  intro k
  induction k with
  | zero =>
   intro i N s hi hN hs; obtain ⟨m, rfl⟩ : ∃ m, N = m + 1 := ⟨N - 1, by omega⟩; obtain rfl : i = n := by omega
   obtain ⟨s', h1, h2⟩ := hl s hs; exact ⟨s', by simp only [zh, h1, obz], h2⟩
  | succ k ih =>
   intro i N s hi hN hs; obtain ⟨m, rfl⟩ : ∃ m, N = m + 1 := ⟨N - 1, by omega⟩; obtain ⟨s1, h1, h2⟩ := h i s (by omega) hs; obtain ⟨s', h3, h4⟩ := ih (i + 1) m s1 (by omega) (by omega) h2; exact ⟨s', by simp only [zh, h1, obz]; exact h3, h4⟩
 exact key n 0 N s (by omega) hN h0
theorem zxj {R α : Type} {f : α → Option (Round R α)} (I : Nat → α → Prop) (J : R → Prop) (n : Nat) (h : ∀ i s, i < n → I i s → (∃ s', f s = some (.again s') ∧ I (i + 1) s') ∨ ∃ r, f s = some (.result r) ∧ J r) (hl : ∀ s, I n s → ∃ s', f s = some (.leave s') ∧ I n s') {N : Nat} (hN : n < N) {s : α} (h0 : I 0 s) :
 (∃ s', zp f N s = some (.inr s') ∧ I n s') ∨ ∃ r, zp f N s = some (.inl r) ∧ J r := by
 have key : ∀ k i N s, i + k = n → k < N → I i s → (∃ s', zp f N s = some (.inr s') ∧ I n s') ∨ ∃ r, zp f N s = some (.inl r) ∧ J r := by
  intro k
  induction k with
  | zero =>
   intro i N s hi hN hs; obtain ⟨m, rfl⟩ : ∃ m, N = m + 1 := ⟨N - 1, by omega⟩; obtain rfl : i = n := by omega
   obtain ⟨s', h1, h2⟩ := hl s hs; exact .inl ⟨s', by simp only [zp, h1, obz], h2⟩
  | succ k ih =>
   intro i N s hi hN hs; obtain ⟨m, rfl⟩ : ∃ m, N = m + 1 := ⟨N - 1, by omega⟩; rcases h i s (by omega) hs with ⟨s1, h1, h2⟩ | ⟨r, h1, h2⟩
   · rcases ih (i + 1) m s1 (by omega) (by omega) h2 with ⟨s', h3, h4⟩ | ⟨r, h3, h4⟩
     · exact .inl ⟨s', by simp only [zp, h1, obz]; exact h3, h4⟩
     · exact .inr ⟨r, by simp only [zp, h1, obz]; exact h3, h4⟩
   · exact .inr ⟨r, by simp only [zp, h1, obz], h2⟩
 exact key n 0 N s (by omega) hN h0
theorem zae {α : Type} (xs : List α) (i : Nat) : idx xs (i : Int) = xs[i]? := by
 unfold idx
 rw [if_pos (by omega)]
 rfl
theorem zoy {α β : Type} (g : α → Option β) : ∀ (l : List α), (List.range l.length).findSome? (fun i => (l[i]?).bind g) = l.findSome? g := by
 have key : ∀ (l : List α) (p : Nat) (a : List α), a.length = p → (List.range' p l.length).findSome? (fun i => ((a ++ l)[i]?).bind g) = l.findSome? g := by
  intro l
  induction l with
  | nil => intro p a _; simp
  | cons x l ih =>
   intro p a ha; simp only [List.length_cons, List.range'_succ, List.findSome?_cons]; have e : (a ++ x :: l)[p]? = some x := by rw [List.getElem?_append_right (by omega)]; simp [ha]
   rw [e, obz]; cases g x with
   | some r => rfl
   | none =>
    have := ih (p + 1) (a ++ [x]) (by simp [ha]); simpa using this
 intro l
 rw [List.range_eq_range']
 exact key l 0 [] rfl
theorem zy (a b : Int) : (a == b) = decide (a = b) := by
 by_cases h : a = b
 · simp [h]
 · rw [decide_eq_false h]; exact beq_eq_false_iff_ne.2 h
theorem zb9 (a b : Int) : (a != b) = decide (a ≠ b) := by
 by_cases h : a = b
 · simp [h]
 · rw [decide_eq_true h]; simpa using h
def zf4 : List Int → Int
 | [] => 0
 | x :: l => if x = 0 then zf4 l else x
theorem zr1 : ∀ (l : List Int), (match l.findSome? (fun x => if x = 0 then none else some x) with | some r => r | none => 0) = zf4 l
 | [] => rfl
 | x :: l => by
  simp only [List.findSome?_cons, zf4]
  by_cases h : x = 0
  · simp only [h, if_true]; exact zr1 l
  · simp only [h, if_false]
end Go.Amx
