/- A machine that evaluates the program's form by typed values, and the proof that it is sound: part 4. -/
import Derived.Lib.LaidU8
import Derived.ChangeShapes
import Derived.OpenShut
import Derived.Test.YtmifhmfokbigiaaGreatDoorA3
namespace Go.Amx
set_option linter.unusedVariables false
set_option linter.unusedSimpArgs false
open Go.RowKit Go.ChangeShapes
section
variable {U : Uni} {C : Ctx U}
def zjh (En : Enc U) : Nat → DataW Unit → List (AV U) → Option (List (AV U))
 | n + 1, .lit (.int k z), .sc (.int k' z') :: r => cond (k == k' && z == z') (some r) none
 | n + 1, .agg ds, l => ds.foldlM (fun l d => zjh En n d l) l
 | n + 1, .slice es _, .lst t xs :: r => cond (Nat.beq es.length xs.length && (es.zip xs).all fun p => match zjh En n p.1 (En.enc t p.2) with | some [] => true | _ => false) (some r) none
 | _, _, _ => none
def zod : Nat → List (Nat × Nat × TypeId) → Nat → Bool
 | off, [], tot => Nat.beq off tot
 | off, s :: ss, tot => Nat.beq s.1 off && zod (off + s.2.1) ss tot
def zue (P : Program) (fs : List Field) : List (Nat × Nat × TypeId) := fs.map fun f => (f.offset, P.cellsOf f.type, f.type)
def zmy (P : Program) : Nat → TypeId → Bool
 | 0, _ => false
 | n + 1, T => match P.underlying T with
  | some (.int _) => true
  | some (.array m e) => Nat.beq (P.cellsOf T) (m * P.cellsOf e) && zmy P n e
  | some (.struct fs) => zod 0 (zue P fs.toList) (P.cellsOf T) && fs.toList.all fun f => zmy P n f.type
  | some (.slice e) => zmy P n e
  | _ => false
theorem z7p (L : ELaws C.En) {w : World} {t : U.Ty} {xs : List (U.den t)} {a : Addr} {len cap : Nat} (hl : len = xs.length) (hc : len ≤ cap)
 (h : ∀ i x, xs[i]? = some x → ∀ (j : Nat) c, (C.En.enc t x)[j]? = some c → ∃ u, w.cell? ((a.add (i * C.En.sz t)).add j) = some u ∧ V C.En zgi (zij w) c u) : V C.En zgi (zij w) (.lst t xs) (.slice (some a) len cap) := by
 have hpos := L.pos t
 have hcell : ∀ i x, xs[i]? = some x → ∀ (j : Nat) c, (C.En.enc t x)[j]? = some c → ∃ u, w.cell? ⟨a.block, a.off + (i * C.En.sz t + j), none⟩ = some u ∧ V C.En zgi (zij w) c u := by
  intro i x hx j c hj; obtain ⟨u, h1, h2⟩ := h i x hx j c hj; refine ⟨u, ?_, h2⟩; rw [← h1]
  congr 1
  have hs : a.spot = none ∨ 0 < i * C.En.sz t + j := by
   by_cases hz : 0 < i * C.En.sz t + j
   · exact .inr hz
   · left; have e1 : i * C.En.sz t = 0 := by omega
     have e2 : j = 0 := by omega
     rw [e1, e2] at h1; have := zoe h1; simpa [Addr.add] using this
  simp only [Addr.add]; obtain ⟨ab, ao, asp⟩ := a; rcases hs with hs | hs
  · simp only at hs; subst hs; split <;> split <;> simp_all <;> omega
  · split <;> split <;> simp_all <;> omega
 refine .lst (b := a.block) (o := a.off) hl hc (fun hne => ?_) (fun i j => (w.cell? ⟨a.block, a.off + (i * C.En.sz t + j), none⟩).getD undef) (fun i x hx j c hj => ?_) (fun i x hx j c hj => ?_)
 · have h0 : 0 < xs.length := List.length_pos_iff.2 hne; have hc0 : 0 < (C.En.enc t xs[0]).length := by rw [L.sz]; exact hpos
   obtain ⟨u, h1, _⟩ := h 0 _ (lga h0) 0 _ (lga hc0); have hsp := zoe h1; rw [Nat.zero_mul] at hsp; have : a.spot = none := by simpa [Addr.add] using hsp
   obtain ⟨ab, ao, asp⟩ := a; simp only at this; subst this; rfl
 · obtain ⟨u, h1, _⟩ := hcell i x hx j c hj; show w.cell? _ = _; rw [h1]; rfl
 · obtain ⟨u, h1, h2⟩ := hcell i x hx j c hj; rw [h1]; exact h2
theorem z1i {En : Enc U} {n : Nat} {es sp : List (DataW Unit)} {l rest : List (AV U)} (h : zjh En (n + 1) (.slice es sp) l = some rest) :
 ∃ t xs, l = .lst t xs :: rest ∧ es.length = xs.length ∧ ∀ p ∈ es.zip xs, zjh En n p.1 (En.enc t p.2) = some [] := by
 cases l with
 | nil => simp [zjh] at h
 | cons c r =>
  cases c with
  | lst t xs =>
   have h' : cond (Nat.beq es.length xs.length && (es.zip xs).all fun p => match zjh En n p.1 (En.enc t p.2) with | some [] => true | _ => false) (some r) none = some rest := h; obtain ⟨h1, h2⟩ := zcb h'; cases h2; simp only [baa, za6, decide_eq_true_eq, List.all_eq_true] at h1; refine ⟨t, xs, rfl, h1.1, fun p hp => ?_⟩; have := h1.2 p hp; split at this
   · assumption
   · cases this
  | _ => simp [zjh] at h
theorem z4v {En : Enc U} {n : Nat} {k : IntKind} {z : Int} {l rest : List (AV U)} (h : zjh En (n + 1) (.lit (.int k z)) l = some rest) : l = .sc (.int k z) :: rest := by
 cases l with
 | nil => simp [zjh] at h
 | cons c r =>
  cases c with
  | sc v =>
   cases v with
   | int k' z' =>
    have h' : cond (k == k' && z == z') (some r) none = some rest := h; obtain ⟨h1, h2⟩ := zcb h'; cases h2; simp only [baa, beq_iff_eq] at h1; obtain ⟨rfl, rfl⟩ := h1; rfl
   | _ => simp [zjh] at h
  | _ => simp [zjh] at h
theorem zt2 (L : ELaws C.En) {w : World} {sp : Nat → Bool} {held : Bool} : ∀ (n m fuel : Nat) (T : TypeId) (cs : List Value) (d : DataW Unit) (ps : List MemPlace) (av rest : List (AV U)), zmy C.P m T = true → DataW.trod (fun _ => ()) C.P w 0 sp held fuel T cs = some (d, ps) → zjh C.En n d av = some rest →
 ∃ p, av = p ++ rest ∧ F2 (V C.En zgi (zij w)) p cs
 | 0, m, fuel, T, cs, d, ps, av, rest, hp, h, hd => by simp [zjh] at hd
 | n + 1, 0, fuel, T, cs, d, ps, av, rest, hp, h, hd => by simp [zmy] at hp
 | n + 1, m + 1, fuel, T, cs, d, ps, av, rest, hp, h, hd => by
  have segs : ∀ (g : Nat) (ss : List (Nat × Nat × TypeId)) (ys : List (DataW Unit × List MemPlace)) (off : Nat) (av rest : List (AV U)), ss.length = ys.length → (∀ (i : Nat) s, ss[i]? = some s → zmy C.P m s.2.2 = true ∧ DataW.trod (fun _ => ()) C.P w 0 sp held g s.2.2 ((cs.drop s.1).take s.2.1) = ys[i]?) →
   zod off ss cs.length = true → (ys.map (·.1)).foldlM (fun l d => zjh C.En n d l) av = some rest → ∃ p, av = p ++ rest ∧ F2 (V C.En zgi (zij w)) p (cs.drop off) := by
   intro g ss
   induction ss with
   | nil =>
    intro ys off av rest hl _ ht hf; cases ys with
    | cons => simp at hl
    | nil =>
     simp [zod] at ht; simp at hf; subst hf; subst ht; exact ⟨[], rfl, by rw [List.drop_length]; exact .nil⟩
   | cons s ss ih =>
    intro ys off av rest hl hh ht hf; cases ys with
    | nil => simp at hl
    | cons y ys =>
     simp only [zod, baa, za6, decide_eq_true_eq] at ht; obtain ⟨e, ht⟩ := ht; simp only [List.map_cons, List.foldlM_cons, Option.bind_eq_bind, oba] at hf; obtain ⟨mid, h1, h2⟩ := hf; obtain ⟨k1, k2⟩ := hh 0 s rfl; obtain ⟨p1, e1, f1⟩ := zt2 L n m g _ _ y.1 y.2 av mid k1 (by rw [k2]; rfl) h1; obtain ⟨p2, e2, f2⟩ := ih ys (off + s.2.1) mid rest (by simpa using hl) (fun i s hs => hh (i + 1) s hs) ht h2; refine ⟨p1 ++ p2, by rw [e1, e2, List.append_assoc], ?_⟩; have : cs.drop off = (cs.drop s.1).take s.2.1 ++ cs.drop (off + s.2.1) := by
      rw [e, ← List.drop_drop, List.take_append_drop]
     rw [this]; exact f1.append f2
  unfold zmy at hp; split at hp
  · rename_i k hu; obtain ⟨z, rfl, hx, _⟩ := DataW.trod_int hu h; cases hx; exact ⟨_, z4v hd, .cons (.sc _) .nil⟩
  · rename_i q e hu; obtain ⟨xs, g, rfl, hx, hl, hxl, hall⟩ := DataW.trod_array hu h; cases hx; simp only [baa, za6, decide_eq_true_eq] at hp; have hd' : (xs.map (·.1)).foldlM (fun l d => zjh C.En n d l) av = some rest := hd; have tl : ∀ (k i : Nat), zod (i * C.P.cellsOf e) ((List.range' i k).map fun i => (i * C.P.cellsOf e, C.P.cellsOf e, e)) ((i + k) * C.P.cellsOf e) = true := by
     intro k
     induction k with
     | zero => intro i; simp [zod]
     | succ k ih =>
      intro i; simp only [List.range'_succ, List.map_cons, zod, baa, za6, decide_eq_true_eq, true_and]; have := ih (i + 1); rw [Nat.add_mul, Nat.one_mul] at this; rw [show (i + (k + 1)) = i + 1 + k by omega]; exact this
    obtain ⟨p, e1, f1⟩ := segs g ((List.range' 0 q).map fun i => (i * C.P.cellsOf e, C.P.cellsOf e, e)) xs 0 av rest (by simp [hxl]) (fun i s hs => by
     simp only [gem, oma] at hs; obtain ⟨i', h1, rfl⟩ := hs; rw [List.getElem?_eq_some_iff] at h1; obtain ⟨h2, h3⟩ := h1; simp at h2 h3; subst h3; exact ⟨hp.2, hall i (by omega)⟩) (by have := tl q 0; rw [Nat.zero_mul, Nat.zero_add] at this; rw [hl, hp.1]; exact this) hd'
    exact ⟨p, e1, by simpa using f1⟩
  · rename_i fs hu; obtain ⟨xs, g, rfl, hx, hl, hxl, hall⟩ := DataW.trod_struct hu h; cases hx; simp only [baa] at hp; have hd' : (xs.map (·.1)).foldlM (fun l d => zjh C.En n d l) av = some rest := hd; obtain ⟨p, e1, f1⟩ := segs g (zue C.P fs.toList) xs 0 av rest (by simp [zue, hxl]) (fun i s hs => by
     simp only [zue, gem, oma] at hs; obtain ⟨f, h1, rfl⟩ := hs; exact ⟨lat hp.2 f (lma h1), hall i f (by simpa using h1)⟩) (by rw [hl]; exact hp.1) hd'
    exact ⟨p, e1, by simpa using f1⟩
  · rename_i e hu; rcases DataW.trod_slice hu h with ⟨rfl, hx⟩ | ⟨a, len, cap, elems, rs, g, rfl, rfl, hx, _, hlc, _, hlen, hel, _, _⟩
    · cases hx; simp [zjh] at hd
    · cases hx; obtain ⟨t, xs, e0, h3, h4⟩ := z1i hd; simp only [List.length_map] at h3; refine ⟨[.lst t xs], e0, .cons (z7p L (by omega) hlc fun i x hx j c hj => ?_) .nil⟩; have hi : i < len := by have := (gea hx).1; omega
      have hh := hel i hi; rw [lga (by omega), oba] at hh; obtain ⟨cs', g1, g2⟩ := hh; have hz := h4 (elems[i].1, x) (lma (i := i) (List.getElem?_zip_eq_some.2 ⟨by rw [gem, lga (show i < elems.length by omega)]; rfl, hx⟩)); obtain ⟨p, e1, f1⟩ := zt2 L n m g e cs' elems[i].1 elems[i].2 _ [] hp g2 hz; simp only [List.append_nil] at e1; subst e1; obtain ⟨g3, g4⟩ := cells?_at g1; have hsz : C.P.cellsOf e = C.En.sz t := by rw [← g3, ← f1.length, L.sz]
      have hjl : j < cs'.length := by rw [← f1.length]; exact (gea hj).1
      refine ⟨cs'[j], ?_, f1.get j _ _ hj (lga hjl)⟩; rw [← hsz]; exact g4 j _ (lga hjl)
  · cases hp
end
section
variable {U : Uni} {C : Ctx U}
theorem zzz {α : Type} {β : Type} (f : α → List β) (n : Nat) : ∀ (xs : List α), (∀ x ∈ xs, (f x).length = n) → ∀ i x, xs[i]? = some x → ∀ (j : Nat) c, (f x)[j]? = some c → (xs.flatMap f)[i * n + j]? = some c
 | [], _, i, x, hx, _, _, _ => by simp at hx
 | y :: ys, hl, i, x, hx, j, c, hj => by
  have hy := hl y msa; cases i with
  | zero =>
   cases hx; have : j < (f y).length := (gea hj).1; simp only [List.flatMap_cons, Nat.zero_mul, Nat.zero_add]; rw [List.getElem?_append_left this]; exact hj
  | succ i =>
   simp only [List.flatMap_cons]; rw [List.getElem?_append_right (by rw [hy, Nat.succ_mul]; omega), hy, show (i + 1) * n + j - n = i * n + j by rw [Nat.succ_mul]; omega]; exact zzz f n ys (fun x hx => hl x (mca _ hx)) i x hx j c hj
theorem zyk {α : Type} {β : Type} (f : α → List β) (n : Nat) : ∀ (xs : List α), (∀ x ∈ xs, (f x).length = n) → (xs.flatMap f).length = xs.length * n
 | [], _ => by simp
 | y :: ys, hl => by
  simp only [List.flatMap_cons, List.length_append, List.length_cons, hl y msa, zyk f n ys fun x hx => hl x (mca _ hx)]; rw [Nat.succ_mul]; omega
def z49 (C : Ctx U) (laid : List (String × DataW Unit)) (p : Nat × AV U) : Bool :=
 match p.2 with
 | .rarr t xs => laid.any fun x => (match C.P.globalNamed x.1 with | some g => Nat.beq g p.1 | none => false) && ((match (C.P.globals[p.1]?).map (·.type) with | some T => zmy C.P 8 T | none => false) && (match zjh C.En 8 x.2 (xs.flatMap (C.En.enc t)) with | some [] => true | _ => false))
 | _ => false
theorem z7d (L : ELaws C.En) {globs : List (Nat × AV U)} (hG : C.G = pick globs) {laid : List (String × DataW Unit)} (hb : globs.all (z49 C laid) = true) {W : World} (hL : laidMet C.P laid W) : GOK C (zij W) W := by
 have key : ∀ g av, C.G g = some av → ∃ t xs cs T fz, av = .rarr t xs ∧ W.heap[g]? = some (.cells cs T fz) ∧ F2 (V C.En zgi (zij W)) (xs.flatMap (C.En.enc t)) cs.toList := by
  intro g av hg; rw [hG] at hg; have h1 := lat hb _ (zmd hg); unfold z49 at h1; simp only at h1; split at h1
  · rename_i t xs; simp only [List.any_eq_true, baa] at h1; obtain ⟨⟨nm, d⟩, hm, h2, h3, h4⟩ := h1; obtain ⟨g', T, cs, fuel, p, k1, k2, k3, k4⟩ := Lib.laidMet.reads hL hm; simp only at h2 h4; rw [k1] at h2; simp only [za6, decide_eq_true_eq] at h2; subst h2; rw [k2] at h3; simp only at h3; split at h4
    · rename_i h4'; obtain ⟨q, e1, f1⟩ := zt2 L 8 8 fuel T cs.toList d p _ [] h3 k4 h4'; simp only [List.append_nil] at e1; subst e1; unfold World.var? at k3; rw [k1] at k3; simp only [obz] at k3; split at k3
      · rename_i cs' T' fz hh; cases k3; exact ⟨t, xs, cs, T', fz, rfl, hh, f1⟩
      · cases k3
    · cases h4
  · cases h1
 constructor
 · intro g av hg; obtain ⟨t, xs, cs, T, fz, rfl, h1, h2⟩ := key g av hg; have cell : ∀ i x, xs[i]? = some x → ∀ (j : Nat) c, (C.En.enc t x)[j]? = some c → ∃ u, W.cell? ⟨g, 0 + (i * C.En.sz t + j), none⟩ = some u ∧ V C.En zgi (zij W) c u := by
    intro i x hx j c hj; have h3 := zzz (C.En.enc t) (C.En.sz t) xs (fun x _ => L.sz t x) i x hx j c hj; have hlt : i * C.En.sz t + j < cs.toList.length := by rw [← h2.length]; exact (gea h3).1
    refine ⟨cs.toList[i * C.En.sz t + j], ?_, h2.get _ _ _ h3 (lga hlt)⟩; unfold World.cell?; rw [h1, Nat.zero_add]; simp only [Array.length_toList] at hlt; simp [hlt]
   refine ⟨?_, fun μ => ?_⟩
   · trivial
   · refine .rarr (fun i j => (W.cell? ⟨g, 0 + (i * C.En.sz t + j), none⟩).getD undef) (fun i x hx j c hj => ?_) (fun i x hx j c hj => ?_)
     · obtain ⟨u, k1, k2⟩ := cell i x hx j c hj; show W.cell? _ = _; rw [k1]; rfl
     · obtain ⟨u, k1, k2⟩ := cell i x hx j c hj; rw [k1]; exact k2.mono (Fz.le_refl _) (fun k l hk => by cases hk)
 · intro g t xs hg; obtain ⟨t', xs', cs, T, fz, e, h1, h2⟩ := key g _ hg; cases e; refine ⟨cs, T, fz, h1, ?_⟩; have := h2.length; rw [zyk (C.En.enc t) (C.En.sz t) xs fun x _ => L.sz t x] at this; simpa using this.symm
theorem z1y (L : CLaws C) {T : TypeId} {t : U.Ty} (hagg : zce C T = some (C.En.agg t)) {W : World} {base : Nat} {v : Value} (hok : Value.okWide C.P W .any base T v) {T' : TypeDesc} (hu : C.P.underlying T = some T')
 (hb : T' = .bool ∨ T' = .string ∨ (∃ k, T' = .int k) ∨ (∃ e, T' = .slice e) ∨ ∃ fs, T' = .struct fs) {x : U.den t} {w : World} (hl : v.cells.toList.length = C.En.sz t) (hV : ∀ (j : Nat) c u, (C.En.enc t x)[j]? = some c → v.cells.toList[j]? = some u → V C.En zgi (zij w) c u) :
 V C.En zgi (zij w) (C.En.value t x) v := by
 unfold zce at hagg
 unfold Value.okWide at hok
 rw [hu] at hagg hok
 have hsz := L.e.sz t x
 have plain : v.cells = #[v] → C.En.agg t = false → V C.En zgi (zij w) (C.En.value t x) v := by
  intro hv ha; rw [hv] at hV; unfold Enc.value; rw [ha]; have h1 := L.e.one t ha; rw [h1] at hsz; cases he : C.En.enc t x with
  | nil => rw [he] at hsz; simp at hsz
  | cons c r => exact hV 0 c v (by rw [he]; rfl) rfl
 rcases hb with rfl | rfl | ⟨k, rfl⟩ | ⟨e, rfl⟩ | ⟨fs, rfl⟩
 · simp only [Option.some.injEq] at hagg; refine plain ?_ hagg.symm; simp only [Cell.okWide, hu, Cell.ok] at hok; cases v <;> first | rfl | exact absurd hok id
 · simp only [Option.some.injEq] at hagg; refine plain ?_ hagg.symm; simp only [Cell.okWide, hu, Cell.ok] at hok; cases v <;> first | rfl | exact absurd hok id
 · simp only [Option.some.injEq] at hagg; refine plain ?_ hagg.symm; simp only [Cell.okWide, hu, Cell.ok] at hok; cases v <;> first | rfl | exact absurd hok id
 · simp only [Option.some.injEq] at hagg; refine plain ?_ hagg.symm; simp only [Cell.okWide, hu, Cell.ok] at hok; cases v <;> first | rfl | exact absurd hok id
 · simp only [Option.some.injEq] at hagg; obtain ⟨cs, rfl, _, _⟩ := hok; unfold Enc.value; rw [← hagg]; have hl' : cs.toList.length = C.En.sz t := hl; refine .agg (by rw [hsz, ← hl']; simp) fun j c hj => ?_; have hj' : j < cs.size := by
    have := (gea hj).1; have e : cs.toList.length = cs.size := Array.length_toList; omega
   rw [agd, Array.getElem?_eq_getElem hj']; exact hV j c _ hj (by show cs.toList[j]? = _; simp [hj'])
structure ParOk (C : Ctx U) (p : TypeId × U.Ty) : Prop where
 rd : zgk C p.1 p.2
 agg : zce C p.1 = some (C.En.agg p.2)
 kind : ∃ T', C.P.underlying p.1 = some T' ∧ (T' = .bool ∨ T' = .string ∨ (∃ k, T' = .int k) ∨ (∃ e, T' = .slice e) ∨ ∃ fs, T' = .struct fs)
theorem zwk (L : CLaws C) (B : {H : Type} → DataW H → Nat) (hB : Bulk (fun {H} => B (H := H))) {H : Type} (enc : TypeId × Value → H) (W : World) (base : Nat) (held : Bool) : ∀ (ps : List (TypeId × U.Ty)) (vs : List Value) (ds : List (DataW H)) (pl : List MemPlace),
 (∀ p ∈ ps, ParOk C p) → (∀ (j : Nat) t v, (ps.map (·.1))[j]? = some t → vs[j]? = some v → Value.okWide C.P W .any base t v) → DataW.TrodAll enc C.P W 0 (fun _ => true) held (ps.map (·.1)) vs ds pl →
 ∃ es : List (Dyn U), es.map (·.ty) = ps.map (·.2) ∧ F2 (V C.En zgi (zij W)) (es.map fun e => C.En.value e.ty e.val) vs ∧ ds.length = ps.length ∧ (∀ n, (∀ d ∈ ds, B d ≤ n) → ∀ e ∈ es, Wft C.En n e.ty e.val) ∧
  ∀ w', Below W.heap.size W w' → DataW.TrodAll enc C.P w' 0 (zp4 W) held (ps.map (·.1)) vs ds pl
 | [], vs, ds, pl, _, _, h => by
  obtain ⟨rfl, rfl, rfl⟩ := trodAll_nil h; exact ⟨[], rfl, .nil, rfl, fun n _ e he => by simp at he, fun w' _ => h⟩
 | p :: ps, vs, ds, pl, hp, hval, h => by
  obtain ⟨v, vs', d, ds', p1, q, rfl, rfl, rfl, ⟨fuel, h1⟩, h2⟩ := trodAll_cons h; obtain ⟨es, g1, g2, g3, g4, g5⟩ := zwk L B hB enc W base held ps vs' ds' q (fun q hq => hp q (mca _ hq)) (fun j t v ht hv => hval (j + 1) t v ht hv) h2; have P := hp p msa; obtain ⟨⟨x, k1, k2, k3⟩, k4⟩ := P.rd B hB enc W held fuel _ d p1 h1; obtain ⟨T', u1, u2⟩ := P.kind; refine ⟨⟨p.2, x⟩ :: es, by simp [g1], .cons (z1y L P.agg (hval 0 p.1 v rfl rfl) u1 u2 k1 k2) g2, by simp [g3], fun n hn e he => ?_, fun w' hb => ?_⟩
  · rcases mco he with rfl | he
    · exact k3 n (hn _ msa)
    · exact g4 n (fun d hd => hn d (mca _ hd)) e he
  · exact ⟨p1, q, ⟨fuel, k4 w' hb⟩, g5 w' hb, rfl⟩
theorem zwn (L : CLaws C) {f : FuncId} {fn : Func} {bt : TypeId} {ps : List (TypeId × U.Ty)} (hps : fn.params.toList = ps.map (·.1)) (hrt : fn.resultTypes = #[bt]) (hbt : C.P.underlying bt = some .bool) (hpar : ∀ p ∈ ps, ParOk C p)
 (B : {H : Type} → DataW H → Nat) (hB : Bulk (fun {H} => B (H := H))) (n : Nat)
 (law : ∀ es : List (Dyn U), es.map (·.ty) = ps.map (·.2) → (∀ e ∈ es, Wft C.En n e.ty e.val) → ∃ (ct : Ct U) (y : PT U (ct.results ++ ct.outs)), zgv C f ct ∧ zja C ct.params es = some (es.map fun e => C.En.value e.ty e.val, []) ∧ ct.fn es = some y ∧ zaw C 9000000 ct.fresh ((zcr U (ct.results ++ ct.outs) y).take ct.results.length) = some (.sc (.bool true), []))
 {H : Type} {enc : TypeId × Value → H} {s : ChangeSpec} (hsv : s.vars = []) (hs : ∀ ds : List (DataW H), ds.length = ps.length → (s.fn H ds).results = [.lit (.bool true)] ∧ (s.fn H ds).args = ds ∧ (s.fn H ds).vars = [])
 {apart fresh handsOn : Bool} {W : World} {base : Nat} {args : Array Value} {ds gs : List (DataW H)} {before : List MemPlace} (hval : ∀ (j : Nat) t v, fn.params[j]? = some t → args[j]? = some v → Value.okWide C.P W .any base t v)
 (hW : DataW.Whole enc C.P fn.params.toList s.vars apart W args.toList ds gs before) (hG : GOK C (zij W) W) (hbd : ∀ d ∈ ds, B d ≤ n) :
 Calls C.P f args W fun e W' => ∃ v, e = .returned v ∧ s.post enc C.P fn apart fresh handsOn false W args v W' := by
 have hW' := hW
 obtain ⟨p, q, hA, hV, rfl, hfz, hnd⟩ := hW
 rw [hsv] at hV
 obtain ⟨rfl, rfl⟩ := trodVars_none hV
 rw [hps] at hA
 obtain ⟨es, g1, g2, g3, g4, g5⟩ := zwk L B hB enc W base true ps args.toList ds p hpar (fun j t v ht hv => hval j t v (by rw [← Array.getElem?_toList, hps]; exact ht) (by rw [← Array.getElem?_toList]; exact hv)) hA
 obtain ⟨ct, y, M, h1, h2, h3⟩ := law es g1 (g4 n hbd)
 have hS : Sim C.En zgi (zij W) [] W := { frz := fun b o v h => h, apart := fun k k' l l' b o hk => (by cases hk), free := fun k l b o hk => (by cases hk), inside := fun k l b o hk => (by cases hk), obj := fun k l hk => (by cases hk) }
 have hc := M.2 es y h2 _ _ h1 zgi (zij W) W args.toList g2 hS hG
 rw [Array.toArray_toList] at hc
 refine hc.mono fun e W' he => ?_
 cases e with
 | panicked c => exact absurd he id
 | outgrown => exact absurd he id
 | returned u =>
  obtain ⟨rv, hf, ho, ml, H', r1, r2, r3, r4, r5, r6, r7, r8, r9, r10, r11⟩ := he; rw [h3] at r1; cases r1; obtain rfl : u = .bool true := by cases r6; rfl
  have hbel : Below W.heap.size W W' := by
   refine Wd.below (r9.weaken fun b o _ hh => (by obtain ⟨k, l, hk, _⟩ := hh; cases hk))
  obtain ⟨s1, s2, s3⟩ := hs (ds ++ []) (by simpa using g3); refine ⟨_, rfl, ds, [], p ++ [], [], p, [], hW', ?_, ?_, ?_, ?_, fun h => by cases h⟩
  · rw [s1, hrt]; exact ⟨[], [], shut_bool hbt true, rfl, rfl⟩
  · rw [s2, hps, List.append_nil]; exact g5 W' hbel
  · rw [s3, hsv]; rfl
  · exact hbel.frame _
end
theorem z6n {n : Int} (h1 : -9223372036854775808 ≤ n) (h2 : n ≤ 9223372036854775807) : IntKind.wrap .i64 n = n := by
 have e : (2 : Int) ^ (IntKind.i64.bits) = 18446744073709551616 := by decide
 have e' : (2 : Int) ^ (IntKind.i64.bits - 1) = 9223372036854775808 := by decide
 unfold IntKind.wrap
 simp only [e, e']
 have : IntKind.i64.signed = true := rfl
 simp only [this, Bool.true_and, decide_eq_true_eq, ge_iff_le]
 split <;> omega
theorem zbh {R α : Type} {f : α → Option (Round R α)} (S : Nat → α) (g : Nat → Option R) (n : Nat) (h : ∀ i, i < n → f (S i) = some (match g i with | some r => .result r | none => .again (S (i + 1)))) (hl : f (S n) = some (.leave (S n))) {N : Nat} (hN : n < N) :
 zj f N (S 0) = some (match (List.range n).findSome? g with | some r => .inl r | none => .inr (S n)) := by
 have key : ∀ k i N, i + k = n → k < N → zj f N (S i) = some (match (List.range' i k).findSome? g with | some r => .inl r | none => .inr (S n)) := by
  intro k
  induction k with
  | zero =>
   intro i N hi hN; obtain ⟨m, rfl⟩ : ∃ m, N = m + 1 := ⟨N - 1, by omega⟩; obtain rfl : i = n := by omega
   simp only [zj, hl, obz]; rfl
  | succ k ih =>
   intro i N hi hN; obtain ⟨m, rfl⟩ : ∃ m, N = m + 1 := ⟨N - 1, by omega⟩; simp only [zj, h i (by omega), obz, List.range'_succ, List.findSome?_cons]; cases hg : g i with
   | some r => rfl
   | none => exact ih (i + 1) m (by omega) (by omega)
 rw [List.range_eq_range']
 exact key n 0 N (by omega) hN
theorem za1 {α : Type} {f : α → Option (Stp α)} (S : Nat → α) (n : Nat) (h : ∀ i, i < n → f (S i) = some (.again (S (i + 1)))) (hl : f (S n) = some (.leave (S n))) {N : Nat} (hN : n < N) : zl f N (S 0) = some (S n) := by
 have key : ∀ k i N, i + k = n → k < N → zl f N (S i) = some (S n) := by
  intro k
  induction k with
  | zero =>
   intro i N hi hN; obtain ⟨m, rfl⟩ : ∃ m, N = m + 1 := ⟨N - 1, by omega⟩; obtain rfl : i = n := by omega
   simp only [zl, hl, obz]
  | succ k ih =>
   intro i N hi hN; obtain ⟨m, rfl⟩ : ∃ m, N = m + 1 := ⟨N - 1, by omega⟩; simp only [zl, h i (by omega), obz]; exact ih (i + 1) m (by omega) (by omega)
 exact key n 0 N (by omega) hN
theorem zzh {α : Type} {f : α → Option (Stp α)} (I : Nat → α → Prop) (n : Nat) (h : ∀ i s, i < n → I i s → ∃ s', f s = some (.again s') ∧ I (i + 1) s') (hl : ∀ s, I n s → ∃ s', f s = some (.leave s') ∧ I n s') {N : Nat} (hN : n < N) {s : α} (h0 : I 0 s) : ∃ s', zl f N s = some s' ∧ I n s' := by
 have key : ∀ k i N s, i + k = n → k < N → I i s → ∃ s', zl f N s = some s' ∧ I n s' := by
  intro k
  induction k with
  | zero =>
   intro i N s hi hN hs; obtain ⟨m, rfl⟩ : ∃ m, N = m + 1 := ⟨N - 1, by omega⟩; obtain rfl : i = n := by omega
   obtain ⟨s', h1, h2⟩ := hl s hs; exact ⟨s', by simp only [zl, h1, obz], h2⟩
  | succ k ih =>
   intro i N s hi hN hs; obtain ⟨m, rfl⟩ : ∃ m, N = m + 1 := ⟨N - 1, by omega⟩; obtain ⟨s1, h1, h2⟩ := h i s (by omega) hs; obtain ⟨s', h3, h4⟩ := ih (i + 1) m s1 (by omega) (by omega) h2; exact ⟨s', by simp only [zl, h1, obz]; exact h3, h4⟩
 exact key n 0 N s (by omega) hN h0
theorem zta {R α : Type} {f : α → Option (Round R α)} (I : Nat → α → Prop) (J : R → Prop) (n : Nat) (h : ∀ i s, i < n → I i s → (∃ s', f s = some (.again s') ∧ I (i + 1) s') ∨ ∃ r, f s = some (.result r) ∧ J r) (hl : ∀ s, I n s → ∃ s', f s = some (.leave s') ∧ I n s') {N : Nat} (hN : n < N) {s : α} (h0 : I 0 s) :
 (∃ s', zj f N s = some (.inr s') ∧ I n s') ∨ ∃ r, zj f N s = some (.inl r) ∧ J r := by
 have key : ∀ k i N s, i + k = n → k < N → I i s → (∃ s', zj f N s = some (.inr s') ∧ I n s') ∨ ∃ r, zj f N s = some (.inl r) ∧ J r := by
  intro k
  induction k with
  | zero =>
   intro i N s hi hN hs; obtain ⟨m, rfl⟩ : ∃ m, N = m + 1 := ⟨N - 1, by omega⟩; obtain rfl : i = n := by omega
   obtain ⟨s', h1, h2⟩ := hl s hs; exact .inl ⟨s', by simp only [zj, h1, obz], h2⟩
  | succ k ih =>
   intro i N s hi hN hs; obtain ⟨m, rfl⟩ : ∃ m, N = m + 1 := ⟨N - 1, by omega⟩; rcases h i s (by omega) hs with ⟨s1, h1, h2⟩ | ⟨r, h1, h2⟩
   · rcases ih (i + 1) m s1 (by omega) (by omega) h2 with ⟨s', h3, h4⟩ | ⟨r, h3, h4⟩
     · exact .inl ⟨s', by simp only [zj, h1, obz]; exact h3, h4⟩
     · exact .inr ⟨r, by simp only [zj, h1, obz]; exact h3, h4⟩
   · exact .inr ⟨r, by simp only [zj, h1, obz], h2⟩
 exact key n 0 N s (by omega) hN h0
theorem zai {α : Type} (xs : List α) (i : Nat) : idx xs (i : Int) = xs[i]? := by
 unfold idx
 rw [if_pos (by omega)]
 rfl
theorem zmh {α β : Type} (g : α → Option β) : ∀ (l : List α), (List.range l.length).findSome? (fun i => (l[i]?).bind g) = l.findSome? g := by
 have key : ∀ (l : List α) (p : Nat) (a : List α), a.length = p → (List.range' p l.length).findSome? (fun i => ((a ++ l)[i]?).bind g) = l.findSome? g := by
  intro l
  induction l with
  | nil => intro p a _; simp
  | cons x l ih =>
   intro p a ha; simp only [List.length_cons, List.range'_succ, List.findSome?_cons]; have e : (a ++ x :: l)[p]? = some x := by rw [List.getElem?_append_right (by omega)]; simp [ha]
   rw [e, obz]; cases g x with
   | some r => rfl
   | none =>
    have := ih (p + 1) (a ++ [x]) (by simp [ha]); simpa using this
 intro l
 rw [List.range_eq_range']
 exact key l 0 [] rfl
theorem zcn (a b : Int) : (a == b) = decide (a = b) := by
 by_cases h : a = b
 · simp [h]
 · rw [decide_eq_false h]; exact beq_eq_false_iff_ne.2 h
theorem zd1 (a b : Int) : (a != b) = decide (a ≠ b) := by
 by_cases h : a = b
 · simp [h]
 · rw [decide_eq_true h]; simpa using h
def zhe : List Int → Int
 | [] => 0
 | x :: l => if x = 0 then zhe l else x
theorem zot : ∀ (l : List Int), (match l.findSome? (fun x => if x = 0 then none else some x) with | some r => r | none => 0) = zhe l
 | [] => rfl
 | x :: l => by
  simp only [List.findSome?_cons, zhe]
  by_cases h : x = 0
  · simp only [h, if_true]; exact zot l
  · simp only [h, if_false]
end Go.Amx
