/- InterpretTraces: the law answers true for every input of bulk at most 1048576, and its arguments read as they did; by the seat's second form, tied to the program's text. -/
import Derived.Test.YtmifhmfokbigiaaGreatDoorPInterpretTracesx1
import Derived.Test.YtmifhmfokbigiaaGreatDoorWInterpretTraces
namespace Go.Proofs.YtmifhmfokbigiaaGreatDoor.M
open Go Go.Amx
set_option linter.unusedVariables false
set_option linter.unusedSimpArgs false
set_option maxRecDepth 100000
noncomputable section
section
variable {p : zB} {s : zC}
def zn7 (t : zN) (a e : Int) : Bool := inB a t.From (t.To - 1) && (decide (t.Exception = 0) || decide (t.Exception = e))
def z0g (p : zB) (a e : Int) : Option Nat := (List.range p.zL.length).findSome? fun i => (p.zL[i]?).bind fun t => if zn7 t a e = true then some i else none
def zgn (p : zB) (a e : Int) : Int := match z0g p a e with | some i => (p.zL.getD i ⟨0, 0, 0, 0⟩).Handler | none => -1
theorem z1f {a e : Int} {i : Nat} (h : z0g p a e = some i) : ∃ t, p.zL[i]? = some t ∧ zn7 t a e = true := by
 obtain ⟨j, _, hj⟩ := eof h
 rw [Option.bind_eq_some_iff] at hj
 obtain ⟨t, ht, hj⟩ := hj
 split at hj
 · rename_i hh; cases hj; exact ⟨t, ht, hh⟩
 · cases hj
theorem z1c (h : ProgV p) {t : zN} (ht : t ∈ p.zL) : 0 ≤ t.From ∧ t.From < t.To ∧ t.To ≤ (p.zG.length : Int) ∧ 0 ≤ t.Handler ∧ t.Handler < (p.zG.length : Int) := by
 have := h.mon t ht
 unfold zt5 at this
 simp only [Bool.and_eq_true, decide_eq_true_eq] at this
 obtain ⟨h1, h2, h3, h4, h5⟩ := this
 have := zbb.1 h5
 omega
theorem z0h (h : ProgV p) (a e : Int) : zgn p a e = -1 ∨ (0 ≤ zgn p a e ∧ zgn p a e < (p.zG.length : Int)) := by
 unfold zgn
 cases hi : z0g p a e with
 | none => exact .inl rfl
 | some i =>
  obtain ⟨t, ht, _⟩ := z1f hi; right; simp only []; rw [gdd, ht]; exact (z1c h (lmg ht)).2.2.2
theorem z5u {β : Type} (f : Nat → β) (a e : Int) : (List.range p.zL.length).findSome? (fun i => ((p.zL[i]?).bind fun t => if zn7 t a e = true then some i else none).map f) = (z0g p a e).map f := by
 have key : ∀ l : List Nat, l.findSome? (fun i => ((p.zL[i]?).bind fun t => if zn7 t a e = true then some i else none).map f) = (l.findSome? (fun i => (p.zL[i]?).bind fun t => if zn7 t a e = true then some i else none)).map f := by
  intro l
  induction l with
  | nil => rfl
  | cons i l ih =>
   rw [List.findSome?_cons, List.findSome?_cons]; cases (p.zL[i]?).bind fun t => if zn7 t a e = true then some i else none with
   | none => exact ih
   | some j => rfl
 exact key _
theorem z7b (N : Nat) (hN : 20000 < N) (h : ProgV p) (a e : Int) : zhc N p a e = some (zgn p a e) := by
 have m6 := h.m6
 have i40 := h.i40
 unfold zhc zn
 have l1 := zbq (f := zn.r0 N) (fun i => (p.zL, (p.zL.length : Int), (i : Int), a, e)) (fun i => ((p.zL[i]?).bind fun t => if zn7 t a e = true then some i else none).map fun i : Nat => (i : Int)) p.zL.length
  (fun i hi => by
   have hx := lge hi; have hf := z1c h (List.getElem_mem hi); simp only [zn.r0, zn.b0, zae, hx, obs, dct (show (i : Int) < (p.zL.length : Int) by omega), ctr]; have e1 : zfx p.zL[i] a e = some (zn7 p.zL[i] a e) := by
    unfold zfx zn7; rw [w6e, zwx, zy, zy]; simp only [obs]; cases inB a p.zL[i].From (p.zL[i].To - 1) <;> cases decide (p.zL[i].Exception = 0) <;> cases decide (p.zL[i].Exception = e) <;> rfl
   rw [e1, w6e]; cases zn7 p.zL[i] a e <;> rfl)
  (by simp only [zn.r0, zn.b0, dcf (show ¬ (p.zL.length : Int) < (p.zL.length : Int) by omega), cfa]) (N := N) (by omega)
 simp only [nc0] at l1
 rw [l1, z5u]
 unfold zgn
 cases hi : z0g p a e with
 | none => rfl
 | some i =>
  obtain ⟨t, ht, _⟩ := z1f hi; simp only [Option.map_some, zdt, obs]; rw [dcf (show ¬ ((i : Nat) : Int) < 0 by omega), cfa, zae, ht, gdd, ht]; rfl
theorem z2p (N : Nat) (hN : 20000 < N) (h : ProgV p) (a e : Int) : zci N p a e = some (zgn p a e) := by
 have m6 := h.m6
 unfold zci
 have l1 := zbq (f := zci.r0 N) (fun i => (a, e, (i : Int), p)) (fun i => ((p.zL[i]?).bind fun t => if zn7 t a e = true then some i else none).map fun i : Nat => (p.zL.getD i ⟨0, 0, 0, 0⟩).Handler) p.zL.length
  (fun i hi => by
   have hx := lge hi; simp only [zci.r0, zci.b0, zae, hx, obs, dct (show (i : Int) < (p.zL.length : Int) by omega), ctr]; have e1 : ((cond (decide (p.zL[i].From ≤ a)) (some (decide (a < p.zL[i].To))) (some false)).bind fun g1002 => (cond g1002 ((cond (p.zL[i].Exception == 0) (some true) (some (p.zL[i].Exception == e))).bind fun g1003 => some g1003) (some false))) = some (zn7 p.zL[i] a e) := by
    unfold zn7 inB; rw [zy, zy, show decide (a ≤ p.zL[i].To - 1) = decide (a < p.zL[i].To) by rw [decide_eq_decide]; omega]; cases decide (p.zL[i].From ≤ a) <;> cases decide (a < p.zL[i].To) <;> cases decide (p.zL[i].Exception = 0) <;> cases decide (p.zL[i].Exception = e) <;> rfl
   rw [← Option.bind_assoc, e1, w6e]; simp only [obs]; cases zn7 p.zL[i] a e with
   | false => rfl
   | true =>
    simp only [ctr, if_true, Option.map_some]; rw [gdd, hx]; rfl)
  (by simp only [zci.r0, zci.b0, dcf (show ¬ (p.zL.length : Int) < (p.zL.length : Int) by omega), cfa]) (N := N) (by omega)
 simp only [nc0] at l1
 rw [l1, z5u]
 unfold zgn
 cases z0g p a e <;> rfl
def ziw (p : zB) (e : Int) : Nat → zC → zC
 | 0, s => s
 | k + 1, s => if 0 ≤ zgn p s.At e then mA s (zgn p s.At e) else if s.Stack.length = 0 then mT s 2
  else ziw p e k (mK (mA s (s.Stack.getD (s.Stack.length - 1) 0)) (s.Stack.take (s.Stack.length - 1)))
theorem zxk (N : Nat) (hN : 20000 < N) (h : ProgV p) (e : Int) (he : e ≠ 0) (z : zC) : ∀ (k : Nat) (s : zC), StI p s → s.Stack.length < k → ∀ K : Nat, k ≤ K →
 zp (zaq.r0 N) K (mI p s e) = some (.inl (mI p (ziw p e k s) e)) ∧ zp (zdz.r0 N) K (e, p, s, z) = some (.inl (ziw p e k s)) ∧ StI p (ziw p e k s) ∧ (ziw p e k s).Steps = s.Steps ∧ (ziw p e k s).Exception = s.Exception ∧
 (ziw p e k s).Storage = s.Storage ∧ (ziw p e k s).Lines = s.Lines ∧ (s.Status = 0 → (ziw p e k s).Status = 0 ∨ (ziw p e k s).Status = 2)
 | 0, s, _, h, _, _ => by omega
 | k + 1, s, hs, hk, K, hK => by
  obtain ⟨K, rfl⟩ : ∃ J, K = J + 1 := ⟨K - 1, by omega⟩; have hh := z7b N hN h s.At e; have hr := z2p N hN h s.At e; have rg := z0h h s.At e; have h6 := hs.stk; simp only [zp, zaq.r0, zaq.b0, zdz.r0, zdz.b0]; simp only [show (mI p s e).zB = p from rfl, show (mI p s e).zC = s from rfl, show (mI p s e).raised = e from rfl, show (mI p s e).layout = zls p.zA from rfl]; rw [hh, hr]; simp only [obs]; unfold ziw
  by_cases h0 : 0 ≤ zgn p s.At e
  · rw [ifp h0, dct (show zgn p s.At e ≥ 0 by omega), zb9, dct (show zgn p s.At e ≠ -1 by omega)]; exact ⟨rfl, rfl, hs.A h0 (by omega), rfl, rfl, rfl, rfl, fun h => .inl h⟩
  · rw [ifn h0, dcf (show ¬ zgn p s.At e ≥ 0 by omega), zb9, dcf (show ¬ zgn p s.At e ≠ -1 by omega), zy]
    by_cases hz : s.Stack.length = 0
    · rw [ifp hz, dct (show (s.Stack.length : Int) = 0 by omega)]; exact ⟨rfl, rfl, hs.T (by omega) (by omega), rfl, rfl, rfl, rfl, fun _ => .inr rfl⟩
    · have wl : w6 ((s.Stack.length : Int) - 1) = ((s.Stack.length - 1 : Nat) : Int) := by rw [w6e]; omega
      have hg : s.Stack[s.Stack.length - 1]? = some (s.Stack.getD (s.Stack.length - 1) 0) := by rw [gdd, lge (by omega)]; rfl
      obtain ⟨hrr, _⟩ := hs.calls _ (lmg hg); have k1 : 0 ≤ ((s.Stack.length - 1 : Nat) : Int) ∧ ((s.Stack.length - 1 : Nat) : Int) ≤ (s.Stack.length : Int) := by omega
      have k2 : 0 ≤ (0 : Int) ∧ (0 : Int) ≤ ((s.Stack.length - 1 : Nat) : Int) := by omega
      rw [ifn hz, dcf (show ¬ (s.Stack.length : Int) = 0 by omega)]; simp only [cfa, wl, zae, hg, obs, ifp k1, ifp k2, itn]; unfold zjf; rw [show (s.Stack.take (s.Stack.length - 1)).drop (0 : Int).toNat = s.Stack.take (s.Stack.length - 1) from rfl, zag (by rw [lnt]; omega)]; simp only [ctr, obs]; have hs2 : StI p (mK (mA s (s.Stack.getD (s.Stack.length - 1) 0)) (s.Stack.take (s.Stack.length - 1))) := (hs.A hrr.1 hrr.2).K (by rw [lnt]; omega) fun i hi2 => hs.calls i (List.mem_of_mem_take hi2); exact zxk N hN h e he z k _ hs2 (by show (s.Stack.take (s.Stack.length - 1)).length < k; rw [lnt]; omega) K (by omega)
def zuk (s : zC) : zC := if s.Status = 0 ∧ s.Steps = 300 then mT s 3 else s
def z0d (p : zB) (s : zC) : zI := p.zG.getD s.At.toNat ⟨0, []⟩
def zj3 (p : zB) (s : zC) : zC :=
 match zfy p (mP s (s.Steps + 1)) (z0d p s) with
 | .error e => zuk (ziw p e (s.Stack.length + 1) (mE (mP s (s.Steps + 1)) e))
 | .ok (n, t) => if t.Status ≠ 0 then t else if n = (p.zG.length : Int) then mT t 1 else zuk (mA t n)
theorem z0k (t : zC) : ((cond (t.Status == 0) (some (t.Steps == 300)) (some false)).bind fun g => cond g (some (⟨t.Storage, t.At, t.Stack, t.Lines, 3, t.Exception, t.Steps⟩ : zC)) (some t)) = some (zuk t) := by
 unfold zuk
 rw [zy, zy]
 by_cases h1 : t.Status = 0
 · rw [dct h1]
   by_cases h2 : t.Steps = 300
   · rw [dct h2, ifp ⟨h1, h2⟩]; rfl
   · rw [dcf h2, ifn (fun h => h2 h.2)]; rfl
 · rw [dcf h1, ifn (fun h => h1 h.1)]; rfl
theorem z5y (t : zC) (e : Int) : ((cond (t.Status == 0) (some (t.Steps == 300)) (some false)).bind fun g => cond g ((zak (mI p t e) 3).bind fun r => some r.zC) (some t)) = some (zuk t) := z0k t
theorem z5x {t : zC} (h : StI p t) : StI p (zuk t) ∧ (zuk t).Steps = t.Steps ∧ ((zuk t).Status = 0 → t.Steps ≠ 300) := by
 unfold zuk
 split
 · exact ⟨h.T (by omega) (by omega), rfl, fun h => by have h' : (3 : Int) = 0 := h; omega⟩
 · rename_i hn; exact ⟨h, rfl, fun h1 h2 => hn ⟨h1, h2⟩⟩
theorem z43 (h : StI p s) : zln s = some s := by
 have h2 := h.stk
 have h3 := h.lines
 have h4 := h.sto.sto.le
 have h5 := h.sto.sto.tags
 unfold zln zhh zi7
 rw [z5o (by omega), obs, zag (by omega), ctr, obs, zag (by omega)]
 rfl
theorem z0w (N : Nat) (hN : 20000 < N) (h : ProgV p) (hs : StI p s) (hrun : s.Status = 0) (h3 : s.Steps < 300) :
 zgv N p s (zls p.zA) = some (zj3 p s) ∧ zl5 N p s = some (zj3 p s) ∧ StI p (zj3 p s) ∧ (zj3 p s).Steps = s.Steps + 1 ∧ ((zj3 p s).Status = 0 → s.Steps + 1 < 300) := by
 have a0 := hs.at0
 have a1 := hs.at1
 have p0 := hs.sp0
 have hx : p.zG[s.At.toNat]? = some (z0d p s) := by
  unfold z0d; rw [gdd, lge (by omega)]; rfl
 have hi : idx p.zG s.At = some (z0d p s) := by unfold idx; rw [ifp a0, hx]
 have hs1 : StI p (mP s (s.Steps + 1)) := hs.P (by omega) (by omega)
 have hb := zabe N hN h hs1 (x := z0d p s) hx
 unfold zgv zl5
 rw [hi, z43 hs]
 simp only [obs]
 rw [w6e (n := s.Steps + 1)]
 show ((zd N (mI p (mP s (s.Steps + 1)) 0) (z0d p s)).bind _) = _ ∧ ((zx N p (mP s (s.Steps + 1))).bind _) = _ ∧ _
 unfold zj3
 rcases hb with ⟨e, nx, ny, t, g1, g2, g3, g4⟩ | ⟨n, k, t, g1, g3, g4, g5, g6, g7, g8, g9⟩
 · rw [g1, g3, g4]; simp only [obs]; have hse : StI p (mE (mP s (s.Steps + 1)) e) := hs1.E (by omega) (by omega); obtain ⟨k1, k2, k3, k4, k5, k6, k7, k8⟩ := zxk N hN h e (by omega) ⟨⟨⟨#[]⟩, []⟩, 0, [], [], 0, 0, 0⟩ (s.Stack.length + 1) _ hse (Nat.lt_succ_self _) N (by have := hs.stk; omega); rw [show (mI p (mP s (s.Steps + 1)) e).raised = e from rfl, zb9, dct (show e ≠ 0 by omega)]; simp only [ctr]; have hf := z5x k3; have k4' : (ziw p e (s.Stack.length + 1) (mE (mP s (s.Steps + 1)) e)).Steps = s.Steps + 1 := k4; refine ⟨?_, ?_, hf.1, hf.2.1.trans k4, fun h => ?_⟩
   · unfold zaq; show ((((zp (zaq.r0 N) N (mI p (mE (mP s (s.Steps + 1)) e) e)).bind _)).bind _) = _; rw [k1]; exact z5y _ e
   · unfold zdz; show ((((zp (zdz.r0 N) N (e, p, mE (mP s (s.Steps + 1)) e, _)).bind _)).bind _) = _; rw [k2]; exact z0k _
   · have := hf.2.2 h; omega
 · rw [g1, g3, g4]; simp only [obs, bsf, cfa, show (mI p t 0).raised = 0 from rfl, show (mI p t 0).zC = t from rfl]; have g8' : t.Steps = s.Steps + 1 := g8; have e0 : (t.Status != 0) = decide (t.Status ≠ 0) := zb9 _ _; have e1 : (t.Status == 0) = decide (t.Status = 0) := zy _ _; rw [e0, e1]
   by_cases hst : t.Status = 0
   · obtain ⟨j1, j2, j3⟩ := g5 hst; subst j1; rw [dct hst, dcf (show ¬ t.Status ≠ 0 by omega), ifn (show ¬ t.Status ≠ 0 by omega)]; simp only [ctr, cfa, zy]
     by_cases hl : k = (p.zG.length : Int)
     · rw [dct hl, ifp hl]; exact ⟨rfl, rfl, g6.T (by omega) (by omega), g8', fun h => by have h' : (1 : Int) = 0 := h; omega⟩
     · rw [dcf hl, ifn hl]; have hta : StI p (mA t k) := g6.A (by omega) (by omega); have hf := z5x hta; have f1 := z0k (mA t k); have f2 := z5y (p := p) (mA t k) 0; rw [zy, zy] at f1 f2; have e2 : (mA t k).Status = t.Status := rfl; rw [e2, dct hst] at f1 f2; refine ⟨f2, f1, hf.1, hf.2.1.trans g8', fun h => ?_⟩; have := hf.2.2 h; have e3 : (mA t k).Steps = t.Steps := rfl; have := g6.sp1; omega
   · rw [dcf hst, dct (show t.Status ≠ 0 from hst), ifp (show t.Status ≠ 0 from hst)]; exact ⟨rfl, rfl, g6, g8', fun h => absurd h hst⟩
end
section
variable {p : zB} {s : zC}
def zrl (n : Nat) : Storage := ⟨⟨(List.replicate (16 * n) 0).toArray⟩, List.replicate n false⟩
theorem zym (n : Nat) : (zrl n).Bytes.size = 16 * n := by
 show (List.replicate (16 * n) (0 : UInt8)).length = _
 rw [lnr]
theorem z93 {n : Nat} (hn : n ≤ 64) : zlf (zrl n) := by
 have hz := zym n
 refine ⟨by omega, by omega, ?_, fun i hi => ?_⟩
 · rw [hz]; show (List.replicate n false).length = _; rw [lnr]; omega
 · have hi' : (List.replicate n false)[i]? = some true := hi; rw [List.getElem?_replicate] at hi'; split at hi' <;> cases hi'
theorem zadp {n : Nat} (hn : n ≤ 64) : zha (n : Int) = some (zrl n, 0) := by
 unfold zha zl0
 have hb : inB (n : Int) 0 64 = true := zbb.2 ⟨by omega, by omega⟩
 have hs1 : (⟨#[0]⟩ : ByteArray).size = 1 := rfl
 rw [zabk, hb, w6e]
 simp only [obs, bnt, cfa]
 rw [ifp ⟨by omega, by omega, by rw [hs1]; omega⟩, obs, ifp, ifp (Int.le_refl _), zag (by omega), ctr, show ((n : Int) * 16).toNat = 16 * n by omega, itn]
 show some ((⟨⟨(Lib.repeatL [0] (16 * n)).toArray⟩, _⟩ : Storage), (0 : Int)) = _
 rw [zpb]
 rfl
theorem zaak {b d : ByteArray} {a : Nat} (hd : a + d.size ≤ b.size) (hb : b.size ≤ 1024) : zg8 b (a : Int) d = some ⟨(spl (bl b) a (bl d)).toArray⟩ := by
 have hmax : IntKind.i64.max = 9223372036854775807 := by decide
 unfold zg8
 rw [hmax]
 have z1 : (b.extract (0 : Int).toNat (a : Int).toNat).size = a := by rw [zcn _ _ _ (by omega) (by omega)]; omega
 rw [ifp, ifp, ifn (by rw [z1]; omega), w6e (n := (a : Int) + (d.size : Int)), ifp]
 have z2 : (b.extract ((a : Int) + (d.size : Int)).toNat b.size).size = b.size - (a + d.size) := by rw [zcn _ _ _ (by omega) (by omega)]; omega
 rw [ifn (by rw [z2, bsa, z1]; omega)]
 congr 1
 refine zgw ?_
 rw [zco, zco, zd3, zd3, show (0 : Int).toNat = 0 from rfl, dr0, show ((a : Int) + (d.size : Int)).toNat = a + d.size by omega, ← zal b, List.take_length, itn]
 rfl
theorem z1p (n a k : Nat) : clr (List.replicate n false) a k = List.replicate n false := by
 refine List.ext_getElem? fun i => ?_
 rw [zs5]
 split
 · rw [List.getElem?_replicate, lnr]
 · rfl
def zie (p : zB) : Nat → Storage
 | 0 => zrl (zid p.zA).toNat
 | k + 1 => if (og p.zA k).Kind = 0 then wrV (zie p k) (zcm p.zA k).toNat (zob (og p.zA k)) else zie p k
theorem zt8 (h : ProgV p) : 0 ≤ zid p.zA ∧ zid p.zA ≤ 24 := by
 have := zxs h
 have := h.quads
 omega
theorem zzn (N : Nat) (hN : 400 < N) (h : ProgV p) : ∀ k, k ≤ p.zA.length → StoP p (zie p k) ∧ (zie p k).Tags = List.replicate (zid p.zA).toNat false
 | 0, _ => by
  have hl := zt8 h; exact ⟨⟨z93 (by omega), by show ((zrl _).Bytes.size : Int) = _; rw [zym]; omega⟩, rfl⟩
 | k + 1, hk => by
  obtain ⟨i1, i2⟩ := zzn N hN h k (by omega); show StoP p (if (og p.zA k).Kind = 0 then _ else _) ∧ (if (og p.zA k).Kind = 0 then wrV (zie p k) (zcm p.zA k).toNat (zob (og p.zA k)) else zie p k).Tags = _
  by_cases h0 : (og p.zA k).Kind = 0
  · rw [ifp h0]; have ov := zhy h.ok (show k < p.zA.length by omega); obtain ⟨t1, t2⟩ := ov.ty (by rw [h0]; rfl); obtain ⟨_, _, e3⟩ := zsy N hN t1 t2 (ov.val (.inl h0)); obtain ⟨d1, d2⟩ := zt7 h (show k < p.zA.length by omega) (.inl h0) i1; have hp := zd6 t1; have w : (zcm p.zA k).toNat + (zob (og p.zA k)).size ≤ (zie p k).Bytes.size := by omega
    refine ⟨⟨z16 i1.sto w (by omega), by rw [ztd w]; exact i1.size⟩, ?_⟩; show clr (zie p k).Tags _ _ = _; rw [i2, z1p]
  · rw [ifn h0]; exact ⟨i1, i2⟩
theorem z6z (N : Nat) (hN : 20000 < N) (h : ProgV p) (hc : (zjz p).2 = 0) : zan N p = some (zie p p.zA.length, 0) := by
 have hl := zt8 h
 have n24 := h.n24
 unfold zan
 rw [z8r N (by omega), hc, zvu N (by omega) h.ok]
 simp only [obs, bsf, cfa]
 rw [show zid p.zA = ((zid p.zA).toNat : Int) by omega, zadp (by omega)]
 simp only [obs]
 have l1 := zbq (f := zan.r0 N) (fun i => (zls p.zA, 0, p.zA, (p.zA.length : Int), (i : Int), (⟨⟨#[]⟩, []⟩ : Storage), zie p i)) (fun _ => none) p.zA.length
  (fun i hi => by
   simp only [zan.r0, zan.b0, zf2 hi, obs, dct (show (i : Int) < (p.zA.length : Int) by omega), ctr, orB, bsf, Bool.or_false]; rw [w6e (n := (i : Int) + 1)]
   by_cases h0 : (og p.zA i).Kind = 0
   · rw [zb9, dcf (fun hh => hh h0)]; simp only [cfa]; have ov := zhy h.ok hi; obtain ⟨t1, t2⟩ := ov.ty (by rw [h0]; rfl); obtain ⟨e1, _, e3⟩ := zsy N (by omega) t1 t2 (ov.val (.inl h0)); obtain ⟨i1, _⟩ := zzn N (by omega) h i (by omega); obtain ⟨d1, d2⟩ := zt7 h hi (.inl h0) i1; have hp := zd6 t1; have w : (zcm p.zA i).toNat + (zob (og p.zA i)).size ≤ (zie p i).Bytes.size := by omega
     rw [e1, zjd hi]; simp only [obs, bsf, cfa]; have hw := z18 N (by omega) i1.sto w (by omega); rw [show (((zcm p.zA i).toNat : Nat) : Int) = zcm p.zA i by omega] at hw; rw [hw]; simp only [obs]; have e : zie p (i + 1) = wrV (zie p i) (zcm p.zA i).toNat (zob (og p.zA i)) := by
      show (if (og p.zA i).Kind = 0 then _ else _) = _; rw [ifp h0]
     rw [e]; rfl
   · rw [zb9, dct h0]; simp only [ctr]; have e : zie p (i + 1) = zie p i := by
      show (if (og p.zA i).Kind = 0 then _ else _) = _; rw [ifn h0]
     rw [e]; rfl)
  (by simp only [zan.r0, zan.b0, dcf (show ¬ (p.zA.length : Int) < (p.zA.length : Int) by omega), cfa]) (N := N) (by omega)
 simp only [nc0] at l1
 have e0 : zie p 0 = zrl (zid p.zA).toNat := rfl
 rw [e0] at l1
 rw [l1]
 have : ∀ l : List Nat, l.findSome? (fun _ => (none : Option (Storage × Int))) = none := fun l => by rw [List.findSome?_eq_none_iff]; intros; rfl
 rw [this]
 rfl
theorem z6u (N : Nat) (hN : 20000 < N) (h : ProgV p) : zcj N p = some (zie p p.zA.length) := by
 have hl := zt8 h
 have n24 := h.n24
 unfold zcj
 rw [zeb N (by omega) h.ok]
 simp only [obs]
 rw [show zid p.zA = ((zid p.zA).toNat : Int) by omega, w6e, show ((zid p.zA).toNat : Int) * 16 = ((16 * (zid p.zA).toNat : Nat) : Int) by omega, show (0 : Int) = ((0 : Nat) : Int) from rfl, z0z N 0 (by decide) _ (by omega) (by omega)]
 simp only [obs]
 rw [ifp, ifp (Int.le_refl _), itn, zag (by omega), ctr]
 have l1 := zas (f := zcj.r0 N) (fun i => (zls p.zA, (i : Int), p, (⟨⟨#[]⟩, []⟩ : Storage), zie p i)) p.zA.length
  (fun i hi => by
   simp only [zcj.r0, zcj.b0, zf2 hi, obs, dct (show (i : Int) < (p.zA.length : Int) by omega), ctr]; rw [w6e (n := (i : Int) + 1), zy]
   by_cases h0 : (og p.zA i).Kind = 0
   · rw [dct h0]; simp only [ctr]; have ov := zhy h.ok hi; obtain ⟨t1, t2⟩ := ov.ty (by rw [h0]; rfl); obtain ⟨_, e2, e3⟩ := zsy N (by omega) t1 t2 (ov.val (.inl h0)); obtain ⟨i1, i2⟩ := zzn N (by omega) h i (by omega); obtain ⟨d1, d2⟩ := zt7 h hi (.inl h0) i1; have hp := zd6 t1; have w : (zcm p.zA i).toNat + (zob (og p.zA i)).size ≤ (zie p i).Bytes.size := by omega
     rw [e2, zjd hi]; simp only [obs]; have hw := zaak w i1.sto.le; rw [show (((zcm p.zA i).toNat : Nat) : Int) = zcm p.zA i by omega] at hw; rw [hw]; simp only [obs]; have e : zie p (i + 1) = wrV (zie p i) (zcm p.zA i).toNat (zob (og p.zA i)) := by
      show (if (og p.zA i).Kind = 0 then _ else _) = _; rw [ifp h0]
     rw [e]; unfold wrV; rw [i2, z1p]; rfl
   · rw [dcf h0]; simp only [cfa]; have e : zie p (i + 1) = zie p i := by
      show (if (og p.zA i).Kind = 0 then _ else _) = _; rw [ifn h0]
     rw [e]; rfl)
  (by simp only [zcj.r0, zcj.b0, dcf (show ¬ (p.zA.length : Int) < (p.zA.length : Int) by omega), cfa]) (N := N) (by omega)
 simp only [nc0] at l1 ⊢
 have e0 : zie p 0 = zrl (zid p.zA).toNat := rfl
 rw [e0] at l1
 have e1 : (⟨⟨(List.replicate (16 * (zid p.zA).toNat) (UInt8.ofNat 0)).toArray⟩, List.replicate (zid p.zA).toNat false⟩ : Storage) = zrl (zid p.zA).toNat := rfl
 rw [e1, l1]
 rfl
def zky (p : zB) : zC := ⟨zie p p.zA.length, 0, [], [], 0, 0, 0⟩
theorem zaa3 (N : Nat) (hN : 20000 < N) (h : ProgV p) (hc : (zjz p).2 = 0) : zf7 N p = some (zky p, 0) := by
 unfold zf7
 rw [z6z N hN h hc]
 rfl
theorem z6s (N : Nat) (hN : 20000 < N) (h : ProgV p) : zk5 N p = some (zky p) := by
 unfold zk5
 rw [z6u N hN h]
 rfl
theorem zrp (h : ProgV p) : StI p (zky p) := {
 sto := (zzn 401 (by decide) h _ (Nat.le_refl _)).1
 at0 := Int.le_refl _
 at1 := by have := h.i0; show (0 : Int) < _; omega
 stk := by show (0 : Nat) ≤ 6; omega
 calls := fun i hi => by cases hi
 lines := by show (0 : Nat) ≤ 40; omega
 long := fun i hi => by cases hi
 st0 := Int.le_refl _
 st1 := by show (0 : Int) ≤ 3; omega
 ex0 := Int.le_refl _
 ex1 := by show (0 : Int) ≤ 999; omega
 sp0 := Int.le_refl _
 sp1 := by show (0 : Int) ≤ 300; omega }
theorem z8s (N : Nat) (hN : 20000 < N) (h : ProgV p) (hc : (zjz p).2 = 0) : zgt N p = some (zls p.zA, zid p.zA, 0) := by
 unfold zgt
 rw [z8r N (by omega), hc, zvu N (by omega) h.ok]
 rfl
theorem z5m {n : Nat} (h : Wft En n Ty.zB p) : p.zA.length ≤ n ∧ p.zG.length ≤ n ∧ p.zL.length ≤ n ∧ ∀ x ∈ p.zG, x.Args.length ≤ n := by
 have h1 := h (.lst Ty.zF p.zA) (by show _ ∈ zjn p; simp [zjn])
 have h2 := h (.lst Ty.zI p.zG) (by show _ ∈ zjn p; simp [zjn])
 have h3 := h (.lst Ty.zN p.zL) (by show _ ∈ zjn p; simp [zjn])
 cases h1 with
 | lst h1 _ =>
  cases h2 with
  | lst h2 h2' =>
   cases h3 with
   | lst h3 _ =>
    refine ⟨h1, h2, h3, fun x hx => ?_⟩; have h4 := h2' x hx (.lst (Ty.int .i64) x.Args) (by show _ ∈ zl9 x; simp [zl9]); cases h4 with
    | lst h4 _ => exact h4
theorem ztl {n : Nat} (h : n ≤ 1000000000) : Nat.ble n za3 = true := Nat.ble_eq_true_of_le (by unfold za3; omega)
theorem zaav (N : Nat) (hN : 1048600 < N) (hp : Wft En 1048576 Ty.zB p) : ze7 N p = some p := by
 obtain ⟨w1, w2, w3, w4⟩ := z5m hp
 unfold ze7
 rw [ztl (by omega), ztl (by omega)]
 simp only [ctr]
 have l1 := zas (f := ze7.r0 N) (fun i => ((i : Int), p, (⟨[], [], []⟩ : zB), (⟨p.zA, p.zG.take i, p.zL⟩ : zB))) p.zG.length
  (fun i hi => by
   have hx := lge hi; have ha := w4 _ (List.getElem_mem hi); simp only [ze7.r0, ze7.b0, zae, hx, obs, dct (show (i : Int) < (p.zG.length : Int) by omega), ctr, zhh, ztl (show p.zG[i].Args.length * 8 ≤ 1000000000 by omega)]; rw [ztl (by rw [lnt]; simp only [lnc, ln0]; omega), ctr, w6e, ← List.take_append_getElem hi]; rfl)
  (by simp only [ze7.r0, ze7.b0, dcf (show ¬ (p.zG.length : Int) < (p.zG.length : Int) by omega), cfa]) (N := N) (by omega)
 simp only [nc0, List.take_zero] at l1
 rw [l1, obs, List.take_length]
theorem zaf2 (N : Nat) (hN : 1048600 < N) (hp : Wft En 1048576 Ty.zB p) : ∃ b, zb6 N p = some b := by
 obtain ⟨w1, w2, w3, w4⟩ := z5m hp
 unfold zb6
 simp only [orB, obs]
 cases (decide ((p.zA.length : Int) > 28) || decide ((p.zG.length : Int) > 44)) || decide ((p.zL.length : Int) > 9) with
 | true => exact ⟨_, rfl⟩
 | false =>
  simp only [cfa]; have l1 := zxj (f := zb6.r0 N) (fun i t => t = ((i : Int), p)) (fun r => True) p.zA.length
   (fun i t hi ht => by
    subst ht; have hx := lge hi; simp only [zb6.r0, zb6.b0, zae, hx, obs, dct (show (i : Int) < (p.zA.length : Int) by omega), ctr, orB]; rw [w6e (n := (i : Int) + 1)]; cases (decide ((p.zA[i].Name.size : Int) > 100) || decide ((p.zA[i].Base.size : Int) > 100)) || decide ((p.zA[i].Value.S.size : Int) > 600) with
    | true => exact .inr ⟨_, rfl, trivial⟩
    | false => exact .inl ⟨_, rfl, rfl⟩)
   (fun t ht => by
    subst ht; simp only [zb6.r0, zb6.b0, dcf (show ¬ (p.zA.length : Int) < (p.zA.length : Int) by omega), cfa]; exact ⟨_, rfl, rfl⟩) (N := N) (by omega) (s := (0, p)) rfl
  rcases l1 with ⟨t, g1, g2⟩ | ⟨r, g1, _⟩
  · rw [g1, g2]; simp only [obs, zdt]; have l2 := zxj (f := zb6.r2 N) (fun i t => t = ((i : Int), p)) (fun r => True) p.zG.length
     (fun i t hi ht => by
      subst ht; have hx := lge hi; simp only [zb6.r2, zb6.b2, zae, hx, obs, dct (show (i : Int) < (p.zG.length : Int) by omega), ctr]; rw [w6e (n := (i : Int) + 1)]; cases decide ((p.zG[i].Args.length : Int) > 6) with
      | true => exact .inr ⟨_, rfl, trivial⟩
      | false => exact .inl ⟨_, rfl, rfl⟩)
     (fun t ht => by
      subst ht; simp only [zb6.r2, zb6.b2, dcf (show ¬ (p.zG.length : Int) < (p.zG.length : Int) by omega), cfa]; exact ⟨_, rfl, rfl⟩) (N := N) (by omega) (s := (0, p)) rfl
    rcases l2 with ⟨t, g3, _⟩ | ⟨r, g3, _⟩
    · rw [g3]; exact ⟨_, rfl⟩
    · rw [g3]; exact ⟨_, rfl⟩
  · rw [g1]; exact ⟨_, rfl⟩
theorem z1v (N : Nat) (l : List ByteArray) (h : l.length < N) (hl : l.length < 1000000) : zcg N l l = some true := by
 unfold zcg
 simp only [bsf, cfa]
 have l1 := zbq (f := zcg.r0 N) (fun i => (l, l, (i : Int))) (fun _ => none) l.length
  (fun i hi => by
   have hx := lge hi; simp only [zcg.r0, zcg.b0, zae, hx, obs, dct (show (i : Int) < (l.length : Int) by omega), ctr, bst, bnt, cfa]; rw [w6e]; rfl)
  (by simp only [zcg.r0, zcg.b0, dcf (show ¬ (l.length : Int) < (l.length : Int) by omega), cfa]) h
 simp only [nc0] at l1
 rw [l1]
 have : ∀ l : List Nat, l.findSome? (fun _ => (none : Option Bool)) = none := fun l => by rw [List.findSome?_eq_none_iff]; intros; rfl
 rw [this]
 rfl
theorem zae0 : zml 2000000 = some true := by kernel_rfl
end
theorem z9b (x : Int) (l : List Int) : zf4 (x :: l) = if x = 0 then zf4 l else x := rfl
theorem z77 (N : Nat) (l : List Int) (h : l.length < N) (hl : l.length < 1000000000) : ze9 N l l = some true := by
 unfold ze9
 simp only [bsf, cfa]
 have l1 := zbq (f := ze9.r0 N) (fun i => (l, l, (i : Int))) (fun _ => none) l.length
  (fun i hi => by
   have hx := lge hi; simp only [ze9.r0, ze9.b0, zae, hx, obs, dct (show (i : Int) < (l.length : Int) by omega), ctr, bsf, cfa]; rw [w6e]; rfl)
  (by simp only [ze9.r0, ze9.b0, dcf (show ¬ (l.length : Int) < (l.length : Int) by omega), cfa]) h
 simp only [nc0] at l1
 rw [l1]
 have : ∀ l : List Nat, l.findSome? (fun _ => (none : Option Bool)) = none := fun l => by rw [List.findSome?_eq_none_iff]; intros; rfl
 rw [this]
 rfl
theorem z6n (N : Nat) (l : List Bool) (h : l.length < N) (hl : l.length < 1000000) : zee N l l = some true := by
 unfold zee
 simp only [bsf, cfa]
 have l1 := zbq (f := zee.r0 N) (fun i => (l, l, (i : Int))) (fun _ => none) l.length
  (fun i hi => by
   have hx := lge hi; simp only [zee.r0, zee.b0, zae, hx, obs, dct (show (i : Int) < (l.length : Int) by omega), ctr, bst, bnt, cfa]; rw [w6e]; rfl)
  (by simp only [zee.r0, zee.b0, dcf (show ¬ (l.length : Int) < (l.length : Int) by omega), cfa]) h
 simp only [nc0] at l1
 rw [l1]
 have : ∀ l : List Nat, l.findSome? (fun _ => (none : Option Bool)) = none := fun l => by rw [List.findSome?_eq_none_iff]; intros; rfl
 rw [this]
 rfl
theorem zaaa (N : Nat) (s : Storage) (h : s.Tags.length < N) (hl : s.Tags.length < 1000000) : zhv N s s = some true := by
 unfold zhv
 rw [bst, ctr, z6n N _ h hl]
 rfl
section
variable {p : zB} {s : zC}
end
section
variable {p : zB} {s : zC}
def trT (p : zB) : Nat → zC → List zC
 | 0, _ => []
 | k + 1, s => if s.Status = 0 then zj3 p s :: trT p k (zj3 p s) else []
def trL (p : zB) (k : Nat) : List zC := zky p :: trT p k (zky p)
theorem z5c (p : zB) : ∀ (k : Nat) (s : zC), (trT p k s).length ≤ k
 | 0, _ => Nat.le_refl 0
 | k + 1, s => by
  have := z5c p k (zj3 p s); unfold trT; split
  · rw [lnc]; omega
  · exact Nat.zero_le _
theorem z5d (N : Nat) (hN : 20000 < N) (h : ProgV p) (Q : zC → Prop) (hq : ∀ s, StI p s → s.Status = 0 → s.Steps < 300 → Q s → Q (zj3 p s)) : ∀ (k : Nat) (s : zC), StI p s → (s.Status = 0 → s.Steps < 300) → Q s → ∀ t ∈ trT p k s, StI p t ∧ Q t
 | 0, _, _, _, _, t, ht => by cases ht
 | k + 1, s, hs, h1, hQ, t, ht => by
  unfold trT at ht; split at ht
  · rename_i hst; obtain ⟨g1, g2, g3, g4, g5⟩ := z0w N hN h hs hst (h1 hst); have hQ' := hq s hs hst (h1 hst) hQ; rcases List.mem_cons.1 ht with rfl | ht
    · exact ⟨g3, hQ'⟩
    · exact z5d N hN h Q hq k _ g3 (fun hh => by rw [g4]; exact g5 hh) hQ' t ht
  · cases ht
theorem zab1 (N : Nat) (hN : 20000 < N) (h : ProgV p) (Q : zC → Prop) (h0 : Q (zky p)) (hq : ∀ s, StI p s → s.Status = 0 → s.Steps < 300 → Q s → Q (zj3 p s)) (k : Nat) : ∀ t ∈ trL p k, StI p t ∧ Q t := fun t ht => by
 rcases List.mem_cons.1 ht with rfl | ht
 · exact ⟨zrp h, h0⟩
 · exact z5d N hN h Q hq k _ (zrp h) (fun _ => by show (0 : Int) < 300; omega) h0 t ht
theorem zab0 (p : zB) (k : Nat) : (trL p k).length ≤ k + 1 := by
 have := z5c p k (zky p)
 unfold trL
 rw [lnc]; omega
theorem z5t (b : Bool) (e : Int) : zkd b e = some (cond b e 0) := by cases b <;> rfl
theorem z5s (N : Nat) (hN : 1100 < N) (p : zB) : zfw N p = some (zjz p).2 := by
 unfold zfw
 rw [z24 N hN]
 rfl
theorem z3u (N : Nat) (l : List Int) (h : l.length < N) (hl : l.length < 1000000000) : zbj N l = some (zf4 l) := by
 unfold zbj
 have := zbq (f := zbj.r0 N) (fun i => (l, (l.length : Int), (i : Int))) (fun i => (l[i]?).bind fun x => if x = 0 then none else some x) l.length
  (fun i hi => by
   have hx := lge hi; simp only [zbj.r0, zbj.b0, zae, hx, obs, dct (show (i : Int) < (l.length : Int) by omega), ctr]
   by_cases h0 : l[i] = 0
   · simp only [h0, bsf, cfa, if_true]; rw [w6e]; rfl
   · simp only [h0, if_false]; rw [show (l[i] != 0) = true by simpa using h0]; rfl)
  (by simp only [zbj.r0, zbj.b0, dcf (show ¬ (l.length : Int) < (l.length : Int) by omega), cfa]) h
 simp only [nc0] at this
 rw [this, zoy, ← zr1]
 simp only [obs]
 cases l.findSome? (fun x => if x = 0 then none else some x) <;> rfl
end
section
variable {p : zB} {s : zC}
theorem zz4 (N : Nat) (hN : 20000 < N) (h : ProgV p) (n : Int) (hn : n ≤ 300) : ∀ (k : Nat) (s : zC) (out : List zC), StI p s → (s.Status = 0 → s.Steps < 300) → s.Steps + (k : Int) = n → out.length + k ≤ 1000 → ∀ K : Nat, k < K →
 (∃ j t, zh (za7.r0 N) K (n, zls p.zA, s.Steps, out, p, s) = some (n, zls p.zA, j, out ++ trT p k s, p, t)) ∧ ∃ t, zh (zcz.r0 N) K (n, out, p, s) = some (n, out ++ trT p k s, p, t)
 | 0, s, out, hs, h1, h2, h3, K, hK => by
  obtain ⟨K, rfl⟩ : ∃ J, K = J + 1 := ⟨K - 1, by omega⟩; have ca : ∀ b : Bool, (cond b (some false) (some false) : Option Bool) = some false := fun b => by cases b <;> rfl
  simp only [zh, za7.r0, za7.b0, zcz.r0, zcz.b0]; rw [dcf (show ¬ s.Steps < n by omega), ca, cfa]; simp only [obs, cfa]; exact ⟨⟨_, _, by rw [trT, List.append_nil]⟩, ⟨_, by rw [trT, List.append_nil]⟩⟩
 | k + 1, s, out, hs, h1, h2, h3, K, hK => by
  obtain ⟨K, rfl⟩ : ∃ J, K = J + 1 := ⟨K - 1, by omega⟩; simp only [zh, za7.r0, za7.b0, zcz.r0, zcz.b0, zy]; rw [dct (show s.Steps < n by omega)]
  by_cases hst : s.Status = 0
  · obtain ⟨g1, g2, g3, g4, g5⟩ := z0w N hN h hs hst (h1 hst); have p0 := hs.sp0; have e : trT p (k + 1) s = zj3 p s :: trT p k (zj3 p s) := by rw [trT, ifp hst]
    have rm : Nat.ble ((out.length + ([zj3 p s] : List zC).length) * 120) za3 = true := zag (by simp only [lnc, ln0]; omega); rw [dct hst]; simp only [ctr, obs]; rw [g1, g2, w6e, ← g4, e]; simp only [obs, zej, rm, ctr]; obtain ⟨⟨j, t, q1⟩, ⟨t', q2⟩⟩ := zz4 N hN h n hn k (zj3 p s) (out ++ [zj3 p s]) g3 (fun hh => by rw [g4]; exact g5 hh) (by rw [g4]; omega) (by simp only [lna, lnc, ln0]; omega) K (by omega); rw [List.append_assoc, List.singleton_append] at q1 q2; exact ⟨⟨j, t, q1⟩, ⟨t', q2⟩⟩
  · rw [dcf hst, trT, ifn hst, List.append_nil]; simp only [ctr, cfa, obs]; exact ⟨⟨_, _, rfl⟩, ⟨_, rfl⟩⟩
theorem z45 (N : Nat) (hN : 20000 < N) (h : ProgV p) (hc : (zjz p).2 = 0) (k : Nat) (hk : k ≤ 300) : zep N p (k : Int) = some (trL p k, 0) := by
 have f2 : ∀ a b : Int, zbj N [a, b] = some (zf4 [a, b]) := fun a b => z3u N _ (by simp; omega) (by simp)
 have hb : inB (k : Int) 0 300 = true := zbb.2 ⟨by omega, by omega⟩
 unfold zep za7
 rw [z5s N (by omega), hc]
 simp only [obs, zwx, z5t, f2, hb, bnt, cfa]
 rw [show zf4 [0, 0] = 0 from rfl, zaa3 N hN h hc, z8s N hN h hc]
 simp only [obs, bsf, cfa, zej]
 rw [zag (by show (0 + 1) * 120 ≤ 1000000; decide), ctr]
 obtain ⟨⟨j, t, q1⟩, _⟩ := zz4 N hN h (k : Int) (by omega) k (zky p) ([] ++ [zky p]) (zrp h) (fun _ => by show (0 : Int) < 300; omega) (by show (0 : Int) + (k : Int) = _; omega) (by show 1 + k ≤ 1000; omega) N (by omega)
 simp only [obs]
 rw [show (0 : Int) = (zky p).Steps from rfl, q1]
 rfl
theorem zry (N : Nat) (hN : 20000 < N) (n : Int) (he : zf4 [(zjz p).2, cond (!inB n 0 300) 3 0] ≠ 0) : zep N p n = some ([], zf4 [(zjz p).2, cond (!inB n 0 300) 3 0]) := by
 have f2 : ∀ a b : Int, zbj N [a, b] = some (zf4 [a, b]) := fun a b => z3u N _ (by simp; omega) (by simp)
 unfold zep
 rw [z5s N (by omega)]
 simp only [obs, zwx, z5t, f2]
 rw [show (zf4 [(zjz p).2, cond (!inB n 0 300) 3 0] != 0) = true by rw [zb9]; exact dct he]
 rfl
theorem z4z (N : Nat) (hN : 20000 < N) (h : ProgV p) (k : Nat) (hk : k ≤ 300) : zcz N p (k : Int) = some (trL p k) := by
 unfold zcz
 rw [z6s N hN h]
 simp only [obs]
 obtain ⟨_, ⟨t, q2⟩⟩ := zz4 N hN h (k : Int) (by omega) k (zky p) [zky p] (zrp h) (fun _ => by show (0 : Int) < 300; omega) (by show (0 : Int) + (k : Int) = _; omega) (by show 1 + k ≤ 1000; omega) N (by omega)
 rw [q2]
 rfl
theorem zadx (N : Nat) (hN : 100000 < N) (s : zC) (h2 : s.Stack.length < 100000) (h3 : s.Lines.length < 100000) (h4 : s.Storage.Tags.length < 100000) : zks N s s = some true := by
 unfold zks
 rw [zaaa N _ (by omega) (by omega)]
 simp only [obs, ctr, bst]
 rw [z77 N _ (by omega) (by omega)]
 simp only [obs, ctr]
 rw [z1v N _ (by omega) (by omega)]
 rfl
theorem zaab (N : Nat) (hN : 100000 < N) (hs : StI p s) : zks N s s = some true := by
 have a2 := hs.stk
 have a3 := hs.lines
 have a4 := hs.sto.sto.le
 have a5 := hs.sto.sto.tags
 exact zadx N hN s (by omega) (by omega) (by omega)
end
theorem plainInterpretTraces : zg9 := by
 intro p n hp hn
 refine ⟨2000000, ?_⟩
 obtain ⟨b, hb⟩ := zaf2 2000000 (by decide) hp
 have hN : 20000 < 2000000 := by decide
 unfold zar
 rw [zae0]
 simp only [obs, bnt, cfa]
 rw [hb]
 cases b with
 | false => rfl
 | true =>
  simp only [obs, bnt, cfa]; rw [zaav _ (by decide) hp, zaan _ (by decide)]; simp only [obs, zg2]
  by_cases hc : (zjz p).2 = 0
  · have h := zad6 hc; cases hb : inB n 0 300 with
    | false =>
     rw [zry _ hN n (by rw [hc, hb]; decide), hc, hb]; rfl
    | true =>
     have hr := zbb.1 hb; obtain ⟨k, rfl⟩ : ∃ k : Nat, n = (k : Int) := ⟨n.toNat, by omega⟩; rw [z45 _ hN h hc k (by omega), hc, z4z _ hN h k (by omega)]; simp only [obs, bst, ctr, bnt, cfa, bsf]; have hl := zab0 p k; have ha := zab1 2000000 hN h (fun _ => True) trivial (fun _ _ _ _ _ => trivial) k; have l1 := zbq (f := zar.r0 2000000) (fun i => (trL p k, trL p k, (i : Int))) (fun _ => none) (trL p k).length
      (fun i hi => by
       have hx := lge hi; have hs := zaab 2000000 (by decide) (ha _ (List.getElem_mem hi)).1; simp only [zar.r0, zar.b0, zae, hx, obs, dct (show (i : Int) < ((trL p k).length : Int) by omega), ctr]; rw [hs, w6e]; rfl)
      (by simp only [zar.r0, zar.b0, dcf (show ¬ ((trL p k).length : Int) < ((trL p k).length : Int) by omega), cfa]) (N := 2000000) (by omega)
     simp only [nc0] at l1; rw [l1]; have hno : ∀ l : List Nat, l.findSome? (fun _ => (none : Option Bool)) = none := fun l => by rw [List.findSome?_eq_none_iff]; intros; rfl
     rw [hno]; rfl
  · have e1 : ((zjz p).2 != 0) = true := by rw [zb9]; exact dct hc
    have e2 : ((zjz p).2 == 0) = false := by rw [zy]; exact dcf hc
    have e3 : zf4 [(zjz p).2, cond (!inB n 0 300) 3 0] = (zjz p).2 := by rw [z9b, ifn hc]
    rw [zry _ hN n (by rw [e3]; exact hc), e3]; simp only [e1, e2, ctr, cfa, obs, bst]; rfl
end
end Go.Proofs.YtmifhmfokbigiaaGreatDoor.M
namespace Go.Proofs.YtmifhmfokbigiaaGreatDoor
theorem interpretTraces_card : Rows.InterpretTracesUptoCardSaid := M.cardInterpretTraces M.plainInterpretTraces
#print axioms interpretTraces_card
end Go.Proofs.YtmifhmfokbigiaaGreatDoor
