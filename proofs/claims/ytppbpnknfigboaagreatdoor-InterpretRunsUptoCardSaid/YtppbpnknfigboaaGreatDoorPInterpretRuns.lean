/- InterpretRuns: the law answers true for every input of bulk at most 1048576, and its arguments read as they did; by the seat's second form, tied to the program's text. -/
import Derived.Test.YtppbpnknfigboaaGreatDoorPInterpretRunsx1
import Derived.Test.YtppbpnknfigboaaGreatDoorWInterpretRuns
namespace Go.Proofs.YtppbpnknfigboaaGreatDoor.M
open Go Go.Amx
set_option linter.unusedVariables false
set_option linter.unusedSimpArgs false
set_option maxRecDepth 100000
noncomputable section
section
variable {p : zB} {s : zC}
def zn1 (t : zN) (a e : Int) : Bool := inB a t.From (t.To - 1) && (decide (t.Exception = 0) || decide (t.Exception = e))
def z0p (p : zB) (a e : Int) : Option Nat := (List.range p.zL.length).findSome? fun i => (p.zL[i]?).bind fun t => if zn1 t a e = true then some i else none
def zgl (p : zB) (a e : Int) : Int := match z0p p a e with | some i => (p.zL.getD i ⟨0, 0, 0, 0⟩).Handler | none => -1
theorem z1q {a e : Int} {i : Nat} (h : z0p p a e = some i) : ∃ t, p.zL[i]? = some t ∧ zn1 t a e = true := by
 obtain ⟨j, _, hj⟩ := eof h
 rw [Option.bind_eq_some_iff] at hj
 obtain ⟨t, ht, hj⟩ := hj
 split at hj
 · rename_i hh; cases hj; exact ⟨t, ht, hh⟩
 · cases hj
theorem z1n (h : ProgV p) {t : zN} (ht : t ∈ p.zL) : 0 ≤ t.From ∧ t.From < t.To ∧ t.To ≤ (p.zG.length : Int) ∧ 0 ≤ t.Handler ∧ t.Handler < (p.zG.length : Int) := by
 have := h.mon t ht
 unfold zt4 at this
 simp only [Bool.and_eq_true, decide_eq_true_eq] at this
 obtain ⟨h1, h2, h3, h4, h5⟩ := this
 have := zbg.1 h5
 omega
theorem z0q (h : ProgV p) (a e : Int) : zgl p a e = -1 ∨ (0 ≤ zgl p a e ∧ zgl p a e < (p.zG.length : Int)) := by
 unfold zgl
 cases hi : z0p p a e with
 | none => exact .inl rfl
 | some i =>
  obtain ⟨t, ht, _⟩ := z1q hi; right; simp only []; rw [gdd, ht]; exact (z1n h (lmg ht)).2.2.2
theorem z53 {β : Type} (f : Nat → β) (a e : Int) : (List.range p.zL.length).findSome? (fun i => ((p.zL[i]?).bind fun t => if zn1 t a e = true then some i else none).map f) = (z0p p a e).map f := by
 have key : ∀ l : List Nat, l.findSome? (fun i => ((p.zL[i]?).bind fun t => if zn1 t a e = true then some i else none).map f) = (l.findSome? (fun i => (p.zL[i]?).bind fun t => if zn1 t a e = true then some i else none)).map f := by
  intro l
  induction l with
  | nil => rfl
  | cons i l ih =>
   rw [List.findSome?_cons, List.findSome?_cons]; cases (p.zL[i]?).bind fun t => if zn1 t a e = true then some i else none with
   | none => exact ih
   | some j => rfl
 exact key _
theorem z7n (N : Nat) (hN : 20000 < N) (h : ProgV p) (a e : Int) : zg5 N p a e = some (zgl p a e) := by
 have m6 := h.m6
 have i40 := h.i40
 unfold zg5 zn
 have l1 := zcc (f := zn.r0 N) (fun i => (p.zL, (p.zL.length : Int), (i : Int), a, e)) (fun i => ((p.zL[i]?).bind fun t => if zn1 t a e = true then some i else none).map fun i : Nat => (i : Int)) p.zL.length
  (fun i hi => by
   have hx := lge hi; have hf := z1n h (List.getElem_mem hi); simp only [zn.r0, zn.b0, zal, hx, obs, dct (show (i : Int) < (p.zL.length : Int) by omega), ctr]; have e1 : zfs p.zL[i] a e = some (zn1 p.zL[i] a e) := by
    unfold zfs zn1; rw [w6e, z2e, zaa, zaa]; simp only [obs]; cases inB a p.zL[i].From (p.zL[i].To - 1) <;> cases decide (p.zL[i].Exception = 0) <;> cases decide (p.zL[i].Exception = e) <;> rfl
   rw [e1, w6e]; cases zn1 p.zL[i] a e <;> rfl)
  (by simp only [zn.r0, zn.b0, dcf (show ¬ (p.zL.length : Int) < (p.zL.length : Int) by omega), cfa]) (N := N) (by omega)
 simp only [nc0] at l1
 rw [l1, z53]
 unfold zgl
 cases hi : z0p p a e with
 | none => rfl
 | some i =>
  obtain ⟨t, ht, _⟩ := z1q hi; simp only [Option.map_some, zee, obs]; rw [dcf (show ¬ ((i : Nat) : Int) < 0 by omega), cfa, zal, ht, gdd, ht]; rfl
theorem z21 (N : Nat) (hN : 20000 < N) (h : ProgV p) (a e : Int) : zcg N p a e = some (zgl p a e) := by
 have m6 := h.m6
 unfold zcg
 have l1 := zcc (f := zcg.r0 N) (fun i => (a, e, (i : Int), p)) (fun i => ((p.zL[i]?).bind fun t => if zn1 t a e = true then some i else none).map fun i : Nat => (p.zL.getD i ⟨0, 0, 0, 0⟩).Handler) p.zL.length
  (fun i hi => by
   have hx := lge hi; simp only [zcg.r0, zcg.b0, zal, hx, obs, dct (show (i : Int) < (p.zL.length : Int) by omega), ctr]; have e1 : ((cond (decide (p.zL[i].From ≤ a)) (some (decide (a < p.zL[i].To))) (some false)).bind fun g1002 => (cond g1002 ((cond (p.zL[i].Exception == 0) (some true) (some (p.zL[i].Exception == e))).bind fun g1003 => some g1003) (some false))) = some (zn1 p.zL[i] a e) := by
    unfold zn1 inB; rw [zaa, zaa, show decide (a ≤ p.zL[i].To - 1) = decide (a < p.zL[i].To) by rw [decide_eq_decide]; omega]; cases decide (p.zL[i].From ≤ a) <;> cases decide (a < p.zL[i].To) <;> cases decide (p.zL[i].Exception = 0) <;> cases decide (p.zL[i].Exception = e) <;> rfl
   rw [← Option.bind_assoc, e1, w6e]; simp only [obs]; cases zn1 p.zL[i] a e with
   | false => rfl
   | true =>
    simp only [ctr, if_true, Option.map_some]; rw [gdd, hx]; rfl)
  (by simp only [zcg.r0, zcg.b0, dcf (show ¬ (p.zL.length : Int) < (p.zL.length : Int) by omega), cfa]) (N := N) (by omega)
 simp only [nc0] at l1
 rw [l1, z53]
 unfold zgl
 cases z0p p a e <;> rfl
def zis (p : zB) (e : Int) : Nat → zC → zC
 | 0, s => s
 | k + 1, s => if 0 ≤ zgl p s.At e then mA s (zgl p s.At e) else if s.Stack.length = 0 then mT s 2
  else zis p e k (mK (mA s (s.Stack.getD (s.Stack.length - 1) 0)) (s.Stack.take (s.Stack.length - 1)))
theorem zxp (N : Nat) (hN : 20000 < N) (h : ProgV p) (e : Int) (he : e ≠ 0) (z : zC) : ∀ (k : Nat) (s : zC), StI p s → s.Stack.length < k → ∀ K : Nat, k ≤ K →
 zt (zar.r0 N) K (mI p s e) = some (.inl (mI p (zis p e k s) e)) ∧ zt (zdw.r0 N) K (e, p, s, z) = some (.inl (zis p e k s)) ∧ StI p (zis p e k s) ∧ (zis p e k s).Steps = s.Steps ∧ (zis p e k s).Exception = s.Exception ∧
 (zis p e k s).Storage = s.Storage ∧ (zis p e k s).Lines = s.Lines ∧ (s.Status = 0 → (zis p e k s).Status = 0 ∨ (zis p e k s).Status = 2)
 | 0, s, _, h, _, _ => by omega
 | k + 1, s, hs, hk, K, hK => by
  obtain ⟨K, rfl⟩ : ∃ J, K = J + 1 := ⟨K - 1, by omega⟩; have hh := z7n N hN h s.At e; have hr := z21 N hN h s.At e; have rg := z0q h s.At e; have h6 := hs.stk; simp only [zt, zar.r0, zar.b0, zdw.r0, zdw.b0]; simp only [show (mI p s e).zB = p from rfl, show (mI p s e).zC = s from rfl, show (mI p s e).raised = e from rfl, show (mI p s e).layout = zko p.zA from rfl]; rw [hh, hr]; simp only [obs]; unfold zis
  by_cases h0 : 0 ≤ zgl p s.At e
  · rw [ifp h0, dct (show zgl p s.At e ≥ 0 by omega), zb5, dct (show zgl p s.At e ≠ -1 by omega)]; exact ⟨rfl, rfl, hs.A h0 (by omega), rfl, rfl, rfl, rfl, fun h => .inl h⟩
  · rw [ifn h0, dcf (show ¬ zgl p s.At e ≥ 0 by omega), zb5, dcf (show ¬ zgl p s.At e ≠ -1 by omega), zaa]
    by_cases hz : s.Stack.length = 0
    · rw [ifp hz, dct (show (s.Stack.length : Int) = 0 by omega)]; exact ⟨rfl, rfl, hs.T (by omega) (by omega), rfl, rfl, rfl, rfl, fun _ => .inr rfl⟩
    · have wl : w6 ((s.Stack.length : Int) - 1) = ((s.Stack.length - 1 : Nat) : Int) := by rw [w6e]; omega
      have hg : s.Stack[s.Stack.length - 1]? = some (s.Stack.getD (s.Stack.length - 1) 0) := by rw [gdd, lge (by omega)]; rfl
      obtain ⟨hrr, _⟩ := hs.calls _ (lmg hg); have k1 : 0 ≤ ((s.Stack.length - 1 : Nat) : Int) ∧ ((s.Stack.length - 1 : Nat) : Int) ≤ (s.Stack.length : Int) := by omega
      have k2 : 0 ≤ (0 : Int) ∧ (0 : Int) ≤ ((s.Stack.length - 1 : Nat) : Int) := by omega
      rw [ifn hz, dcf (show ¬ (s.Stack.length : Int) = 0 by omega)]; simp only [cfa, wl, zal, hg, obs, ifp k1, ifp k2, itn]; unfold zjc; rw [show (s.Stack.take (s.Stack.length - 1)).drop (0 : Int).toNat = s.Stack.take (s.Stack.length - 1) from rfl, zao (by rw [lnt]; omega)]; simp only [ctr, obs]; have hs2 : StI p (mK (mA s (s.Stack.getD (s.Stack.length - 1) 0)) (s.Stack.take (s.Stack.length - 1))) := (hs.A hrr.1 hrr.2).K (by rw [lnt]; omega) fun i hi2 => hs.calls i (List.mem_of_mem_take hi2); exact zxp N hN h e he z k _ hs2 (by show (s.Stack.take (s.Stack.length - 1)).length < k; rw [lnt]; omega) K (by omega)
def zuj (s : zC) : zC := if s.Status = 0 ∧ s.Steps = 300 then mT s 3 else s
def z0m (p : zB) (s : zC) : zI := p.zG.getD s.At.toNat ⟨0, []⟩
def ztf (p : zB) (s : zC) : zC :=
 match zft p (mP s (s.Steps + 1)) (z0m p s) with
 | .error e => zuj (zis p e (s.Stack.length + 1) (mE (mP s (s.Steps + 1)) e))
 | .ok (n, t) => if t.Status ≠ 0 then t else if n = (p.zG.length : Int) then mT t 1 else zuj (mA t n)
theorem z0t (t : zC) : ((cond (t.Status == 0) (some (t.Steps == 300)) (some false)).bind fun g => cond g (some (⟨t.Storage, t.At, t.Stack, t.Lines, 3, t.Exception, t.Steps⟩ : zC)) (some t)) = some (zuj t) := by
 unfold zuj
 rw [zaa, zaa]
 by_cases h1 : t.Status = 0
 · rw [dct h1]
   by_cases h2 : t.Steps = 300
   · rw [dct h2, ifp ⟨h1, h2⟩]; rfl
   · rw [dcf h2, ifn (fun h => h2 h.2)]; rfl
 · rw [dcf h1, ifn (fun h => h1 h.1)]; rfl
theorem z57 (t : zC) (e : Int) : ((cond (t.Status == 0) (some (t.Steps == 300)) (some false)).bind fun g => cond g ((zak (mI p t e) 3).bind fun r => some r.zC) (some t)) = some (zuj t) := z0t t
theorem z56 {t : zC} (h : StI p t) : StI p (zuj t) ∧ (zuj t).Steps = t.Steps ∧ ((zuj t).Status = 0 → t.Steps ≠ 300) := by
 unfold zuj
 split
 · exact ⟨h.T (by omega) (by omega), rfl, fun h => by have h' : (3 : Int) = 0 := h; omega⟩
 · rename_i hn; exact ⟨h, rfl, fun h1 h2 => hn ⟨h1, h2⟩⟩
theorem z5h (h : StI p s) : zlg s = some s := by
 have h2 := h.stk
 have h3 := h.lines
 have h4 := h.sto.sto.le
 have h5 := h.sto.sto.tags
 unfold zlg zha zi3
 rw [z5z (by omega), obs, zao (by omega), ctr, obs, zao (by omega)]
 rfl
theorem z8f (N : Nat) (hN : 20000 < N) (h : ProgV p) (hs : StI p s) (hrun : s.Status = 0) (h3 : s.Steps < 300) :
 zir N p s (zko p.zA) = some (ztf p s) ∧ zly N p s = some (ztf p s) ∧ StI p (ztf p s) ∧ (ztf p s).Steps = s.Steps + 1 ∧ ((ztf p s).Status = 0 → s.Steps + 1 < 300) := by
 have a0 := hs.at0
 have a1 := hs.at1
 have p0 := hs.sp0
 have hx : p.zG[s.At.toNat]? = some (z0m p s) := by
  unfold z0m; rw [gdd, lge (by omega)]; rfl
 have hi : idx p.zG s.At = some (z0m p s) := by unfold idx; rw [ifp a0, hx]
 have hs1 : StI p (mP s (s.Steps + 1)) := hs.P (by omega) (by omega)
 have hb := zabr N hN h hs1 (x := z0m p s) hx
 unfold zir zly
 rw [hi, z5h hs]
 simp only [obs]
 rw [w6e (n := s.Steps + 1)]
 show ((zd N (mI p (mP s (s.Steps + 1)) 0) (z0m p s)).bind _) = _ ∧ ((zx N p (mP s (s.Steps + 1))).bind _) = _ ∧ _
 unfold ztf
 rcases hb with ⟨e, nx, ny, t, g1, g2, g3, g4⟩ | ⟨n, k, t, g1, g3, g4, g5, g6, g7, g8, g9⟩
 · rw [g1, g3, g4]; simp only [obs]; have hse : StI p (mE (mP s (s.Steps + 1)) e) := hs1.E (by omega) (by omega); obtain ⟨k1, k2, k3, k4, k5, k6, k7, k8⟩ := zxp N hN h e (by omega) ⟨⟨⟨#[]⟩, []⟩, 0, [], [], 0, 0, 0⟩ (s.Stack.length + 1) _ hse (Nat.lt_succ_self _) N (by have := hs.stk; omega); rw [show (mI p (mP s (s.Steps + 1)) e).raised = e from rfl, zb5, dct (show e ≠ 0 by omega)]; simp only [ctr]; have hf := z56 k3; have k4' : (zis p e (s.Stack.length + 1) (mE (mP s (s.Steps + 1)) e)).Steps = s.Steps + 1 := k4; refine ⟨?_, ?_, hf.1, hf.2.1.trans k4, fun h => ?_⟩
   · unfold zar; show ((((zt (zar.r0 N) N (mI p (mE (mP s (s.Steps + 1)) e) e)).bind _)).bind _) = _; rw [k1]; exact z57 _ e
   · unfold zdw; show ((((zt (zdw.r0 N) N (e, p, mE (mP s (s.Steps + 1)) e, _)).bind _)).bind _) = _; rw [k2]; exact z0t _
   · have := hf.2.2 h; omega
 · rw [g1, g3, g4]; simp only [obs, bsf, cfa, show (mI p t 0).raised = 0 from rfl, show (mI p t 0).zC = t from rfl]; have g8' : t.Steps = s.Steps + 1 := g8; have e0 : (t.Status != 0) = decide (t.Status ≠ 0) := zb5 _ _; have e1 : (t.Status == 0) = decide (t.Status = 0) := zaa _ _; rw [e0, e1]
   by_cases hst : t.Status = 0
   · obtain ⟨j1, j2, j3⟩ := g5 hst; subst j1; rw [dct hst, dcf (show ¬ t.Status ≠ 0 by omega), ifn (show ¬ t.Status ≠ 0 by omega)]; simp only [ctr, cfa, zaa]
     by_cases hl : k = (p.zG.length : Int)
     · rw [dct hl, ifp hl]; exact ⟨rfl, rfl, g6.T (by omega) (by omega), g8', fun h => by have h' : (1 : Int) = 0 := h; omega⟩
     · rw [dcf hl, ifn hl]; have hta : StI p (mA t k) := g6.A (by omega) (by omega); have hf := z56 hta; have f1 := z0t (mA t k); have f2 := z57 (p := p) (mA t k) 0; rw [zaa, zaa] at f1 f2; have e2 : (mA t k).Status = t.Status := rfl; rw [e2, dct hst] at f1 f2; refine ⟨f2, f1, hf.1, hf.2.1.trans g8', fun h => ?_⟩; have := hf.2.2 h; have e3 : (mA t k).Steps = t.Steps := rfl; have := g6.sp1; omega
   · rw [dcf hst, dct (show t.Status ≠ 0 from hst), ifp (show t.Status ≠ 0 from hst)]; exact ⟨rfl, rfl, g6, g8', fun h => absurd h hst⟩
end
section
variable {p : zB} {s : zC}
def zrl (n : Nat) : Storage := ⟨⟨(List.replicate (16 * n) 0).toArray⟩, List.replicate n false⟩
theorem zyw (n : Nat) : (zrl n).Bytes.size = 16 * n := by
 show (List.replicate (16 * n) (0 : UInt8)).length = _
 rw [lnr]
theorem zaae {n : Nat} (hn : n ≤ 64) : zk8 (zrl n) := by
 have hz := zyw n
 refine ⟨by omega, by omega, ?_, fun i hi => ?_⟩
 · rw [hz]; show (List.replicate n false).length = _; rw [lnr]; omega
 · have hi' : (List.replicate n false)[i]? = some true := hi; rw [List.getElem?_replicate] at hi'; split at hi' <;> cases hi'
theorem zad1 {n : Nat} (hn : n ≤ 64) : zg3 (n : Int) = some (zrl n, 0) := by
 unfold zg3 zlt
 have hb : inB (n : Int) 0 64 = true := zbg.2 ⟨by omega, by omega⟩
 have hs1 : (⟨#[0]⟩ : ByteArray).size = 1 := rfl
 rw [zabx, hb, w6e]
 simp only [obs, bnt, cfa]
 rw [ifp ⟨by omega, by omega, by rw [hs1]; omega⟩, obs, ifp, ifp (Int.le_refl _), zao (by omega), ctr, show ((n : Int) * 16).toNat = 16 * n by omega, itn]
 show some ((⟨⟨(Lib.repeatL [0] (16 * n)).toArray⟩, _⟩ : Storage), (0 : Int)) = _
 rw [zo7]
 rfl
theorem zaau {b d : ByteArray} {a : Nat} (hd : a + d.size ≤ b.size) (hb : b.size ≤ 1024) : zg2 b (a : Int) d = some ⟨(spl (bl b) a (bl d)).toArray⟩ := by
 have hmax : IntKind.i64.max = 9223372036854775807 := by decide
 unfold zg2
 rw [hmax]
 have z1 : (b.extract (0 : Int).toNat (a : Int).toNat).size = a := by rw [zcl _ _ _ (by omega) (by omega)]; omega
 rw [ifp, ifp, ifn (by rw [z1]; omega), w6e (n := (a : Int) + (d.size : Int)), ifp]
 have z2 : (b.extract ((a : Int) + (d.size : Int)).toNat b.size).size = b.size - (a + d.size) := by rw [zcl _ _ _ (by omega) (by omega)]; omega
 rw [ifn (by rw [z2, bsa, z1]; omega)]
 congr 1
 refine zgs ?_
 rw [zcm, zcm, zd0, zd0, show (0 : Int).toNat = 0 from rfl, dr0, show ((a : Int) + (d.size : Int)).toNat = a + d.size by omega, ← zam b, List.take_length, itn]
 rfl
theorem z13 (n a k : Nat) : clr (List.replicate n false) a k = List.replicate n false := by
 refine List.ext_getElem? fun i => ?_
 rw [zs3]
 split
 · rw [List.getElem?_replicate, lnr]
 · rfl
def zh8 (p : zB) : Nat → Storage
 | 0 => zrl (zh7 p.zA).toNat
 | k + 1 => if (og p.zA k).Kind = 0 then wrV (zh8 p k) (zck p.zA k).toNat (zn5 (og p.zA k)) else zh8 p k
theorem zt7 (h : ProgV p) : 0 ≤ zh7 p.zA ∧ zh7 p.zA ≤ 24 := by
 have := zxx h
 have := h.quads
 omega
theorem zzy (N : Nat) (hN : 400 < N) (h : ProgV p) : ∀ k, k ≤ p.zA.length → StoP p (zh8 p k) ∧ (zh8 p k).Tags = List.replicate (zh7 p.zA).toNat false
 | 0, _ => by
  have hl := zt7 h; exact ⟨⟨zaae (by omega), by show ((zrl _).Bytes.size : Int) = _; rw [zyw]; omega⟩, rfl⟩
 | k + 1, hk => by
  obtain ⟨i1, i2⟩ := zzy N hN h k (by omega); show StoP p (if (og p.zA k).Kind = 0 then _ else _) ∧ (if (og p.zA k).Kind = 0 then wrV (zh8 p k) (zck p.zA k).toNat (zn5 (og p.zA k)) else zh8 p k).Tags = _
  by_cases h0 : (og p.zA k).Kind = 0
  · rw [ifp h0]; have ov := zhr h.ok (show k < p.zA.length by omega); obtain ⟨t1, t2⟩ := ov.ty (by rw [h0]; rfl); obtain ⟨_, _, e3⟩ := zst N hN t1 t2 (ov.val (.inl h0)); obtain ⟨d1, d2⟩ := zt6 h (show k < p.zA.length by omega) (.inl h0) i1; have hp := zd3 t1; have w : (zck p.zA k).toNat + (zn5 (og p.zA k)).size ≤ (zh8 p k).Bytes.size := by omega
    refine ⟨⟨z2i i1.sto w (by omega), by rw [ztb w]; exact i1.size⟩, ?_⟩; show clr (zh8 p k).Tags _ _ = _; rw [i2, z13]
  · rw [ifn h0]; exact ⟨i1, i2⟩
theorem z7a (N : Nat) (hN : 20000 < N) (h : ProgV p) (hc : (zkb p).2 = 0) : zaf N p = some (zh8 p p.zA.length, 0) := by
 have hl := zt7 h
 have n24 := h.n24
 unfold zaf
 rw [z3g N (by omega), hc, zvx N (by omega) h.ok]
 simp only [obs, bsf, cfa]
 rw [show zh7 p.zA = ((zh7 p.zA).toNat : Int) by omega, zad1 (by omega)]
 simp only [obs]
 have l1 := zcc (f := zaf.r0 N) (fun i => (zko p.zA, 0, p.zA, (p.zA.length : Int), (i : Int), (⟨⟨#[]⟩, []⟩ : Storage), zh8 p i)) (fun _ => none) p.zA.length
  (fun i hi => by
   simp only [zaf.r0, zaf.b0, zfx hi, obs, dct (show (i : Int) < (p.zA.length : Int) by omega), ctr, orB, bsf, Bool.or_false]; rw [w6e (n := (i : Int) + 1)]
   by_cases h0 : (og p.zA i).Kind = 0
   · rw [zb5, dcf (fun hh => hh h0)]; simp only [cfa]; have ov := zhr h.ok hi; obtain ⟨t1, t2⟩ := ov.ty (by rw [h0]; rfl); obtain ⟨e1, _, e3⟩ := zst N (by omega) t1 t2 (ov.val (.inl h0)); obtain ⟨i1, _⟩ := zzy N (by omega) h i (by omega); obtain ⟨d1, d2⟩ := zt6 h hi (.inl h0) i1; have hp := zd3 t1; have w : (zck p.zA i).toNat + (zn5 (og p.zA i)).size ≤ (zh8 p i).Bytes.size := by omega
     rw [e1, zja hi]; simp only [obs, bsf, cfa]; have hw := z2k N (by omega) i1.sto w (by omega); rw [show (((zck p.zA i).toNat : Nat) : Int) = zck p.zA i by omega] at hw; rw [hw]; simp only [obs]; have e : zh8 p (i + 1) = wrV (zh8 p i) (zck p.zA i).toNat (zn5 (og p.zA i)) := by
      show (if (og p.zA i).Kind = 0 then _ else _) = _; rw [ifp h0]
     rw [e]; rfl
   · rw [zb5, dct h0]; simp only [ctr]; have e : zh8 p (i + 1) = zh8 p i := by
      show (if (og p.zA i).Kind = 0 then _ else _) = _; rw [ifn h0]
     rw [e]; rfl)
  (by simp only [zaf.r0, zaf.b0, dcf (show ¬ (p.zA.length : Int) < (p.zA.length : Int) by omega), cfa]) (N := N) (by omega)
 simp only [nc0] at l1
 have e0 : zh8 p 0 = zrl (zh7 p.zA).toNat := rfl
 rw [e0] at l1
 rw [l1]
 have : ∀ l : List Nat, l.findSome? (fun _ => (none : Option (Storage × Int))) = none := fun l => by rw [List.findSome?_eq_none_iff]; intros; rfl
 rw [this]
 rfl
theorem z65 (N : Nat) (hN : 20000 < N) (h : ProgV p) : zch N p = some (zh8 p p.zA.length) := by
 have hl := zt7 h
 have n24 := h.n24
 unfold zch
 rw [zd9 N (by omega) h.ok]
 simp only [obs]
 rw [show zh7 p.zA = ((zh7 p.zA).toNat : Int) by omega, w6e, show ((zh7 p.zA).toNat : Int) * 16 = ((16 * (zh7 p.zA).toNat : Nat) : Int) by omega, show (0 : Int) = ((0 : Nat) : Int) from rfl, z1a N 0 (by decide) _ (by omega) (by omega)]
 simp only [obs]
 rw [ifp, ifp (Int.le_refl _), itn, zao (by omega), ctr]
 have l1 := zas (f := zch.r0 N) (fun i => (zko p.zA, (i : Int), p, (⟨⟨#[]⟩, []⟩ : Storage), zh8 p i)) p.zA.length
  (fun i hi => by
   simp only [zch.r0, zch.b0, zfx hi, obs, dct (show (i : Int) < (p.zA.length : Int) by omega), ctr]; rw [w6e (n := (i : Int) + 1), zaa]
   by_cases h0 : (og p.zA i).Kind = 0
   · rw [dct h0]; simp only [ctr]; have ov := zhr h.ok hi; obtain ⟨t1, t2⟩ := ov.ty (by rw [h0]; rfl); obtain ⟨_, e2, e3⟩ := zst N (by omega) t1 t2 (ov.val (.inl h0)); obtain ⟨i1, i2⟩ := zzy N (by omega) h i (by omega); obtain ⟨d1, d2⟩ := zt6 h hi (.inl h0) i1; have hp := zd3 t1; have w : (zck p.zA i).toNat + (zn5 (og p.zA i)).size ≤ (zh8 p i).Bytes.size := by omega
     rw [e2, zja hi]; simp only [obs]; have hw := zaau w i1.sto.le; rw [show (((zck p.zA i).toNat : Nat) : Int) = zck p.zA i by omega] at hw; rw [hw]; simp only [obs]; have e : zh8 p (i + 1) = wrV (zh8 p i) (zck p.zA i).toNat (zn5 (og p.zA i)) := by
      show (if (og p.zA i).Kind = 0 then _ else _) = _; rw [ifp h0]
     rw [e]; unfold wrV; rw [i2, z13]; rfl
   · rw [dcf h0]; simp only [cfa]; have e : zh8 p (i + 1) = zh8 p i := by
      show (if (og p.zA i).Kind = 0 then _ else _) = _; rw [ifn h0]
     rw [e]; rfl)
  (by simp only [zch.r0, zch.b0, dcf (show ¬ (p.zA.length : Int) < (p.zA.length : Int) by omega), cfa]) (N := N) (by omega)
 simp only [nc0] at l1 ⊢
 have e0 : zh8 p 0 = zrl (zh7 p.zA).toNat := rfl
 rw [e0] at l1
 have e1 : (⟨⟨(List.replicate (16 * (zh7 p.zA).toNat) (UInt8.ofNat 0)).toArray⟩, List.replicate (zh7 p.zA).toNat false⟩ : Storage) = zrl (zh7 p.zA).toNat := rfl
 rw [e1, l1]
 rfl
def zqz (p : zB) : zC := ⟨zh8 p p.zA.length, 0, [], [], 0, 0, 0⟩
theorem zabf (N : Nat) (hN : 20000 < N) (h : ProgV p) (hc : (zkb p).2 = 0) : zf2 N p = some (zqz p, 0) := by
 unfold zf2
 rw [z7a N hN h hc]
 rfl
theorem z63 (N : Nat) (hN : 20000 < N) (h : ProgV p) : zky N p = some (zqz p) := by
 unfold zky
 rw [z65 N hN h]
 rfl
theorem z8g (h : ProgV p) : StI p (zqz p) := {
 sto := (zzy 401 (by decide) h _ (Nat.le_refl _)).1
 at0 := Int.le_refl _
 at1 := by have := h.i0; show (0 : Int) < _; omega
 stk := by show (0 : Nat) ≤ 6; omega
 calls := fun i hi => by cases hi
 lines := by show (0 : Nat) ≤ 40; omega
 long := fun i hi => by cases hi
 st0 := Int.le_refl _
 st1 := by show (0 : Int) ≤ 3; omega
 ex0 := Int.le_refl _
 ex1 := by show (0 : Int) ≤ 999; omega
 sp0 := Int.le_refl _
 sp1 := by show (0 : Int) ≤ 300; omega }
theorem z34 (N : Nat) (hN : 20000 < N) (hc : (zkb p).2 ≠ 0) : zf2 N p = some (⟨⟨⟨#[]⟩, []⟩, 0, [], [], 0, 0, 0⟩, (zkb p).2) := by
 unfold zf2 zaf
 rw [z3g N (by omega)]
 have e : ((zkb p).2 != 0) = true := by rw [zb5]; exact dct hc
 simp only [obs, e, ctr]
theorem z84 (N : Nat) (hN : 20000 < N) (h : ProgV p) (hc : (zkb p).2 = 0) : zio N p = some (zko p.zA, zh7 p.zA, 0) := by
 unfold zio
 rw [z3g N (by omega), hc, zvx N (by omega) h.ok]
 rfl
def ztl (p : zB) : Nat → zC → zC
 | 0, s => s
 | k + 1, s => if s.Status = 0 then ztl p k (ztf p s) else s
theorem z08 (N : Nat) (hN : 20000 < N) (h : ProgV p) (z : zQ) : ∀ (k : Nat) (s : zC), StI p s → (s.Status = 0 → s.Steps < 300) → (300 - s.Steps < (k : Int)) → ∀ K : Nat, k ≤ K →
 zh (za6.r0 N) K (300, zko p.zA, s.Steps, s, p, s) = some (300, zko p.zA, (ztl p k s).Steps, ztl p k s, p, ztl p k s) ∧ zh (zfd.r0 N) K (p, z, s) = some (p, z, ztl p k s) ∧ StI p (ztl p k s) ∧ (ztl p k s).Status ≠ 0
 | 0, s, hs, h1, h2, K, hK => by
  have := hs.sp1; omega
 | k + 1, s, hs, h1, h2, K, hK => by
  obtain ⟨K, rfl⟩ : ∃ J, K = J + 1 := ⟨K - 1, by omega⟩; simp only [zh, za6.r0, za6.b0, zfd.r0, zfd.b0, zaa]; unfold ztl
  by_cases hst : s.Status = 0
  · obtain ⟨g1, g2, g3, g4, g5⟩ := z8f N hN h hs hst (h1 hst); have p0 := hs.sp0; have p1 := h1 hst; rw [dct hst, dct p1, ifp hst]; simp only [ctr, obs]; rw [g1, g2, w6e, ← g4]; simp only [obs, zgk]; exact z08 N hN h z k _ g3 (fun hh => by rw [g4]; exact g5 hh) (by rw [g4]; omega) K (by omega)
  · rw [dcf hst, ifn hst]; have : ∀ b : Bool, (cond b (some false) (some false)) = some false := fun b => by cases b <;> rfl
    simp only [cfa, this, obs]; exact ⟨trivial, trivial, hs, hst⟩
def resI (t : zC) : zQ := ⟨t.Lines, t.Status, t.Exception, t.Steps⟩
def zre (p : zB) : zC := ztl p 301 (zqz p)
theorem zyo (N : Nat) (hN : 20000 < N) (h : ProgV p) (z : zQ) :
 zh (za6.r0 N) N (300, zko p.zA, 0, zqz p, p, zqz p) = some (300, zko p.zA, (zre p).Steps, zre p, p, zre p) ∧ zh (zfd.r0 N) N (p, z, zqz p) = some (p, z, zre p) ∧ StI p (zre p) ∧ (zre p).Status ≠ 0 :=
 z08 N hN h z 301 _ (z8g h) (fun _ => by show (0 : Int) < 300; omega) (by show (300 : Int) - 0 < 301; omega) N (by omega)
theorem zae3 (N : Nat) (hN : 20000 < N) (h : ProgV p) (hc : (zkb p).2 = 0) : zfp N p = some (resI (zre p), 0) := by
 unfold zfp za6
 rw [zabf N hN h hc, z84 N hN h hc]
 simp only [obs, bsf, cfa, zgk]
 rw [(zyo N hN h ⟨[], 0, 0, 0⟩).1]
 rfl
theorem z7m (N : Nat) (hN : 20000 < N) (hc : (zkb p).2 ≠ 0) : zfp N p = some (⟨[], 0, 0, 0⟩, (zkb p).2) := by
 have e : ((zkb p).2 != 0) = true := by rw [zb5]; exact dct hc
 unfold zfp za6
 rw [z34 N hN hc]
 simp only [obs, e, ctr]
theorem zaat (N : Nat) (hN : 20000 < N) (h : ProgV p) : zfd N p = some (resI (zre p)) := by
 unfold zfd
 rw [z63 N hN h]
 simp only [obs]
 rw [(zyo N hN h ⟨[], 0, 0, 0⟩).2.1]
 rfl
theorem z5x {n : Nat} (h : Wft En n Ty.zB p) : p.zA.length ≤ n ∧ p.zG.length ≤ n ∧ p.zL.length ≤ n ∧ ∀ x ∈ p.zG, x.Args.length ≤ n := by
 have h1 := h (.lst Ty.zF p.zA) (by show _ ∈ zjk p; simp [zjk])
 have h2 := h (.lst Ty.zI p.zG) (by show _ ∈ zjk p; simp [zjk])
 have h3 := h (.lst Ty.zN p.zL) (by show _ ∈ zjk p; simp [zjk])
 cases h1 with
 | lst h1 _ =>
  cases h2 with
  | lst h2 h2' =>
   cases h3 with
   | lst h3 _ =>
    refine ⟨h1, h2, h3, fun x hx => ?_⟩; have h4 := h2' x hx (.lst (Ty.int .i64) x.Args) (by show _ ∈ zl2 x; simp [zl2]); cases h4 with
    | lst h4 _ => exact h4
theorem ztm {n : Nat} (h : n ≤ 1000000000) : Nat.ble n za7 = true := Nat.ble_eq_true_of_le (by unfold za7; omega)
theorem zaa7 (N : Nat) (hN : 1048600 < N) (hp : Wft En 1048576 Ty.zB p) : ze2 N p = some p := by
 obtain ⟨w1, w2, w3, w4⟩ := z5x hp
 unfold ze2
 rw [ztm (by omega), ztm (by omega)]
 simp only [ctr]
 have l1 := zas (f := ze2.r0 N) (fun i => ((i : Int), p, (⟨[], [], []⟩ : zB), (⟨p.zA, p.zG.take i, p.zL⟩ : zB))) p.zG.length
  (fun i hi => by
   have hx := lge hi; have ha := w4 _ (List.getElem_mem hi); simp only [ze2.r0, ze2.b0, zal, hx, obs, dct (show (i : Int) < (p.zG.length : Int) by omega), ctr, zha, ztm (show p.zG[i].Args.length * 8 ≤ 1000000000 by omega)]; rw [ztm (by rw [lnt]; simp only [lnc, ln0]; omega), ctr, w6e, ← List.take_append_getElem hi]; rfl)
  (by simp only [ze2.r0, ze2.b0, dcf (show ¬ (p.zG.length : Int) < (p.zG.length : Int) by omega), cfa]) (N := N) (by omega)
 simp only [nc0, List.take_zero] at l1
 rw [l1, obs, List.take_length]
theorem zagd (N : Nat) (hN : 1048600 < N) (hp : Wft En 1048576 Ty.zB p) : ∃ b, zb6 N p = some b := by
 obtain ⟨w1, w2, w3, w4⟩ := z5x hp
 unfold zb6
 simp only [orB, obs]
 cases (decide ((p.zA.length : Int) > 28) || decide ((p.zG.length : Int) > 44)) || decide ((p.zL.length : Int) > 9) with
 | true => exact ⟨_, rfl⟩
 | false =>
  simp only [cfa]; have l1 := zxo (f := zb6.r0 N) (fun i t => t = ((i : Int), p)) (fun r => True) p.zA.length
   (fun i t hi ht => by
    subst ht; have hx := lge hi; simp only [zb6.r0, zb6.b0, zal, hx, obs, dct (show (i : Int) < (p.zA.length : Int) by omega), ctr, orB]; rw [w6e (n := (i : Int) + 1)]; cases (decide ((p.zA[i].Name.size : Int) > 100) || decide ((p.zA[i].Base.size : Int) > 100)) || decide ((p.zA[i].Value.S.size : Int) > 600) with
    | true => exact .inr ⟨_, rfl, trivial⟩
    | false => exact .inl ⟨_, rfl, rfl⟩)
   (fun t ht => by
    subst ht; simp only [zb6.r0, zb6.b0, dcf (show ¬ (p.zA.length : Int) < (p.zA.length : Int) by omega), cfa]; exact ⟨_, rfl, rfl⟩) (N := N) (by omega) (s := (0, p)) rfl
  rcases l1 with ⟨t, g1, g2⟩ | ⟨r, g1, _⟩
  · rw [g1, g2]; simp only [obs, zee]; have l2 := zxo (f := zb6.r2 N) (fun i t => t = ((i : Int), p)) (fun r => True) p.zG.length
     (fun i t hi ht => by
      subst ht; have hx := lge hi; simp only [zb6.r2, zb6.b2, zal, hx, obs, dct (show (i : Int) < (p.zG.length : Int) by omega), ctr]; rw [w6e (n := (i : Int) + 1)]; cases decide ((p.zG[i].Args.length : Int) > 6) with
      | true => exact .inr ⟨_, rfl, trivial⟩
      | false => exact .inl ⟨_, rfl, rfl⟩)
     (fun t ht => by
      subst ht; simp only [zb6.r2, zb6.b2, dcf (show ¬ (p.zG.length : Int) < (p.zG.length : Int) by omega), cfa]; exact ⟨_, rfl, rfl⟩) (N := N) (by omega) (s := (0, p)) rfl
    rcases l2 with ⟨t, g3, _⟩ | ⟨r, g3, _⟩
    · rw [g3]; exact ⟨_, rfl⟩
    · rw [g3]; exact ⟨_, rfl⟩
  · rw [g1]; exact ⟨_, rfl⟩
theorem z19 (N : Nat) (l : List ByteArray) (h : l.length < N) (hl : l.length < 1000000) : zcz N l l = some true := by
 unfold zcz
 simp only [bsf, cfa]
 have l1 := zcc (f := zcz.r0 N) (fun i => (l, l, (i : Int))) (fun _ => none) l.length
  (fun i hi => by
   have hx := lge hi; simp only [zcz.r0, zcz.b0, zal, hx, obs, dct (show (i : Int) < (l.length : Int) by omega), ctr, bst, bnt, cfa]; rw [w6e]; rfl)
  (by simp only [zcz.r0, zcz.b0, dcf (show ¬ (l.length : Int) < (l.length : Int) by omega), cfa]) h
 simp only [nc0] at l1
 rw [l1]
 have : ∀ l : List Nat, l.findSome? (fun _ => (none : Option Bool)) = none := fun l => by rw [List.findSome?_eq_none_iff]; intros; rfl
 rw [this]
 rfl
theorem zuw (N : Nat) (r : zQ) (h : r.Lines.length < N) (hl : r.Lines.length < 1000000) : zen N r r = some true := by
 unfold zen
 rw [z19 N _ h hl]
 simp only [obs, bst, ctr]
theorem zafg : zmg 2000000 = some true := by kernel_rfl
end
theorem plainInterpretRuns : zh2 := by
 intro p hp
 refine ⟨2000000, ?_⟩
 obtain ⟨b, hb⟩ := zagd 2000000 (by decide) hp
 have hN : 20000 < 2000000 := by decide
 unfold zf5
 rw [zafg]
 simp only [obs, bnt, cfa]
 rw [hb]
 cases b with
 | false => rfl
 | true =>
  simp only [obs, bnt, cfa]; rw [zaa7 _ (by decide) hp, zaax _ (by decide)]; simp only [obs]
  by_cases hc : (zkb p).2 = 0
  · have h := zael hc; have hr := (zyo 2000000 hN h ⟨[], 0, 0, 0⟩).2.2.1; have hl := hr.lines; rw [zae3 _ hN h hc, zaat _ hN h, hc]; simp only [obs, bsf, cfa, bst, ctr]; rw [zuw 2000000 (resI (zre p)) (by show (zre p).Lines.length < _; omega) (by show (zre p).Lines.length < _; omega)]; rfl
  · have e : ((zkb p).2 != 0) = true := by rw [zb5]; exact dct hc
    rw [z7m _ hN hc]; simp only [obs, e, ctr, bst]; rw [zuw 2000000 ⟨[], 0, 0, 0⟩ (by decide) (by decide)]; rfl
end
end Go.Proofs.YtppbpnknfigboaaGreatDoor.M
namespace Go.Proofs.YtppbpnknfigboaaGreatDoor
theorem interpretRuns_card : Rows.InterpretRunsUptoCardSaid := M.cardInterpretRuns M.plainInterpretRuns
#print axioms interpretRuns_card
end Go.Proofs.YtppbpnknfigboaaGreatDoor
