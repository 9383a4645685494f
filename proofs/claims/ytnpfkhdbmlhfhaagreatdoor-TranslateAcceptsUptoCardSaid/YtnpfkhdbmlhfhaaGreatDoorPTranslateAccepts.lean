/- TranslateAccepts: the law answers true for every input of bulk at most 1048576, and its arguments read as they did; by the seat's second form, tied to the program's text. -/
import Derived.Test.YtnpfkhdbmlhfhaaGreatDoorPTranslateAcceptsx0
import Derived.Test.YtnpfkhdbmlhfhaaGreatDoorWTranslateAccepts
namespace Go.Proofs.YtnpfkhdbmlhfhaaGreatDoor.M
open Go Go.Amx
set_option linter.unusedVariables false
set_option linter.unusedSimpArgs false
set_option maxRecDepth 100000
noncomputable section
variable {m : zI} {c : zF} {x : Optimization}
def eqI (z w : zC) : Bool := zbx [(z.Op == w.Op), (z.R == w.R), (z.A == w.A), (z.B == w.B), (z.zM == w.zM), (z.Place.Based == w.Place.Based), (z.Place.Pointer == w.Place.Pointer), (z.Place.Offset == w.Place.Offset), (z.From.Based == w.From.Based), (z.From.Pointer == w.From.Pointer), (z.From.Offset == w.From.Offset), (z.zD.Kind == w.zD.Kind), (z.zD.Length == w.zD.Length), (z.zD.Scale == w.zD.Scale), (z.Second.Kind == w.Second.Kind), (z.Second.Length == w.Second.Length), (z.Second.Scale == w.Second.Scale), (z.Half == w.Half), (z.zK == w.zK), (z.Number.N == w.Number.N), (z.Number.Scale == w.Number.Scale), (z.Text == w.Text), (z.Other == w.Other), (z.Mask == w.Mask), (z.Target == w.Target), (z.Pointer == w.Pointer), (z.Source == w.Source)]
theorem zzm (z w : zC) : zbx [(z.Op == w.Op), (z.R == w.R), (z.A == w.A), (z.B == w.B), (z.zM == w.zM), (z.Place.Based == w.Place.Based), (z.Place.Pointer == w.Place.Pointer), (z.Place.Offset == w.Place.Offset), (z.From.Based == w.From.Based), (z.From.Pointer == w.From.Pointer), (z.From.Offset == w.From.Offset), (z.zD.Kind == w.zD.Kind), (z.zD.Length == w.zD.Length), (z.zD.Scale == w.zD.Scale), (z.Second.Kind == w.Second.Kind), (z.Second.Length == w.Second.Length), (z.Second.Scale == w.Second.Scale), (z.Half == w.Half), (z.zK == w.zK), (z.Number.N == w.Number.N), (z.Number.Scale == w.Number.Scale), (z.Text == w.Text), (z.Other == w.Other), (z.Mask == w.Mask), (z.Target == w.Target), (z.Pointer == w.Pointer), (z.Source == w.Source)] = eqI z w := rfl
def cpI (y : zC) (a : Int) : zC := ⟨3, y.R, a, 0, 0, ⟨false, 0, 0⟩, ⟨false, 0, 0⟩, ⟨0, 0, 0⟩, ⟨0, 0, 0⟩, false, false, ⟨0, 0⟩, ⟨#[]⟩, ⟨#[]⟩, 0, 0, 0, 0⟩
theorem zzn (z y : zC) : zbx [(z.Op == 3), (z.R == y.R), (z.A == z.A), (z.B == 0), (z.zM == 0), (z.Place.Based == false), (z.Place.Pointer == 0), (z.Place.Offset == 0), (z.From.Based == false), (z.From.Pointer == 0), (z.From.Offset == 0), (z.zD.Kind == 0), (z.zD.Length == 0), (z.zD.Scale == 0), (z.Second.Kind == 0), (z.Second.Length == 0), (z.Second.Scale == 0), (z.Half == false), (z.zK == false), (z.Number.N == 0), (z.Number.Scale == 0), (z.Text == (⟨#[]⟩ : ByteArray)), (z.Other == (⟨#[]⟩ : ByteArray)), (z.Mask == 0), (z.Target == 0), (z.Pointer == 0), (z.Source == 0)] = eqI z (cpI y z.A) := rfl
def tgI (y : zC) (t : Int) : zC := ⟨y.Op, y.R, y.A, y.B, y.zM, y.Place, y.From, y.zD, y.Second, y.Half, y.zK, y.Number, y.Text, y.Other, y.Mask, t, y.Pointer, y.Source⟩
theorem z5w (z w : zC) (t : Int) : zbx [(z.Op == w.Op), (z.R == w.R), (z.A == w.A), (z.B == w.B), (z.zM == w.zM), (z.Place.Based == w.Place.Based), (z.Place.Pointer == w.Place.Pointer), (z.Place.Offset == w.Place.Offset), (z.From.Based == w.From.Based), (z.From.Pointer == w.From.Pointer), (z.From.Offset == w.From.Offset), (z.zD.Kind == w.zD.Kind), (z.zD.Length == w.zD.Length), (z.zD.Scale == w.zD.Scale), (z.Second.Kind == w.Second.Kind), (z.Second.Length == w.Second.Length), (z.Second.Scale == w.Second.Scale), (z.Half == w.Half), (z.zK == w.zK), (z.Number.N == w.Number.N), (z.Number.Scale == w.Number.Scale), (z.Text == w.Text), (z.Other == w.Other), (z.Mask == w.Mask), (z.Target == t), (z.Pointer == w.Pointer), (z.Source == w.Source)] = eqI z (tgI w t) := rfl
def zwv (I : List Int) (y : zC) : zC := if zg0 y.Op = true then tgI y (kI I y.Target.toNat : Int) else y
theorem zz3 {I : List Int} {y : zC} (hy : zg0 y.Op = true → 0 ≤ y.Target ∧ y.Target < (I.length : Int)) : zej y (zh7 I) = some (zwv I y) := by
 unfold zej zwv
 rw [zwy, obs]
 cases hj : zg0 y.Op with
 | false => rfl
 | true =>
  have := hy hj; rw [ctr, zq2 (by omega) (by omega), obs, ifp rfl]; rfl
def rgt (x : Optimization) (i : Nat) (y : zC) (k : Int) (l : List zA) : Bool :=
 if k = -1 then (!decide (i + 1 = x.Before.zB.length) && knl y) && zmq l y y.R
 else if k = (kI x.Proof.Index i : Int) ∧ k < (x.After.zB.length : Int) then
  (match x.After.zB[kI x.Proof.Index i]? with | some z => eqI z (zwv x.Proof.Index y) || ((knl y && eqI z (cpI y z.A)) && zmq l y z.A) | none => false)
 else false
def z3b (x : Optimization) (i : Nat) : Bool := match x.Before.zB[i]?, x.Proof.Index[i]?, x.Proof.Facts[i]? with
 | some y, some k, some l => rgt x i y k l
 | _, _, _ => false
structure OptV (x : Optimization) : Prop where
 len : x.Before.zB.length ≤ 240
 ix : x.Proof.Index.length = x.Before.zB.length
 fx : x.Proof.Facts.length = x.Before.zB.length
 fl : ∀ l ∈ x.Proof.Facts, l.length ≤ 64
 tg : ∀ y ∈ x.Before.zB, zg0 y.Op = true → 0 ≤ y.Target ∧ y.Target < (x.Before.zB.length : Int)
theorem zzf {i n : Nat} (h : n ≤ 240) (hi : i < n) : ((i : Int) == w6 ((n : Int) - 1)) = decide (i + 1 = n) := by
 rw [w6e, zcl]
 by_cases h : i + 1 = n
 · rw [dct h, dct (by omega)]
 · rw [dcf h, dcf (by omega)]
theorem z4r (N : Nat) (hN : 1000 < N) (h : OptV x) {i : Nat} {y : zC} {k : Int} {l : List zA} (hy : x.Before.zB[i]? = some y) (hk : x.Proof.Index[i]? = some k) (hl : x.Proof.Facts[i]? = some l) :
 zfx N x (i : Int) (zh7 x.Proof.Index) = some (cond (rgt x i y k l) 0 42) := by
 have hi := (gei hy).1
 have hll := h.fl l (lmg hl)
 have hlen := h.len
 have hix := h.ix
 have ht := h.tg y (lmg hy)
 have hh : ∀ r, zcj N l y r = some (zmq l y r) := fun r => z24 N l y r (by omega) (by omega)
 have htc : ∀ (b : Bool) (z : Int), zdp b z = some (cond b z 0) := fun b z => by cases b <;> rfl
 unfold zfx rgt
 rw [zx, hy, zx, hk, zx, hl, zx, zkq (by omega)]
 simp only [obs, zwx, hh, htc, zzf hlen hi, zcl]
 by_cases h1 : k = -1
 · subst h1; rw [ifp rfl]; simp only [decide_true, ctr]; cases decide ((-1 : Int) = (kI x.Proof.Index i : Int)) <;> cases decide (i + 1 = x.Before.zB.length) <;> cases knl y <;> cases zmq l y y.R <;> rfl
 · rw [ifn h1, dcf h1]; simp only [cfa]
   by_cases h2 : k = (kI x.Proof.Index i : Int)
   · rw [dct h2]
     by_cases h3 : k < (x.After.zB.length : Int)
     · rw [dct h3, ifp ⟨h2, h3⟩]; subst h2; have hz := lge (show kI x.Proof.Index i < x.After.zB.length by omega); generalize x.After.zB[kI x.Proof.Index i] = z at hz; rw [zx, hz]; unfold zhp; rw [zz3 (by rw [hix]; exact ht)]; simp only [obs, ctr, zwx, hh, zzm, zzn]; cases eqI z (zwv x.Proof.Index y) <;> cases knl y <;> cases eqI z (cpI y z.A) <;> cases zmq l y z.A <;> rfl
     · rw [dcf h3, ifn fun h => h3 h.2]; rfl
   · rw [dcf h2, ifn fun h => h2 h.1]; rfl
theorem z44 (N : Nat) (hN : 1000 < N) (h : OptV x) {i : Nat} {y : zC} {k : Int} {l : List zA} (hy : x.Before.zB[i]? = some y) (hk : x.Proof.Index[i]? = some k) (hl : x.Proof.Facts[i]? = some l) :
 ze.r2 N ((x.Before.zB.length : Int), zh7 x.Proof.Index, (i : Int), x) = some (cond (rgt x i y k l) (.again ((x.Before.zB.length : Int), zh7 x.Proof.Index, ((i + 1 : Nat) : Int), x)) (.result ((i : Int), 42))) := by
 have hi := (gei hy).1
 have hll := h.fl l (lmg hl)
 have hlen := h.len
 have hix := h.ix
 have ht := h.tg y (lmg hy)
 have hh : ∀ r, zgl N l y r = some (zmq l y r) := fun r => z3h N l y r (by omega) (by omega)
 unfold rgt
 simp only [ze.r2, ze.b2]
 rw [zx, hy, zx, hk, zx, hl]
 simp only [zzm, zzn]
 simp only [z5w]
 simp only [obs, z3e, hh, zs5, zzf hlen hi, zcl, zcq, dct (show (i : Int) < (x.Before.zB.length : Int) by omega), ctr, ztz, itn, zkq (show i ≤ x.Proof.Index.length by omega)]
 rw [w6e (n := (i : Int) + 1), ifp (show 0 ≤ (i : Int) by omega), ifp (show (i : Int) < ((x.Proof.Index.length + 1 : Nat) : Int) by omega)]
 by_cases h1 : k = -1
 · subst h1; rw [ifp rfl]; simp only [decide_true, ctr]; cases decide (i + 1 = x.Before.zB.length) <;> cases knl y <;> cases zmq l y y.R <;> rfl
 · rw [ifn h1, dcf h1]; simp only [cfa]
   by_cases h2 : k = (kI x.Proof.Index i : Int)
   · rw [dcf (show ¬ k ≠ (kI x.Proof.Index i : Int) from fun h => h h2)]
     by_cases h3 : k < (x.After.zB.length : Int)
     · rw [dcf (show ¬ k ≥ (x.After.zB.length : Int) by omega), ifp ⟨h2, h3⟩]; subst h2; have hz := lge (show kI x.Proof.Index i < x.After.zB.length by omega); generalize x.After.zB[kI x.Proof.Index i] = z at hz; rw [zx, hz]; simp only [obs, cfa]; unfold zwv; cases hj : zg0 y.Op with
       | true =>
        have ht := ht hj; rw [ctr, ifp ht.1, ifp (show y.Target < ((x.Proof.Index.length + 1 : Nat) : Int) by omega), zkq (show y.Target.toNat ≤ _ by omega), ifp rfl]; simp only [obs]; cases eqI z (tgI y (kI x.Proof.Index y.Target.toNat : Int)) <;> cases knl y <;> cases eqI z (cpI y z.A) <;> cases zmq l y z.A <;> rfl
       | false =>
        rw [cfa, ifn (show ¬ (false = true) by decide)]; cases eqI z y <;> cases knl y <;> cases eqI z (cpI y z.A) <;> cases zmq l y z.A <;> rfl
     · rw [dct (show k ≥ (x.After.zB.length : Int) by omega), ifn fun h => h3 h.2]; rfl
   · rw [dct (show k ≠ (kI x.Proof.Index i : Int) from h2), ifn fun h => h2 h.1]; rfl
variable {m : zI} {c : zF} {x : Optimization}
def zyj (p q : List Bool) (i : Nat) : Option Bool := (p[i]?).bind fun u => (q[i]?).bind fun v => if u = v then none else some false
theorem z08 (N : Nat) (p q : List Bool) (h : p.length < N) (hl : p.length < 1000000000) : ∃ b, za8 N p q = some b ∧ zdo N p q = some b := by
 unfold za8 zdo
 rw [zcq]
 by_cases e : (p.length : Int) = (q.length : Int)
 · rw [dcf (show ¬ (p.length : Int) ≠ (q.length : Int) from fun h => h e)]; have l1 := zbh (f := za8.r0 N) (fun i => (p, q, (p.length : Int), (i : Int))) (zyj p q) p.length (fun i hi => by
    have hx := lge hi; have hy := lge (show i < q.length by omega); generalize p[i] = u at hx; generalize q[i] = v at hy; simp only [za8.r0, za8.b0, zyj, zx, hx, hy, obs, dct (show (i : Int) < (p.length : Int) by omega), ctr]; rw [w6e]; cases u <;> cases v <;> rfl)
    (by simp only [za8.r0, za8.b0, dcf (Int.lt_irrefl _), cfa]) h
   have l2 := zbh (f := zdo.r0 N) (fun i => (p, q, (i : Int))) (zyj p q) p.length (fun i hi => by
    have hx := lge hi; have hy := lge (show i < q.length by omega); generalize p[i] = u at hx; generalize q[i] = v at hy; simp only [zdo.r0, zdo.b0, zyj, zx, hx, hy, obs, dct (show (i : Int) < (p.length : Int) by omega), ctr]; rw [w6e]; cases u <;> cases v <;> rfl)
    (by simp only [zdo.r0, zdo.b0, dcf (Int.lt_irrefl _), cfa]) h
   simp only [nc0] at l1 l2; rw [cfa, cfa, l1, l2]; cases (List.range p.length).findSome? (zyj p q) <;> exact ⟨_, rfl, rfl⟩
 · rw [dct (show (p.length : Int) ≠ (q.length : Int) from e)]; exact ⟨false, rfl, rfl⟩
def zlw (K : Nat → Nat) (t : zQ) : zQ := ⟨(K t.From.toNat : Int), (K t.To.toNat : Int), t.Exception, (K t.Handler.toNat : Int)⟩
theorem z1e (N : Nat) {I : List Int} {l : List zQ} (hN : l.length < N) (hl : l.length ≤ 1048576) (ht : ∀ t ∈ l, 0 ≤ t.From ∧ t.From ≤ t.To ∧ t.To ≤ (I.length : Int) ∧ 0 ≤ t.Handler ∧ t.Handler < (I.length : Int)) : za5 N l (zh7 I) = some (l.map (zlw (kI I))) := by
 unfold za5
 have := zua (f := za5.r0 N) l (fun t => some (zlw (kI I) t)) (fun i acc => (zh7 I, acc, l, (l.length : Int), (i : Int))) (fun i t acc hx hacc => by
  have hi := (gei hx).1; obtain ⟨h1, h2, h3, h4, h5⟩ := ht t (lmg hx); simp only [za5.r0, za5.b0, zx, hx, obs, dct (show (i : Int) < (l.length : Int) by omega), ctr, zq2 (I := I) h1 (show t.From ≤ _ by omega), zq2 (I := I) (show 0 ≤ t.To by omega) h3, zq2 (I := I) h4 (show t.Handler ≤ _ by omega), lnc, ln0, z8c (show acc.length + (0 + 1) ≤ 1000000000 by omega)]; rw [w6e]; rfl)
  (fun acc => by simp only [za5.r0, za5.b0, dcf (Int.lt_irrefl _), cfa]) hN
 simp only [nc0] at this
 rw [this]
 simp only [obs]
 congr 1
 rw [← List.filterMap_eq_map]
 rfl
def zqg (p q : List zQ) (i : Nat) : Bool := match p[i]?, q[i]? with
 | some u, some v => !zbx [(u.From == v.From), (u.To == v.To), (u.Exception == v.Exception), (u.Handler == v.Handler)]
 | _, _ => false
theorem zww (N : Nat) {p q : List zQ} (e : p.length = q.length) (h : p.length < N) (hl : p.length < 1000000000) : zad N p q = some (match (List.range p.length).findSome? (fun i => if zqg p q i = true then some false else none) with | some b => b | none => true) := by
 unfold zad
 rw [zcq, dcf (show ¬ (p.length : Int) ≠ (q.length : Int) by omega)]
 have l1 := zbh (f := zad.r0 N) (fun i => (p, q, (p.length : Int), (i : Int))) (fun i => if zqg p q i = true then some false else none) p.length (fun i hi => by
  have hx := lge hi; have hy := lge (show i < q.length by omega); generalize p[i] = u at hx; generalize q[i] = v at hy; simp only [zad.r0, zad.b0, zqg, zx, hx, hy, obs, dct (show (i : Int) < (p.length : Int) by omega), ctr]; rw [w6e]; cases zbx [(u.From == v.From), (u.To == v.To), (u.Exception == v.Exception), (u.Handler == v.Handler)] <;> rfl)
  (by simp only [zad.r0, zad.b0, dcf (Int.lt_irrefl _), cfa]) h
 simp only [nc0] at l1
 rw [cfa, l1]
 cases (List.range p.length).findSome? (fun i => if zqg p q i = true then some false else none) <;> rfl
theorem zxd (N : Nat) (h : OptV x) (hl : x.Before.zP.length ≤ 1048576) (hN : 1048600 < N) (e : x.After.zP.length = x.Before.zP.length)
 (ht : ∀ t ∈ x.Before.zP, 0 ≤ t.From ∧ t.From ≤ t.To ∧ t.To ≤ (x.Proof.Index.length : Int) ∧ 0 ≤ t.Handler ∧ t.Handler < (x.Proof.Index.length : Int)) (n : Int) :
 zg (ze.r4 N) N (n, zh7 x.Proof.Index, 0, x) = some (match (List.range x.Before.zP.length).findSome? (fun i => if zqg x.After.zP (x.Before.zP.map (zlw (kI x.Proof.Index))) i = true then some ((0 : Int), (42 : Int)) else none) with | some b => .inl b | none => .inr (n, zh7 x.Proof.Index, (x.Before.zP.length : Int), x)) := by
 have l1 := zbh (f := ze.r4 N) (fun i => (n, zh7 x.Proof.Index, (i : Int), x)) (fun i => if zqg x.After.zP (x.Before.zP.map (zlw (kI x.Proof.Index))) i = true then some ((0 : Int), (42 : Int)) else none) x.Before.zP.length (fun i hi => by
  have hx := lge hi; have hy := lge (show i < x.After.zP.length by omega); obtain ⟨h1, h2, h3, h4, h5⟩ := ht _ (List.getElem_mem hi); generalize x.Before.zP[i] = t at hx h1 h2 h3 h4 h5; generalize x.After.zP[i] = u at hy; simp only [ze.r4, ze.b4, zqg, zx, hx, hy, List.getElem?_map, Option.map_some, obs, dct (show (i : Int) < (x.Before.zP.length : Int) by omega), ctr, ztz]; rw [ifp h1, ifp (show t.From < ((x.Proof.Index.length + 1 : Nat) : Int) by omega), zkq (show t.From.toNat ≤ _ by omega), obs, ifp (show 0 ≤ t.To by omega), ifp (show t.To < ((x.Proof.Index.length + 1 : Nat) : Int) by omega), zkq (show t.To.toNat ≤ _ by omega), obs, ifp h4, ifp (show t.Handler < ((x.Proof.Index.length + 1 : Nat) : Int) by omega), zkq (show t.Handler.toNat ≤ _ by omega), obs, w6e]
  show cond (!(zbx [(u.From == (zlw (kI x.Proof.Index) t).From), (u.To == (zlw (kI x.Proof.Index) t).To), (u.Exception == (zlw (kI x.Proof.Index) t).Exception), (u.Handler == (zlw (kI x.Proof.Index) t).Handler)])) _ _ = _; cases zbx [(u.From == (zlw (kI x.Proof.Index) t).From), (u.To == (zlw (kI x.Proof.Index) t).To), (u.Exception == (zlw (kI x.Proof.Index) t).Exception), (u.Handler == (zlw (kI x.Proof.Index) t).Handler)] <;> rfl)
  (by simp only [ze.r4, ze.b4, dcf (Int.lt_irrefl _), cfa]) (show x.Before.zP.length < N by omega)
 simp only [nc0] at l1
 rw [l1]
 cases (List.range x.Before.zP.length).findSome? (fun i => if zqg x.After.zP (x.Before.zP.map (zlw (kI x.Proof.Index))) i = true then some ((0 : Int), (42 : Int)) else none) <;> rfl
def zrg (x : Optimization) (i : Nat) : Option (Int × Int) := if z3b x i = true then none else some ((i : Int), 42)
theorem zza {i : Nat} {y : zC} {k : Int} {l : List zA} (hy : x.Before.zB[i]? = some y) (hk : x.Proof.Index[i]? = some k) (hl : x.Proof.Facts[i]? = some l) : z3b x i = rgt x i y k l := by
 unfold z3b
 rw [hy, hk, hl]
theorem z2z (N : Nat) (hN : 1000 < N) (h : OptV x) : zg (zy.r0 N) N ((x.Before.zB.length : Int), zh7 x.Proof.Index, (x.Before.zB.length : Int), 0, x) =
 some (match (List.range x.Before.zB.length).findSome? (zrg x) with | some b => .inl b | none => .inr ((x.Before.zB.length : Int), zh7 x.Proof.Index, (x.Before.zB.length : Int), (x.Before.zB.length : Int), x)) := by
 have hlen := h.len
 have l1 := zbh (f := zy.r0 N) (fun i => ((x.Before.zB.length : Int), zh7 x.Proof.Index, (x.Before.zB.length : Int), (i : Int), x)) (zrg x) x.Before.zB.length (fun i hi => by
  have hy := lge hi; have hk := lge (show i < x.Proof.Index.length by rw [h.ix]; exact hi); have hl := lge (show i < x.Proof.Facts.length by rw [h.fx]; exact hi); simp only [zy.r0, zy.b0]; rw [dct (show (i : Int) < (x.Before.zB.length : Int) by omega), z4r N hN h hy hk hl, w6e]; unfold zrg; rw [zza hy hk hl]; cases rgt x i _ _ _ <;> rfl)
  (by simp only [zy.r0, zy.b0]; rw [dcf (Int.lt_irrefl _), cfa]) (show x.Before.zB.length < N by omega)
 simp only [nc0] at l1
 rw [l1]
 cases (List.range x.Before.zB.length).findSome? (zrg x) <;> rfl
theorem z3d (N : Nat) (hN : 1000 < N) (h : OptV x) : zg (ze.r2 N) N ((x.Before.zB.length : Int), zh7 x.Proof.Index, 0, x) =
 some (match (List.range x.Before.zB.length).findSome? (zrg x) with | some b => .inl b | none => .inr ((x.Before.zB.length : Int), zh7 x.Proof.Index, (x.Before.zB.length : Int), x)) := by
 have hlen := h.len
 have l1 := zbh (f := ze.r2 N) (fun i => ((x.Before.zB.length : Int), zh7 x.Proof.Index, (i : Int), x)) (zrg x) x.Before.zB.length (fun i hi => by
  have hy := lge hi; have hk := lge (show i < x.Proof.Index.length by rw [h.ix]; exact hi); have hl := lge (show i < x.Proof.Facts.length by rw [h.fx]; exact hi); rw [z44 N hN h hy hk hl]; unfold zrg; rw [zza hy hk hl]; cases rgt x i _ _ _ <;> rfl)
  (by simp only [ze.r2, ze.b2]; rw [dcf (Int.lt_irrefl _), cfa]) (show x.Before.zB.length < N by omega)
 simp only [nc0] at l1
 rw [l1]
 cases (List.range x.Before.zB.length).findSome? (zrg x) <;> rfl
variable {m : zI} {c : zF} {x : Optimization}
structure OptW (x : Optimization) : Prop where
 b : Wft En 1048576 Ty.zF x.Before
 a : Wft En 1048576 Ty.zF x.After
 f : Wft En 1048576 (Ty.sl (Ty.sl Ty.zA)) x.Proof.Facts
 i : x.Proof.Index.length ≤ 1048576
theorem z6p (h : Wft En 1048576 Ty.Optimization x) : OptW x := by
 have k : ∀ u, u ∈ zlb x → Wfc En 1048576 u := h
 simp only [zlb, List.mem_cons, List.not_mem_nil, or_false] at k
 refine ⟨fun u hu => ?_, fun u hu => ?_, fun u hu => ?_, ?_⟩
 · have hu : u ∈ zgw x.Before := hu; simp only [zgw, List.mem_cons, List.not_mem_nil, or_false] at hu; rcases hu with rfl | rfl | rfl | rfl <;> exact k _ (by simp)
 · have hu : u ∈ zgw x.After := hu; simp only [zgw, List.mem_cons, List.not_mem_nil, or_false] at hu; rcases hu with rfl | rfl | rfl | rfl <;> exact k _ (by simp)
 · have hu : u ∈ [(AV.lst (Ty.sl Ty.zA) x.Proof.Facts : AV U)] := hu; rw [List.mem_singleton] at hu; subst hu; exact k _ (by simp)
 · have := k (.lst (Ty.int .i64) x.Proof.Index) (by simp); cases this with
   | lst h1 _ => exact h1
theorem z5u (N : Nat) (hN : 1048600 < N) (h : OptW x) : ∃ b, zef N x = some b ∧ (b = true → x.Proof.Facts.length ≤ 250 ∧ (∀ l ∈ x.Proof.Facts, l.length ≤ 64) ∧ x.Proof.Index.length ≤ 250) := by
 obtain ⟨b1, h1⟩ := zv9 N hN h.b
 obtain ⟨b2, h2⟩ := zv9 N hN h.a
 obtain ⟨f1, f2⟩ := z3z h.f
 obtain ⟨b3, h3, h4⟩ := z2g N hN f1 f2
 unfold zef
 rw [h1, h2, h3]
 simp only [obs]
 cases b1 with
 | false => exact ⟨false, rfl, fun h => by cases h⟩
 | true =>
  cases b2 with
  | false => exact ⟨false, rfl, fun h => by cases h⟩
  | true =>
   cases b3 with
   | false => exact ⟨false, rfl, fun h => by cases h⟩
   | true => exact ⟨_, rfl, fun h => ⟨(h4 rfl).1, (h4 rfl).2, by have := of_decide_eq_true h; omega⟩⟩
theorem z5h (N : Nat) (hN : 1048600 < N) (h : OptW x) (hF : x.Proof.Facts.length ≤ 250) (hl : ∀ l ∈ x.Proof.Facts, l.length ≤ 64) : zee N x = some x := by
 have hi := h.i
 unfold zee zi1 zjn
 rw [zxq h.b, zxq h.a, z16 N hN hF hl, show Nat.ble (x.Proof.Index.length * 8) zak = true from Nat.ble_eq_true_of_le (by unfold zak; omega)]
 rfl
theorem zy2 (N : Nat) (hN : 1048600 < N) (m : zI) {c : zF} {F : List (List zA)} (hF : F.length ≤ 250) {r : Int} (h : zf N m c F = some (r, 0)) : F.length = c.zB.length := by
 unfold zf at h
 rw [Option.bind_eq_some_iff] at h
 obtain ⟨e, he, h⟩ := h
 have ec : ∀ (b : Bool) (z : Int), zdp b z = some (cond b z 0) := fun b z => by cases b <;> rfl
 rw [ec, obs, zte N [e, cond ((F.length : Int) != (c.zB.length : Int)) 6 0] (by show 2 < N; omega) (by show 2 < 1000000000; omega), obs] at h
 refine cbc fun hne => ?_
 rw [show ((F.length : Int) != (c.zB.length : Int)) = true by rw [zcq, dct (show (F.length : Int) ≠ (c.zB.length : Int) by omega)]] at h
 by_cases h0 : e = 0
 · subst h0; have e1 : zdt [0, cond true 6 0] = 6 := rfl; rw [e1] at h; simp only [show ((6 : Int) != 0) = true from rfl, ctr] at h; cases h
 · have e1 : zdt [e, cond true 6 0] = e := by simp [zdt, h0]
   rw [e1, show (e != 0) = true by simpa using h0] at h; simp only [ctr] at h; cases h; exact h0 rfl
theorem z3p (N : Nat) (hN : 1048600 < N) (h : OptW x) (hF : x.Proof.Facts.length ≤ 250) (hl : ∀ l ∈ x.Proof.Facts, l.length ≤ 64) : ∃ r, zy N x = some r ∧ ze N x = some r := by
 obtain ⟨⟨n1, e1⟩, a1, a2⟩ := zsd N hN x.Model h.b
 obtain ⟨⟨n2, e2⟩, b1, b2⟩ := zsd N hN x.Model h.a
 unfold zy ze zcp zfi
 rw [a1, a2, b1, b2]
 simp only [obs]
 rw [zte N [e1, e2] (by show 2 < N; omega) (by show 2 < 1000000000; omega), obs]
 by_cases he1 : e1 = 0
 · subst he1
   by_cases he2 : e2 = 0
   · subst he2; rw [show zdt [0, 0] = 0 from rfl]; simp only [bsf, cfa]; obtain ⟨hcv, hn⟩ := z2m N hN h.b a2; have ck := z8b N hN h.b a2; have htv := z6d ck.trap; obtain ⟨⟨n3, e3⟩, c1, c2⟩ := z05 N hN x.Model h.b hF hl; rw [c1, c2]; simp only [obs]
     by_cases he3 : e3 = 0
     · subst he3; have hfl := zy2 N hN x.Model hF c1; have hil := hcv.len; simp only [bsf, cfa]; have htw : x.Before.Storage.Tags.length ≤ 1048576 := by obtain ⟨w1, w2, w3, w4, w5⟩ := zkr h.b; omega
       have hat : x.After.zP.length ≤ 1048576 := by obtain ⟨w1, w2, w3, w4, w5⟩ := zkr h.a; omega
       obtain ⟨b, t1, t2⟩ := z08 N x.Before.Storage.Tags x.After.Storage.Tags (by omega) (by omega); unfold zh0; rw [t1, t2, zcq]
       by_cases hix : (x.Proof.Index.length : Int) = (x.Before.zB.length : Int)
       · rw [dcf (show ¬ (x.Proof.Index.length : Int) ≠ (x.Before.zB.length : Int) from fun h => h hix)]; have hix' : x.Proof.Index.length = x.Before.zB.length := by omega
         have ov : OptV x := ⟨hil, hix', hfl, hl, fun y hy hj => (hcv.ins y hy).tg (by unfold zg0 at hj; simp only [Bool.or_eq_true, decide_eq_true_eq] at hj; omega)⟩; have htv' : ∀ t ∈ x.Before.zP, 0 ≤ t.From ∧ t.From ≤ t.To ∧ t.To ≤ (x.Proof.Index.length : Int) ∧ 0 ≤ t.Handler ∧ t.Handler < (x.Proof.Index.length : Int) := fun t ht => by rw [hix']; exact htv t ht
         have rest : ∀ (S : Bool), S = true → ∃ r, ((za6 N x.Proof.Index).bind fun r8 => (zg (zy.r0 N) N ((x.Before.zB.length : Int), r8, (x.Before.zB.length : Int), 0, x)).bind fun z10 => zat z10 (fun z => some z)
          (fun y9 => (idx y9.2.1 y9.1).bind fun x11 => (cond ((y9.2.2.2.2.After.zB.length : Int) != x11) (some true)
          ((za5 N y9.2.2.2.2.Before.zP y9.2.1).bind fun r12 => (zad N y9.2.2.2.2.After.zP r12).bind fun r13 => some (!r13))).bind fun g14 =>
          cond g14 (some ((0 : Int), (42 : Int))) (some (y9.1, 0)))) = some r ∧
          ((zh (ze.r0 N) N ((x.Before.zB.length : Int), (List.replicate (x.Before.zB.length + 1) (0 : Int)), 0, x)).bind fun y6 =>
          (zg (ze.r2 N) N (y6.1, y6.2.1, 0, y6.2.2.2)).bind fun z8 => zat z8 (fun z => some z) (fun y7 =>
          if 0 ≤ y7.1 then (if y7.1 < (y7.2.1.length : Int) then ((y7.2.1[y7.1.toNat]?).bind fun x9 => (cond ((y7.2.2.2.After.zB.length : Int) != x9) (some true)
          (some ((y7.2.2.2.After.zP.length : Int) != (y7.2.2.2.Before.zP.length : Int)))).bind fun g10 => cond g10 (some ((0 : Int), (42 : Int)))
          ((zg (ze.r4 N) N (y7.1, y7.2.1, 0, y7.2.2.2)).bind fun z12 => zat z12 (fun z => some z) (fun y11 =>
          some (y11.1, 0)))) else none) else none)) = some r := by
          intro _ _; rw [z1f N (by omega) (by omega), z1w N (by omega) x (by omega) hix']; simp only [obs]; rw [z2z N (by omega) ov, z3d N (by omega) ov]; simp only [obs]; cases (List.range x.Before.zB.length).findSome? (zrg x) with
          | some r => exact ⟨r, rfl, rfl⟩
          | none =>
           simp only [zat]; rw [zx, zkq (by omega), ifp, ifp (by rw [ztz]; omega), itn, zkq (by omega)]; simp only [obs]; rw [zcq]
           by_cases hlen : (x.After.zB.length : Int) = (kI x.Proof.Index x.Before.zB.length : Int)
           · rw [dcf (show ¬ (x.After.zB.length : Int) ≠ (kI x.Proof.Index x.Before.zB.length : Int) from fun h => h hlen)]; have hbt := ck.tr; simp only [cfa]; rw [z1e N (by omega) (by omega) htv']; simp only [obs]; rw [zcq]
             by_cases htl : (x.After.zP.length : Int) = (x.Before.zP.length : Int)
             · rw [dcf (show ¬ (x.After.zP.length : Int) ≠ (x.Before.zP.length : Int) from fun h => h htl), zww N (by rw [lnm]; omega) (by omega) (by omega)]; simp only [obs, cfa]; rw [zxd N ov (by omega) hN (by omega) htv', show x.After.zP.length = x.Before.zP.length by omega, znp, znp]; cases ((List.range x.Before.zP.length).map (zqg x.After.zP (x.Before.zP.map (zlw (kI x.Proof.Index))))).findIdx? id with
               | some k => exact ⟨(0, 42), rfl, rfl⟩
               | none => exact ⟨((x.Before.zB.length : Int), 0), rfl, rfl⟩
             · rw [dct (show (x.After.zP.length : Int) ≠ (x.Before.zP.length : Int) from htl)]; unfold zad; rw [zcq, lnm, dct (show (x.After.zP.length : Int) ≠ (x.Before.zP.length : Int) from htl)]; exact ⟨(0, 42), rfl, rfl⟩
           · rw [dct (show (x.After.zB.length : Int) ≠ (kI x.Proof.Index x.Before.zB.length : Int) from hlen)]; exact ⟨(0, 42), rfl, rfl⟩
         have hw : w6 ((x.Before.zB.length : Int) + 1) = ((x.Before.zB.length + 1 : Nat) : Int) := by rw [w6e]; omega
         rw [hw, itn, ifp, ifp (Int.le_refl _), zud (by omega)]; cases (x.Before.Storage.Bytes.toList == x.After.Storage.Bytes.toList) with
         | false => exact ⟨(0, 6), rfl, rfl⟩
         | true =>
          cases b with
          | false => exact ⟨(0, 6), rfl, rfl⟩
          | true => exact rest true rfl
       · rw [dct (show (x.Proof.Index.length : Int) ≠ (x.Before.zB.length : Int) from hix)]; refine ⟨(0, 6), ?_, rfl⟩; cases (x.Before.Storage.Bytes.toList == x.After.Storage.Bytes.toList) <;> rfl
     · rw [show (e3 != 0) = true by simpa using he3]; exact ⟨(n3, e3), rfl, rfl⟩
   · rw [show zdt [0, e2] = e2 by simp [zdt, he2], show (e2 != 0) = true by simpa using he2]; exact ⟨(0, e2), rfl, rfl⟩
 · rw [show zdt [e1, e2] = e1 by simp [zdt, he1], show (e1 != 0) = true by simpa using he1]; exact ⟨(0, e1), rfl, rfl⟩
theorem plainTranslateAccepts : zfq := by
 intro x hx
 refine ⟨2000000, ?_⟩
 have h := z6p hx
 obtain ⟨b, hb, hb2⟩ := z5u 2000000 (by decide) h
 unfold zd9
 rw [z58]
 simp only [obs, bnt, cfa]
 rw [hb]
 cases b with
 | false => rfl
 | true =>
  obtain ⟨h1, h2, h3⟩ := hb2 rfl; obtain ⟨r, hr1, hr2⟩ := z3p 2000000 (by decide) h h1 h2; simp only [obs, bnt, cfa]; rw [z5h 2000000 (by decide) h h1 h2, obs, hr1, obs, hr2]; simp
end
end Go.Proofs.YtnpfkhdbmlhfhaaGreatDoor.M
namespace Go.Proofs.YtnpfkhdbmlhfhaaGreatDoor
theorem translateAccepts_card : Rows.TranslateAcceptsUptoCardSaid := M.cardTranslateAccepts M.plainTranslateAccepts
#print axioms translateAccepts_card
end Go.Proofs.YtnpfkhdbmlhfhaaGreatDoor
