/- TranslateProofs: the law answers true for every input of bulk at most 1048576, and its arguments read as they did; by the seat's second form, tied to the program's text. -/
import Derived.Test.YtblgefddnnlniaaGreatDoorF1
import Derived.Test.YtblgefddnnlniaaGreatDoorA4
import Derived.Test.YtblgefddnnlniaaGreatDoorWTranslateProofs
import Derived.Lib.Strings
namespace Go.Proofs.YtblgefddnnlniaaGreatDoor.M
open Go Go.Amx
set_option linter.unusedVariables false
set_option linter.unusedSimpArgs false
set_option maxRecDepth 100000
noncomputable section
theorem obs {α β : Type} (a : α) (f : α → Option β) : (some a).bind f = f a := rfl
theorem dct {p : Prop} [Decidable p] (h : p) : decide p = true := decide_eq_true h
theorem dcf {p : Prop} [Decidable p] (h : ¬ p) : decide p = false := decide_eq_false h
theorem lna {α : Type} {a b : List α} : (a ++ b).length = a.length + b.length := List.length_append
theorem lns {α : Type} {a : α} : [a].length = 1 := List.length_singleton
theorem lge {α : Type} {l : List α} {i : Nat} (h : i < l.length) : l[i]? = some l[i] := List.getElem?_eq_getElem h
theorem itn (n : Nat) : Int.toNat (n : Int) = n := Int.toNat_natCast n
theorem ctr {α : Sort _} (a b : α) : cond true a b = a := rfl
theorem cfa {α : Sort _} (a b : α) : cond false a b = b := rfl
theorem ifp {c : Prop} {h : Decidable c} (hc : c := by omega) {α : Sort _} {t e : α} : ite c t e = t := if_pos hc
theorem ifn {c : Prop} {h : Decidable c} (hc : ¬c := by omega) {α : Sort _} {t e : α} : ite c t e = e := if_neg hc
theorem bsf {α : Type _} [BEq α] [LawfulBEq α] (a : α) : (a != a) = false := bne_self_eq_false a
theorem tde {a b : Int} (h : 0 ≤ a := by omega) : a.tdiv b = a / b := Int.tdiv_eq_ediv_of_nonneg h
theorem tme {a b : Int} (h : 0 ≤ a := by omega) : a.tmod b = a % b := Int.tmod_eq_emod_of_nonneg h
theorem lnt {α : Type _} {i : Nat} {l : List α} : (l.take i).length = min i l.length := List.length_take
theorem lnr {α : Type _} {n : Nat} {a : α} : (List.replicate n a).length = n := List.length_replicate
theorem gdd {α : Type _} {l : List α} {i : Nat} {a : α} : l.getD i a = l[i]?.getD a := List.getD_eq_getElem?_getD
theorem cbc {p : Prop} (h : ¬p → False) : p := Classical.byContradiction h
theorem lnc {α : Type _} {a : α} {l : List α} : (a :: l).length = l.length + 1 := List.length_cons
theorem gei {α : Type _} {i : Nat} {a : α} {l : List α} (h : l[i]? = some a) : ∃ h : i < l.length, l[i] = a := List.getElem?_eq_some_iff.1 h
theorem eof {α β : Type _} {b : β} {f : α → Option β} {l : List α} (h : l.findSome? f = some b) : ∃ a, a ∈ l ∧ f a = some b := List.exists_of_findSome?_eq_some h
theorem ln0 {α : Type _} : ([] : List α).length = 0 := rfl
theorem lnm {α β : Type _} {l : List α} (f : α → β) : (l.map f).length = l.length := List.length_map f
theorem dr0 {α : Type _} {l : List α} : l.drop 0 = l := rfl
theorem bsa {a b : ByteArray} : (a ++ b).size = a.size + b.size := ByteArray.size_append
theorem bnt : (!true) = false := rfl
theorem mel {a b : Nat} (h : a < b) : a % b = a := Nat.mod_eq_of_lt h
theorem nc0 : ((0 : Nat) : Int) = 0 := Int.natCast_zero
theorem bst {α : Type _} [BEq α] [ReflBEq α] (a : α) : (a == a) = true := beq_self_eq_true a
theorem lmg {α : Type _} {l : List α} {i : Nat} {a : α} (h : l[i]? = some a) : a ∈ l := List.mem_of_getElem? h
theorem w6e {n : Int} (h1 : -9223372036854775808 ≤ n := by omega) (h2 : n ≤ 9223372036854775807 := by omega) : w6 n = n := z4e h1 h2
theorem zs7 (N : Nat) (l : List Int) (h : l.length < N) (hl : l.length < 1000000000) : zao N l = some (ze2 l) := by
 unfold zao
 have := zca (f := zao.r0 N) (fun i => (l, (l.length : Int), (i : Int))) (fun i => (l[i]?).bind fun x => if x = 0 then none else some x) l.length
  (fun i hi => by
   have hx := lge hi; simp only [zao.r0, zao.b0, zan, hx, obs, dct (show (i : Int) < (l.length : Int) by omega), ctr]
   by_cases h0 : l[i] = 0
   · simp only [h0, bsf, cfa, if_true]; rw [w6e]; rfl
   · simp only [h0, if_false]; rw [show (l[i] != 0) = true by simpa using h0]; rfl)
  (by simp only [zao.r0, zao.b0, dcf (show ¬ (l.length : Int) < (l.length : Int) by omega), cfa]) h
 simp only [nc0] at this
 rw [this, zg0, ← zoa]
 simp only [obs]
 cases l.findSome? (fun x => if x = 0 then none else some x) <;> rfl
theorem z14 (N : Nat) (l : List Int) (h : l.length < N) (hl : l.length < 1000000000) : zaw N l = some (ze2 l) := by
 unfold zaw
 have := zca (f := zaw.r0 N) (fun i => (l, (l.length : Int), (i : Int))) (fun i => (l[i]?).bind fun x => if x = 0 then none else some x) l.length
  (fun i hi => by
   have hx := lge hi; simp only [zaw.r0, zaw.b0, zan, hx, obs, dct (show (i : Int) < (l.length : Int) by omega), ctr]
   by_cases h0 : l[i] = 0
   · simp only [h0, bsf, cfa, if_true]; rw [w6e]; rfl
   · simp only [h0, if_false]; rw [show (l[i] != 0) = true by simpa using h0]; rfl)
  (by simp only [zaw.r0, zaw.b0, dcf (show ¬ (l.length : Int) < (l.length : Int) by omega), cfa]) h
 simp only [nc0] at this
 rw [this, zg0, ← zoa]
 simp only [obs]
 cases l.findSome? (fun x => if x = 0 then none else some x) <;> rfl
def inB (n lo hi : Int) : Bool := decide (lo ≤ n) && decide (n ≤ hi)
theorem zn8 (n lo hi : Int) : zbb n lo hi = some (inB n lo hi) := by
 unfold zbb inB
 cases decide (lo ≤ n) <;> rfl
theorem z2q (n lo hi : Int) : zd1 n lo hi = some (inB n lo hi) := by
 unfold zd1 inB
 cases decide (lo ≤ n) <;> rfl
theorem zic (n lo hi : Int) : zj n lo hi = some (inB n lo hi) := by
 unfold zj inB
 cases decide (lo ≤ n) <;> rfl
theorem zpb (b : Bool) (e : Int) : zbp b e = some (cond b e 0) := by cases b <;> rfl
theorem zx9 (b : Bool) (e : Int) : zbl b e = some (cond b e 0) := by cases b <;> rfl
theorem zpw (b : Bool) : zdc b = some (cond b 1 0) := by cases b <;> rfl
theorem zt2 (m : zI) : ∃ e, zc7 m = some e ∧ zgx m = some e ∧ (e = 0 → 2 ≤ m.Registers ∧ m.Registers ≤ 8) := by
 refine ⟨cond (!inB m.Registers 2 8) 3 0, ?_, ?_, ?_⟩
 · simp only [zc7, zn8, zpb, obs]
 · simp only [zgx, zic, obs]; cases inB m.Registers 2 8 <;> rfl
 · intro h; cases hb : inB m.Registers 2 8 with
   | false => rw [hb] at h; cases h
   | true => simpa [inB] using hb
def zbf (t : DataType) : Int :=
 if t.Kind = 0 then (if inB t.Length 1 256 then (if t.Scale = 0 then 0 else 3) else 18)
 else if t.Kind = 1 ∨ t.Kind = 2 then (if inB t.Length 1 15 then (if inB t.Scale 0 t.Length then 0 else 3) else 18)
 else if t.Kind = 3 then (if t.Length = 4 ∨ t.Length = 9 then (if inB t.Scale 0 t.Length then 0 else 3) else 18)
 else if t.Kind = 4 then (if t.Length = 0 then (if t.Scale = 0 then 0 else 3) else 18)
 else 4
theorem z47 (a b : Bool) (x y : Int) (hx : x ≠ 0) (hy : y ≠ 0) : ze2 [cond a x 0, cond b y 0] = cond a x (cond b y 0) := by
 cases a <;> cases b <;> simp [ze2, hx, hy]
theorem zry (N : Nat) (hN : 10 < N) (t : DataType) : zbh N t = some (zbf t) := by
 have f2 : ∀ a b : Int, zaw N [a, b] = some (ze2 [a, b]) := fun a b => z14 N _ (by simp; omega) (by simp)
 unfold zbh zbf
 simp only [z2q, zx9, f2, obs, z47 _ _ 18 3 (by decide) (by decide)]
 by_cases h0 : t.Kind = 0
 · simp only [h0, bst, ctr, if_true]; cases inB t.Length 1 256 <;> by_cases hs : t.Scale = 0 <;> simp [zcw, hs]
 · simp only [beq_eq_false_iff_ne.2 h0, h0, cfa, if_false]
   by_cases h1 : t.Kind = 1
   · simp only [h1, bst, ctr, true_or, if_true, obs]; cases inB t.Length 1 15 <;> cases inB t.Scale 0 t.Length <;> simp
   · by_cases h2 : t.Kind = 2
     · simp only [h2, h1]; cases inB t.Length 1 15 <;> cases inB t.Scale 0 t.Length <;> simp
     · by_cases h3 : t.Kind = 3
       · simp only [h3]
         by_cases h4 : t.Length = 4 <;> by_cases h5 : t.Length = 9 <;> cases inB t.Scale 0 t.Length <;> simp [zcw, h4, h5]
       · by_cases h4 : t.Kind = 4
         · simp only [h4]
           by_cases h5 : t.Length = 0 <;> by_cases h6 : t.Scale = 0 <;> simp [zcw, h5, h6]
         · simp [zcw, h1, h2, h3, h4]
theorem zpv (k : Int) : zb9 k = some (inB k 1 3) := by simp only [zb9, zic, obs]
theorem zx5 (t : DataType) : zfo t = some (zbf t) := by
 have w0' : w6 0 = 0 := by decide
 have w1 : w6 3 = 3 := by decide
 have hz : inB t.Scale 0 0 = decide (t.Scale = 0) := by
  unfold inB
  by_cases h : t.Scale = 0
  · simp [h]
  · simp only [h, decide_false]
    by_cases h1 : 0 ≤ t.Scale
    · simp [h1, show ¬ t.Scale ≤ 0 by omega]
    · simp [h1]
 unfold zfo zbf
 simp only [zic, zpv, zpw, obs, hz]
 by_cases h0 : t.Kind = 0
 · have e : inB (0 : Int) 0 4 = true := by decide
   have e' : inB (0 : Int) 1 3 = false := by decide
   simp only [h0, e, e']; cases inB t.Length 1 256 <;> by_cases hs : t.Scale = 0 <;> simp [zcw, hs, w0', w1]
 · by_cases h1 : t.Kind = 1
   · have e : inB (1 : Int) 0 4 = true := by decide
     have e' : inB (1 : Int) 1 3 = true := by decide
     simp only [h1, e, e']; cases inB t.Length 1 15 <;> cases inB t.Scale 0 t.Length <;> simp [w0', w1]
   · by_cases h2 : t.Kind = 2
     · have e : inB (2 : Int) 0 4 = true := by decide
       have e' : inB (2 : Int) 1 3 = true := by decide
       simp only [h2, e, e']; cases inB t.Length 1 15 <;> cases inB t.Scale 0 t.Length <;> simp [w0', w1]
     · by_cases h3 : t.Kind = 3
       · have e : inB (3 : Int) 0 4 = true := by decide
         have e' : inB (3 : Int) 1 3 = true := by decide
         simp only [h3, e, e']
         by_cases h4 : t.Length = 4 <;> by_cases h5 : t.Length = 9 <;> cases inB t.Scale 0 t.Length <;> simp [zcw, h4, h5, w0', w1]
       · by_cases h4 : t.Kind = 4
         · have e : inB (4 : Int) 0 4 = true := by decide
           have e' : inB (4 : Int) 1 3 = false := by decide
           simp only [h4, e, e']
           by_cases h5 : t.Length = 0 <;> by_cases h6 : t.Scale = 0 <;> simp [zcw, h5, h6, w0', w1]
         · have e : inB t.Kind 0 4 = false := by
            unfold inB
            by_cases hh : 0 ≤ t.Kind
            · simp only [hh, decide_true, Bool.true_and, decide_eq_false_iff_not]; omega
            · simp [hh]
           simp [zcw, h0, h1, h2, h3, h4, e]
theorem zde {n lo hi : Int} : inB n lo hi = true ↔ lo ≤ n ∧ n ≤ hi := by simp [inB]
theorem zir {t : DataType} (h : zbf t = 0) : (t.Kind = 0 ∧ 1 ≤ t.Length ∧ t.Length ≤ 256) ∨ ((t.Kind = 1 ∨ t.Kind = 2) ∧ 1 ≤ t.Length ∧ t.Length ≤ 15) ∨ (t.Kind = 3 ∧ (t.Length = 4 ∨ t.Length = 9)) ∨ (t.Kind = 4 ∧ t.Length = 0) := by
 unfold zbf at h
 split at h
 · rename_i h0; split at h
   · rename_i h1; exact .inl ⟨h0, (zde.1 h1).1, (zde.1 h1).2⟩
   · cases h
 · split at h
   · rename_i h0; split at h
     · rename_i h1; exact .inr (.inl ⟨h0, (zde.1 h1).1, (zde.1 h1).2⟩)
     · cases h
   · split at h
     · rename_i h0; split at h
       · rename_i h1; exact .inr (.inr (.inl ⟨h0, h1⟩))
       · cases h
     · split at h
       · rename_i h0; split at h
         · rename_i h1; exact .inr (.inr (.inr ⟨h0, h1⟩))
         · cases h
       · cases h
def szE (t : DataType) : Int := if t.Kind = 1 then t.Length / 2 + 1 else if t.Kind = 3 then (if t.Length = 9 then 4 else 2) else if t.Kind = 4 then 16 else t.Length
theorem zo3 {t : DataType} (h : zbf t = 0) : 0 < szE t ∧ szE t ≤ 256 := by
 unfold szE
 rcases zir h with ⟨h0, h1, h2⟩ | ⟨h0 | h0, h1, h2⟩ | ⟨h0, h1 | h1⟩ | ⟨h0, h1⟩ <;> simp only [h0] <;> simp <;> omega
theorem zm8 {t : DataType} (h : zbf t = 0) : zc8 t = some (szE t) := by
 unfold zc8 szE
 rcases zir h with ⟨h0, h1, h2⟩ | ⟨h0 | h0, h1, h2⟩ | ⟨h0, h1 | h1⟩ | ⟨h0, h1⟩ <;> simp only [h0, h1, zcw, zpw] <;> simp
 · rw [tde, w6e (n := t.Length / 2), w6e]
 · decide
 · decide
theorem zx8 {t : DataType} (h : zbf t = 0) : zgc t = some (szE t) := by
 unfold zgc szE
 rcases zir h with ⟨h0, h1, h2⟩ | ⟨h0 | h0, h1, h2⟩ | ⟨h0, h1 | h1⟩ | ⟨h0, h1⟩ <;> simp only [h0, h1, zcw] <;> simp
 · rw [tde, w6e (n := t.Length / 2), w6e]
 · decide
 · decide
theorem z3y (N : Nat) (hN : 10 < N) {t : DataType} (h : zbf t = 0) : zhp N t = some (szE t) := by
 unfold zhp zdu
 rw [zry N hN, h]
 simp [zx8 h]
structure StoOk (s : Storage) : Prop where
 le : s.Bytes.size ≤ 1024
 quad : s.Bytes.size % 16 = 0
def zjl (s : Storage) (a : Int) : Bool := decide (0 ≤ a) && (decide (a % 16 = 0) && decide (a < (s.Bytes.size : Int)))
theorem zya (s : Storage) (a : Int) : zc2 s a = some (zjl s a) := by
 unfold zc2 zjl
 by_cases h : 0 ≤ a
 · rw [tme h]; simp only [ge_iff_le, h, decide_true, ctr, obs, zcw, Bool.true_and]; cases decide (a % 16 = 0) <;> rfl
 · simp [h]
theorem zx7 {s : Storage} (ok : StoOk s) (a : Int) : zec s a = some (zjl s a) := by
 have h1 := ok.le
 have h2 := ok.quad
 unfold zec zjl
 rw [w6e, zic]
 simp only [obs]
 by_cases h : 0 ≤ a
 · rw [tme h]; simp only [inB, h, decide_true, Bool.true_and, zcw]
   by_cases h3 : a % 16 = 0
   · have e : decide (a ≤ (s.Bytes.size : Int) - 16) = decide (a < (s.Bytes.size : Int)) := by
      by_cases h4 : a < (s.Bytes.size : Int)
      · rw [dct h4]; exact dct (by omega)
      · rw [dcf h4]; exact dcf (by omega)
     simp only [h3, decide_true, Bool.true_and, e]; cases decide (a < (s.Bytes.size : Int)) <;> rfl
   · simp only [h3, decide_false, Bool.false_and]; cases decide (a ≤ (s.Bytes.size : Int) - 16) <;> rfl
 · simp [inB, h]
def zhb (s : Storage) (p : zK) (n : Int) : Bool := if p.Based then zjl s p.Pointer && inB p.Offset 0 256 else inB p.Offset 0 ((s.Bytes.size : Int) - n)
theorem zww {s : Storage} (ok : StoOk s) (N : Nat) (hN : 10 < N) (p : zK) {t : DataType} (h : zbf t = 0) : zcr N s p t = some (zhb s p (szE t)) := by
 obtain ⟨h1, h2⟩ := zo3 h
 have h3 := ok.le
 unfold zcr zhb
 rw [zya, z3y N hN h, zn8]
 simp only [obs]
 rw [w6e]
 simp only [zn8, obs]
 cases p.Based <;> cases zjl s p.Pointer <;> simp
theorem zv9 {s : Storage} (ok : StoOk s) {c : zF} (hc : c.Storage = s) (p : zK) (hp : -9223372036854775808 ≤ p.Offset ∧ p.Offset ≤ 9223372036854775807) {t : DataType} (h : zbf t = 0) : zdo c p (szE t) = some (zhb s p (szE t)) := by
 obtain ⟨h1, h2⟩ := zo3 h
 have h3 := ok.le
 unfold zdo zhb ze5
 rw [hc]
 simp only [zx7 ok, zic, obs]
 cases p.Based with
 | true => cases zjl s p.Pointer <;> simp
 | false =>
  simp only [cfa]
  by_cases h4 : inB p.Offset 0 (s.Bytes.size : Int) = true
  · obtain ⟨h5, h6⟩ := zde.1 h4; rw [w6e]; simp only [h4, ctr, obs, Bool.false_eq_true, if_false]
    congr 1
    unfold inB; simp only [h5, decide_true, Bool.true_and, show (0 : Int) ≤ szE t by omega]
    by_cases h7 : szE t ≤ (s.Bytes.size : Int) - p.Offset
    · rw [dct h7]; exact (dct (by omega)).symm
    · rw [dcf h7]; exact (dcf (by omega)).symm
  · have e : inB p.Offset 0 (s.Bytes.size : Int) = false := by simpa using h4
    simp only [e, cfa, obs, Bool.false_eq_true, if_false]
    congr 1
    cases h5 : inB p.Offset 0 ((s.Bytes.size : Int) - szE t) with
    | false => rfl
    | true =>
     obtain ⟨h6, h7⟩ := zde.1 h5; exact absurd (zde.2 ⟨h6, by omega⟩) h4
def zp9 (n : Number) : Int := cond (inB n.N (-999999999999999) 999999999999999 && inB n.Scale 0 15) 0 3
theorem z0p (n : Number) : zew n = some (zp9 n) := by
 unfold zew zp9
 simp only [z2q, zx9, obs]
 cases inB n.N (-999999999999999) 999999999999999 <;> cases inB n.Scale 0 15 <;> rfl
theorem z0h (n : Number) : zd0 n = some (zp9 n) := by
 have w0 : w6 (3 * 0) = 0 := by decide
 have w1 : w6 (3 * 1) = 3 := by decide
 unfold zd0 zp9
 simp only [zic, zpw, obs]
 cases inB n.N (-999999999999999) 999999999999999 <;> cases inB n.Scale 0 15 <;> simp [w0, w1, zpw] <;> decide
def z2v (op : Int) (ins : Bool) : Option zR :=
 (idx zzk op).bind fun x1 => (cond (op == 4) (some ins) (some false)).bind fun g2 =>
  cond g2 (some (⟨(orI .i64 (orI .i64 (zyl .i64 x1.fields 4) 8) 64), x1.types⟩ : zR)) (some x1)
theorem z48 (x : zB) : zbi x = z2v x.Op x.zN := rfl
def z2n (op : Int) (ins : Bool) : Option zL := zdz ⟨op, 0, 0, 0, 0, ⟨false, 0, 0⟩, ⟨false, 0, 0⟩, ⟨0, 0, 0⟩, ⟨0, 0, 0⟩, false, ins, ⟨0, 0⟩, ⟨#[]⟩, ⟨#[]⟩, 0, 0, 0, 0⟩
theorem z4f (x : zB) : zdz x = z2n x.Op x.zN := rfl
structure Agree (f : zR) (u : zL) : Prop where
 R : (zl .i64 f.fields 1 != 0) = u.R
 A : (zl .i64 f.fields 2 != 0) = u.A
 B : (zl .i64 f.fields 4 != 0) = u.B
 Place : (zl .i64 f.fields 8 != 0) = u.Place
 From : (zl .i64 f.fields 16 != 0) = u.From
 zD : (zl .i64 f.fields 32 != 0) = (u.zD != 0)
 Second : (zl .i64 f.fields 64 != 0) = (u.Second != 0)
 Half : (zl .i64 f.fields 128 != 0) = u.Half
 Number : (zl .i64 f.fields 256 != 0) = u.Number
 Text : (zl .i64 f.fields 512 != 0) = u.Text
 Other : (zl .i64 f.fields 1024 != 0) = u.Other
 Mask : (zl .i64 f.fields 2048 != 0) = u.Mask
 Target : (zl .i64 f.fields 4096 != 0) = u.Target
 Pointer : (zl .i64 f.fields 8192 != 0) = u.Pointer
 Source : (zl .i64 f.fields 16384 != 0) = u.Source
 Calc : (zl .i64 f.fields 32768 != 0) = u.zO
 class1 : u.zD = 0 ∨ u.zD = f.types
 class2 : u.Second = 0 ∨ u.Second = f.types
 cls : f.types = 0 ∨ f.types = 1 ∨ f.types = 2 ∨ f.types = 3
def zxh (f : zR) (u : zL) : Bool :=
 ((zl .i64 f.fields 1 != 0) == u.R) && (((zl .i64 f.fields 2 != 0) == u.A) && (((zl .i64 f.fields 4 != 0) == u.B) && (((zl .i64 f.fields 8 != 0) == u.Place) && (((zl .i64 f.fields 16 != 0) == u.From) &&
 (((zl .i64 f.fields 32 != 0) == (u.zD != 0)) && (((zl .i64 f.fields 64 != 0) == (u.Second != 0)) && (((zl .i64 f.fields 128 != 0) == u.Half) && (((zl .i64 f.fields 256 != 0) == u.Number) && (((zl .i64 f.fields 512 != 0) == u.Text) &&
 (((zl .i64 f.fields 1024 != 0) == u.Other) && (((zl .i64 f.fields 2048 != 0) == u.Mask) && (((zl .i64 f.fields 4096 != 0) == u.Target) && (((zl .i64 f.fields 8192 != 0) == u.Pointer) && (((zl .i64 f.fields 16384 != 0) == u.Source) &&
 (((zl .i64 f.fields 32768 != 0) == u.zO) && ((u.zD == 0 || u.zD == f.types) && ((u.Second == 0 || u.Second == f.types) && (f.types == 0 || (f.types == 1 || (f.types == 2 || f.types == 3))))))))))))))))))))
theorem z2l {f : zR} {u : zL} (h : zxh f u = true) : Agree f u := by
 simp only [zxh, Bool.and_eq_true, beq_iff_eq, Bool.or_eq_true] at h
 obtain ⟨h1, h2, h3, h4, h5, h6, h7, h8, h9, h10, h11, h12, h13, h14, h15, h16, h17, h18, h19⟩ := h
 exact ⟨h1, h2, h3, h4, h5, h6, h7, h8, h9, h10, h11, h12, h13, h14, h15, h16, h17, h18, h19⟩
def zze (op : Int) (ins : Bool) : Bool := match z2v op ins, z2n op ins with
 | some f, some u => (zxh f u && ((!u.From || u.Second != 0) && (!u.Place || cond (op == 4) (u.Second != 0) (u.zD != 0)))) && (cond (op == 4) (u.R && u.A && u.zO && (u.Place == ins) && (u.Second != 0) == ins) (u.zO == false))
 | _, _ => false
theorem z4v : ((List.range 27).all fun k => zze (k : Int) true && zze (k : Int) false) = true := by kernel_rfl
theorem zva (x : zB) (h : inB x.Op 0 26 = true) : ∃ f u, zbi x = some f ∧ zdz x = some u ∧ Agree f u ∧ (x.Op = 4 → u.Place = x.zN) ∧ (u.From = true → u.Second ≠ 0) ∧ (u.Place = true → if x.Op = 4 then u.Second ≠ 0 else u.zD ≠ 0) := by
 obtain ⟨h1, h2⟩ := zde.1 h
 obtain ⟨k, hk⟩ : ∃ k : Nat, x.Op = (k : Int) := ⟨x.Op.toNat, by omega⟩
 have hlt : k < 27 := by omega
 have h3 := List.all_eq_true.1 z4v k (by simpa using hlt)
 have h4 : zze x.Op x.zN = true := by
  rw [hk]; cases x.zN
  · exact ((Bool.and_eq_true _ _).mp h3).2
  · exact ((Bool.and_eq_true _ _).mp h3).1
 rw [z48, z4f]
 unfold zze at h4
 split at h4
 · rename_i f u hf hu; obtain ⟨h5, h6⟩ := (Bool.and_eq_true _ _).mp h4; simp only [Bool.and_eq_true] at h5; obtain ⟨h5, h8, h9⟩ := h5; refine ⟨f, u, hf, hu, z2l h5, fun h7 => ?_, fun h7 => ?_, fun h7 => ?_⟩
   · rw [h7] at h6; simp only [bst, ctr, Bool.and_eq_true, beq_iff_eq] at h6; exact h6.1.2
   · rw [h7] at h8; simpa using h8
   · rw [h7] at h9; split
     · rename_i h10; rw [h10] at h9; simpa using h9
     · rename_i h10; rw [zcw, dcf h10] at h9; simpa using h9
 · cases h4
theorem zpk (a b : Int) : (a == b) = !(a != b) := by simp [bne]
def zkl (x : zB) (u : zL) : Bool :=
 (!u.R && x.R != 0) || ((!u.A && x.A != 0) || ((!u.B && x.B != 0) || ((!u.zO && x.zO != 0) || ((!u.Place && !(!x.Place.Based && (x.Place.Pointer == 0 && x.Place.Offset == 0))) ||
 ((!u.From && !(!x.From.Based && (x.From.Pointer == 0 && x.From.Offset == 0))) || ((u.zD == 0 && !(x.zD.Kind == 0 && (x.zD.Length == 0 && x.zD.Scale == 0))) || ((u.Second == 0 && !(x.Second.Kind == 0 && (x.Second.Length == 0 && x.Second.Scale == 0))) ||
 ((!u.Half && x.Half) || ((x.Op != 4 && x.zN) || ((!u.Number && !(x.Number.N == 0 && x.Number.Scale == 0)) || ((!u.Text && !(x.Text.toList == [])) || ((!u.Other && !(x.Other.toList == [])) ||
 ((!u.Mask && x.Mask != 0) || ((!u.Target && x.Target != 0) || ((!u.Pointer && x.Pointer != 0) || ((!u.Source && x.Source != 0) || ((!x.Place.Based && x.Place.Pointer != 0) || (!x.From.Based && x.From.Pointer != 0))))))))))))))))))
theorem orB (a b : Bool) : (cond a (some true) (some b)) = some (a || b) := by cases a <;> rfl
theorem zhn (a b : Bool) : (cond a (some b) (some false)) = some (a && b) := by cases a <;> rfl
theorem z1u (x : zB) (u : zL) : zgw x u = some (zkl x u) := by
 unfold zgw zkl
 have e : (⟨#[]⟩ : ByteArray).toList = [] := by kernel_rfl
 simp only [zhn, orB, obs, zdb, Bool.and_true, e, Bool.or_assoc, beq_false]
def zmm (p : zK) (b : Bool) : zK := cond b (cond p.Based p ⟨p.Based, 0, p.Offset⟩) ⟨false, 0, 0⟩
theorem z0u (p : zK) (b : Bool) : zf2 p b = some (zmm p b) := by
 unfold zf2 zmm
 cases b <;> cases p.Based <;> rfl
theorem z6c (k v fl : Int) : zb2 k v fl = some (cond (zl .i64 fl k != 0) v 0) := by
 unfold zb2
 rw [zpk]
 cases (zl .i64 fl k != 0) <;> rfl
def zvn (x : zB) (u : zL) : zB :=
 ⟨x.Op, cond u.R x.R 0, cond u.A x.A 0, cond u.B x.B 0, cond u.zO x.zO 0, zmm x.Place u.Place, zmm x.From u.From, cond (u.zD != 0) x.zD ⟨0, 0, 0⟩, cond (u.Second != 0) x.Second ⟨0, 0, 0⟩,
  cond x.Half u.Half false, cond x.zN (x.Op == 4) false, cond u.Number x.Number ⟨0, 0⟩, cond u.Text x.Text ⟨#[]⟩, cond u.Other x.Other ⟨#[]⟩, cond u.Mask x.Mask 0, cond u.Target x.Target 0, cond u.Pointer x.Pointer 0, cond u.Source x.Source 0⟩
theorem z30 {x : zB} {f : zR} {u : zL} (hf : zbi x = some f) (ag : Agree f u) : zhq x = some (zvn x u) := by
 have b2 : ∀ a b : Bool, (cond a (some b) (some false)) = some (cond a b false) := fun a b => by cases a <;> rfl
 unfold zhq zvn
 simp only [hf, z6c, z0u, b2, obs, zpk (zl .i64 f.fields 32), zpk (zl .i64 f.fields 64), zpk (zl .i64 f.fields 256), zpk (zl .i64 f.fields 512), zpk (zl .i64 f.fields 1024),
  ag.R, ag.A, ag.B, ag.Place, ag.From, ag.zD, ag.Second, ag.Half, ag.Number, ag.Text, ag.Other, ag.Mask, ag.Target, ag.Pointer, ag.Source, ag.Calc]
 cases (u.zD != 0) <;> cases (u.Second != 0) <;> cases u.Number <;> cases u.Text <;> cases u.Other <;> rfl
theorem z58 (b : Bool) (n : Int) : (!(cond b n 0 == n)) = (!b && n != 0) := by
 cases b
 · by_cases h : n = 0
   · simp [h]
   · simp [h, zcw, zdh, Ne.symm h]
 · simp
theorem z6j (a b : ByteArray) : (a == b) = decide (a = b) := by
 cases a with | mk x =>
 cases b with | mk y =>
 show ByteArray.beq _ _ = _
 unfold ByteArray.beq
 by_cases h : x = y
 · simp [h]
 · simp [h]
theorem z57 (b : Bool) (t : ByteArray) : (!(cond b t (⟨#[]⟩ : ByteArray) == t)) = (!b && !(t.toList == [])) := by
 rw [z6j]
 cases b
 · simp only [cfa, Bool.not_false, Bool.true_and]
   congr 1
   rw [Lib.toList_data]
   by_cases h : t = ⟨#[]⟩
   · subst h; rfl
   · rw [dcf (Ne.symm h)]
     symm
     rw [beq_eq_false_iff_ne]; intro hh; apply h; cases t with
     | mk d => simp at hh; rw [hh]
 · simp
theorem z6a (a b : Bool) : (!(cond a b false == a)) = (!b && a) := by cases a <;> cases b <;> rfl
theorem z59 (a : Bool) (op : Int) : (!(cond a (op == 4) false == a)) = (op != 4 && a) := by
 cases a
 · simp
 · simp [bne]
theorem z2r (p : zK) (b r : Bool) : (!((zmm p b).Based == p.Based) || (!((zmm p b).Pointer == p.Pointer) || (!((zmm p b).Offset == p.Offset) || r))) =
 ((!b && !(!p.Based && (p.Pointer == 0 && p.Offset == 0))) || ((!p.Based && p.Pointer != 0) || r)) := by
 obtain ⟨ba, pt, of⟩ := p
 cases b <;> cases ba <;> by_cases h1 : pt = 0 <;> by_cases h2 : of = 0 <;> simp [zmm, zcw, zdh, h1, h2, eq_comm (a := (0 : Int))]
theorem z2s (t : DataType) (b : Int) (r : Bool) : (!((cond (b != 0) t ⟨0, 0, 0⟩).Kind == t.Kind) || (!((cond (b != 0) t ⟨0, 0, 0⟩).Length == t.Length) || (!((cond (b != 0) t ⟨0, 0, 0⟩).Scale == t.Scale) || r))) =
 ((b == 0 && !(t.Kind == 0 && (t.Length == 0 && t.Scale == 0))) || r) := by
 obtain ⟨k, l, s⟩ := t
 by_cases h0 : b = 0 <;> by_cases h1 : k = 0 <;> by_cases h2 : l = 0 <;> by_cases h3 : s = 0 <;> simp [zcw, zdh, h0, h1, h2, h3, eq_comm (a := (0 : Int))]
theorem z56 (t : Number) (b r : Bool) : (!((cond b t ⟨0, 0⟩).N == t.N) || (!((cond b t ⟨0, 0⟩).Scale == t.Scale) || r)) = ((!b && !(t.N == 0 && t.Scale == 0)) || r) := by
 obtain ⟨n, s⟩ := t
 cases b <;> by_cases h1 : n = 0 <;> by_cases h2 : s = 0 <;> simp [zcw, zdh, h1, h2, eq_comm (a := (0 : Int))]
theorem zzh (x : zB) (u : zL) (r2 : zB) (h : r2 = zvn x u) :
 (!(zdb [(r2.Op == x.Op), (r2.R == x.R), (r2.A == x.A), (r2.B == x.B), (r2.zO == x.zO), (r2.Place.Based == x.Place.Based), (r2.Place.Pointer == x.Place.Pointer), (r2.Place.Offset == x.Place.Offset), (r2.From.Based == x.From.Based), (r2.From.Pointer == x.From.Pointer), (r2.From.Offset == x.From.Offset), (r2.zD.Kind == x.zD.Kind), (r2.zD.Length == x.zD.Length), (r2.zD.Scale == x.zD.Scale), (r2.Second.Kind == x.Second.Kind), (r2.Second.Length == x.Second.Length), (r2.Second.Scale == x.Second.Scale), (r2.Half == x.Half), (r2.zN == x.zN), (r2.Number.N == x.Number.N), (r2.Number.Scale == x.Number.Scale), (r2.Text == x.Text), (r2.Other == x.Other), (r2.Mask == x.Mask), (r2.Target == x.Target), (r2.Pointer == x.Pointer), (r2.Source == x.Source)])) = zkl x u := by
 subst h
 simp only [zdb, Bool.not_and, zvn]
 rw [z2r x.Place, z2r x.From, z2s x.zD, z2s x.Second, z56 x.Number]
 simp only [z58, z57, z6a, z59, bst, bnt, Bool.false_or, Bool.or_false, zkl, bne]
 ac_rfl
def zdf (t : DataType) (c : Int) : Int := if c = 0 then 0 else if zbf t = 0 then (if (c = 1 ∧ ¬ (1 ≤ t.Kind ∧ t.Kind ≤ 3)) ∨ (c = 2 ∧ t.Kind ≠ 0) ∨ (c = 3 ∧ t.Kind = 4) then 17 else 0) else zbf t
theorem zld {t : DataType} {c : Int} (h : zdf t c = 0) (hc : c ≠ 0) : zbf t = 0 := by
 unfold zdf at h
 rw [ifn hc] at h
 by_cases h0 : zbf t = 0
 · exact h0
 · rw [ifn h0] at h; exact absurd h h0
theorem zt6 (N : Nat) (hN : 10 < N) (t : DataType) (c : Int) (hc : c = 1 ∨ c = 2 ∨ c = 3) : zee N t c = some (zdf t c) := by
 have f2 : ∀ a b : Int, zao N [a, b] = some (ze2 [a, b]) := fun a b => zs7 N _ (by simp; omega) (by simp)
 unfold zee zdf
 rw [zry N hN]
 simp only [zpb, f2, zhn, orB, obs, zcw, zdh]
 have hc0 : c ≠ 0 := by omega
 rw [ifn hc0]
 by_cases h : zbf t = 0
 · rw [ifp h, h]; simp only [ze2, if_true]; rcases zir h with ⟨h0, _⟩ | ⟨h0 | h0, _⟩ | ⟨h0, _⟩ | ⟨h0, _⟩ <;> rcases hc with rfl | rfl | rfl <;> simp [h0]
 · rw [ifn h]; simp only [ze2, h, if_false]
theorem ztv (t : DataType) (c : Int) (hc : c = 0 ∨ c = 1 ∨ c = 2 ∨ c = 3) : zgi t c = some (zdf t c) := by
 unfold zgi zdf
 rw [zx5]
 simp only [zpv, zhn, orB, obs, zcw, zdh]
 by_cases hc0 : c = 0
 · simp [hc0]
 · rw [ifn hc0]; simp only [hc0, decide_false, cfa]
   by_cases h : zbf t = 0
   · rw [ifp h, h]; rcases zir h with ⟨h0, _⟩ | ⟨h0 | h0, _⟩ | ⟨h0, _⟩ | ⟨h0, _⟩ <;> rcases hc with rfl | rfl | rfl | rfl <;> first | exact absurd rfl hc0 | simp [h0, inB]
   · rw [ifn h]; simp [h]
theorem z17 (N : Nat) (hN : 10 < N) {x : zB} {f : zR} {u : zL} (ag : Agree f u) : zfm N x f = some (ze2 [zdf x.zD u.zD, zdf x.Second u.Second]) := by
 have w0 : ∀ t, zdf t 0 = 0 := fun t => by simp [zdf]
 have hcls : ∀ c, c ≠ 0 → (c = 0 ∨ c = f.types) → c = f.types ∧ (f.types = 1 ∨ f.types = 2 ∨ f.types = 3) := by
  intro c h0 h1; have := ag.cls; omega
 have eta : ∀ t : DataType, (⟨t.Kind, t.Length, t.Scale⟩ : DataType) = t := fun t => rfl
 unfold zfm
 rw [ag.zD, ag.Second]
 by_cases h1 : u.zD = 0
 · by_cases h2 : u.Second = 0
   · simp [h1, h2, w0, ze2]
   · obtain ⟨e2, c2⟩ := hcls _ h2 ag.class2; have ht := fun t => zt6 N hN t f.types c2; have h0 : f.types ≠ 0 := by omega
     simp only [eta, ht, h1, e2, w0]
     by_cases h3 : zdf x.Second f.types = 0 <;> simp [h3, h0, ze2, zdh]
 · obtain ⟨e1, c1⟩ := hcls _ h1 ag.class1; have ht := fun t => zt6 N hN t f.types c1; have h0 : f.types ≠ 0 := by omega
   by_cases h2 : u.Second = 0
   · simp only [eta, ht, h2, e1, w0]
     by_cases h3 : zdf x.zD f.types = 0 <;> simp [h3, h0, ze2, zdh]
   · obtain ⟨e2, c2⟩ := hcls _ h2 ag.class2; simp only [eta, ht, e2, e1]
     by_cases h3 : zdf x.zD f.types = 0 <;> by_cases h4 : zdf x.Second f.types = 0 <;> simp [h3, h4, h0, ze2, zdh]
def zly (x : zB) (u : zL) : List Int := cond u.R [x.R] [] ++ (cond u.A [x.A] [] ++ cond u.B [x.B] [])
theorem z3z (n : Nat) {x : zB} {f : zR} {u : zL} (hf : zbi x = some f) (ag : Agree f u) : zw (n + 10) x = some (zly x u) := by
 have s0 : w6 (1 * 2 ^ (min ((0 : Int).toNat) 64)) = 1 := by decide
 have s1 : w6 (1 * 2 ^ (min ((1 : Int).toNat) 64)) = 2 := by decide
 have s2 : w6 (1 * 2 ^ (min ((2 : Int).toNat) 64)) = 4 := by decide
 have a0 : w6 (0 + 1) = 1 := by decide
 have a1 : w6 (1 + 1) = 2 := by decide
 have a2 : w6 (2 + 1) = 3 := by decide
 have rm : ∀ k : Nat, k ≤ 3 → Nat.ble (k * 8) zak = true := fun k hk => Nat.ble_eq_true_of_le (by unfold zak; omega)
 unfold zw
 rw [hf]
 simp only [obs]
 have i0 : ∀ l, zw.r0 (n + 10) (l, f.fields, [x.R, x.A, x.B], (([x.R, x.A, x.B] : List Int).length : Int), 0) = some (.again (cond u.R (l ++ [x.R]) l, f.fields, [x.R, x.A, x.B], (([x.R, x.A, x.B] : List Int).length : Int), 1)) ∨ l.length > 2 := by
  intro l
  by_cases hl : l.length > 2
  · exact .inr hl
  · left; simp only [zw.r0, zw.b0, s0, a0, ag.R]; have := rm (l.length + 1) (by omega); cases u.R <;> simp [this]
 have i1 : ∀ l, zw.r0 (n + 10) (l, f.fields, [x.R, x.A, x.B], (([x.R, x.A, x.B] : List Int).length : Int), 1) = some (.again (cond u.A (l ++ [x.A]) l, f.fields, [x.R, x.A, x.B], (([x.R, x.A, x.B] : List Int).length : Int), 2)) ∨ l.length > 2 := by
  intro l
  by_cases hl : l.length > 2
  · exact .inr hl
  · left; simp only [zw.r0, zw.b0, s1, a1, ag.A]; have := rm (l.length + 1) (by omega); cases u.A <;> simp [this]
 have i2 : ∀ l, zw.r0 (n + 10) (l, f.fields, [x.R, x.A, x.B], (([x.R, x.A, x.B] : List Int).length : Int), 2) = some (.again (cond u.B (l ++ [x.B]) l, f.fields, [x.R, x.A, x.B], (([x.R, x.A, x.B] : List Int).length : Int), 3)) ∨ l.length > 2 := by
  intro l
  by_cases hl : l.length > 2
  · exact .inr hl
  · left; simp only [zw.r0, zw.b0, s2, a2, ag.B]; have := rm (l.length + 1) (by omega); cases u.B <;> simp [this]
 have i3 : ∀ l, zw.r0 (n + 10) (l, f.fields, [x.R, x.A, x.B], (([x.R, x.A, x.B] : List Int).length : Int), 3) = some (.leave (l, f.fields, [x.R, x.A, x.B], (([x.R, x.A, x.B] : List Int).length : Int), 3)) := by
  intro l; simp [zw.r0, zw.b0]
 have l1 : (cond u.R ([] ++ [x.R]) ([] : List Int)).length ≤ 1 := by cases u.R <;> simp
 have l2 : (cond u.A (cond u.R ([] ++ [x.R]) ([] : List Int) ++ [x.A]) (cond u.R ([] ++ [x.R]) ([] : List Int))).length ≤ 2 := by cases u.R <;> cases u.A <;> simp
 show (zf (zw.r0 (n + 10)) (n + 10) _).bind _ = _
 simp only [zf]
 rw [(i0 []).resolve_right (by simp)]
 simp only [obs]
 rw [(i1 _).resolve_right (by omega)]
 simp only [obs]
 rw [(i2 _).resolve_right (by omega)]
 simp only [obs]
 rw [i3]
 simp only [obs, zly]
 cases u.R <;> cases u.A <;> cases u.B <;> rfl
def zez (m : zI) (r : Int) : Bool := !inB r 0 (m.Registers - 1)
theorem zxx (N : Nat) (l : List Int) (h : l.length < N) (hl : l.length < 1000000000) (m : zI) (hm : 2 ≤ m.Registers ∧ m.Registers ≤ 8) : zcl N l m = some (l.any (zez m)) := by
 unfold zcl zae
 have c1 : ∀ r, zex r m = some (zez m r) := fun r => by
  unfold zex zez; rw [w6e, zn8]; rfl
 have := zca (f := zae.r0 N) (fun i => (l, (l.length : Int), (i : Int), m)) (fun i => (l[i]?).bind fun x => if zez m x then some (i : Int) else none) l.length
  (fun i hi => by
   have hx := lge hi; simp only [zae.r0, zae.b0, zan, hx, obs, dct (show (i : Int) < (l.length : Int) by omega), ctr, c1]; rw [w6e]; cases hb : zez m l[i] <;> simp)
  (by simp only [zae.r0, zae.b0, dcf (show ¬ (l.length : Int) < (l.length : Int) by omega), cfa]) h
 simp only [nc0] at this
 rw [this]
 simp only [obs]
 cases hfs : (List.range l.length).findSome? (fun i : Nat => (l[i]?).bind fun x => if zez m x = true then some (i : Int) else none) with
 | some r =>
  simp only [zaz, obs]; obtain ⟨i, hi, hr⟩ := eof hfs; rw [Option.bind_eq_some_iff] at hr; obtain ⟨x, hx, hr⟩ := hr; split at hr
  · rename_i hb; cases hr; have : l.any (zez m) = true := List.any_eq_true.2 ⟨x, lmg hx, hb⟩; rw [this]; simp
  · cases hr
 | none =>
  simp only [zaz, obs]; rw [List.findSome?_eq_none_iff] at hfs; have : l.any (zez m) = false := by
   rw [List.any_eq_false]; intro x hx hb; obtain ⟨i, hi⟩ := List.getElem?_of_mem hx; have := hfs i (by simp; exact (gei hi).1); rw [hi] at this; simp [hb] at this
  rw [this]; rfl
theorem z3g (m : zI) (hm : 2 ≤ m.Registers ∧ m.Registers ≤ 8) {x : zB} {u : zL} (hu : zdz x = some u) : zeb m x = some (!(zly x u).any (zez m)) := by
 have c1 : ∀ r, zea m r = some (!zez m r) := fun r => by
  unfold zea zez; rw [w6e, zic]; simp
 unfold zeb
 rw [hu]
 have aux : ∀ b r, (cond b [r] []).any (zez m) = (b && zez m r) := fun b r => by cases b <;> simp
 simp only [c1, obs, zly, List.any_append, aux]
 generalize zez m x.R = p
 generalize zez m x.A = q
 generalize zez m x.B = r
 cases u.R <;> cases u.A <;> cases u.B <;> cases p <;> cases q <;> cases r <;> rfl
def zj7 (x : zB) : DataType := if x.Op = 4 then x.Second else x.zD
def zky (m : zI) (c : zF) (x : zB) (u : zL) : Bool :=
 (zly x u).any (zez m) || ((u.Target && !inB x.Target 0 ((c.zC.length : Int) - 1)) || ((u.Mask && !inB x.Mask 1 7) || ((u.Pointer && !zjl c.Storage x.Pointer) || ((u.Source && !zjl c.Storage x.Source) ||
  ((u.Place && !zhb c.Storage x.Place (szE (zj7 x))) || ((u.From && !zhb c.Storage x.From (szE x.Second)) || (u.zO && !inB x.zO 0 4)))))))
theorem eD (t : DataType) : (⟨t.Kind, t.Length, t.Scale⟩ : DataType) = t := rfl
theorem eP (t : zK) : (⟨t.Based, t.Pointer, t.Offset⟩ : zK) = t := rfl
theorem eS (t : Storage) : (⟨t.Bytes, t.Tags⟩ : Storage) = t := rfl
theorem eN (t : Number) : (⟨t.N, t.Scale⟩ : Number) = t := rfl
theorem eM (t : zI) : (⟨t.Registers, t.yB, t.zZ⟩ : zI) = t := rfl
theorem eC (t : zF) : (⟨t.Storage, t.zC, t.zQ⟩ : zF) = t := rfl
theorem eX (t : zB) : (⟨t.Op, t.R, t.A, t.B, t.zO, t.Place, t.From, t.zD, t.Second, t.Half, t.zN, t.Number, t.Text, t.Other, t.Mask, t.Target, t.Pointer, t.Source⟩ : zB) = t := rfl
theorem eF (t : zR) : (⟨t.fields, t.types⟩ : zR) = t := rfl
theorem nF (a b : Bool) : (cond a (some (!b)) (some false)) = some (a && !b) := by cases a <;> rfl
structure InsOk (c : zF) (x : zB) (u : zL) : Prop where
 sto : StoOk c.Storage
 len : c.zC.length < 1000000000
 pt : u.Place = true → zbf (zj7 x) = 0
 ft : u.From = true → zbf x.Second = 0
 po : -9223372036854775808 ≤ x.Place.Offset ∧ x.Place.Offset ≤ 9223372036854775807
 fo : -9223372036854775808 ≤ x.From.Offset ∧ x.From.Offset ≤ 9223372036854775807
theorem zzz {a b : Bool} {o : Option Bool} (h : a = true → o = some b) : (cond a o (some false)) = some (a && b) := by
 cases a
 · rfl
 · exact h rfl
theorem z18 (N : Nat) (hN : 20 < N) {m : zI} (hm : 2 ≤ m.Registers ∧ m.Registers ≤ 8) {c : zF} {x : zB} {f : zR} {u : zL} (hf : zbi x = some f) (ag : Agree f u) (ok : InsOk c x u) :
 zf3 N m c x = some (!zky m c x u) := by
 obtain ⟨n, rfl⟩ : ∃ n, N = n + 10 := ⟨N - 10, by omega⟩
 have hl : (zly x u).length ≤ 3 := by unfold zly; cases u.R <;> cases u.A <;> cases u.B <;> simp
 have hlen := ok.len
 have g1 : ∀ p t, (u.Place = true → zbf t = 0) → (cond u.Place ((zcr (n + 10) c.Storage p t).bind fun r => some (!r)) (some false)) = some (u.Place && !zhb c.Storage p (szE t)) := fun p t h => zzz fun hp => by rw [zww ok.sto _ (by omega) _ (h hp)]; rfl
 have g2 : ∀ p t, (u.From = true → zbf t = 0) → (cond u.From ((zcr (n + 10) c.Storage p t).bind fun r => some (!r)) (some false)) = some (u.From && !zhb c.Storage p (szE t)) := fun p t h => zzz fun hp => by rw [zww ok.sto _ (by omega) _ (h hp)]; rfl
 unfold zf3
 try simp only [eD, eP, eS, eM, eC, eX]
 rw [hf, z3z n hf ag]
 simp only [obs]
 rw [zxx _ _ (by omega) (by omega) m hm]
 simp only [obs]
 unfold zky
 cases hr : (zly x u).any (zez m) with
 | true => rfl
 | false =>
  simp only [cfa, Bool.false_or, ag.Place, ag.From, ag.Target, ag.Mask, ag.Pointer, ag.Source, ag.Calc, zhn, zcw, obs]; rw [w6e]; simp only [zn8, zya, nF, obs]
  by_cases h4 : x.Op = 4
  · have hp : zj7 x = x.Second := ifp h4; have k := ok.pt; rw [hp] at k ⊢; rw [g2 _ _ ok.ft]; cases hup : u.Place with
    | true =>
     simp only [h4, decide_true, Bool.and_true, ctr, Bool.true_and]; have := g1 x.Place x.Second k; rw [hup] at this; simp only [ctr, Bool.true_and] at this; rw [this]; simp only [orB, obs, Bool.or_assoc, Bool.true_and]
    | false =>
     simp only [h4, decide_true, Bool.false_and, cfa, obs, orB, Bool.or_assoc, Bool.false_or]
  · have hp : zj7 x = x.zD := ifn h4; have k := ok.pt; rw [hp] at k ⊢; rw [g1 _ _ k, g2 _ _ ok.ft]; simp only [h4, decide_false, Bool.and_false, cfa, obs, orB, Bool.or_assoc]
def zmp (m : zI) (x : zB) : Bool := (decide (x.Op = 7) && !m.yB) || (x.zN && !m.zZ)
def zn4 (x : zB) : Bool := decide ((x.Text.size : Int) > 256) || decide ((x.Other.size : Int) > 256)
theorem z42 (m : zI) (x : zB) (h : x.zN = true → x.Op = 4) : zge m x = some (!zmp m x) := by
 unfold zge zmp
 by_cases h7 : x.Op = 7
 · have h4 : x.zN = false := by
    cases hi : x.zN with
    | false => rfl
    | true => have := h hi; omega
   rw [h4]; simp only [h7, zdh]; cases m.yB <;> rfl
 · by_cases h4 : x.Op = 4
   · simp only [h4, zdh]; cases x.zN <;> cases m.zZ <;> rfl
   · have h5 : x.zN = false := by
      cases hi : x.zN with
      | false => rfl
      | true => exact absurd (h hi) h4
     simp [h5, h7, h4, zdh]
theorem z1t (m : zI) (x : zB) : zi8 m x = some (zmp m x) := by
 unfold zi8 zmp
 simp only [zcw]
 cases decide (x.Op = 7) <;> cases m.yB <;> cases x.zN <;> cases m.zZ <;> rfl
def zs6 (m : zI) (c : zF) (x : zB) (u : zL) : Int :=
 cond (zkl x u) 5 (cond (zmp m x) 39 (if zdf x.zD u.zD ≠ 0 then zdf x.zD u.zD else if zdf x.Second u.Second ≠ 0 then zdf x.Second u.Second else
  cond (zky m c x u) 3 (if zp9 x.Number ≠ 0 then zp9 x.Number else cond (zn4 x) 2 0)))
theorem zsh {x : zB} {u : zL} (h : zkl x u = false) : (x.zN = true → x.Op = 4) ∧ (u.Number = false → zp9 x.Number = 0) := by
 unfold zkl at h
 simp only [Bool.or_eq_false_iff] at h
 obtain ⟨_, _, _, _, _, _, _, _, _, h10, h11, _⟩ := h
 constructor
 · intro hi; rw [hi] at h10; simpa using h10
 · intro hn; rw [hn] at h11; simp only [Bool.not_false, Bool.true_and, Bool.not_eq_eq_eq_not, bnt, Bool.and_eq_true, beq_iff_eq, Bool.not_eq_false'] at h11; obtain ⟨e1, e2⟩ : x.Number.N = 0 ∧ x.Number.Scale = 0 := by simpa using h11
   unfold zp9; rw [e1, e2]
   decide
theorem z41 (N : Nat) (hN : 20 < N) {m : zI} (hm : 2 ≤ m.Registers ∧ m.Registers ≤ 8) {c : zF} {x : zB} {f : zR} {u : zL} (hop : inB x.Op 0 26 = true) (hf : zbi x = some f) (ag : Agree f u)
 (ok : zdf x.zD u.zD = 0 → zdf x.Second u.Second = 0 → InsOk c x u) : zcd N m c x = some (zs6 m c x u) := by
 have f3 : ∀ a b d : Int, zao N [a, b, d] = some (ze2 [a, b, d]) := fun a b d => zs7 N _ (by simp; omega) (by simp)
 unfold zcd zs6
 try simp only [eD, eP, eS, eM, eC, eX, eN, eF]
 rw [zn8, hop, hf, z30 hf ag]
 simp only [obs, bnt, cfa]
 rw [z17 N (by omega) ag]
 rw [zzh x u _ rfl]
 simp only [zpb, z0p, obs, f3, orB]
 cases he : zkl x u with
 | true =>
  have hx : ∃ b, zge m x = some b := by
   unfold zge; cases (x.Op != 7) <;> cases m.yB <;> cases (x.Op != 4) <;> cases x.zN <;> cases m.zZ <;> exact ⟨_, rfl⟩
  obtain ⟨b, hb⟩ := hx; rw [hb]; simp [ze2]
 | false =>
  obtain ⟨h1, h2⟩ := zsh he; rw [z42 m x h1]; simp only [obs, Bool.not_not, cfa]; cases zmp m x with
  | true => simp [ze2]
  | false =>
   simp only [cfa]
   by_cases e1 : zdf x.zD u.zD = 0
   · by_cases e2 : zdf x.Second u.Second = 0
     · rw [z18 N hN hm hf ag (ok e1 e2)]; simp only [e1, e2, ze2, if_true, obs, Bool.not_not]; cases zky m c x u with
       | true => simp
       | false =>
        by_cases e3 : zp9 x.Number = 0
        · cases hl : zn4 x with
          | true => unfold zn4 at hl; simp [e3, hl]
          | false => unfold zn4 at hl; simp [e3, hl]
        · simp [e3]
     · simp [ze2, e1, e2, zdh]
   · simp [ze2, e1, zdh]
theorem z38 {f : zR} {u : zL} (ag : Agree f u) : (u.zD = 0 ∨ u.zD = 1 ∨ u.zD = 2 ∨ u.zD = 3) ∧ (u.Second = 0 ∨ u.Second = 1 ∨ u.Second = 2 ∨ u.Second = 3) := by
 have h1 := ag.class1
 have h2 := ag.class2
 have h3 := ag.cls
 omega
theorem z4m {m : zI} (hm : 2 ≤ m.Registers ∧ m.Registers ≤ 8) {c : zF} {x : zB} {f : zR} {u : zL} (hop : inB x.Op 0 26 = true) (hu : zdz x = some u) (ag : Agree f u)
 (ok : zdf x.zD u.zD = 0 → zdf x.Second u.Second = 0 → InsOk c x u) : zc1 m c x = some (zs6 m c x u) := by
 obtain ⟨c1, c2⟩ := z38 ag
 unfold zc1 zs6
 try simp only [eD, eP, eS, eM, eC, eX, eN, eF]
 rw [zic, hop, hu]
 simp only [obs, bnt, cfa]
 rw [z1u, z1t, ztv _ _ c1, ztv _ _ c2, z3g m hm hu]
 simp only [obs]
 cases he : zkl x u with
 | true => rfl
 | false =>
  obtain ⟨h1, h2⟩ := zsh he; simp only [cfa]; cases zmp m x with
  | true => rfl
  | false =>
   simp only [cfa]
   by_cases e1 : zdf x.zD u.zD = 0
   · by_cases e2 : zdf x.Second u.Second = 0
     · have o := ok e1 e2; have hlen := o.len; have hb : ∀ t, zbf t = 0 → zc8 t = some (szE t) := fun t h => zm8 h; have g1 : ∀ t, (u.Place = true → zbf t = 0) → (cond u.Place ((zc8 t).bind fun r => (zdo c x.Place r).bind fun r => some (!r)) (some false)) = some (u.Place && !zhb c.Storage x.Place (szE t)) := fun t h => zzz fun hp => by rw [zm8 (h hp)]; simp only [obs]; rw [zv9 o.sto rfl _ o.po (h hp)]; rfl
       have g2 : (cond u.From ((zc8 x.Second).bind fun r => (zdo c x.From r).bind fun r => some (!r)) (some false)) = some (u.From && !zhb c.Storage x.From (szE x.Second)) := zzz fun hp => by rw [zm8 (o.ft hp)]; simp only [obs]; rw [zv9 o.sto rfl _ o.fo (o.ft hp)]; rfl
       have k := o.pt; have kn : ∀ e : Int, (u.Number = false → e = 0) → (cond (u.Number && e != 0) (some e) (cond (zn4 x) (some 2) (some 0))) = some (if e ≠ 0 then e else cond (zn4 x) 2 0) := by
        intro e h
        by_cases h0 : e = 0
        · subst h0; cases u.Number <;> cases zn4 x <;> rfl
        · cases hn : u.Number with
          | false => exact absurd (h hn) h0
          | true => simp [h0, zdh]
       simp only [e1, e2, bsf, cfa, ne_eq, not_true_eq_false, if_false, zcw]; rw [w6e]; simp only [zic, zx7 o.sto, z0h, nF, zhn, orB, g2, obs, ← zn4.eq_def]; unfold zky
       by_cases h4 : x.Op = 4
       · have hp : zj7 x = x.Second := ifp h4; rw [hp] at k ⊢; rw [g1 _ k]; simp only [h4, decide_true, ctr, obs, kn _ h2]; generalize (zly x u).any (zez m) = t1; generalize (u.Target && !inB x.Target 0 ((c.zC.length : Int) - 1)) = t2; generalize (u.Mask && !inB x.Mask 1 7) = t3; generalize (u.Pointer && !zjl c.Storage x.Pointer) = t4; generalize (u.Source && !zjl c.Storage x.Source) = t5; generalize (u.Place && !zhb c.Storage x.Place (szE x.Second)) = t6; generalize (u.From && !zhb c.Storage x.From (szE x.Second)) = t7; generalize (u.zO && !inB x.zO 0 4) = t8; cases t1 <;> cases t2 <;> cases t3 <;> cases t4 <;> cases t5 <;> cases t6 <;> cases t7 <;> cases t8 <;> rfl
       · have hp : zj7 x = x.zD := ifn h4; rw [hp] at k ⊢; rw [g1 _ k]; simp only [h4, decide_false, cfa, obs, kn _ h2]; generalize (zly x u).any (zez m) = t1; generalize (u.Target && !inB x.Target 0 ((c.zC.length : Int) - 1)) = t2; generalize (u.Mask && !inB x.Mask 1 7) = t3; generalize (u.Pointer && !zjl c.Storage x.Pointer) = t4; generalize (u.Source && !zjl c.Storage x.Source) = t5; generalize (u.Place && !zhb c.Storage x.Place (szE x.zD)) = t6; generalize (u.From && !zhb c.Storage x.From (szE x.Second)) = t7; generalize (u.zO && !inB x.zO 0 4) = t8; cases t1 <;> cases t2 <;> cases t3 <;> cases t4 <;> cases t5 <;> cases t6 <;> cases t7 <;> cases t8 <;> rfl
     · simp [e1, e2, zdh]
   · simp [e1, zdh]
theorem znc {n : Nat} {c : zF} (h : Wft En n Ty.zF c) : c.Storage.Bytes.size ≤ n ∧ c.Storage.Tags.length ≤ n ∧ c.zC.length ≤ n ∧ c.zQ.length ≤ n ∧ ∀ x ∈ c.zC, Wft En n Ty.zB x := by
 have h1 := h (.sc (.string c.Storage.Bytes)) (by show _ ∈ zjc c; simp [zjc])
 have h2 := h (.lst Ty.bool c.Storage.Tags) (by show _ ∈ zjc c; simp [zjc])
 have h3 := h (.lst Ty.zB c.zC) (by show _ ∈ zjc c; simp [zjc])
 have h4 := h (.lst Ty.zP c.zQ) (by show _ ∈ zjc c; simp [zjc])
 cases h1 with
 | str h1 =>
  cases h2 with
  | lst h2 _ =>
   cases h3 with
   | lst h3 h3' =>
    cases h4 with
    | lst h4 _ => exact ⟨h1, h2, h3, h4, h3'⟩
theorem zx1 {n : Nat} {z : Int} (h : Wfc En n (.sc (.int .i64 z))) : -9223372036854775808 ≤ z ∧ z ≤ 9223372036854775807 := by
 cases h with
 | int h1 h2 =>
  have e1 : IntKind.i64.min = -9223372036854775808 := by decide
  have e2 : IntKind.i64.max = 9223372036854775807 := by decide
  rw [e1] at h1; rw [e2] at h2; exact ⟨h1, h2⟩
theorem z40 {n : Nat} {x : zB} (h : Wft En n Ty.zB x) : (-9223372036854775808 ≤ x.Place.Offset ∧ x.Place.Offset ≤ 9223372036854775807) ∧ (-9223372036854775808 ≤ x.From.Offset ∧ x.From.Offset ≤ 9223372036854775807) :=
 ⟨zx1 (h _ (by show _ ∈ zg1 x; simp [zg1])), zx1 (h _ (by show _ ∈ zg1 x; simp [zg1]))⟩
def zmu (m : zI) (c : zF) (x : zB) : Int := if inB x.Op 0 26 = true then zs6 m c x ((zdz x).getD ⟨false, false, false, false, false, false, false, false, false, false, false, false, false, false, 0, 0⟩) else 4
theorem zxc (N : Nat) (hN : 20 < N) {m : zI} (hm : 2 ≤ m.Registers ∧ m.Registers ≤ 8) {c : zF} (hs : StoOk c.Storage) (hlen : c.zC.length < 1000000000) {n : Nat} {x : zB} (hx : Wft En n Ty.zB x) :
 zcd N m c x = some (zmu m c x) ∧ zc1 m c x = some (zmu m c x) := by
 obtain ⟨w1, w2⟩ := z40 hx
 unfold zmu
 by_cases hop : inB x.Op 0 26 = true
 · obtain ⟨f, u, hf, hu, ag, h4, h5, h6⟩ := zva x hop; have ok : zdf x.zD u.zD = 0 → zdf x.Second u.Second = 0 → InsOk c x u := fun e1 e2 => {
    sto := hs, len := hlen, po := w1, fo := w2,
    pt := fun hp => (by
     have := h6 hp; unfold zj7; split
     · rename_i h7; rw [ifp h7] at this; exact zld e2 this
     · rename_i h7; rw [ifn h7] at this; exact zld e1 this),
    ft := fun hp => zld e2 (h5 hp) }
   rw [ifp hop, hu]; exact ⟨z41 N hN hm hop hf ag ok, z4m hm hop hu ag ok⟩
 · rw [ifn hop]; have e : inB x.Op 0 26 = false := by simpa using hop
   constructor
   · unfold zcd; rw [zn8, e]; rfl
   · unfold zc1; rw [zic, e]; rfl
def znx (c : zF) (t : zP) : Bool := (inB t.From 0 t.To && (decide (t.To ≤ (c.zC.length : Int)) && (inB t.Exception 0 999 && inB t.Handler 0 ((c.zC.length : Int) - 1))))
theorem z3w (c : zF) (hlen : c.zC.length < 1000000000) (t : zP) : zf1 c t = some (cond (znx c t) 0 3) := by
 unfold zf1 znx
 rw [w6e]
 simp only [zn8, zpb, zhn, obs, Bool.and_assoc]
 generalize (inB t.From 0 t.To && (decide (t.To ≤ (c.zC.length : Int)) && (inB t.Exception 0 999 && inB t.Handler 0 ((c.zC.length : Int) - 1)))) = b
 cases b <;> rfl
theorem z3e (c : zF) (t : zP) : ((decide (t.From < 0) || decide (t.From > t.To)) || (decide (t.To > (c.zC.length : Int)))) = !(inB t.From 0 t.To && decide (t.To ≤ (c.zC.length : Int))) := by
 unfold inB
 by_cases h1 : t.From < 0
 · simp [h1, show ¬ (0 ≤ t.From) by omega]
 · by_cases h2 : t.From > t.To
   · simp [h1, h2, show ¬ (t.From ≤ t.To) by omega]
   · by_cases h3 : t.To > (c.zC.length : Int)
     · simp [h1, h2, h3, show ¬ (t.To ≤ (c.zC.length : Int)) by omega]
     · simp [h1, h2, h3, show (0 ≤ t.From) by omega, show (t.From ≤ t.To) by omega, show (t.To ≤ (c.zC.length : Int)) by omega]
def gI (m : zI) (c : zF) (i : Nat) : Option (Int × Int) := (c.zC[i]?).bind fun x => if zmu m c x = 0 then none else some ((i : Int), zmu m c x)
def gT (c : zF) (i : Nat) : Option (Int × Int) := (c.zQ[i]?).bind fun t => if znx c t = true then none else some ((i : Int), 3)
def zm0 (m : zI) (c : zF) : Int × Int :=
 match (List.range c.zC.length).findSome? (gI m c) with
 | some r => r
 | none => match (List.range c.zQ.length).findSome? (gT c) with
  | some r => r
  | none => ((c.zC.length : Int), 0)
theorem z19 (N : Nat) (hN : 1048600 < N) {m : zI} (hm : 2 ≤ m.Registers ∧ m.Registers ≤ 8) {c : zF} (hs : StoOk c.Storage) (hc : Wft En 1048576 Ty.zF c) :
 ((zk (zm.r0 N) N (c.zC, (c.zC.length : Int), 0, m, c)).bind fun z10 =>
 zaz z10 (fun z => some z) (fun y9 => (zk (zm.r2 N) N (y9.2.2.2.2.zQ, (y9.2.2.2.2.zQ.length : Int), 0, y9.2.2.2.2)).bind fun z12 => zaz z12 (fun z =>
 some z) (fun y11 => some ((y11.2.2.2.zC.length : Int), 0)))) = some (zm0 m c) := by
 obtain ⟨w1, w2, w3, w4, w5⟩ := znc hc
 have l1 := zca (f := zm.r0 N) (fun i => (c.zC, (c.zC.length : Int), (i : Int), m, c)) (gI m c) c.zC.length
  (fun i hi => by
   have hx := lge hi; have hb := (zxc N (by omega) hm hs (by omega) (w5 _ (List.getElem_mem hi))).1; simp only [zm.r0, zm.b0, zan, hx, obs, dct (show (i : Int) < (c.zC.length : Int) by omega), ctr, eD, eP, eS, eM, eC, eX, eN, gI, hb]; rw [w6e]
   by_cases h0 : zmu m c c.zC[i] = 0 <;> simp [h0, zdh])
  (by simp only [zm.r0, zm.b0, dcf (show ¬ (c.zC.length : Int) < (c.zC.length : Int) by omega), cfa]) (N := N) (by omega)
 have l2 := zca (f := zm.r2 N) (fun i => (c.zQ, (c.zQ.length : Int), (i : Int), c)) (gT c) c.zQ.length
  (fun i hi => by
   have hx := lge hi; simp only [zm.r2, zm.b2, zan, hx, obs, dct (show (i : Int) < (c.zQ.length : Int) by omega), ctr, gT, z3w c (by omega)]; rw [w6e]; cases znx c c.zQ[i] <;> simp)
  (by simp only [zm.r2, zm.b2, dcf (show ¬ (c.zQ.length : Int) < (c.zQ.length : Int) by omega), cfa]) (N := N) (by omega)
 simp only [nc0] at l1 l2
 rw [l1]
 unfold zm0
 simp only [obs]
 cases (List.range c.zC.length).findSome? (gI m c) with
 | some r => rfl
 | none =>
  simp only [zaz]; rw [l2]; simp only [obs]; cases (List.range c.zQ.length).findSome? (gT c) <;> rfl
theorem zwa (N : Nat) (hN : 1048600 < N) {m : zI} (hm : 2 ≤ m.Registers ∧ m.Registers ≤ 8) {c : zF} (hs : StoOk c.Storage) (hc : Wft En 1048576 Ty.zF c) :
 ((zk (zu.r1 N) N (0, m, c)).bind fun z6 =>
 zaz z6 (fun z => some z) (fun y5 => (zk (zu.r3 N) N (0, y5.2.2)).bind fun z8 => zaz z8 (fun z => some z) (fun y7 =>
 some ((y7.2.zC.length : Int), 0)))) = some (zm0 m c) := by
 obtain ⟨w1, w2, w3, w4, w5⟩ := znc hc
 have l1 := zca (f := zu.r1 N) (fun i => ((i : Int), m, c)) (gI m c) c.zC.length
  (fun i hi => by
   have hx := lge hi; have hb := (zxc N (by omega) hm hs (by omega) (w5 _ (List.getElem_mem hi))).2; simp only [zu.r1, zu.b1, zan, hx, obs, dct (show (i : Int) < (c.zC.length : Int) by omega), ctr, eD, eP, eS, eM, eC, eX, eN, gI, hb]; rw [w6e]
   by_cases h0 : zmu m c c.zC[i] = 0 <;> simp [h0, zdh])
  (by simp only [zu.r1, zu.b1, dcf (show ¬ (c.zC.length : Int) < (c.zC.length : Int) by omega), cfa]) (N := N) (by omega)
 have l2 := zca (f := zu.r3 N) (fun i => ((i : Int), c)) (gT c) c.zQ.length
  (fun i hi => by
   have hx := lge hi; simp only [zu.r3, zu.b3, zan, hx, obs, dct (show (i : Int) < (c.zQ.length : Int) by omega), ctr, gT, orB, zic, z3e]; rw [w6e (n := (i : Int) + 1), w6e (n := (c.zC.length : Int) - 1)]; have bl : ∀ a b d e : Bool, ((!(a && b) || !d) || !e) = !(a && (b && (d && e))) := fun a b d e => by cases a <;> cases b <;> cases d <;> cases e <;> rfl
   simp only [zic, obs, orB, bl, ← znx.eq_def]; cases znx c c.zQ[i] <;> simp)
  (by simp only [zu.r3, zu.b3, dcf (show ¬ (c.zQ.length : Int) < (c.zQ.length : Int) by omega), cfa]) (N := N) (by omega)
 simp only [nc0] at l1 l2
 rw [l1]
 unfold zm0
 simp only [obs]
 cases (List.range c.zC.length).findSome? (gI m c) with
 | some r => rfl
 | none =>
  simp only [zaz]; rw [l2]; simp only [obs]; cases (List.range c.zQ.length).findSome? (gT c) <;> rfl
theorem z5j (n lo hi : Int) : zdn n lo hi = some (inB n lo hi) := by
 unfold zdn inB
 cases decide (lo ≤ n) <;> rfl
theorem znb {b : ByteArray} {i : Int} (h0 : 0 ≤ i) (h1 : i < (b.size : Int)) : ∃ x, znn b i = some x := by
 unfold znn
 rw [ifp h0]
 exact ⟨_, getElem?_pos b i.toNat (by omega)⟩
theorem zqy (N : Nat) (b : ByteArray) (h : b.size < N) (hb : b.size < 1000) : ∃ x, zbo N b = some x := by
 unfold zbo
 obtain ⟨s', h1, _⟩ := zme (f := zbo.r0 N) (fun i s => ∃ a : Int, s = (b, a, (b.size : Int), (i : Int))) b.size
  (fun i s hi hs => by
   obtain ⟨a, rfl⟩ := hs; obtain ⟨x, hx⟩ := znb (b := b) (i := (i : Int)) (by omega) (by omega); simp only [zbo.r0, zbo.b0, dct (show (i : Int) < (b.size : Int) by omega), ctr, hx, obs]; rw [w6e (n := (i : Int) + 1)]; exact ⟨_, rfl, _, rfl⟩)
  (fun s hs => by
   obtain ⟨a, rfl⟩ := hs; simp only [zbo.r0, zbo.b0, dcf (show ¬ (b.size : Int) < (b.size : Int) by omega), cfa]; exact ⟨_, rfl, _, rfl⟩) h (s := (b, 0, (b.size : Int), 0)) ⟨0, rfl⟩
 rw [h1]
 exact ⟨_, rfl⟩
theorem zwb (N : Nat) (b : ByteArray) (hb : b.size = 16) (k n : Nat) (hn : k + n ≤ 16) (hN : 20 < N) : ∃ x, zc4 N b (k : Int) (n : Int) = some x := by
 unfold zc4
 obtain ⟨s', h1, _⟩ := zme (f := zc4.r0 N) (fun i s => ∃ a : Int, s = (b, (k : Int), (n : Int), a, (i : Int))) n
  (fun i s hi hs => by
   obtain ⟨a, rfl⟩ := hs; obtain ⟨x, hx⟩ := znb (b := b) (i := (k : Int) + (i : Int)) (by omega) (by omega); simp only [zc4.r0, zc4.b0, dct (show (i : Int) < (n : Int) by omega), ctr]; rw [w6e (n := (k : Int) + (i : Int)), hx, w6e (n := (i : Int) + 1)]; exact ⟨_, rfl, _, rfl⟩)
  (fun s hs => by
   obtain ⟨a, rfl⟩ := hs; simp only [zc4.r0, zc4.b0, dcf (show ¬ (n : Int) < (n : Int) by omega), cfa]; exact ⟨_, rfl, _, rfl⟩) (N := N) (by omega) (s := (b, (k : Int), (n : Int), 0, 0)) ⟨0, rfl⟩
 rw [h1]
 exact ⟨_, rfl⟩
theorem z1m (p : Pointer) : ∃ e, zev p = some e := by
 unfold zev
 simp only [z5j, obs, zhn]
 generalize inB p.Kind 0 2 = a
 generalize inB p.Address.yC 0 1099511627775 = b
 generalize inB p.Address.Offset 0 16777215 = c
 generalize inB p.Authority 0 1023 = d
 generalize (p.Authority != 0 && p.Kind != 1) = e
 cases a <;> cases b <;> cases c <;> cases d <;> cases e <;> exact ⟨_, rfl⟩
theorem z1v (p : Pointer) : ∃ e, zfz p = some e := by
 unfold zfz
 simp only [zic, obs, zhn, orB]
 generalize inB p.Kind 0 2 = a
 generalize inB p.Address.yC 0 1099511627775 = b
 generalize inB p.Address.Offset 0 16777215 = c
 generalize inB p.Authority 0 1023 = d
 generalize (p.Kind != 1 && p.Authority != 0) = e
 cases a <;> cases b <;> cases c <;> cases d <;> cases e <;> exact ⟨_, rfl⟩
theorem zln (b : ByteArray) (i j : Nat) (h : j ≤ b.size) (hij : i ≤ j) : (b.extract i j).size = j - i := by
 rw [ByteArray.size_extract]
 omega
theorem zyv (N : Nat) (hN : 20 < N) (b : ByteArray) (hb : b.size = 16) : ∃ r, zfw N b = some r := by
 obtain ⟨x1, h1⟩ := znb (b := b) (i := 1) (by omega) (by omega)
 obtain ⟨x0, h0⟩ := znb (b := b) (i := 0) (by omega) (by omega)
 have z1 : (b.extract (2 : Int).toNat (4 : Int).toNat).size = 2 := zln b 2 4 (by omega) (by omega)
 have z2 : (b.extract (4 : Int).toNat (10 : Int).toNat).size = 6 := zln b 4 10 (by omega) (by omega)
 have z3 : (b.extract (10 : Int).toNat b.size).size = 6 := (zln b 10 b.size (by omega) (by omega)).trans (by omega)
 obtain ⟨n1, e1⟩ := zqy N _ (by omega : (b.extract (2 : Int).toNat (4 : Int).toNat).size < N) (by omega)
 obtain ⟨n2, e2⟩ := zqy N _ (by omega : (b.extract (4 : Int).toNat (10 : Int).toNat).size < N) (by omega)
 obtain ⟨n3, e3⟩ := zqy N _ (by omega : (b.extract (10 : Int).toNat b.size).size < N) (by omega)
 unfold zfw
 rw [show ((b.size : Int) != 16) = false by rw [hb]; rfl]
 simp only [cfa, h1, h0, obs]
 cases ((x1.toNat : Int) != 0) with
 | true => exact ⟨_, rfl⟩
 | false =>
  simp only [cfa]; rw [ifp, ifp, e1]; simp only [obs]; rw [ifp, ifp, e2]; simp only [obs]; rw [ifp, e3]; simp only [obs]; obtain ⟨e, he⟩ := z1m (⟨(w6 (x0.toNat : Int)), (⟨n2, n3⟩ : Address), n1⟩ : Pointer); rw [he]; simp only [obs]; cases (e != 0) <;> exact ⟨_, rfl⟩
theorem zy6 (N : Nat) (hN : 20 < N) (b : ByteArray) (hb : b.size = 16) : ∃ r, zlz N b = some r := by
 obtain ⟨x1, h1⟩ := znb (b := b) (i := 1) (by omega) (by omega)
 obtain ⟨x0, h0⟩ := znb (b := b) (i := 0) (by omega) (by omega)
 obtain ⟨n1, e1⟩ := zwb N b hb 2 2 (by omega) hN
 obtain ⟨n2, e2⟩ := zwb N b hb 4 6 (by omega) hN
 obtain ⟨n3, e3⟩ := zwb N b hb 10 6 (by omega) hN
 have e1' : zc4 N b 2 2 = some n1 := e1
 have e2' : zc4 N b 4 6 = some n2 := e2
 have e3' : zc4 N b 10 6 = some n3 := e3
 unfold zlz
 rw [show ((b.size : Int) != 16) = false by rw [hb]; rfl]
 simp only [cfa, h1, h0, obs]
 cases ((x1.toNat : Int) != 0) with
 | true => exact ⟨_, rfl⟩
 | false =>
  simp only [cfa, e1', e2', e3', obs]; obtain ⟨e, he⟩ := z1v (⟨(w6 (x0.toNat : Int)), (⟨n2, n3⟩ : Address), n1⟩ : Pointer); rw [he]; simp only [obs]; cases (e != 0) <;> exact ⟨_, rfl⟩
theorem zvx (N : Nat) (hN : 2000 < N) (s : Storage) : ∃ i1 e1 e2, zaf N s = some (i1, e1) ∧ zk3 N s = some e2 ∧
 ((e1 = e2 ∧ e1 ≠ 0) ∨ (StoOk s ∧ s.Tags.length ≤ 64 ∧ (e1 = 0 ∨ (e1 = 22 ∧ true ∈ s.Tags)) ∧ (e2 = 0 ∨ (e2 = 22 ∧ true ∈ s.Tags)))) := by
 unfold zaf zk3 zcu
 try simp only [eS]
 by_cases h1 : (s.Bytes.size : Int) > 1024
 · rw [dct h1]; exact ⟨_, _, _, rfl, rfl, .inl ⟨rfl, by decide⟩⟩
 · rw [dcf h1]; have hm : (s.Bytes.size : Int).tmod 16 = (s.Bytes.size : Int) % 16 := tme; have hd : (s.Bytes.size : Int).tdiv 16 = (s.Bytes.size : Int) / 16 := tde
   by_cases h2 : (s.Bytes.size : Int) % 16 = 0
   · rw [hm, hd, w6e]
     by_cases h3 : (s.Tags.length : Int) = (s.Bytes.size : Int) / 16
     · rw [show (((s.Bytes.size : Int) % 16) != 0) = false by rw [h2]; rfl, show ((s.Tags.length : Int) != (s.Bytes.size : Int) / 16) = false by rw [← h3]; exact bsf _]; simp only [cfa]; have ok : StoOk s := ⟨by omega, by omega⟩; have hw : ∀ i : Nat, i < s.Tags.length → w6 ((i : Int) * 16) = (i : Int) * 16 ∧ w6 ((i : Int) * 16 + 16) = (i : Int) * 16 + 16 := fun i hi => ⟨w6e, w6e⟩; have hx : ∀ i : Nat, i < s.Tags.length → (s.Bytes.extract ((i : Int) * 16).toNat ((i : Int) * 16 + 16).toNat).size = 16 := fun i hi => by
        rw [zln _ _ _ (by omega) (by omega)]; omega
       have l1 := zov (f := zaf.r1 N) (fun i t => t = (s.Tags, (s.Tags.length : Int), (i : Int), s)) (fun r => r.2 = 22 ∧ true ∈ s.Tags) s.Tags.length
        (fun i t hi ht => by
         subst ht; obtain ⟨w1, w2⟩ := hw i hi; have hx1 := lge hi; simp only [zaf.r1, zaf.b1, zan, hx1, obs, dct (show (i : Int) < (s.Tags.length : Int) by omega), ctr]; rw [w6e (n := (i : Int) + 1)]; cases hb : s.Tags[i] with
         | false => exact .inl ⟨_, rfl, rfl⟩
         | true =>
          simp only [bnt, cfa, w1, w2]; rw [ifp, ifp]; obtain ⟨r, hr⟩ := zyv N (by omega) _ (hx i hi); rw [hr]; simp only [obs]; cases (r.2 != 0) with
          | true => exact .inr ⟨_, rfl, rfl, by rw [← hb]; exact List.getElem_mem hi⟩
          | false => exact .inl ⟨_, rfl, rfl⟩)
        (fun t ht => by
         subst ht; exact ⟨_, by simp only [zaf.r1, zaf.b1, dcf (show ¬ (s.Tags.length : Int) < (s.Tags.length : Int) by omega), cfa], rfl⟩) (N := N) (by omega) (s := (s.Tags, (s.Tags.length : Int), 0, s)) rfl
       have l2 := zov (f := zcu.r0 N) (fun i t => t = ((s.Bytes.size : Int) / 16, (i : Int), s)) (fun r => r.2 = 22 ∧ true ∈ s.Tags) s.Tags.length
        (fun i t hi ht => by
         subst ht; obtain ⟨w1, w2⟩ := hw i hi; have hx1 := lge hi; simp only [zcu.r0, zcu.b0, zan, hx1, obs, dct (show (i : Int) < (s.Bytes.size : Int) / 16 by omega), ctr]; rw [w6e (n := (i : Int) + 1)]; cases hb : s.Tags[i] with
         | false => exact .inl ⟨_, rfl, rfl⟩
         | true =>
          simp only [ctr, zlg, w1, w2]; rw [ifp, ifp]; simp only [obs]; obtain ⟨r, hr⟩ := zy6 N (by omega) _ (hx i hi); rw [hr]; simp only [obs]; cases (r.2 != 0) with
          | true => exact .inr ⟨_, rfl, rfl, by rw [← hb]; exact List.getElem_mem hi⟩
          | false => exact .inl ⟨_, rfl, rfl⟩)
        (fun t ht => by
         subst ht; exact ⟨_, by simp only [zcu.r0, zcu.b0, dcf (show ¬ (s.Tags.length : Int) < (s.Bytes.size : Int) / 16 by omega), cfa], rfl⟩) (N := N) (by omega) (s := ((s.Bytes.size : Int) / 16, 0, s)) rfl
       have r1 : ∃ i1 e1, ((zk (zaf.r1 N) N (s.Tags, (s.Tags.length : Int), 0, s)).bind fun z2 => zaz z2 (fun z => some z) (fun y1 => some ((y1.2.2.2.Tags.length : Int), (0 : Int)))) = some (i1, e1) ∧ (e1 = 0 ∨ (e1 = 22 ∧ true ∈ s.Tags)) := by
        rcases l1 with ⟨t, g1, _⟩ | ⟨r, g1, g2⟩
        · rw [g1]; exact ⟨_, _, rfl, .inl rfl⟩
        · rw [g1]; exact ⟨r.1, r.2, rfl, .inr g2⟩
       have r2 : ∃ e2, ((((zk (zcu.r0 N) N ((s.Bytes.size : Int) / 16, 0, s)).bind fun z2 => zaz z2 (fun z => some z) (fun y1 => some (y1.1, (0 : Int)))).bind fun r1 => some r1.2) = some e2) ∧ (e2 = 0 ∨ (e2 = 22 ∧ true ∈ s.Tags)) := by
        rcases l2 with ⟨t, g1, _⟩ | ⟨r, g1, g2⟩
        · rw [g1]; exact ⟨_, rfl, .inl rfl⟩
        · rw [g1]; exact ⟨r.2, rfl, .inr g2⟩
       obtain ⟨i1, e1, g1, g2⟩ := r1; obtain ⟨e2, g3, g4⟩ := r2; exact ⟨i1, e1, e2, g1, g3, .inr ⟨ok, by omega, g2, g4⟩⟩
     · rw [show (((s.Bytes.size : Int) % 16) != 0) = false by rw [h2]; rfl, show ((s.Tags.length : Int) != (s.Bytes.size : Int) / 16) = true by rw [zdh]; exact dct h3]; exact ⟨_, _, _, rfl, rfl, .inl ⟨rfl, by decide⟩⟩
   · rw [hm, show (((s.Bytes.size : Int) % 16) != 0) = true by rw [zdh]; exact dct h2]; exact ⟨_, _, _, rfl, rfl, .inl ⟨rfl, by decide⟩⟩
theorem z3x (N : Nat) (l : List Bool) (h : l.length < N) (hl : l.length < 1000000000) : zeh N l true = some (l.contains true) := by
 unfold zeh zab
 have := zca (f := zab.r0 N) (fun i => (l, true, (l.length : Int), (i : Int))) (fun i => (l[i]?).bind fun x => if x = true then some (i : Int) else none) l.length
  (fun i hi => by
   have hx := lge hi; simp only [zab.r0, zab.b0, zan, hx, obs, dct (show (i : Int) < (l.length : Int) by omega), ctr]; rw [w6e]; cases hb : l[i] <;> simp)
  (by simp only [zab.r0, zab.b0, dcf (show ¬ (l.length : Int) < (l.length : Int) by omega), cfa]) h
 simp only [nc0] at this
 rw [this]
 simp only [obs]
 cases hfs : (List.range l.length).findSome? (fun i : Nat => (l[i]?).bind fun x => if x = true then some (i : Int) else none) with
 | some r =>
  simp only [zaz, obs]; obtain ⟨i, hi, hr⟩ := eof hfs; rw [Option.bind_eq_some_iff] at hr; obtain ⟨x, hx, hr⟩ := hr; split at hr
  · rename_i hb; cases hr; have : l.contains true = true := by rw [List.contains_iff_mem, ← hb]; exact lmg hx
    rw [this]; simp
  · cases hr
 | none =>
  simp only [zaz, obs]; rw [List.findSome?_eq_none_iff] at hfs; have : l.contains true = false := by
   rw [Bool.eq_false_iff]; intro hc; rw [List.contains_iff_mem] at hc; obtain ⟨i, hi⟩ := List.getElem?_of_mem hc; have := hfs i (by simp; exact (gei hi).1); rw [hi] at this; simp at this
  rw [this]; rfl
theorem zx6 (N : Nat) (s : Storage) (h : s.Tags.length ≤ 64) (hN : 2000 < N) : ∃ l, zbw N s = some l ∧ (decide ((l.length : Int) > 0)) = s.Tags.contains true := by
 unfold zbw
 obtain ⟨s', h1, l, h2, h3, h4⟩ := zme (f := zbw.r0 N) (fun i t => ∃ l : List Int, t = (l, (i : Int), s) ∧ l.length ≤ i ∧ (decide ((l.length : Int) > 0)) = (s.Tags.take i).contains true) s.Tags.length
  (fun i t hi ht => by
   obtain ⟨l, rfl, h3, h4⟩ := ht; have hx := lge hi; have rm : Nat.ble ((l.length + ([(w6 ((i : Int) * 16))] : List Int).length) * 8) zak = true := Nat.ble_eq_true_of_le (by unfold zak; simp; omega); simp only [zbw.r0, zbw.b0, zan, hx, obs, dct (show (i : Int) < (s.Tags.length : Int) by omega), ctr, rm]; rw [w6e (n := (i : Int) + 1)]; have tk : s.Tags.take (i + 1) = s.Tags.take i ++ [s.Tags[i]] := by rw [List.take_add_one, hx]; rfl
   cases hb : s.Tags[i] with
   | true => exact ⟨_, rfl, _, rfl, by simp; omega, by rw [tk, hb]; simp⟩
   | false => exact ⟨_, rfl, _, rfl, by omega, by rw [tk, hb, h4]; simp⟩)
  (fun t ht => by
   obtain ⟨l, rfl, h3, h4⟩ := ht; simp only [zbw.r0, zbw.b0, dcf (show ¬ (s.Tags.length : Int) < (s.Tags.length : Int) by omega), cfa]; exact ⟨_, rfl, l, rfl, h3, h4⟩) (N := N) (by omega) (s := ([], 0, s)) ⟨[], rfl, by simp, by simp⟩
 rw [h1, h2]
 exact ⟨l, rfl, by rw [h4, List.take_length]⟩
theorem z11 {c : zF} (hc : Wft En 1048576 Ty.zF c) : zho c = some c := by
 obtain ⟨w1, w2, w3, w4, w5⟩ := znc hc
 unfold zho zhz zil
 rw [show Nat.ble (c.Storage.Tags.length * 1) zak = true from Nat.ble_eq_true_of_le (by unfold zak; omega), show Nat.ble (c.zC.length * 224) zak = true from Nat.ble_eq_true_of_le (by unfold zak; omega), show Nat.ble (c.zQ.length * 32) zak = true from Nat.ble_eq_true_of_le (by unfold zak; omega)]
 rfl
theorem z04 (N : Nat) (hN : 1048600 < N) (m : zI) {c : zF} (hc : Wft En 1048576 Ty.zF c) : ∃ r, zm N m c = some r ∧ zu N m c = some r := by
 obtain ⟨e, he1, he2, he3⟩ := zt2 m
 obtain ⟨i1, e1, e2, hs1, hs2, hs⟩ := zvx N (by omega) c.Storage
 obtain ⟨w1, w2, w3, w4, w5⟩ := znc hc
 have f3 : ∀ a b d : Int, zao N [a, b, d] = some (ze2 [a, b, d]) := fun a b d => zs7 N _ (by simp; omega) (by simp)
 unfold zm zu
 try simp only [eS, eM, eC]
 rw [he1, he2, hs1, hs2]
 simp only [obs]
 by_cases h0 : e = 0
 · subst h0; have hm := he3 rfl; simp only [bsf, cfa]; rcases hs with ⟨rfl, hs⟩ | ⟨ok, htl, hs3, hs4⟩
   · rw [show (e1 != 0) = true by rw [zdh]; exact dct hs]; exact ⟨_, rfl, rfl⟩
   · obtain ⟨l, hl1, hl2⟩ := zx6 N c.Storage htl (by omega); rw [z3x N _ (by omega) (by omega), hl1]; simp only [obs, zpb, f3, orB, hl2]
     by_cases ht : c.Storage.Tags.contains true = true
     · rw [ht]; refine ⟨(0, 22), ?_, ?_⟩
       · rcases hs3 with rfl | ⟨rfl, _⟩
         · simp [ze2]
         · rfl
       · rcases hs4 with rfl | ⟨rfl, _⟩
         · rfl
         · rfl
     · have ht' : c.Storage.Tags.contains true = false := by simpa using ht
       have hn : ¬ true ∈ c.Storage.Tags := fun hh => ht (List.contains_iff_mem.2 hh); obtain rfl : e1 = 0 := hs3.resolve_right fun hh => hn hh.2; obtain rfl : e2 = 0 := hs4.resolve_right fun hh => hn hh.2; rw [ht']; have hl1 := z19 N hN hm ok hc; have hl2 := zwa N hN hm ok hc
       by_cases hz : (c.zC.length : Int) = 0
       · refine ⟨(0, 1), ?_, ?_⟩
         · simp [ze2, hz]
         · simp [hz]
       · cases hbig : (decide ((c.zC.length : Int) > 240) || decide ((c.zQ.length : Int) > 40)) with
         | true =>
          refine ⟨(0, 2), ?_, ?_⟩
          · simp only [bsf, cfa, ctr, obs, zcw, dcf hz, ze2, if_true]; rfl
          · simp only [bsf, cfa, ctr, obs, zcw, dcf hz]
         | false =>
          refine ⟨zm0 m c, ?_, ?_⟩
          · rw [← hl1]; simp only [bsf, cfa, obs, zcw, dcf hz, ze2, if_true]
          · rw [← hl2]; simp only [bsf, cfa, obs, zcw, dcf hz]
 · rw [show (e != 0) = true by rw [zdh]; exact dct h0]; exact ⟨_, rfl, rfl⟩
theorem z0x (N : Nat) (hN : 1048600 < N) {c : zF} (hc : Wft En 1048576 Ty.zF c) : ∃ b, zdv N c = some b := by
 obtain ⟨w1, w2, w3, w4, w5⟩ := znc hc
 unfold zdv
 have ft : ∀ s, ∃ b, zf0 s = some b := fun s => by
  unfold zf0; cases decide ((s.Bytes.size : Int) ≤ 1072) <;> exact ⟨_, rfl⟩
 have e1 : ∀ i : Nat, i ≤ c.zC.length → (cond (decide ((i : Int) < (c.zC.length : Int))) (some (decide ((i : Int) < 244))) (some false)) = some (decide ((i : Int) < (c.zC.length : Int)) && decide ((i : Int) < 244)) := fun i _ => zhn _ _
 have l1 := zov (f := zdv.r0 N) (fun i t => t = ((i : Int), c)) (fun r => True) (min c.zC.length 244)
  (fun i t hi ht => by
   subst ht; have hlt : i < c.zC.length := by omega
   have hx := lge hlt; simp only [zdv.r0, zdv.b0, zhn, obs, dct (show (i : Int) < (c.zC.length : Int) by omega), dct (show (i : Int) < 244 by omega), Bool.and_self, ctr, zan, hx, orB]; rw [w6e (n := (i : Int) + 1)]; cases (decide ((c.zC[i].Text.size : Int) > 300) || decide ((c.zC[i].Other.size : Int) > 300)) with
   | true => exact .inr ⟨_, rfl, trivial⟩
   | false => exact .inl ⟨_, rfl, rfl⟩)
  (fun t ht => by
   subst ht; have e : (decide (((min c.zC.length 244 : Nat) : Int) < (c.zC.length : Int)) && decide (((min c.zC.length 244 : Nat) : Int) < 244)) = false := by
    by_cases h : c.zC.length < 244
    · rw [dcf (show ¬ ((min c.zC.length 244 : Nat) : Int) < (c.zC.length : Int) by omega)]; rfl
    · rw [dcf (show ¬ ((min c.zC.length 244 : Nat) : Int) < 244 by omega)]; simp
   simp only [zdv.r0, zdv.b0, zhn, obs, e, cfa]; exact ⟨_, rfl, rfl⟩) (N := N) (by omega) (s := (0, c)) rfl
 rcases l1 with ⟨t, g1, _⟩ | ⟨r, g1, _⟩
 · rw [g1]; simp only [obs, zaz]; obtain ⟨b, hb⟩ := ft t.2.Storage; rw [hb]; simp only [obs, zhn]; exact ⟨_, rfl⟩
 · rw [g1]; exact ⟨_, rfl⟩
theorem z3m {m : zI} {c : zF} {n : Int} (h : zm0 m c = (n, 0)) : ∀ x ∈ c.zC, zmu m c x = 0 := by
 intro x hx
 refine cbc fun h0 => ?_
 unfold zm0 at h
 obtain ⟨i, hi⟩ := List.getElem?_of_mem hx
 cases hf : (List.range c.zC.length).findSome? (gI m c) with
 | none =>
  rw [List.findSome?_eq_none_iff] at hf; have := hf i (by simp; exact (gei hi).1); unfold gI at this; rw [hi] at this; simp [h0] at this
 | some r =>
  rw [hf] at h; simp only at h; subst h; obtain ⟨j, _, hj⟩ := eof hf; unfold gI at hj; rw [Option.bind_eq_some_iff] at hj; obtain ⟨y, _, hy⟩ := hj
  by_cases h1 : zmu m c y = 0
  · simp [h1] at hy
  · rw [ifn h1] at hy; simp only [Option.some.injEq, Prod.mk.injEq] at hy; exact h1 hy.2
theorem zsm {α σ : Type} {f : σ → Option (Round Int σ)} (l : List α) (p : α → Bool) (S : Nat → σ) (hstep : ∀ i x, l[i]? = some x → f (S i) = some (cond (p x) (.result (i : Int)) (.again (S (i + 1)))))
 (hl : f (S l.length) = some (.leave (S l.length))) {N : Nat} (hN : l.length < N) : zk f N (S 0) = some (match l.findIdx? p with | some i => .inl (i : Int) | none => .inr (S l.length)) := by
 have := zca (f := f) S (fun i => (l[i]?).bind fun x => if p x = true then some (i : Int) else none) l.length (fun i hi => by
  have hx := lge hi; rw [hstep i _ hx]; simp only [hx, obs]; cases hb : p l[i] <;> simp) hl hN
 rw [this]
 congr 1
 have key : (List.range l.length).findSome? (fun i : Nat => (l[i]?).bind fun x => if p x = true then some (i : Int) else none) = (l.findIdx? p).map (fun i => (i : Int)) := by
  cases hf : l.findIdx? p with
  | none =>
   rw [List.findIdx?_eq_none_iff] at hf; rw [List.findSome?_eq_none_iff.2]
   · rfl
   · intro i hi; have hi' : i < l.length := by simpa using hi
     have h9 := hf _ (List.getElem_mem hi'); rw [lge hi', obs, ifn (by simp [h9])]
  | some k =>
   rw [List.findIdx?_eq_some_iff_getElem] at hf; obtain ⟨hk, h1, h2⟩ := hf; show _ = some (k : Int); have : (List.range l.length).findSome? (fun i : Nat => (l[i]?).bind fun x => if p x = true then some (i : Int) else none) = some (k : Int) := by
    rw [List.findSome?_eq_some_iff]; refine ⟨List.range k, k, (List.range' (k + 1) (l.length - (k + 1))), ?_, ?_, ?_⟩
    · apply List.ext_getElem
      · simp; omega
      · intro i h3 h4; rw [List.getElem_append]; split
        · simp
        · rename_i h5; have h5' : k ≤ i := by simpa using h5
          by_cases e : i = k
          · subst e; simp
          · have : i - k ≠ 0 := by omega
            rw [List.getElem_cons]; simp [this]; omega
    · rw [lge hk]; simp [h1]
    · intro x hx; have hx' : x < k := by simpa using hx
      rw [lge (by omega)]; have := h2 x hx'; simp [this]
   rw [this]
 rw [key]
 cases l.findIdx? p <;> rfl
theorem zow {α : Type} (l : List α) (p : α → Bool) : (l.findIdx? p).isSome = l.any p := by
 cases h : l.findIdx? p with
 | none =>
  rw [List.findIdx?_eq_none_iff] at h
  symm
  simp only [Option.isSome_none, List.any_eq_false]; intro x hx; simp [h x hx]
 | some k =>
  rw [List.findIdx?_eq_some_iff_getElem] at h; obtain ⟨hk, h1, h2⟩ := h
  symm
  simp only [Option.isSome_some, List.any_eq_true]; exact ⟨_, List.getElem_mem hk, h1⟩
theorem zuw {α β σ : Type} {f : σ → Option (Stp σ)} (l : List α) (g : α → Option β) (S : Nat → List β → σ) (hstep : ∀ i x acc, l[i]? = some x → acc.length ≤ i → f (S i acc) = some (.again (S (i + 1) (acc ++ (g x).toList))))
 (hl : ∀ acc, f (S l.length acc) = some (.leave (S l.length acc))) {N : Nat} (hN : l.length < N) : zf f N (S 0 []) = some (S l.length (l.filterMap g)) := by
 have e0 : ∀ i, ((l.take i).filterMap g).length ≤ i := fun i => Nat.le_trans (List.length_filterMap_le _ _) (by simp; omega)
 have := zfe (f := f) (fun i => S i ((l.take i).filterMap g)) l.length (fun i hi => by
  have hx := lge hi; rw [hstep i _ _ hx (e0 i), List.take_add_one, hx, List.filterMap_append]
  congr 3) (hl _) hN
 simpa using this
theorem zzr {α σ : Type} {f : σ → Option (Stp σ)} (l : List α) (p : α → Bool) (S : List α → Nat → Nat → σ)
 (hstep : ∀ s i j x, s[j]? = some x → i < j → s.length = l.length → x ∈ l → f (S s i j) = some (.again (cond (p x) (S s i (j + 1)) (S (s.set i x) (i + 1) (j + 1)))))
 (hl : ∀ s i, s.length = l.length → i ≤ l.length → f (S s i l.length) = some (.leave (S s i l.length))) {k : Nat} (hk : l.findIdx? p = some k) {N : Nat} (hN : l.length < N) :
 ∃ s i, zf f N (S l k (k + 1)) = some (S s i l.length) ∧ s.length = l.length ∧ i ≤ l.length ∧ s.take i = l.filter (fun x => !p x) := by
 rw [List.findIdx?_eq_some_iff_getElem] at hk
 obtain ⟨hkl, h1, h2⟩ := hk
 have first : l.take k = (l.take (k + 1)).filter (fun x => !p x) := by
  rw [List.take_add_one, lge hkl, List.filter_append]; simp only [Option.toList_some, List.filter_cons, h1, bnt, Bool.false_eq_true, if_false, List.filter_nil, List.append_nil]
  symm
  rw [List.filter_eq_self]; intro x hx; obtain ⟨j, hj, rfl⟩ := List.mem_take_iff_getElem.1 hx; have := h2 j (by omega); simpa using this
 let I : Nat → σ → Prop := fun t q => ∃ s i, q = S s i (k + 1 + t) ∧ s.length = l.length ∧ i < k + 1 + t ∧ (∀ j, k + 1 + t ≤ j → s[j]? = l[j]?) ∧ s.take i = (l.take (k + 1 + t)).filter (fun x => !p x)
 obtain ⟨q, hq, hI⟩ := zme (f := f) I (l.length - (k + 1)) (by
  rintro t q ht ⟨s, i, rfl, hs, hi, hsame, htake⟩
  have hlt : k + 1 + t < l.length := by omega
  have hx := lge hlt; have hsx : s[k + 1 + t]? = some l[k + 1 + t] := by rw [hsame _ (Nat.le_refl _), hx]
  refine ⟨_, hstep s i _ _ hsx hi hs (List.getElem_mem hlt), ?_⟩; cases hp : p l[k + 1 + t] with
  | true =>
   refine ⟨s, i, rfl, hs, by omega, fun j hj => hsame j (by omega), ?_⟩; rw [htake, ← Nat.add_assoc, List.take_add_one, hx, List.filter_append]; simp [hp]
  | false =>
   refine ⟨s.set i l[k + 1 + t], i + 1, rfl, by simpa using hs, by omega, fun j hj => ?_, ?_⟩
   · rw [List.getElem?_set_ne (by omega)]; exact hsame j (by omega)
   · rw [List.take_add_one, List.getElem?_set_self (by omega), List.take_set_of_le (Nat.le_refl _), htake, ← Nat.add_assoc, List.take_add_one, hx, List.filter_append]; simp [hp])
  (by
   rintro q ⟨s, i, rfl, hs, hi, hsame, htake⟩
   have e : k + 1 + (l.length - (k + 1)) = l.length := by omega
   rw [e] at hi htake ⊢; exact ⟨_, hl s i hs (by omega), s, i, by rw [e], hs, by omega, fun j hj => hsame j hj, by rw [e]; exact htake⟩)
  (N := N) (by omega) (s := S l k (k + 1)) ⟨l, k, rfl, rfl, by omega, fun j _ => rfl, first⟩
 obtain ⟨s, i, rfl, hs, hi, hsame, htake⟩ := hI
 have e : k + 1 + (l.length - (k + 1)) = l.length := by omega
 rw [e] at hq hi htake
 refine ⟨s, i, hq, hs, by omega, ?_⟩
 rw [htake, List.take_length]
theorem zox {α : Type} {l : List α} {p : α → Bool} (h : l.findIdx? p = none) : l.filter (fun x => !p x) = l := by
 rw [List.findIdx?_eq_none_iff] at h
 rw [List.filter_eq_self]
 intro x hx
 simp [h x hx]
def zjn (a b : zA) : Bool := a.Register == b.Register && (a.zD.Kind == b.zD.Kind && (a.zD.Length == b.zD.Length && (a.zD.Scale == b.zD.Scale && a.Offset == b.Offset)))
theorem zoc {a b : zA} : zjn a b = true ↔ a = b := by
 obtain ⟨r, ⟨k, l, s⟩, o⟩ := a
 obtain ⟨r', ⟨k', l', s'⟩, o'⟩ := b
 simp only [zjn, Bool.and_eq_true, beq_iff_eq, zA.mk.injEq, DataType.mk.injEq, and_assoc]
theorem zvc (a b : zA) : zdb [(a.Register == b.Register), (a.zD.Kind == b.zD.Kind), (a.zD.Length == b.zD.Length), (a.zD.Scale == b.zD.Scale), (a.Offset == b.Offset)] = zjn a b := by
 simp only [zdb, zjn, List.all_cons, List.all_nil, List.foldr_cons, List.foldr_nil, Bool.and_true, id]
theorem zzp (a b : zA) : zjn a b = zjn b a := by
 rw [Bool.eq_iff_iff, zoc, zoc]
 exact ⟨Eq.symm, Eq.symm⟩
def zfa (l : List zA) (x : zA) : Bool := l.any (zjn x)
theorem zh7 {l : List zA} {x : zA} : zfa l x = true ↔ x ∈ l := by
 unfold zfa
 rw [List.any_eq_true]
 constructor
 · rintro ⟨y, hy, h⟩
   rw [zoc] at h; subst h; exact hy
 · intro h; exact ⟨x, h, zoc.2 rfl⟩
theorem zr5 (N : Nat) (l : List zA) (x : zA) (h : l.length < N) (hl : l.length < 1000000000) : zar N l x = some (zfa l x) := by
 unfold zar zag
 have := zsm (f := zag.r0 N) l (zjn x) (fun i => (l, (l.length : Int), (i : Int), x)) (fun i y hy => by
  have hi := (gei hy).1; simp only [zag.r0, zag.b0, zan, hy, obs, dct (show (i : Int) < (l.length : Int) by omega), ctr, zvc]; rw [w6e]; cases zjn x y <;> simp)
  (by simp only [zag.r0, zag.b0, dcf (show ¬ (l.length : Int) < (l.length : Int) by omega), cfa]) h
 simp only [nc0] at this
 rw [this]
 have e := zow l (zjn x)
 unfold zfa
 cases hf : l.findIdx? (zjn x) with
 | none => rw [hf] at e; rw [← e]; simp [zaz]
 | some k => rw [hf] at e; rw [← e]; simp [zaz]
theorem ztc (s : List zA) (i : Nat) (n : Nat) (hs : s.length = n) (hi : i ≤ n) (z : zA) :
 (if 0 ≤ (i : Int) ∧ (i : Int) ≤ (s.length : Int) then (if 0 ≤ (i : Int) ∧ (i : Int) ≤ ((s.take (i : Int).toNat ++ List.replicate (s.length - (i : Int).toNat) z).length : Int) then
  (if 0 ≤ (0 : Int) ∧ (0 : Int) ≤ (i : Int) then (some (((s.take (i : Int).toNat ++ List.replicate (s.length - (i : Int).toNat) z).drop ((0 : Int).toNat)).take ((i : Int).toNat - (0 : Int).toNat))) else none) else none) else none) = some (s.take i) := by
 have h1 : (s.take i ++ List.replicate (s.length - i) z).length = n := by simp; omega
 rw [ifp, ifp (by rw [itn, h1]; omega), ifp]
 congr 1
 simp only [itn, Int.toNat_zero, dr0, Nat.sub_zero]
 rw [List.take_append_of_le_length (by simp; omega), List.take_take, Nat.min_self]
theorem zux (l : List zA) (h : l.length ≤ 1000000) : zke 40 l = some l := by
 unfold zke
 rw [show Nat.ble (l.length * 40) zak = true from Nat.ble_eq_true_of_le (by show l.length * 40 ≤ 2 ^ 46; omega)]
 rfl
theorem zi0 {n : Nat} (h : n ≤ 1000000000) : Nat.ble (n * 40) zak = true := Nat.ble_eq_true_of_le (by show n * 40 ≤ 2 ^ 46; omega)
theorem zxf {n : Nat} (h : n ≤ 1000000) : Nat.ble (n * 8) zak = true := Nat.ble_eq_true_of_le (by show n * 8 ≤ 2 ^ 46; omega)
theorem z2h {n : Nat} (h : n ≤ 1000000) : Nat.ble (n * 1) zak = true := Nat.ble_eq_true_of_le (by show n * 1 ≤ 2 ^ 46; omega)
theorem z6g {n : Nat} (h : n ≤ 1000000) : Nat.ble (n * 24) zak = true := Nat.ble_eq_true_of_le (by show n * 24 ≤ 2 ^ 46; omega)
theorem z36 (N : Nat) (l : List zA) (r : Int) (p : zA → Bool) (hp : ∀ x ∈ l, zdj x r = some (p x)) (h : l.length < N) (hl : l.length ≤ 1000000) : zi N l r = some (l.filter fun f => !(p f)) := by
 unfold zi zq
 have := zsm (f := zq.r0 N) l p (fun i => (l, (l.length : Int), (i : Int), r)) (fun i y hy => by
  have hi := (gei hy).1; have hc := hp y (lmg hy); simp only [zq.r0, zq.b0, hc, zan, hy, obs, dct (show (i : Int) < (l.length : Int) by omega), ctr]; rw [w6e]; cases p y <;> simp)
  (by simp only [zq.r0, zq.b0, dcf (show ¬ (l.length : Int) < (l.length : Int) by omega), cfa]) h
 simp only [nc0] at this
 rw [this]
 cases hf : l.findIdx? p with
 | none => simp [zaz, zox hf]
 | some k =>
  have hk : k < l.length := by
   rw [List.findIdx?_eq_some_iff_getElem] at hf; exact hf.1
  obtain ⟨s, i, h1, h2, h3, h4⟩ := zzr (f := zi.r0 N) l p (fun s i j => (s, (i : Int), (j : Int), r)) (fun s i j x hx hij hs hm => by
   have hj := (gei hx).1; have hxi : ∃ y, s[i]? = some y := ⟨_, lge (by omega)⟩; obtain ⟨y, hy⟩ := hxi; have hc := hp x hm; simp only [zi.r0, zi.b0, hc, dct (show (j : Int) < (s.length : Int) by omega), ctr, ifp (show 0 ≤ (j : Int) by omega), ifp (show (j : Int) < (s.length : Int) by omega),
    ifp (show 0 ≤ (i : Int) by omega), ifp (show (i : Int) < (s.length : Int) by omega), itn, hx, hy, obs]
   rw [w6e (n := (i : Int) + 1), w6e (n := (j : Int) + 1)]; cases p x <;> simp)
   (fun s i hs hi => by simp only [zi.r0, zi.b0, hs, dcf (show ¬ (l.length : Int) < (l.length : Int) by omega), cfa]) hf h
  have hne : ((k : Int) == -1) = false := by rw [zcw]; simp
  simp only [zaz, obs, hne, cfa]; rw [w6e]; have h1 : zf (zi.r0 N) N (l, (k : Int), (k : Int) + 1, r) = some (s, (i : Int), (l.length : Int), r) := by
   have := h1; simpa using this
  rw [h1]; simp only [obs]; rw [ztc s i l.length h2 h3, h4]
theorem z34 (N : Nat) (l : List zA) (p : zA → Bool) (hp : ∀ x ∈ l, zeq x = some (p x)) (h : l.length < N) (hl : l.length ≤ 1000000) : zg N l = some (l.filter fun f => !(p f)) := by
 unfold zg zo
 have := zsm (f := zo.r0 N) l p (fun i => (l, (l.length : Int), (i : Int))) (fun i y hy => by
  have hi := (gei hy).1; have hc := hp y (lmg hy); simp only [zo.r0, zo.b0, hc, zan, hy, obs, dct (show (i : Int) < (l.length : Int) by omega), ctr]; rw [w6e]; cases p y <;> simp)
  (by simp only [zo.r0, zo.b0, dcf (show ¬ (l.length : Int) < (l.length : Int) by omega), cfa]) h
 simp only [nc0] at this
 rw [this]
 cases hf : l.findIdx? p with
 | none => simp [zaz, zox hf]
 | some k =>
  have hk : k < l.length := by
   rw [List.findIdx?_eq_some_iff_getElem] at hf; exact hf.1
  obtain ⟨s, i, h1, h2, h3, h4⟩ := zzr (f := zg.r0 N) l p (fun s i j => (s, (i : Int), (j : Int))) (fun s i j x hx hij hs hm => by
   have hj := (gei hx).1; have hxi : ∃ y, s[i]? = some y := ⟨_, lge (by omega)⟩; obtain ⟨y, hy⟩ := hxi; have hc := hp x hm; simp only [zg.r0, zg.b0, hc, dct (show (j : Int) < (s.length : Int) by omega), ctr, ifp (show 0 ≤ (j : Int) by omega), ifp (show (j : Int) < (s.length : Int) by omega),
    ifp (show 0 ≤ (i : Int) by omega), ifp (show (i : Int) < (s.length : Int) by omega), itn, hx, hy, obs]
   rw [w6e (n := (i : Int) + 1), w6e (n := (j : Int) + 1)]; cases p x <;> simp)
   (fun s i hs hi => by simp only [zg.r0, zg.b0, hs, dcf (show ¬ (l.length : Int) < (l.length : Int) by omega), cfa]) hf h
  have hne : ((k : Int) == -1) = false := by rw [zcw]; simp
  simp only [zaz, obs, hne, cfa]; rw [w6e]; have h1 : zf (zg.r0 N) N (l, (k : Int), (k : Int) + 1) = some (s, (i : Int), (l.length : Int)) := by
   have := h1; simpa using this
  rw [h1]; simp only [obs]; rw [ztc s i l.length h2 h3, h4]
theorem z35 (N : Nat) (l : List zA) (a b : Int) (p : zA → Bool) (hp : ∀ x ∈ l, zdi N x a b = some (p x)) (h : l.length < N) (hl : l.length ≤ 1000000) : zh N l a b = some (l.filter fun f => !(p f)) := by
 unfold zh zp
 have := zsm (f := zp.r0 N) l p (fun i => (l, (l.length : Int), (i : Int), a, b)) (fun i y hy => by
  have hi := (gei hy).1; have hc := hp y (lmg hy); simp only [zp.r0, zp.b0, hc, zan, hy, obs, dct (show (i : Int) < (l.length : Int) by omega), ctr]; rw [w6e]; cases p y <;> simp)
  (by simp only [zp.r0, zp.b0, dcf (show ¬ (l.length : Int) < (l.length : Int) by omega), cfa]) h
 simp only [nc0] at this
 rw [this]
 cases hf : l.findIdx? p with
 | none => simp [zaz, zox hf]
 | some k =>
  have hk : k < l.length := by
   rw [List.findIdx?_eq_some_iff_getElem] at hf; exact hf.1
  obtain ⟨s, i, h1, h2, h3, h4⟩ := zzr (f := zh.r0 N) l p (fun s i j => (s, (i : Int), (j : Int), a, b)) (fun s i j x hx hij hs hm => by
   have hj := (gei hx).1; have hxi : ∃ y, s[i]? = some y := ⟨_, lge (by omega)⟩; obtain ⟨y, hy⟩ := hxi; have hc := hp x hm; simp only [zh.r0, zh.b0, hc, dct (show (j : Int) < (s.length : Int) by omega), ctr, ifp (show 0 ≤ (j : Int) by omega), ifp (show (j : Int) < (s.length : Int) by omega),
    ifp (show 0 ≤ (i : Int) by omega), ifp (show (i : Int) < (s.length : Int) by omega), itn, hx, hy, obs]
   rw [w6e (n := (i : Int) + 1), w6e (n := (j : Int) + 1)]; cases p x <;> simp)
   (fun s i hs hi => by simp only [zh.r0, zh.b0, hs, dcf (show ¬ (l.length : Int) < (l.length : Int) by omega), cfa]) hf h
  have hne : ((k : Int) == -1) = false := by rw [zcw]; simp
  simp only [zaz, obs, hne, cfa]; rw [w6e]; have h1 : zf (zh.r0 N) N (l, (k : Int), (k : Int) + 1, a, b) = some (s, (i : Int), (l.length : Int), a, b) := by
   have := h1; simpa using this
  rw [h1]; simp only [obs]; rw [ztc s i l.length h2 h3, h4]
theorem zmy (N : Nat) (l : List zA) (r : Int) (h : l.length < N) (hl : l.length ≤ 1000000) : zct N l r = some (l.filter fun f => !(f.Register == r)) := by
 unfold zct
 rw [zux l hl, obs, z36 N l r (fun f => f.Register == r) (fun x _ => rfl) h hl]
 rfl
theorem z24 (N : Nat) (l : List zA) (h : l.length < N) (hl : l.length ≤ 1000000) : zgv N l = some (l.filter fun f => f.Offset == -1) := by
 unfold zgv
 rw [zux l hl, obs, z34 N l (fun f => f.Offset != -1) (fun x _ => rfl) h hl]
 simp only [obs]
 congr 2
 funext f
 cases he : (f.Offset == -1) <;> simp [bne, he]
theorem zuj (N : Nat) (hN : 10 < N) {t : DataType} (h : zbf t = 0) : zds N t = some (szE t) := by
 unfold zds zdu
 rw [zry N hN, h]
 simp [zx8 h]
def apB (a b : Int) (x : zA) : Bool := (x.Offset != -1 && decide (x.Offset < w6 (a + b))) && decide (a < w6 (x.Offset + szE x.zD))
theorem zvv (N : Nat) (hN : 10 < N) (l : List zA) (a b : Int) (ht : ∀ x ∈ l, zbf x.zD = 0) (h : l.length < N) (hl : l.length ≤ 1000000) : zes N l a b = some (l.filter fun f => !apB a b f) := by
 unfold zes
 rw [zux l hl, obs, z35 N l a b (apB a b) (fun x hx => ?_) h hl]
 · rfl
 · unfold zdi apB; rw [zuj N hN (ht x hx)]; cases (x.Offset != -1) <;> cases decide (x.Offset < w6 (a + b)) <;> simp
theorem z6f {α β σ : Type} {f : σ → Option (Stp σ)} (l : List α) (g : α → List β) (M : Nat) (hM : ∀ x ∈ l, (g x).length ≤ M) (S : Nat → List β → σ) (a0 : List β)
 (hstep : ∀ i x acc, l[i]? = some x → acc.length ≤ a0.length + i * M → f (S i acc) = some (.again (S (i + 1) (acc ++ g x))))
 (hl : ∀ acc, f (S l.length acc) = some (.leave (S l.length acc))) {N : Nat} (hN : l.length < N) : zf f N (S 0 a0) = some (S l.length (a0 ++ l.flatMap g)) := by
 have e0 : ∀ i, ((l.take i).flatMap g).length ≤ i * M := by
  intro i
  induction i with
  | zero => simp
  | succ i ih =>
   rw [List.take_add_one, List.flatMap_append, lna, Nat.succ_mul]; refine Nat.add_le_add ih ?_; cases hx : l[i]? with
   | none => simp
   | some x => simpa using hM x (lmg hx)
 have := zfe (f := f) (fun i => S i (a0 ++ (l.take i).flatMap g)) l.length (fun i hi => by
  have hx := lge hi; rw [hstep i _ _ hx (by rw [lna]; have := e0 i; omega), List.take_add_one, hx, List.flatMap_append]; simp) (hl _) hN
 simpa using this
def zhg (a r : Int) (x : zA) : Option zA := if x.Register = a then some ⟨r, x.zD, x.Offset⟩ else none
theorem zvw (N : Nat) (l : List zA) (a r : Int) (h : l.length < N) (hl : l.length ≤ 100000) : za5 N l a r = some (l.filterMap (zhg a r)) := by
 unfold za5
 have := zuw (f := za5.r0 N) l (zhg a r) (fun i acc => (a, r, acc, l, (l.length : Int), (i : Int))) (fun i x acc hx hacc => by
  have hi := (gei hx).1; simp only [za5.r0, za5.b0, zan, hx, obs, dct (show (i : Int) < (l.length : Int) by omega), ctr, lnc, ln0, zi0 (show acc.length + (0 + 1) ≤ 1000000000 by omega)]; rw [w6e, zcw]; unfold zhg
  by_cases e : x.Register = a <;> simp [e])
  (fun acc => by simp only [za5.r0, za5.b0, dcf (show ¬ (l.length : Int) < (l.length : Int) by omega), cfa]) h
 simp only [nc0] at this
 rw [this]
 rfl
def zui (a b : DataType) : Bool := a.Kind == b.Kind && (a.Length == b.Length && a.Scale == b.Scale)
theorem zvu {a b : DataType} : zui a b = true ↔ a = b := by
 obtain ⟨k, l, s⟩ := a
 obtain ⟨k', l', s'⟩ := b
 simp only [zui, Bool.and_eq_true, beq_iff_eq, DataType.mk.injEq]
theorem z1f (a b : DataType) : zdb [(a.Kind == b.Kind), (a.Length == b.Length), (a.Scale == b.Scale)] = zui a b := by
 simp only [zdb, zui, Bool.and_true]
def woL (r : Int) (l : List zA) : List zA := l.filter fun f => !(f.Register == r)
def ziz (x : zB) (l : List zA) (g : zA) : List zA := if zui g.zD x.zD && g.Offset == x.Place.Offset then l.filterMap (zhg g.Register x.R) else []
def zn5 (x : zB) (l : List zA) : List zA :=
 (woL x.R l ++ [⟨x.R, x.zD, -1⟩]) ++ (if x.Place.Based then [] else [⟨x.R, x.zD, x.Place.Offset⟩] ++ l.flatMap (ziz x l))
theorem zz2 (N : Nat) (x : zB) (l : List zA) (h : l.length < N) (hl : l.length ≤ 5000) : zbc N x l = some (zn5 x l) := by
 unfold zbc
 rw [zmy N l x.R h (by omega)]
 have hw : (l.filter fun f => !(f.Register == x.R)).length ≤ l.length := List.length_filter_le _ _
 simp only [obs, lna, lnc, ln0]
 rw [zi0 (by omega), zi0 (by omega)]
 simp only [ctr]
 unfold zn5 woL
 cases hb : x.Place.Based with
 | true => simp
 | false =>
  simp only [cfa]; have := z6f (f := zbc.r0 N) l (ziz x l) 5000 (fun g _ => by
   unfold ziz; split
   · exact Nat.le_trans (List.length_filterMap_le _ _) hl
   · simp) (fun i acc => (l, acc, l, (l.length : Int), (i : Int), x)) (((l.filter fun f => !(f.Register == x.R)) ++ [⟨x.R, x.zD, -1⟩]) ++ [⟨x.R, x.zD, x.Place.Offset⟩]) (fun i y acc hy hacc => by
   have hi := (gei hy).1; simp only [zbc.r0, zbc.b0, zan, hy, obs, dct (show (i : Int) < (l.length : Int) by omega), ctr, z1f]; rw [zhn, obs, zvw N l y.Register x.R h (by omega), w6e]; have hla : (l.filterMap (zhg y.Register x.R)).length ≤ l.length := List.length_filterMap_le _ _; have hi2 : i * 5000 ≤ 5000 * 5000 := Nat.mul_le_mul_right 5000 (by omega); simp only [lna, lnc, ln0] at hacc; unfold ziz; cases hc : (zui y.zD x.zD && y.Offset == x.Place.Offset) with
   | true => simp only [ctr, obs, if_true, zi0 (show acc.length + (l.filterMap (zhg y.Register x.R)).length ≤ 1000000000 by omega)]; rfl
   | false => simp)
   (fun acc => by simp only [zbc.r0, zbc.b0, dcf (show ¬ (l.length : Int) < (l.length : Int) by omega), cfa]) h
  simp only [nc0] at this; rw [this]; simp
def zqw (x : zB) (l : List zA) : List zA :=
 if x.Place.Based then l.filter fun f => f.Offset == -1
 else (l.filter fun f => !apB x.Place.Offset (szE x.zD) f) ++ (if x.Op == 1 && zfa l ⟨x.R, x.zD, -1⟩ then [⟨x.R, x.zD, x.Place.Offset⟩] else [])
theorem zys (N : Nat) (hN : 10 < N) (x : zB) (l : List zA) (htx : zbf x.zD = 0) (ht : ∀ x ∈ l, zbf x.zD = 0) (h : l.length < N) (hl : l.length ≤ 5000) : zfj N x l = some (zqw x l) := by
 unfold zfj zqw
 rw [z24 N l h (by omega), zuj N hN htx]
 cases hb : x.Place.Based with
 | true => simp
 | false =>
  simp only [cfa, obs]; rw [zvv N hN l _ _ ht h (by omega), zr5 N l _ h (by omega)]; have hw : (l.filter fun f => !apB x.Place.Offset (szE x.zD) f).length ≤ l.length := List.length_filter_le _ _; simp only [obs, zhn, lnc, ln0, zi0 (show (l.filter fun f => !apB x.Place.Offset (szE x.zD) f).length + (0 + 1) ≤ 1000000000 by omega)]; cases (x.Op == 1 && zfa l ⟨x.R, x.zD, -1⟩) <;> simp
structure InsX (m : zI) (c : zF) (x : zB) : Prop where
 op : 0 ≤ x.Op ∧ x.Op ≤ 26
 r : x.Op = 0 ∨ x.Op = 1 ∨ x.Op = 2 ∨ x.Op = 3 ∨ x.Op = 4 ∨ x.Op = 21 → 0 ≤ x.R ∧ x.R < m.Registers
 a : x.Op = 3 → 0 ≤ x.A ∧ x.A < m.Registers
 ty : x.Op = 0 ∨ x.Op = 1 ∨ x.Op = 4 ∨ x.Op = 9 ∨ x.Op = 10 → zbf x.zD = 0
 kd : x.Op = 0 ∨ x.Op = 1 ∨ x.Op = 4 → x.zD.Kind ≠ 0 ∧ x.zD.Kind ≠ 4
 pl : x.Op = 0 ∨ x.Op = 1 ∨ x.Op = 9 ∨ x.Op = 10 → x.Place.Based = false → 0 ≤ x.Place.Offset ∧ x.Place.Offset + szE x.zD ≤ (c.Storage.Bytes.size : Int)
 pt : x.Op = 14 ∨ x.Op = 15 ∨ x.Op = 16 → 0 ≤ x.Pointer ∧ x.Pointer < (c.Storage.Bytes.size : Int)
 tg : x.Op = 6 ∨ x.Op = 7 ∨ x.Op = 8 ∨ x.Op = 18 → 0 ≤ x.Target ∧ x.Target < (c.zC.length : Int)
theorem zo2 {t : DataType} (h : zdf t 1 = 0) : zbf t = 0 ∧ t.Kind ≠ 0 ∧ t.Kind ≠ 4 := by
 unfold zdf at h
 rw [ifn (by decide)] at h
 by_cases h0 : zbf t = 0
 · rw [ifp h0] at h; split at h
   · cases h
   · rename_i h1; refine ⟨h0, ?_⟩; have h2 : inB t.Kind 1 3 = true := by
      refine cbc fun h2 => h1 (.inl ⟨rfl, fun h3 => h2 (zde.2 h3)⟩)
     have := zde.1 h2; omega
 · rw [ifn h0] at h; exact absurd h h0
theorem z6b {m : zI} {c : zF} {x : zB} (h : zmu m c x = 0) : InsX m c x := by
 unfold zmu at h
 by_cases hop : inB x.Op 0 26 = true
 · obtain ⟨f, u, hf, hu, ag, _⟩ := zva x hop; rw [ifp hop, hu] at h; have h' : zs6 m c x u = 0 := h; unfold zs6 at h'; cases he : zkl x u with
   | true => rw [he] at h'; cases h'
   | false =>
    rw [he] at h'; simp only [cfa] at h'; cases hl : zmp m x with
    | true => rw [hl] at h'; cases h'
    | false =>
     rw [hl] at h'; simp only [cfa] at h'
     by_cases h1 : zdf x.zD u.zD = 0
     · by_cases h2 : zdf x.Second u.Second = 0
       · rw [ifn, ifn] at h'; cases hr : zky m c x u with
         | true => rw [hr] at h'; simp at h'
         | false =>
          unfold zky at hr; simp only [Bool.or_eq_false_iff] at hr; obtain ⟨r1, r2, r3, r4, r5, r6, r7, r8⟩ := hr; rw [List.any_eq_false] at r1; have reg : ∀ i, i ∈ zly x u → 0 ≤ i ∧ i < m.Registers := fun i hi => by
           have := r1 i hi; unfold zez at this; have h4 : inB i 0 (m.Registers - 1) = true := by simpa using this
           have := zde.1 h4; omega
          have andF : ∀ {p q : Bool}, (p && !q) = false → p = true → q = true := fun {p q} h hp => by subst hp; simpa using h
          have hu0 : ∀ k, x.Op = k → ∀ w, zdz ⟨k, x.R, x.A, x.B, x.zO, x.Place, x.From, x.zD, x.Second, x.Half, x.zN, x.Number, x.Text, x.Other, x.Mask, x.Target, x.Pointer, x.Source⟩ = some w → u = w := by
           rintro k rfl w hw
           have : zdz x = some w := hw; rw [hu] at this; exact Option.some.inj this
          have place : u.Place = true → (x.Op ≠ 4) → x.Place.Based = false → zbf x.zD = 0 → 0 ≤ x.Place.Offset ∧ x.Place.Offset + szE x.zD ≤ (c.Storage.Bytes.size : Int) := fun hp h4 hb ht => by
           have := andF r6 hp; unfold zhb at this; rw [hb] at this; have hpl : zj7 x = x.zD := by unfold zj7; rw [ifn h4]
           rw [hpl] at this; have := zde.1 (by simpa using this); omega
          have pnt : u.Pointer = true → 0 ≤ x.Pointer ∧ x.Pointer < (c.Storage.Bytes.size : Int) := fun hp => by
           have := andF r4 hp; unfold zjl at this; simp only [Bool.and_eq_true, decide_eq_true_eq] at this; omega
          have op4 : x.Op = 4 → u.R = true ∧ u.zD = 1 := fun e => by
           cases hi : x.zN with
           | true => have := hu0 4 e _ (by rw [hi]; rfl); subst this; exact ⟨rfl, rfl⟩
           | false => have := hu0 4 e _ (by rw [hi]; rfl); subst this; exact ⟨rfl, rfl⟩
          have hR : u.R = true → 0 ≤ x.R ∧ x.R < m.Registers := fun hx => reg _ (by unfold zly; rw [hx]; simp); have hA : u.A = true → 0 ≤ x.A ∧ x.A < m.Registers := fun hx => reg _ (by unfold zly; rw [hx]; simp); have tyy : x.Op = 0 ∨ x.Op = 1 ∨ x.Op = 4 ∨ x.Op = 9 ∨ x.Op = 10 → zbf x.zD = 0 := by
           rintro (e | e | e | e | e)
           · have := hu0 0 e _ rfl; subst this; exact (zo2 h1).1
           · have := hu0 1 e _ rfl; subst this; exact (zo2 h1).1
           · rw [(op4 e).2] at h1; exact (zo2 h1).1
           · have := hu0 9 e _ rfl; subst this; exact zld h1 (by decide)
           · have := hu0 10 e _ rfl; subst this; exact zld h1 (by decide)
          exact {
           op := zde.1 hop
           r := by
            rintro (e | e | e | e | e | e)
            · have := hu0 0 e _ rfl; subst this; exact hR rfl
            · have := hu0 1 e _ rfl; subst this; exact hR rfl
            · have := hu0 2 e _ rfl; subst this; exact hR rfl
            · have := hu0 3 e _ rfl; subst this; exact hR rfl
            · exact hR (op4 e).1
            · have := hu0 21 e _ rfl; subst this; exact hR rfl
           a := fun e => by have := hu0 3 e _ rfl; subst this; exact hA rfl
           ty := tyy
           kd := by
            rintro (e | e | e)
            · have := hu0 0 e _ rfl; subst this; exact (zo2 h1).2
            · have := hu0 1 e _ rfl; subst this; exact (zo2 h1).2
            · rw [(op4 e).2] at h1; exact (zo2 h1).2
           pl := by
            rintro (e | e | e | e) hb
            · have ht := tyy (by omega); have := hu0 0 e _ rfl; subst this; exact place rfl (by omega) hb ht
            · have ht := tyy (by omega); have := hu0 1 e _ rfl; subst this; exact place rfl (by omega) hb ht
            · have ht := tyy (by omega); have := hu0 9 e _ rfl; subst this; exact place rfl (by omega) hb ht
            · have ht := tyy (by omega); have := hu0 10 e _ rfl; subst this; exact place rfl (by omega) hb ht
           pt := by
            rintro (e | e | e)
            · have := hu0 14 e _ rfl; subst this; exact pnt rfl
            · have := hu0 15 e _ rfl; subst this; exact pnt rfl
            · have := hu0 16 e _ rfl; subst this; exact pnt rfl
           tg := by
            have tgt : u.Target = true → 0 ≤ x.Target ∧ x.Target < (c.zC.length : Int) := fun hx => by have := zde.1 (andF r2 hx); omega
            rintro (e | e | e | e)
            · have := hu0 6 e _ rfl; subst this; exact tgt rfl
            · have := hu0 7 e _ rfl; subst this; exact tgt rfl
            · have := hu0 8 e _ rfl; subst this; exact tgt rfl
            · have := hu0 18 e _ rfl; subst this; exact tgt rfl }
       · rw [ifn, ifp h2] at h'; exact absurd h' h2
     · rw [ifp h1] at h'; exact absurd h' h1
 · rw [ifn hop] at h; cases h
structure FctV (m : zI) (c : zF) (f : zA) : Prop where
 r : 0 ≤ f.Register ∧ f.Register < m.Registers
 ty : zbf f.zD = 0
 kd : f.zD.Kind ≠ 0 ∧ f.zD.Kind ≠ 4
 of : f.Offset = -1 ∨ (0 ≤ f.Offset ∧ f.Offset + szE f.zD ≤ (c.Storage.Bytes.size : Int))
theorem zyr {t : DataType} (h : zbf t = 0) : 0 ≤ t.Scale ∧ t.Scale ≤ 15 := by
 unfold zbf at h
 split at h
 · split at h
   · split at h
     · omega
     · cases h
   · cases h
 · split at h
   · split at h
     · rename_i h1; split at h
       · rename_i h2; have := zde.1 h1; have := zde.1 h2; omega
       · cases h
     · cases h
   · split at h
     · split at h
       · split at h
         · rename_i h2; have := zde.1 h2; omega
         · cases h
       · cases h
     · split at h
       · split at h
         · split at h
           · omega
           · cases h
         · cases h
       · cases h
theorem z5a {m : zI} {c : zF} (hm : m.Registers ≤ 8) (hs : c.Storage.Bytes.size ≤ 1024) {f : zA} (h : FctV m c f) : Proofs.Tryz.okF f = true := by
 rw [Proofs.Tryz.okF_iff]
 have h1 := h.r
 have h3 := h.of
 have h4 := zo3 h.ty
 have h2 := zyr h.ty
 rcases zir h.ty with ⟨q0, q1, q2⟩ | ⟨q0 | q0, q1, q2⟩ | ⟨q0, q1 | q1⟩ | ⟨q0, q1⟩ <;> refine ⟨?_, ?_, ?_, ?_, ?_⟩ <;> omega
theorem zp8 {l : List zA} (h : ∀ f ∈ l, Proofs.Tryz.okF f = true) (hl : l.length ≤ 1000000000) : zlt Proofs.Tryz.ltF Proofs.Tryz.okF l = some (ordD Proofs.Tryz.ltF l) := by
 unfold zlt
 rw [List.all_eq_true.2 h, zi0 hl]
 rfl
def zhf (x : zB) (l : List zA) : List zA :=
 if x.Op = 0 then ordD Proofs.Tryz.ltF (zn5 x l)
 else if x.Op = 4 then ordD Proofs.Tryz.ltF (woL x.R l ++ [⟨x.R, x.zD, -1⟩])
 else if x.Op = 2 ∨ x.Op = 21 then woL x.R l
 else if x.Op = 3 then ordD Proofs.Tryz.ltF (woL x.R l ++ l.filterMap (zhg x.A x.R))
 else if x.Op = 1 ∨ x.Op = 9 ∨ x.Op = 10 then ordD Proofs.Tryz.ltF (zqw x l)
 else if x.Op = 14 ∨ x.Op = 15 ∨ x.Op = 16 then l.filter fun f => !apB x.Pointer 16 f
 else l
theorem zrq {l : List zA} {a r : Int} {f : zA} : f ∈ l.filterMap (zhg a r) ↔ ∃ g ∈ l, g.Register = a ∧ f = ⟨r, g.zD, g.Offset⟩ := by
 rw [List.mem_filterMap]
 constructor
 · rintro ⟨g, hg, h⟩
   unfold zhg at h; split at h
   · rename_i e; cases h; exact ⟨g, hg, e, rfl⟩
   · cases h
 · rintro ⟨g, hg, e, rfl⟩
   exact ⟨g, hg, by unfold zhg; rw [ifp e]⟩
theorem zlc {l : List zA} {r : Int} {f : zA} : f ∈ woL r l ↔ f ∈ l ∧ f.Register ≠ r := by
 unfold woL
 rw [List.mem_filter]
 simp
theorem z16 {x : zB} {l : List zA} {f : zA} : f ∈ zn5 x l ↔ (f ∈ l ∧ f.Register ≠ x.R) ∨ f = ⟨x.R, x.zD, -1⟩ ∨ (x.Place.Based = false ∧ (f = ⟨x.R, x.zD, x.Place.Offset⟩ ∨ ∃ h ∈ l, h.zD = x.zD ∧ h.Offset = x.Place.Offset ∧ ∃ g ∈ l, g.Register = h.Register ∧ f = ⟨x.R, g.zD, g.Offset⟩)) := by
 unfold zn5
 rw [List.mem_append, List.mem_append, zlc, List.mem_singleton, or_assoc]
 cases hb : x.Place.Based with
 | true => simp
 | false =>
  simp only [Bool.false_eq_true, if_false, List.mem_append, List.mem_singleton, List.mem_flatMap, true_and]; have : (∃ a, a ∈ l ∧ f ∈ ziz x l a) ↔ ∃ h ∈ l, h.zD = x.zD ∧ h.Offset = x.Place.Offset ∧ ∃ g ∈ l, g.Register = h.Register ∧ f = ⟨x.R, g.zD, g.Offset⟩ := by
   constructor
   · rintro ⟨h, hh, hf⟩
     unfold ziz at hf; split at hf
     · rename_i e; rw [Bool.and_eq_true, zvu, beq_iff_eq] at e; exact ⟨h, hh, e.1, e.2, zrq.1 hf⟩
     · simp at hf
   · rintro ⟨h, hh, e1, e2, hf⟩
     refine ⟨h, hh, ?_⟩; unfold ziz; rw [ifp (by rw [Bool.and_eq_true, zvu, beq_iff_eq]; exact ⟨e1, e2⟩)]; exact zrq.2 hf
  rw [this]
theorem z2z {x : zB} {l : List zA} {f : zA} : f ∈ zqw x l ↔ (x.Place.Based = true ∧ f ∈ l ∧ f.Offset = -1) ∨ (x.Place.Based = false ∧ ((f ∈ l ∧ apB x.Place.Offset (szE x.zD) f = false) ∨ (x.Op = 1 ∧ (⟨x.R, x.zD, -1⟩ : zA) ∈ l ∧ f = ⟨x.R, x.zD, x.Place.Offset⟩))) := by
 unfold zqw
 cases hb : x.Place.Based with
 | true => simp [List.mem_filter]
 | false =>
  simp only [Bool.false_eq_true, if_false, List.mem_append, List.mem_filter, false_and, false_or, true_and, Bool.not_eq_true']; have : (f ∈ (if x.Op == 1 && zfa l ⟨x.R, x.zD, -1⟩ then [(⟨x.R, x.zD, x.Place.Offset⟩ : zA)] else [])) ↔ (x.Op = 1 ∧ (⟨x.R, x.zD, -1⟩ : zA) ∈ l ∧ f = ⟨x.R, x.zD, x.Place.Offset⟩) := by
   split
   · rename_i e; rw [Bool.and_eq_true, beq_iff_eq, zh7] at e; simp [e.1, e.2]
   · rename_i e; rw [Bool.and_eq_true, beq_iff_eq, zh7] at e; simp only [List.not_mem_nil, false_iff]
     rintro ⟨a, b, _⟩
     exact e ⟨a, b⟩
  rw [this]
def Beh (x : zB) (l : List zA) (f : zA) : Prop :=
 if x.Op = 0 then (f ∈ l ∧ f.Register ≠ x.R) ∨ f = ⟨x.R, x.zD, -1⟩ ∨ (x.Place.Based = false ∧ (f = ⟨x.R, x.zD, x.Place.Offset⟩ ∨ ∃ h ∈ l, h.zD = x.zD ∧ h.Offset = x.Place.Offset ∧ ∃ g ∈ l, g.Register = h.Register ∧ f = ⟨x.R, g.zD, g.Offset⟩))
 else if x.Op = 4 then (f ∈ l ∧ f.Register ≠ x.R) ∨ f = ⟨x.R, x.zD, -1⟩
 else if x.Op = 2 ∨ x.Op = 21 then f ∈ l ∧ f.Register ≠ x.R
 else if x.Op = 3 then (f ∈ l ∧ f.Register ≠ x.R) ∨ ∃ g ∈ l, g.Register = x.A ∧ f = ⟨x.R, g.zD, g.Offset⟩
 else if x.Op = 1 ∨ x.Op = 9 ∨ x.Op = 10 then (x.Place.Based = true ∧ f ∈ l ∧ f.Offset = -1) ∨ (x.Place.Based = false ∧ ((f ∈ l ∧ apB x.Place.Offset (szE x.zD) f = false) ∨ (x.Op = 1 ∧ (⟨x.R, x.zD, -1⟩ : zA) ∈ l ∧ f = ⟨x.R, x.zD, x.Place.Offset⟩)))
 else if x.Op = 14 ∨ x.Op = 15 ∨ x.Op = 16 then f ∈ l ∧ apB x.Pointer 16 f = false
 else f ∈ l
theorem zk6 {l : List zA} {f : zA} : f ∈ ordD Proofs.Tryz.ltF l ↔ f ∈ l := Proofs.Tryz.mem_ordD _ Proofs.Tryz.ltF_eq f l
theorem zyj {x : zB} {l : List zA} {f : zA} : f ∈ zhf x l ↔ Beh x l f := by
 unfold zhf Beh
 split
 · rw [zk6, z16]
 · split
   · rw [zk6, List.mem_append, zlc, List.mem_singleton]
   · split
     · rw [zlc]
     · split
       · rw [zk6, List.mem_append, zlc, zrq]
       · split
         · rw [zk6, z2z]
         · split
           · simp [List.mem_filter]
           · rfl
def zj0 (l : List zA) : Prop := l.Pairwise fun a b => Proofs.Tryz.ltF a b = true
variable {m : zI} {c : zF}
theorem z5d {x : zB} (hx : InsX m c x) {l : List zA} (hl : ∀ f ∈ l, FctV m c f) {f : zA} (h : Beh x l f) : FctV m c f := by
 have about : ∀ g ∈ l, (0 ≤ x.R ∧ x.R < m.Registers) → FctV m c ⟨x.R, g.zD, g.Offset⟩ := fun g hg hr => ⟨hr, (hl g hg).ty, (hl g hg).kd, (hl g hg).of⟩
 unfold Beh at h
 split at h
 · rename_i e; rcases h with ⟨h, _⟩ | rfl | ⟨hb, rfl | ⟨_, _, _, _, g, hg, _, rfl⟩⟩
   · exact hl _ h
   · exact ⟨hx.r (.inl e), hx.ty (.inl e), hx.kd (.inl e), .inl rfl⟩
   · exact ⟨hx.r (.inl e), hx.ty (.inl e), hx.kd (.inl e), .inr (hx.pl (.inl e) hb)⟩
   · exact about g hg (hx.r (.inl e))
 · split at h
   · rename_i e; rcases h with ⟨h, _⟩ | rfl
     · exact hl _ h
     · exact ⟨hx.r (by omega), hx.ty (by omega), hx.kd (by omega), .inl rfl⟩
   · split at h
     · exact hl _ h.1
     · split at h
       · rename_i e; rcases h with ⟨h, _⟩ | ⟨g, hg, _, rfl⟩
         · exact hl _ h
         · exact about g hg (hx.r (by omega))
       · split at h
         · rename_i e; rcases h with ⟨_, h, _⟩ | ⟨hb, ⟨h, _⟩ | ⟨e1, _, rfl⟩⟩
           · exact hl _ h
           · exact hl _ h
           · exact ⟨hx.r (by omega), hx.ty (by omega), hx.kd (by omega), .inr (hx.pl (by omega) hb)⟩
         · split at h
           · exact hl _ h.1
           · exact hl _ h
theorem zz4 (N : Nat) (hN : 10 < N) (hm : m.Registers ≤ 8) (hs : c.Storage.Bytes.size ≤ 1024) {x : zB} (hx : InsX m c x) {l : List zA} (hf : ∀ f ∈ l, FctV m c f) (h : l.length < N) (hl : l.length ≤ 5000) :
 zd8 N x l = some (zhf x l) := by
 have ok : ∀ f ∈ zhf x l, Proofs.Tryz.okF f = true := fun f hf' => z5a hm hs (z5d hx hf (zyj.1 hf'))
 have ht : ∀ f ∈ l, zbf f.zD = 0 := fun f h => (hf f h).ty
 unfold zd8
 simp only [zcw]
 by_cases e0 : x.Op = 0
 · have o2 : zhf x l = ordD Proofs.Tryz.ltF (zn5 x l) := by unfold zhf; rw [ifp e0]
   rw [dct e0, ctr, zz2 N x l h hl, obs, zp8 (fun f hf' => ok f (by rw [o2, zk6]; exact hf')) ?_, o2]
   · rfl
   · unfold zn5 woL; have h1 : (l.filter fun f => !(f.Register == x.R)).length ≤ l.length := List.length_filter_le _ _; have h2 : (l.flatMap (ziz x l)).length ≤ 5000 * 5000 := by
      have : ∀ k : List zA, k.length ≤ 5000 → (k.flatMap (ziz x l)).length ≤ k.length * 5000 := by
       intro k
       induction k with
       | nil => intro _; simp
       | cons g k ih =>
        intro hk; have hk' : k.length + 1 ≤ 5000 := by simpa using hk
        have := ih (by omega); have h3 : (ziz x l g).length ≤ 5000 := by
         unfold ziz; split
         · exact Nat.le_trans (List.length_filterMap_le _ _) hl
         · simp
        rw [List.flatMap_cons, lna, lnc, Nat.succ_mul]; omega
      exact Nat.le_trans (this l hl) (Nat.mul_le_mul_right 5000 hl)
     simp only [lna, lnc, ln0]; split
     · simp; omega
     · simp only [lna, lnc, ln0]; omega
 · rw [dcf e0, cfa]
   by_cases e4 : x.Op = 4
   · have o2 : zhf x l = ordD Proofs.Tryz.ltF (woL x.R l ++ [⟨x.R, x.zD, -1⟩]) := by unfold zhf; rw [ifn e0, ifp e4]
     have h1 : (woL x.R l).length ≤ l.length := List.length_filter_le _ _; rw [dct e4, ctr, zmy N l x.R h (by omega), obs]; change cond (Nat.ble (((woL x.R l).length + 1) * 40) zak) ((zlt Proofs.Tryz.ltF Proofs.Tryz.okF (woL x.R l ++ [⟨x.R, x.zD, -1⟩])).bind fun r4 => some r4) none = _; rw [zi0 (by omega), ctr, zp8 (fun f hf' => ok f (by rw [o2, zk6]; exact hf')) (by simp; omega), o2]; rfl
   · rw [dcf e4, cfa]
     by_cases e2 : x.Op = 2 ∨ x.Op = 21
     · have o2 : zhf x l = woL x.R l := by unfold zhf; rw [ifn e0, ifn e4, ifp e2]
       rw [show cond (decide (x.Op = 2)) (some (decide (x.Op = 2))) (some (decide (x.Op = 21))) = some true by rcases e2 with e | e <;> simp [e], obs, ctr, zmy N l x.R h (by omega), o2]; rfl
     · rw [show cond (decide (x.Op = 2)) (some (decide (x.Op = 2))) (some (decide (x.Op = 21))) = some false by rw [not_or] at e2; simp [e2.1, e2.2], obs, cfa]
       by_cases e3 : x.Op = 3
       · have o2 : zhf x l = ordD Proofs.Tryz.ltF (woL x.R l ++ l.filterMap (zhg x.A x.R)) := by unfold zhf; rw [ifn e0, ifn e4, ifn e2, ifp e3]
         have h1 : (woL x.R l).length ≤ l.length := List.length_filter_le _ _; have h2 : (l.filterMap (zhg x.A x.R)).length ≤ l.length := List.length_filterMap_le _ _; rw [dct e3, ctr, zmy N l x.R h (by omega), obs, zvw N l x.A x.R h (by omega), obs]; change cond (Nat.ble (((woL x.R l).length + (l.filterMap (zhg x.A x.R)).length) * 40) zak) ((zlt Proofs.Tryz.ltF Proofs.Tryz.okF (woL x.R l ++ l.filterMap (zhg x.A x.R))).bind fun r9 => some r9) none = _; rw [zi0 (by omega), ctr, zp8 (fun f hf' => ok f (by rw [o2, zk6]; exact hf')) (by rw [lna]; omega), o2]; rfl
       · rw [dcf e3, cfa]
         by_cases e1 : x.Op = 1 ∨ x.Op = 9 ∨ x.Op = 10
         · have o2 : zhf x l = ordD Proofs.Tryz.ltF (zqw x l) := by unfold zhf; rw [ifn e0, ifn e4, ifn e2, ifn e3, ifp e1]
           rw [show cond (decide (x.Op = 1)) (some (decide (x.Op = 1))) (cond (decide (x.Op = 9)) (some (decide (x.Op = 9))) (some (decide (x.Op = 10)))) = some true by rcases e1 with e | e | e <;> simp [e], obs, ctr,
            zys N hN x l (hx.ty (by omega)) ht h hl, obs, zp8 (fun f hf' => ok f (by rw [o2, zk6]; exact hf')) ?_, o2]
           · rfl
           · unfold zqw; split
             · exact Nat.le_trans (List.length_filter_le _ _) (by omega)
             · rw [lna]; have h1 : (l.filter fun f => !apB x.Place.Offset (szE x.zD) f).length ≤ l.length := List.length_filter_le _ _; split <;> simp <;> omega
         · rw [show cond (decide (x.Op = 1)) (some (decide (x.Op = 1))) (cond (decide (x.Op = 9)) (some (decide (x.Op = 9))) (some (decide (x.Op = 10)))) = some false by rw [not_or, not_or] at e1; simp [e1.1, e1.2.1, e1.2.2], obs, cfa]
           by_cases e5 : x.Op = 14 ∨ x.Op = 15 ∨ x.Op = 16
           · have o2 : zhf x l = l.filter fun f => !apB x.Pointer 16 f := by unfold zhf; rw [ifn e0, ifn e4, ifn e2, ifn e3, ifn e1, ifp e5]
             rw [show cond (decide (x.Op = 14)) (some (decide (x.Op = 14))) (cond (decide (x.Op = 15)) (some (decide (x.Op = 15))) (some (decide (x.Op = 16)))) = some true by rcases e5 with e | e | e <;> simp [e], obs, ctr,
              zvv N hN l _ _ ht h (by omega), o2]
             rfl
           · have o2 : zhf x l = l := by unfold zhf; rw [ifn e0, ifn e4, ifn e2, ifn e3, ifn e1, ifn e5]
             rw [show cond (decide (x.Op = 14)) (some (decide (x.Op = 14))) (cond (decide (x.Op = 15)) (some (decide (x.Op = 15))) (some (decide (x.Op = 16)))) = some false by rw [not_or, not_or] at e5; simp [e5.1, e5.2.1, e5.2.2], obs, cfa, o2]
theorem z2k {α R σ : Type} {f : σ → Option (Round R σ)} (l : List α) (p : α → Bool) (v : R) (S : Nat → σ) (hstep : ∀ i x, l[i]? = some x → f (S i) = some (cond (p x) (.result v) (.again (S (i + 1)))))
 (hl : f (S l.length) = some (.leave (S l.length))) {N : Nat} (hN : l.length < N) : zk f N (S 0) = some (if l.any p = true then .inl v else .inr (S l.length)) := by
 have := zca (f := f) S (fun i => (l[i]?).bind fun x => if p x = true then some v else none) l.length (fun i hi => by
  have hx := lge hi; rw [hstep i _ hx]; simp only [hx, obs]; cases hb : p l[i] <;> simp) hl hN
 rw [this]
 congr 1
 rw [zg0]
 cases hf : l.findSome? (fun x => if p x = true then some v else none) with
 | none =>
  rw [List.findSome?_eq_none_iff] at hf; have hno : ¬ l.any p = true := by
   rw [List.any_eq_true]
   rintro ⟨x, hx, h⟩
   have := hf x hx; rw [ifp h] at this; cases this
  rw [ifn hno]
 | some r =>
  obtain ⟨x, hx, h⟩ := eof hf; split at h
  · rename_i e; cases h; rw [ifp (List.any_eq_true.2 ⟨x, hx, e⟩)]
  · cases h
theorem z2w {α β σ : Type} {f : σ → Option (Stp σ)} (l : List α) (g : β → α → β) (I : Nat → β → Prop) (S : Nat → β → σ) (a0 : β) (h0 : I 0 a0)
 (hstep : ∀ i x acc, l[i]? = some x → I i acc → f (S i acc) = some (.again (S (i + 1) (g acc x))) ∧ I (i + 1) (g acc x))
 (hl : ∀ acc, f (S l.length acc) = some (.leave (S l.length acc))) {N : Nat} (hN : l.length < N) : zf f N (S 0 a0) = some (S l.length (l.foldl g a0)) ∧ I l.length (l.foldl g a0) := by
 have e0 : ∀ i, i ≤ l.length → I i ((l.take i).foldl g a0) := by
  intro i
  induction i with
  | zero => intro _; simpa using h0
  | succ i ih =>
   intro hi; have hx := lge (show i < l.length by omega); rw [List.take_add_one, hx, List.foldl_append]; exact (hstep i _ _ hx (ih (by omega))).2
 have := zfe (f := f) (fun i => S i ((l.take i).foldl g a0)) l.length (fun i hi => by
  have hx := lge hi; rw [(hstep i _ _ hx (e0 i (by omega))).1, List.take_add_one, hx, List.foldl_append]; rfl) (hl _) hN
 have h1 := e0 l.length (Nat.le_refl _)
 rw [List.take_length] at h1
 exact ⟨by simpa using this, h1⟩
theorem ztw (N : Nat) (l : List zA) (x : zA) (h : l.length < N) (hl : l.length < 1000000000) : zcj N l x = some (zfa l x) := by
 unfold zcj
 have := z2k (f := zcj.r0 N) l (zjn x) true (fun i => (l, (i : Int), x)) (fun i y hy => by
  have hi := (gei hy).1; simp only [zcj.r0, zcj.b0, zan, hy, obs, dct (show (i : Int) < (l.length : Int) by omega), ctr, zvc]; rw [w6e, zzp]; cases zjn x y <;> simp)
  (by simp only [zcj.r0, zcj.b0, dcf (show ¬ (l.length : Int) < (l.length : Int) by omega), cfa]) h
 simp only [nc0] at this
 rw [this]
 unfold zfa
 cases hb : l.any (zjn x) <;> simp [zaz]
theorem z3i (N : Nat) (hN : 5 < N) (a b : zA) : zbu N a b = some (Proofs.Tryz.ltF a b) := by
 unfold zbu
 have := zca (f := zbu.r0 N) (fun i => (([a.Register, a.Offset, a.zD.Kind, a.zD.Length, a.zD.Scale] : List Int), ([b.Register, b.Offset, b.zD.Kind, b.zD.Length, b.zD.Scale] : List Int), (i : Int)))
  (fun i => if ([a.Register, a.Offset, a.zD.Kind, a.zD.Length, a.zD.Scale] : List Int).getD i 0 = ([b.Register, b.Offset, b.zD.Kind, b.zD.Length, b.zD.Scale] : List Int).getD i 0 then none else some (decide (([a.Register, a.Offset, a.zD.Kind, a.zD.Length, a.zD.Scale] : List Int).getD i 0 < ([b.Register, b.Offset, b.zD.Kind, b.zD.Length, b.zD.Scale] : List Int).getD i 0))) 5 (fun i hi => by
   simp only [zbu.r0, zbu.b0]
   match i, hi with
   | 0, _ => simp [zdh]; by_cases e : a.Register = b.Register <;> simp [e, w6e]
   | 1, _ => simp [zdh]; by_cases e : a.Offset = b.Offset <;> simp [e, w6e]
   | 2, _ => simp [zdh]; by_cases e : a.zD.Kind = b.zD.Kind <;> simp [e, w6e]
   | 3, _ => simp [zdh]; by_cases e : a.zD.Length = b.zD.Length <;> simp [e, w6e]
   | 4, _ => simp [zdh]; by_cases e : a.zD.Scale = b.zD.Scale <;> simp [e, w6e]) (by simp [zbu.r0, zbu.b0]) hN
 simp only [nc0] at this
 rw [this]
 simp only [obs]
 have e5 : List.range 5 = [0, 1, 2, 3, 4] := by decide
 rw [e5]
 unfold Proofs.Tryz.ltF
 by_cases h1 : a.Register = b.Register
 · by_cases h2 : a.Offset = b.Offset
   · by_cases h3 : a.zD.Kind = b.zD.Kind
     · by_cases h4 : a.zD.Length = b.zD.Length
       · by_cases h5 : a.zD.Scale = b.zD.Scale <;> simp [List.findSome?, h1, h2, h3, h4, h5, zaz]
       · simp [List.findSome?, h1, h2, h3, h4, zaz]
     · simp [List.findSome?, h1, h2, h3, zaz]
   · simp [List.findSome?, h1, h2, zaz]
 · simp [List.findSome?, h1, zaz]
def zhm (f : zA) : List zA → List zA
 | [] => [f]
 | y :: l => cond (Proofs.Tryz.ltF f y) (f :: y :: l) (y :: zhm f l)
def zjh (l : List zA) (f : zA) : List zA := cond (zfa l f) l (zhm f l)
theorem zs4 {f g : zA} : ∀ {l : List zA}, g ∈ zhm f l ↔ g = f ∨ g ∈ l
 | [] => by simp [zhm]
 | y :: l => by
  rw [zhm]; cases Proofs.Tryz.ltF f y with
  | true => simp
  | false => simp only [cfa, List.mem_cons, zs4 (l := l)]; constructor <;> (rintro (h | h | h) <;> simp [h])
theorem zm9 {l : List zA} {f g : zA} : g ∈ zjh l f ↔ g = f ∨ g ∈ l := by
 unfold zjh
 cases h : zfa l f with
 | true =>
  have := zh7.1 h; simp only [ctr]; constructor
  · exact .inr
  · rintro (rfl | h)
    · exact this
    · exact h
 | false => rw [cfa, zs4]
theorem zs5 {f : zA} : ∀ {l : List zA}, (zhm f l).length = l.length + 1
 | [] => rfl
 | y :: l => by
  rw [zhm]; cases Proofs.Tryz.ltF f y with
  | true => rfl
  | false => simp only [cfa, lnc, zs5 (l := l)]
theorem zl2 {l : List zA} {f : zA} : (zjh l f).length ≤ l.length + 1 := by
 unfold zjh
 cases zfa l f with
 | true => simp
 | false => rw [cfa, zs5]; exact Nat.le_refl _
theorem zse {f : zA} : ∀ {l : List zA}, zj0 l → f ∉ l → zj0 (zhm f l)
 | [], _, _ => by simp [zhm, zj0]
 | y :: l, h, hf => by
  obtain ⟨h1, h2⟩ := List.pairwise_cons.1 h; rw [zhm]; cases hlt : Proofs.Tryz.ltF f y with
  | true =>
   refine List.pairwise_cons.2 ⟨fun z hz => ?_, h⟩; rcases List.mem_cons.1 hz with rfl | hz
   · exact hlt
   · exact Proofs.Tryz.ltF_swo.2.1 _ _ _ hlt (h1 z hz)
  | false =>
   have hyf : Proofs.Tryz.ltF y f = true := by
    cases hyf : Proofs.Tryz.ltF y f with
    | true => rfl
    | false => exact absurd (Proofs.Tryz.ltF_eq _ _ hlt hyf) (fun e => hf (by rw [e]; simp))
   refine List.pairwise_cons.2 ⟨fun z hz => ?_, zse h2 (fun h => hf (by simp [h]))⟩; rcases zs4.1 hz with rfl | hz
   · exact hyf
   · exact h1 z hz
theorem zj5 {l : List zA} {f : zA} (h : zj0 l) : zj0 (zjh l f) := by
 unfold zjh
 cases hb : zfa l f with
 | true => exact h
 | false => exact zse h (fun hf => by rw [zh7.2 hf] at hb; cases hb)
theorem zo5 (N : Nat) (hN : 5 < N) (l : List zA) (f : zA) (h : l.length < N) (hl : l.length ≤ 100000) : zch N l f = some (zjh l f) := by
 unfold zch zjh
 rw [ztw N l f h (by omega), obs]
 cases zfa l f with
 | true => rfl
 | false =>
  simp only [cfa]; have spl : ∀ k : List zA, zhm f k = cond (k.any (Proofs.Tryz.ltF f)) (zhm f k) (k ++ [f]) := by
   intro k
   induction k with
   | nil => rfl
   | cons y k ih =>
    rw [List.any_cons]; cases hlt : Proofs.Tryz.ltF f y with
    | true => simp
    | false =>
     simp only [Bool.false_or, zhm, hlt, cfa]; rw [ih]; cases k.any (Proofs.Tryz.ltF f) <;> simp
  have snoc : ∀ (k : List zA) y, k.any (Proofs.Tryz.ltF f) = true → zhm f (k ++ [y]) = zhm f k ++ [y] := by
   intro k y
   induction k with
   | nil => intro h; simp at h
   | cons z k ih =>
    intro h; rw [List.cons_append, zhm, zhm]; cases hlt : Proofs.Tryz.ltF f z with
    | true => simp
    | false =>
     rw [List.any_cons, hlt, Bool.false_or] at h; simp only [cfa, ih h, List.cons_append]
  have snoc2 : ∀ (k : List zA) y, k.any (Proofs.Tryz.ltF f) = false → Proofs.Tryz.ltF f y = true → zhm f (k ++ [y]) = k ++ [f] ++ [y] := by
   intro k y
   induction k with
   | nil => intro _ h; simp [zhm, h]
   | cons z k ih =>
    intro h hy; rw [List.any_cons, Bool.or_eq_false_iff] at h; rw [List.cons_append, zhm, h.1, cfa, ih h.2 hy]; simp
  have := zfe (f := zch.r0 N) (fun i => (l, cond ((l.take i).any (Proofs.Tryz.ltF f)) (zhm f (l.take i)) (l.take i), (l.take i).any (Proofs.Tryz.ltF f), (i : Int), f)) l.length (fun i hi => by
   have hx := lge hi; have htl : (l.take i).length = i := by simp; omega
   have hlen : (cond ((l.take i).any (Proofs.Tryz.ltF f)) (zhm f (l.take i)) (l.take i)).length ≤ i + 1 := by
    cases (l.take i).any (Proofs.Tryz.ltF f) with
    | true => rw [ctr, zs5, htl]; exact Nat.le_refl _
    | false => rw [cfa, htl]; omega
   simp only [zch.r0, zch.b0, zan, hx, obs, dct (show (i : Int) < (l.length : Int) by omega), ctr, z3i N hN, lna, lnc, ln0]; rw [w6e, zi0 (by omega), zi0 (by omega)]; rw [List.take_add_one, hx, Option.toList_some, List.any_append, List.any_cons, List.any_nil, Bool.or_false]; generalize l[i] = y; cases ha : (l.take i).any (Proofs.Tryz.ltF f) with
   | true => simp [snoc _ _ ha]
   | false =>
    cases hb : Proofs.Tryz.ltF f y with
    | true => simp [snoc2 _ _ ha hb]
    | false => simp)
   (by simp only [zch.r0, zch.b0, dcf (show ¬ (l.length : Int) < (l.length : Int) by omega), cfa]) h
  simp only [nc0, List.take_zero, List.any_nil, cfa, List.take_length] at this; rw [this]; simp only [obs]; rw [spl l]; cases ha : l.any (Proofs.Tryz.ltF f) with
  | true => simp
  | false => simp [zi0 (show l.length + 1 ≤ 1000000000 by omega)]
theorem zy5 (N : Nat) (l : List zA) (r : Int) (h : l.length < N) (hl : l.length ≤ 100000) : zb3 N l r = some (woL r l) := by
 unfold zb3
 have := zuw (f := zb3.r0 N) l (fun f => if f.Register = r then none else some f) (fun i acc => (l, r, acc, (i : Int))) (fun i x acc hx hacc => by
  have hi := (gei hx).1; simp only [zb3.r0, zb3.b0, zan, hx, obs, dct (show (i : Int) < (l.length : Int) by omega), ctr, lnc, ln0, zi0 (show acc.length + (0 + 1) ≤ 1000000000 by omega)]; rw [w6e, zdh]
  by_cases e : x.Register = r <;> simp [e])
  (fun acc => by simp only [zb3.r0, zb3.b0, dcf (show ¬ (l.length : Int) < (l.length : Int) by omega), cfa]) h
 simp only [nc0] at this
 rw [this]
 simp only [obs]
 congr 1
 unfold woL
 rw [← List.filterMap_eq_filter]
 congr 1
 funext f
 by_cases e : f.Register = r <;> simp [Option.guard, e]
theorem z1r (N : Nat) (l : List zA) (h : l.length < N) (hl : l.length ≤ 100000) : zb4 N l = some (l.filter fun f => f.Offset == -1) := by
 unfold zb4
 have := zuw (f := zb4.r0 N) l (fun f => if f.Offset = -1 then some f else none) (fun i acc => (l, acc, (i : Int))) (fun i x acc hx hacc => by
  have hi := (gei hx).1; simp only [zb4.r0, zb4.b0, zan, hx, obs, dct (show (i : Int) < (l.length : Int) by omega), ctr, lnc, ln0, zi0 (show acc.length + (0 + 1) ≤ 1000000000 by omega)]; rw [w6e, zcw]
  by_cases e : x.Offset = -1 <;> simp [e])
  (fun acc => by simp only [zb4.r0, zb4.b0, dcf (show ¬ (l.length : Int) < (l.length : Int) by omega), cfa]) h
 simp only [nc0] at this
 rw [this]
 simp only [obs]
 congr 1
 rw [← List.filterMap_eq_filter]
 congr 1
 funext f
 by_cases e : f.Offset = -1 <;> simp [Option.guard, e]
theorem zwc (N : Nat) (l : List zA) (a b : Int) (ht : ∀ x ∈ l, zbf x.zD = 0) (h : l.length < N) (hl : l.length ≤ 100000) : zci N l a b = some (l.filter fun f => !apB a b f) := by
 unfold zci
 have := zuw (f := zci.r0 N) l (fun f => if apB a b f = true then none else some f) (fun i acc => (l, a, b, acc, (i : Int))) (fun i x acc hx hacc => by
  have hi := (gei hx).1; simp only [zci.r0, zci.b0, zan, hx, obs, dct (show (i : Int) < (l.length : Int) by omega), ctr, lnc, ln0, zi0 (show acc.length + (0 + 1) ≤ 1000000000 by omega), zm8 (ht x (lmg hx))]; rw [w6e (n := (i : Int) + 1), zcw, orB, obs, orB, obs]; have e : (decide (x.Offset = -1) || decide (w6 (x.Offset + szE x.zD) ≤ a) || decide (w6 (a + b) ≤ x.Offset)) = !apB a b x := by
   unfold apB; rw [zdh]
   by_cases e1 : x.Offset = -1 <;> by_cases e2 : w6 (x.Offset + szE x.zD) ≤ a <;> by_cases e3 : w6 (a + b) ≤ x.Offset <;> simp [e1, e2, e3, Int.not_le.1] <;> omega
  rw [e]; cases apB a b x <;> simp)
  (fun acc => by simp only [zci.r0, zci.b0, dcf (show ¬ (l.length : Int) < (l.length : Int) by omega), cfa]) h
 simp only [nc0] at this
 rw [this]
 simp only [obs]
 congr 1
 rw [← List.filterMap_eq_filter]
 congr 1
 funext f
 cases e : apB a b f <;> simp [Option.guard, e]
variable {m : zI} {c : zF}
theorem zsz {α : Type} (q : α → Option zA) : ∀ (l : List α) (a : List zA) {f : zA}, f ∈ l.foldl (fun acc x => match q x with | some g => zjh acc g | none => acc) a ↔ f ∈ a ∨ ∃ x ∈ l, q x = some f
 | [], a, f => by simp
 | x :: l, a, f => by
  rw [List.foldl_cons, zsz q l]; cases hq : q x with
  | none =>
   constructor
   · rintro (h | ⟨y, hy, h⟩)
     · exact .inl h
     · exact .inr ⟨y, by simp [hy], h⟩
   · rintro (h | ⟨y, hy, h⟩)
     · exact .inl h
     · rcases List.mem_cons.1 hy with rfl | hy
       · rw [hq] at h; cases h
       · exact .inr ⟨y, hy, h⟩
  | some g =>
   simp only [zm9]; constructor
   · rintro ((rfl | h) | ⟨y, hy, h⟩)
     · exact .inr ⟨x, by simp, hq⟩
     · exact .inl h
     · exact .inr ⟨y, by simp [hy], h⟩
   · rintro (h | ⟨y, hy, h⟩)
     · exact .inl (.inr h)
     · rcases List.mem_cons.1 hy with rfl | hy
       · rw [hq] at h; cases h; exact .inl (.inl rfl)
       · exact .inr ⟨y, hy, h⟩
theorem zop {α : Type} (q : α → Option zA) : ∀ (l : List α) {a : List zA}, zj0 a → zj0 (l.foldl (fun acc x => match q x with | some g => zjh acc g | none => acc) a)
 | [], a, h => h
 | x :: l, a, h => by
  rw [List.foldl_cons]; refine zop q l ?_; cases q x with
  | none => exact h
  | some g => exact zj5 h
theorem zs0 {α : Type} (q : α → Option zA) : ∀ (l : List α) (a : List zA), (l.foldl (fun acc x => match q x with | some g => zjh acc g | none => acc) a).length ≤ a.length + l.length
 | [], a => by simp
 | x :: l, a => by
  rw [List.foldl_cons]; refine Nat.le_trans (zs0 q l _) ?_; cases q x with
  | none => simp only [lnc]; omega
  | some g => have := zl2 (l := a) (f := g); simp only [lnc]; omega
def zur (x : zB) (l : List zA) (g : zA) : Option zA := cond (zfa l ⟨g.Register, x.zD, x.Place.Offset⟩) (some ⟨x.R, g.zD, g.Offset⟩) none
theorem z3l (N : Nat) (hN : 20000 < N) (x : zB) (l a : List zA) (h : l.length ≤ 5000) (ha : a.length ≤ 6000) :
 zf (zap.r1 N) N (l, a, 0, x) = some (l, l.foldl (fun acc y => match zur x l y with | some g => zjh acc g | none => acc) a, (l.length : Int), x) := by
 have := (z2w (f := zap.r1 N) l (fun acc y => match zur x l y with | some g => zjh acc g | none => acc) (fun i acc => acc.length ≤ 6000 + i) (fun i acc => (l, acc, (i : Int), x)) a (by omega) (fun i y acc hy hacc => by
  have hi := (gei hy).1; simp only [zap.r1, zap.b1, zan, hy, obs, dct (show (i : Int) < (l.length : Int) by omega), ctr, ztw N l _ (show l.length < N by omega) (by omega), zo5 N (by omega) acc _ (show acc.length < N by omega) (by omega)]; rw [w6e]; unfold zur; cases zfa l ⟨y.Register, x.zD, x.Place.Offset⟩ with
  | true => exact ⟨rfl, by have := zl2 (l := acc) (f := ⟨x.R, y.zD, y.Offset⟩); simp only [ctr]; omega⟩
  | false => exact ⟨rfl, by simp only [cfa]; omega⟩)
  (fun acc => by simp only [zap.r1, zap.b1, dcf (show ¬ (l.length : Int) < (l.length : Int) by omega), cfa]) (show l.length < N by omega)).1
 simpa using this
def zuq (x : zB) (g : zA) : Option zA := cond (decide (g.Register = x.A)) (some ⟨x.R, g.zD, g.Offset⟩) none
theorem z3k (N : Nat) (hN : 20000 < N) (x : zB) (l a : List zA) (h : l.length ≤ 5000) (ha : a.length ≤ 6000) :
 zf (zap.r3 N) N (l, a, 0, x) = some (l, l.foldl (fun acc y => match zuq x y with | some g => zjh acc g | none => acc) a, (l.length : Int), x) := by
 have := (z2w (f := zap.r3 N) l (fun acc y => match zuq x y with | some g => zjh acc g | none => acc) (fun i acc => acc.length ≤ 6000 + i) (fun i acc => (l, acc, (i : Int), x)) a (by omega) (fun i y acc hy hacc => by
  have hi := (gei hy).1; simp only [zap.r3, zap.b3, zan, hy, obs, dct (show (i : Int) < (l.length : Int) by omega), ctr, zo5 N (by omega) acc _ (show acc.length < N by omega) (by omega), zcw]; rw [w6e]; unfold zuq
  by_cases e : y.Register = x.A
  · rw [dct e]; exact ⟨rfl, by have := zl2 (l := acc) (f := ⟨x.R, y.zD, y.Offset⟩); simp only [ctr]; omega⟩
  · rw [dcf e]; exact ⟨rfl, by simp only [cfa]; omega⟩)
  (fun acc => by simp only [zap.r3, zap.b3, dcf (show ¬ (l.length : Int) < (l.length : Int) by omega), cfa]) (show l.length < N by omega)).1
 simpa using this
theorem z0j (N : Nat) (hN : 20000 < N) {x : zB} (hx : InsX m c x) {l : List zA} (hf : ∀ f ∈ l, FctV m c f) (hl : l.length ≤ 5000) :
 ∃ ys, zap N x l = some ys ∧ (∀ f, f ∈ ys ↔ Beh x l f) ∧ (zj0 l → zj0 ys) ∧ ys.length ≤ 20000 := by
 have ht : ∀ f ∈ l, zbf f.zD = 0 := fun f h => (hf f h).ty
 have hw : (woL x.R l).length ≤ l.length := List.length_filter_le _ _
 have sw : zj0 l → zj0 (woL x.R l) := fun h => List.Pairwise.filter _ h
 unfold zap
 rw [zy5 N l x.R (by omega) (by omega), z1r N l (by omega) (by omega)]
 simp only [obs, zcw]
 by_cases e0 : x.Op = 0
 · rw [dct e0, ctr, zo5 N (by omega) _ _ (by omega) (by omega), obs]; have hl2 : (zjh (woL x.R l) ⟨x.R, x.zD, -1⟩).length ≤ l.length + 1 := Nat.le_trans zl2 (by omega); cases hb : x.Place.Based with
   | true =>
    refine ⟨_, rfl, fun f => ?_, fun h => zj5 (sw h), by omega⟩; unfold Beh; rw [ifp e0, zm9, zlc, hb]; simp [or_comm]
   | false =>
    rw [cfa, zo5 N (by omega) _ _ (by omega) (by omega), obs]; have hl3 : (zjh (zjh (woL x.R l) ⟨x.R, x.zD, -1⟩) ⟨x.R, x.zD, x.Place.Offset⟩).length ≤ l.length + 2 := Nat.le_trans zl2 (by omega); rw [z3l N hN x l _ hl (by omega)]; refine ⟨_, rfl, fun f => ?_, fun h => zop _ _ (zj5 (zj5 (sw h))), Nat.le_trans (zs0 _ _ _) (by omega)⟩; unfold Beh; rw [ifp e0, zsz, zm9, zm9, zlc, hb]; have : (∃ y ∈ l, zur x l y = some f) ↔ ∃ h ∈ l, h.zD = x.zD ∧ h.Offset = x.Place.Offset ∧ ∃ g ∈ l, g.Register = h.Register ∧ f = ⟨x.R, g.zD, g.Offset⟩ := by
     constructor
     · rintro ⟨y, hy, h⟩
       unfold zur at h; cases hh : zfa l ⟨y.Register, x.zD, x.Place.Offset⟩ with
       | true =>
        rw [hh] at h; cases h; exact ⟨_, zh7.1 hh, rfl, rfl, y, hy, rfl, rfl⟩
       | false => rw [hh] at h; cases h
     · rintro ⟨h, hh, e1, e2, g, hg, e3, rfl⟩
       refine ⟨g, hg, ?_⟩; unfold zur; have : zfa l ⟨g.Register, x.zD, x.Place.Offset⟩ = true := by rw [zh7, e3, ← e1, ← e2]; exact hh
       rw [this]; rfl
    rw [this]; constructor
    · rintro ((h | h | h) | h)
      · exact .inr (.inr ⟨rfl, .inl h⟩)
      · exact .inr (.inl h)
      · exact .inl h
      · exact .inr (.inr ⟨rfl, .inr h⟩)
    · rintro (h | h | ⟨_, h | h⟩)
      · exact .inl (.inr (.inr h))
      · exact .inl (.inr (.inl h))
      · exact .inl (.inl h)
      · exact .inr h
 · rw [dcf e0, cfa]
   by_cases e4 : x.Op = 4
   · rw [dct e4, ctr, zo5 N (by omega) _ _ (by omega) (by omega), obs]; refine ⟨_, rfl, fun f => ?_, fun h => zj5 (sw h), Nat.le_trans zl2 (by omega)⟩; unfold Beh; rw [ifn e0, ifp e4, zm9, zlc, or_comm]
   · rw [dcf e4, cfa]
     by_cases e2 : x.Op = 2 ∨ x.Op = 21
     · rw [show cond (decide (x.Op = 2)) (some (decide (x.Op = 2))) (some (decide (x.Op = 21))) = some true by rcases e2 with e | e <;> simp [e], obs, ctr]; refine ⟨_, rfl, fun f => ?_, sw, by omega⟩; unfold Beh; rw [ifn e0, ifn e4, ifp e2, zlc]
     · rw [show cond (decide (x.Op = 2)) (some (decide (x.Op = 2))) (some (decide (x.Op = 21))) = some false by rw [not_or] at e2; simp [e2.1, e2.2], obs, cfa]
       by_cases e3 : x.Op = 3
       · rw [dct e3, ctr]
         by_cases ea : x.A = x.R
         · rw [dct ea, ctr]; refine ⟨_, rfl, fun f => ?_, id, by omega⟩; unfold Beh; rw [ifn e0, ifn e4, ifn e2, ifp e3, ea]; constructor
           · intro h
             by_cases er : f.Register = x.R
             · exact .inr ⟨f, h, er, by obtain ⟨r, t, o⟩ := f; subst er; rfl⟩
             · exact .inl ⟨h, er⟩
           · rintro (h | ⟨g, hg, er, rfl⟩)
             · exact h.1
             · obtain ⟨r, t, o⟩ := g; subst er; exact hg
         · rw [dcf ea, cfa, z3k N hN x l _ hl (by omega)]; refine ⟨_, rfl, fun f => ?_, fun h => zop _ _ (sw h), Nat.le_trans (zs0 _ _ _) (by omega)⟩; unfold Beh; rw [ifn e0, ifn e4, ifn e2, ifp e3, zsz, zlc]; have : (∃ y ∈ l, zuq x y = some f) ↔ ∃ g ∈ l, g.Register = x.A ∧ f = ⟨x.R, g.zD, g.Offset⟩ := by
            constructor
            · rintro ⟨y, hy, h⟩
              unfold zuq at h
              by_cases e : y.Register = x.A
              · rw [dct e] at h; cases h; exact ⟨y, hy, e, rfl⟩
              · rw [dcf e] at h; cases h
            · rintro ⟨g, hg, e, rfl⟩
              exact ⟨g, hg, by unfold zuq; rw [dct e]; rfl⟩
           rw [this]
       · rw [dcf e3, cfa]
         by_cases e1 : x.Op = 1 ∨ x.Op = 9 ∨ x.Op = 10
         · rw [show cond (decide (x.Op = 1)) (some (decide (x.Op = 1))) (cond (decide (x.Op = 9)) (some (decide (x.Op = 9))) (some (decide (x.Op = 10)))) = some true by rcases e1 with e | e | e <;> simp [e], obs, ctr]; cases hb : x.Place.Based with
           | true =>
            refine ⟨_, rfl, fun f => ?_, fun h => List.Pairwise.filter _ h, Nat.le_trans (List.length_filter_le _ _) (by omega)⟩; unfold Beh; rw [ifn e0, ifn e4, ifn e2, ifn e3, ifp e1, hb]; simp [List.mem_filter]
           | false =>
            have hla : (l.filter fun f => !apB x.Place.Offset (szE x.zD) f).length ≤ l.length := List.length_filter_le _ _; rw [cfa, zm8 (hx.ty (by omega)), obs, zwc N l _ _ ht (by omega) (by omega), obs, ztw N l _ (by omega) (by omega)]; simp only [obs, zhn]; rw [zo5 N (by omega) _ _ (by omega) (by omega)]; cases hc : (decide (x.Op = 1) && zfa l ⟨x.R, x.zD, -1⟩) with
            | true =>
             refine ⟨_, rfl, fun f => ?_, fun h => zj5 (List.Pairwise.filter _ h), Nat.le_trans zl2 (by omega)⟩; rw [Bool.and_eq_true, decide_eq_true_eq, zh7] at hc; unfold Beh; rw [ifn e0, ifn e4, ifn e2, ifn e3, ifp e1, hb, zm9]; simp [List.mem_filter, hc.1, hc.2, or_comm]
            | false =>
             refine ⟨_, rfl, fun f => ?_, fun h => List.Pairwise.filter _ h, Nat.le_trans (List.length_filter_le _ _) (by omega)⟩; unfold Beh; rw [ifn e0, ifn e4, ifn e2, ifn e3, ifp e1, hb]; have hno : ¬ (x.Op = 1 ∧ (⟨x.R, x.zD, -1⟩ : zA) ∈ l) := by
              rintro ⟨a, b⟩
              rw [dct a, zh7.2 b] at hc; cases hc
             simp only [List.mem_filter, Bool.not_eq_true', Bool.false_eq_true, false_and, false_or, true_and]; constructor
             · exact .inl
             · rintro (h | ⟨a, b, _⟩)
               · exact h
               · exact absurd ⟨a, b⟩ hno
         · rw [show cond (decide (x.Op = 1)) (some (decide (x.Op = 1))) (cond (decide (x.Op = 9)) (some (decide (x.Op = 9))) (some (decide (x.Op = 10)))) = some false by rw [not_or, not_or] at e1; simp [e1.1, e1.2.1, e1.2.2], obs, cfa]
           by_cases e5 : x.Op = 14 ∨ x.Op = 15 ∨ x.Op = 16
           · rw [show cond (decide (x.Op = 14)) (some (decide (x.Op = 14))) (cond (decide (x.Op = 15)) (some (decide (x.Op = 15))) (some (decide (x.Op = 16)))) = some true by rcases e5 with e | e | e <;> simp [e], obs, ctr,
              zwc N l _ _ ht (by omega) (by omega)]
             refine ⟨_, rfl, fun f => ?_, fun h => List.Pairwise.filter _ h, Nat.le_trans (List.length_filter_le _ _) (by omega)⟩; unfold Beh; rw [ifn e0, ifn e4, ifn e2, ifn e3, ifn e1, ifp e5]; simp [List.mem_filter]
           · rw [show cond (decide (x.Op = 14)) (some (decide (x.Op = 14))) (cond (decide (x.Op = 15)) (some (decide (x.Op = 15))) (some (decide (x.Op = 16)))) = some false by rw [not_or, not_or] at e5; simp [e5.1, e5.2.1, e5.2.2], obs, cfa]; refine ⟨_, rfl, fun f => ?_, id, by omega⟩; unfold Beh; rw [ifn e0, ifn e4, ifn e2, ifn e3, ifn e1, ifn e5]
theorem zjx {n : Nat} (f : Nat → Bool) {k : Nat} (v : Bool) : ((List.range n).map f).set k v = (List.range n).map fun i => if i = k then v else f i := by
 apply List.ext_getElem?
 intro i
 rw [List.getElem?_set, List.getElem?_map, List.getElem?_map, lnm, List.length_range]
 by_cases hi : i < n
 · rw [List.getElem?_range hi]
   by_cases e : k = i
   · subst e; simp [hi]
   · simp [e, Ne.symm e]
 · rw [List.getElem?_eq_none (by simpa using hi)]
   by_cases e : k = i
   · subst e; simp [hi]
   · simp [e]
theorem zi9 {n : Nat} (f : Nat → Bool) {k : Nat} (h : k < n) : ((List.range n).map f)[k]? = some (f k) := by
 rw [List.getElem?_map, List.getElem?_range h]
 rfl
theorem zsu (n : Nat) : List.replicate n false = (List.range n).map fun _ => false := by
 apply List.ext_getElem
 · simp
 · intro i h1 h2; simp
def zqi (c : zF) (k : Nat) : Bool := decide (k = 0) || c.zQ.any fun t => decide (t.Handler = (k : Int))
def zuv (c : zF) (k : Nat) : Bool := match k with | 0 => false | j + 1 => (c.zC[j]?).any fun x => decide (x.Op = 18)
theorem zrj (c : zF) (j : Nat) : zuv c (j + 1) = (c.zC[j]?).any fun x => decide (x.Op = 18) := rfl
def zs9 (c : zF) (k : Nat) : Bool := zqi c k || zuv c k
def zjj (c : zF) : List Bool := (List.range c.zC.length).map (zs9 c)
structure CdV (m : zI) (c : zF) : Prop where
 m1 : 2 ≤ m.Registers
 m2 : m.Registers ≤ 8
 sz : c.Storage.Bytes.size ≤ 1024
 len : c.zC.length ≤ 240
 pos : 0 < c.zC.length
 traps : c.zQ.length ≤ 1048576
 ins : ∀ x ∈ c.zC, InsX m c x
 trap : ∀ t ∈ c.zQ, 0 ≤ t.Handler ∧ t.Handler < (c.zC.length : Int)
variable {m : zI} {c : zF}
theorem z23 (N : Nat) (hN : 1048600 < N) (hc : CdV m c) : zf (zr.r0 N) N (((List.range c.zC.length).map fun k => decide (k = 0)), c.zQ, (c.zQ.length : Int), 0, c) = some ((List.range c.zC.length).map (zqi c), c.zQ, (c.zQ.length : Int), (c.zQ.length : Int), c) := by
 have ht := hc.traps
 have := zfe (f := zr.r0 N) (fun i => ((List.range c.zC.length).map (fun k : Nat => decide (k = 0) || (c.zQ.take i).any fun t => decide (t.Handler = (k : Int))), c.zQ, (c.zQ.length : Int), (i : Int), c)) c.zQ.length (fun i hi => by
  have hx := lge hi; obtain ⟨h0, h1⟩ := hc.trap _ (lmg hx); generalize c.zQ[i] = x at hx h0 h1; simp only [zr.r0, zr.b0, zan, hx, obs, dct (show (i : Int) < (c.zQ.length : Int) by omega), ctr, ifp h0]; rw [ifp (by simpa using h1), zi9 _ (by omega), w6e, obs, zjx, List.take_add_one, hx]
  congr 3
  apply List.map_congr_left; intro k _; simp only [List.any_append, Option.toList_some, List.any_cons, List.any_nil, Bool.or_false]
  by_cases e : k = x.Handler.toNat
  · subst e; have : x.Handler = ((x.Handler.toNat : Nat) : Int) := by omega
    simp [← this]
  · have : ¬ x.Handler = (k : Int) := by omega
    simp [e, this])
  (by simp only [zr.r0, zr.b0, dcf (show ¬ (c.zQ.length : Int) < (c.zQ.length : Int) by omega), cfa]) (show c.zQ.length < N by omega)
 rw [show zqi c = (fun k : Nat => decide (k = 0) || c.zQ.any fun t => decide (t.Handler = (k : Int))) from rfl]
 simpa using this
theorem z3j (N : Nat) (hN : 1048600 < N) (hc : CdV m c) : zf (zah.r0 N) N (((List.range c.zC.length).map fun k => decide (k = 0)), 0, c) = some ((List.range c.zC.length).map (zqi c), (c.zQ.length : Int), c) := by
 have ht := hc.traps
 have := zfe (f := zah.r0 N) (fun i => ((List.range c.zC.length).map (fun k : Nat => decide (k = 0) || (c.zQ.take i).any fun t => decide (t.Handler = (k : Int))), (i : Int), c)) c.zQ.length (fun i hi => by
  have hx := lge hi; obtain ⟨h0, h1⟩ := hc.trap _ (lmg hx); generalize c.zQ[i] = x at hx h0 h1; simp only [zah.r0, zah.b0, zan, hx, obs, dct (show (i : Int) < (c.zQ.length : Int) by omega), ctr, ifp h0]; rw [ifp (by simpa using h1), zi9 _ (by omega), w6e, obs, zjx, List.take_add_one, hx]
  congr 3
  apply List.map_congr_left; intro k _; simp only [List.any_append, Option.toList_some, List.any_cons, List.any_nil, Bool.or_false]
  by_cases e : k = x.Handler.toNat
  · subst e; have : x.Handler = ((x.Handler.toNat : Nat) : Int) := by omega
    simp [← this]
  · have : ¬ x.Handler = (k : Int) := by omega
    simp [e, this])
  (by simp only [zah.r0, zah.b0, dcf (show ¬ (c.zQ.length : Int) < (c.zQ.length : Int) by omega), cfa]) (show c.zQ.length < N by omega)
 rw [show zqi c = (fun k : Nat => decide (k = 0) || c.zQ.any fun t => decide (t.Handler = (k : Int))) from rfl]
 simpa using this
def zjo (c : zF) : List Int := (List.range c.zC.length).filterMap fun i => (c.zC[i]?).bind fun x => if x.Op = 18 ∧ i + 1 < c.zC.length then some ((i : Int) + 1) else none
theorem z1l (N : Nat) (hN : 1000 < N) (hc : CdV m c) : zaj N c = some (zjo c) := by
 unfold zaj
 have hl := hc.len
 have := zuw (f := zaj.r0 N) (List.range c.zC.length) (fun i => (c.zC[i]?).bind fun x => if x.Op = 18 ∧ i + 1 < c.zC.length then some ((i : Int) + 1) else none) (fun i acc => (acc, c.zC, (c.zC.length : Int), (i : Int), c)) (fun i j acc hj hacc => by
  obtain ⟨hi, rfl⟩ := gei hj; have hi : i < c.zC.length := by simpa using hi
  have hx := lge hi; simp only [List.getElem_range]; generalize c.zC[i] = x at hx; simp only [zaj.r0, zaj.b0, zan, hx, obs, dct (show (i : Int) < (c.zC.length : Int) by omega), ctr, zcw, lnc, ln0, zxf (show acc.length + (0 + 1) ≤ 1000000 by omega)]; rw [w6e, zhn, obs]
  by_cases e1 : x.Op = 18 <;> by_cases e2 : i + 1 < c.zC.length
  · simp [e1, e2, show ((i : Int) + 1 < (c.zC.length : Int)) by omega]
  · simp [e1, e2, show ¬ ((i : Int) + 1 < (c.zC.length : Int)) by omega]
  · simp [e1]
  · simp [e1])
  (fun acc => by simp only [zaj.r0, zaj.b0, List.length_range, dcf (show ¬ (c.zC.length : Int) < (c.zC.length : Int) by omega), cfa]) (show (List.range c.zC.length).length < N by simp; omega)
 simp only [nc0] at this
 rw [this]
 rfl
theorem zte {z : Int} : z ∈ zjo c ↔ ∃ k : Nat, z = (k : Int) ∧ k < c.zC.length ∧ zuv c k = true := by
 unfold zjo
 rw [List.mem_filterMap]
 constructor
 · rintro ⟨i, hi, h⟩
   have hi : i < c.zC.length := by simpa using hi
   rw [lge hi, obs] at h; split at h
   · rename_i e; cases h; refine ⟨i + 1, rfl, e.2, ?_⟩; rw [zrj, lge hi]; simp [e.1]
   · cases h
 · rintro ⟨k, rfl, hk, h⟩
   cases k with
   | zero => cases h
   | succ j =>
    have hj : j < c.zC.length := by omega
    refine ⟨j, by simpa using hj, ?_⟩; rw [zrj, lge hj] at h; rw [lge hj]; have h18 : c.zC[j].Op = 18 := by simpa using h
    rw [obs, ifp ⟨h18, hk⟩]; rfl
theorem zyu (N : Nat) (hN : 1048600 < N) (hc : CdV m c) : zr N c = some (zjj c) := by
 unfold zr
 have hl := hc.len
 have hp := hc.pos
 rw [ifp, ifp, itn, z2h (by omega), ctr, ifp, ifp (by simp; omega), Int.toNat_zero, zsu, zi9 _ hp, obs, zjx]
 have e : ((List.range c.zC.length).map fun i => if i = 0 then true else false) = (List.range c.zC.length).map fun k => decide (k = 0) := by
  apply List.map_congr_left; intro k _
  by_cases h : k = 0 <;> simp [h]
 rw [e, z23 N hN hc]
 simp only [obs]
 rw [z1l N (by omega) hc]
 simp only [obs]
 have hcl : (zjo c).length ≤ c.zC.length := by
  unfold zjo; exact Nat.le_trans (List.length_filterMap_le _ _) (by simp)
 have := zfe (f := zr.r2 N) (fun i => ((List.range c.zC.length).map (fun k : Nat => zqi c k || ((zjo c).take i).any fun t => decide (t = (k : Int))), zjo c, ((zjo c).length : Int), (i : Int))) (zjo c).length (fun i hi => by
  have hx := lge hi; obtain ⟨k0, hk0, hk1, _⟩ := zte.1 (lmg hx); generalize (zjo c)[i] = x at hx hk0; subst hk0; simp only [zr.r2, zr.b2, zan, hx, obs, dct (show (i : Int) < ((zjo c).length : Int) by omega), ctr, ifp (show 0 ≤ (k0 : Int) by omega)]; rw [ifp (by simp; omega), itn, zi9 _ hk1, w6e, obs, zjx, List.take_add_one, hx]
  congr 3
  apply List.map_congr_left; intro k _; simp only [List.any_append, Option.toList_some, List.any_cons, List.any_nil, Bool.or_false]
  by_cases e : k = k0
  · subst e; simp
  · have : ¬ ((k0 : Int) = (k : Int)) := by omega
    simp [e, this])
  (by simp only [zr.r2, zr.b2, dcf (show ¬ ((zjo c).length : Int) < ((zjo c).length : Int) by omega), cfa]) (show (zjo c).length < N by omega)
 simp only [nc0, List.take_zero, List.any_nil, Bool.or_false, List.take_length] at this
 rw [this]
 simp only [obs]
 congr 1
 apply List.map_congr_left
 intro k hk
 have hk : k < c.zC.length := by simpa using hk
 unfold zs9
 congr 1
 rw [Bool.eq_iff_iff, List.any_eq_true]
 constructor
 · rintro ⟨z, hz, h⟩
   have h := of_decide_eq_true h; subst h; obtain ⟨k', e, _, h⟩ := zte.1 hz; obtain rfl : k = k' := by omega
   exact h
 · intro h; exact ⟨(k : Int), zte.2 ⟨k, rfl, hk, h⟩, by simp⟩
theorem zy9 (N : Nat) (hN : 1048600 < N) (hc : CdV m c) : zah N c = some (zjj c) := by
 unfold zah
 have hl := hc.len
 have hp := hc.pos
 rw [ifp, ifp, itn, z2h (by omega), ctr, ifp, ifp (by simp; omega), Int.toNat_zero, zsu, zi9 _ hp, obs, zjx]
 have e : ((List.range c.zC.length).map fun i => if i = 0 then true else false) = (List.range c.zC.length).map fun k => decide (k = 0) := by
  apply List.map_congr_left; intro k _
  by_cases h : k = 0 <;> simp [h]
 rw [e, z3j N hN hc]
 simp only [obs]
 have := zfe (f := zah.r2 N) (fun i => ((List.range c.zC.length).map (fun k : Nat => zqi c k || (decide (k ≤ i) && zuv c k)), (i : Int), c)) (c.zC.length - 1) (fun i hi => by
  have hi' : i < c.zC.length := by omega
  have hx := lge hi'; have e1 : ((i : Int) + 1).toNat = i + 1 := by omega
  simp only [zah.r2, zah.b2]; rw [w6e, lnm, List.length_range, dct (show (i : Int) + 1 < (c.zC.length : Int) by omega), ctr, ifp, ifp, e1, zi9 _ (by omega), obs, zan, hx, obs, orB, obs, ifp, ifp, obs, zjx]; have e2 : (i : Int) + 1 = ((i + 1 : Nat) : Int) := by omega
  rw [e2]
  congr 3
  apply List.map_congr_left; intro k _
  by_cases e : k = i + 1
  · subst e; rw [ifp rfl]; simp only [dcf (show ¬ i + 1 ≤ i by omega), Bool.false_and, Bool.or_false, dct (Nat.le_refl (i + 1)), Bool.true_and]
    congr 1
    rw [zrj, hx, zcw]; rfl
  · rw [ifn e]; have : decide (k ≤ i) = decide (k ≤ i + 1) := by
     by_cases h : k ≤ i
     · rw [dct h, dct (by omega)]
     · rw [dcf h, dcf (by omega)]
    rw [this])
  (by
   simp only [zah.r2, zah.b2]; rw [w6e, lnm, List.length_range, dcf (by omega), cfa]) (show c.zC.length - 1 < N by omega)
 have e0 : ((List.range c.zC.length).map (fun k : Nat => zqi c k || (decide (k ≤ 0) && zuv c k))) = (List.range c.zC.length).map (zqi c) := by
  apply List.map_congr_left; intro k _; cases k with
  | zero => simp [zuv]
  | succ j => simp
 simp only [nc0, e0] at this
 rw [this]
 simp only [obs]
 congr 1
 apply List.map_congr_left
 intro k hk
 have hk : k < c.zC.length := by simpa using hk
 unfold zs9
 rw [dct (by omega), Bool.true_and]
def znp (o : Int) : Bool := decide (o ≠ 8) && (decide (o ≠ 18) && (decide (o ≠ 19) && (decide (o ≠ 20) && decide (o ≠ 26))))
def zki (o : Int) : Bool := decide (o = 6) || (decide (o = 7) || (decide (o = 8) || decide (o = 18)))
def zd6 (c : zF) (i : Nat) : List Int := match c.zC[i]? with
 | none => []
 | some x => (if i + 1 < c.zC.length ∧ znp x.Op = true then [(i : Int) + 1] else []) ++ (if zki x.Op = true then [x.Target] else [])
theorem z1i (o : Int) : zcm o = some (zki o) := by
 unfold zcm zki
 simp only [zcw, orB, obs, Bool.or_assoc]
theorem zxt (o : Int) : zfx o = some (zki o) := by
 unfold zfx zki
 simp only [zcw, orB, obs, Bool.or_assoc]
theorem z20 (hl : c.zC.length ≤ 1000000) {i : Nat} (hi : i < c.zC.length) : zb5 c (i : Int) = some (zd6 c i) := by
 unfold zb5 zd6
 have hx := lge hi
 rw [zan, hx, obs]
 simp only
 generalize c.zC[i] = x
 have q : (cond (x.Op == 8) (some (x.Op == 8)) (cond (x.Op == 18) (some (x.Op == 18)) (cond (x.Op == 19) (some (x.Op == 19)) (cond (x.Op == 20) (some (x.Op == 20)) (some (x.Op == 26)))))) = some (!znp x.Op) := by
  unfold znp; simp only [zcw]
  by_cases h1 : x.Op = 8
  · simp [h1]
  · by_cases h2 : x.Op = 18
    · simp [h2]
    · by_cases h3 : x.Op = 19
      · simp [h3]
      · by_cases h4 : x.Op = 20
        · simp [h4]
        · by_cases h5 : x.Op = 26 <;> simp [h1, h2, h3, h4, h5]
 rw [q, obs, z1i, w6e]
 simp only [obs, lnc, ln0, zxf (show 0 + 1 ≤ 1000000 by omega), zxf (show 0 + 1 + (0 + 1) ≤ 1000000 by omega), ctr]
 cases hg : znp x.Op with
 | false => simp; cases zki x.Op <;> simp
 | true =>
  by_cases h : i + 1 < c.zC.length
  · rw [dct (show (i : Int) + 1 < (c.zC.length : Int) by omega)]; simp [h]; cases zki x.Op <;> simp
  · rw [dcf (show ¬ (i : Int) + 1 < (c.zC.length : Int) by omega)]; simp [h]; cases zki x.Op <;> simp
theorem z3f (hl : c.zC.length ≤ 1000000) {i : Nat} (hi : i < c.zC.length) : zfy c (i : Int) = some (zd6 c i) := by
 unfold zfy zd6
 have hx := lge hi
 rw [zan, hx, obs]
 simp only
 generalize c.zC[i] = x
 rw [w6e]
 simp only [zhn, obs, zdh, zxt, lnc, ln0, zxf (show 0 + 1 ≤ 1000000 by omega), zxf (show 0 + 1 + (0 + 1) ≤ 1000000 by omega), ctr]
 have e : (decide ((i : Int) + 1 < (c.zC.length : Int)) && decide (x.Op ≠ 8) && decide (x.Op ≠ 18) && decide (x.Op ≠ 19) && decide (x.Op ≠ 20) && decide (x.Op ≠ 26)) = (decide (i + 1 < c.zC.length) && znp x.Op) := by
  unfold znp; simp only [Bool.and_assoc]
  congr 1
  by_cases h : i + 1 < c.zC.length
  · rw [dct h, dct (by omega)]
  · rw [dcf h, dcf (by omega)]
 rw [e]
 by_cases h : i + 1 < c.zC.length <;> cases hg : znp x.Op <;> cases hj : zki x.Op <;> simp [h]
theorem z26 (hc : CdV m c) {i : Nat} {z : Int} (h : z ∈ zd6 c i) : ∃ k : Nat, z = (k : Int) ∧ k < c.zC.length := by
 unfold zd6 at h
 cases hx : c.zC[i]? with
 | none => rw [hx] at h; simp at h
 | some x =>
  rw [hx] at h; simp only [List.mem_append] at h; rcases h with h | h
  · split at h
    · rename_i e; have : z = (i : Int) + 1 := by simpa using h
      exact ⟨i + 1, by omega, e.1⟩
    · simp at h
  · split at h
    · rename_i e; have hz : z = x.Target := by simpa using h
      unfold zki at e; simp only [Bool.or_eq_true, decide_eq_true_eq] at e; have := (hc.ins x (lmg hx)).tg (by omega); exact ⟨x.Target.toNat, by omega, by omega⟩
    · simp at h
variable {m : zI} {c : zF}
theorem z5i (n lo hi : Int) : zg5 n lo hi = some (inB n lo hi) := by
 unfold zg5 inB
 cases decide (lo ≤ n) <;> simp
theorem z1k (N : Nat) (l : List Int) (h : l.length < N) (hl : l.length < 1000000000) : za4 N l = some (ze2 l) := by
 unfold za4
 have := zca (f := za4.r0 N) (fun i => (l, (l.length : Int), (i : Int))) (fun i => (l[i]?).bind fun x => if x = 0 then none else some x) l.length
  (fun i hi => by
   have hx := lge hi; simp only [za4.r0, za4.b0, zan, hx, obs, dct (show (i : Int) < (l.length : Int) by omega), ctr]
   by_cases h0 : l[i] = 0
   · simp only [h0, bsf, cfa, if_true]; rw [w6e]; rfl
   · simp only [h0, if_false]; rw [show (l[i] != 0) = true by simpa using h0]; rfl)
  (by simp only [za4.r0, za4.b0, dcf (show ¬ (l.length : Int) < (l.length : Int) by omega), cfa]) h
 simp only [nc0] at this
 rw [this, zg0, ← zoa]
 simp only [obs]
 cases l.findSome? (fun x => if x = 0 then none else some x) <;> rfl
def zup (c : zF) (f : zA) : Bool := decide (f.Offset ≠ -1) && !inB f.Offset 0 ((c.Storage.Bytes.size : Int) - szE f.zD)
def zji (m : zI) (c : zF) (f : zA) : Option Int :=
 if inB f.Register 0 (m.Registers - 1) = false then some 3
 else if zbf f.zD ≠ 0 ∨ f.zD.Kind = 0 ∨ f.zD.Kind = 4 then some 17
 else if zup c f = true then some 3 else none
def zqa (m : zI) (c : zF) (l : List zA) : Option Int := if 60 < l.length then some 2 else l.findSome? (zji m c)
theorem z5b {f : zA} (h : zji m c f = none) : FctV m c f := by
 unfold zji at h
 split at h
 · cases h
 · rename_i h1; split at h
   · cases h
   · rename_i h2; split at h
     · cases h
     · rename_i h3; have h1 : inB f.Register 0 (m.Registers - 1) = true := by simpa using h1
       have h1 := zde.1 h1; rw [not_or, not_or] at h2; obtain ⟨ht, hk, hk2⟩ := h2; refine ⟨by omega, Classical.not_not.1 ht, ⟨hk, hk2⟩, ?_⟩; unfold zup at h3
       by_cases e : f.Offset = -1
       · exact .inl e
       · rw [dct e, Bool.true_and, Bool.not_eq_true', Bool.not_eq_false] at h3; have := zde.1 h3; exact .inr ⟨this.1, by omega⟩
theorem z2b {f : zA} {e : Int} (h : zji m c f = some e) : e ≠ 0 := by
 unfold zji at h
 split at h
 · cases h; decide
 · split at h
   · cases h; decide
   · split at h
     · cases h; decide
     · cases h
theorem z15 {l : List zA} {e : Int} (h : zqa m c l = some e) : e ≠ 0 := by
 unfold zqa at h
 split at h
 · cases h; decide
 · obtain ⟨f, _, hf⟩ := eof h; exact z2b hf
theorem z4x {l : List zA} (h : zqa m c l = none) : l.length ≤ 60 ∧ ∀ f ∈ l, FctV m c f := by
 unfold zqa at h
 split at h
 · cases h
 · rename_i h1; rw [List.findSome?_eq_none_iff] at h; exact ⟨by omega, fun f hf => z5b (h f hf)⟩
theorem isr (s : Storage) (a n : Int) (hn : 0 < n) (hs : s.Bytes.size ≤ 1024) : ze5 s a n = some (inB a 0 ((s.Bytes.size : Int) - n)) := by
 unfold ze5
 rw [zic, zic]
 simp only [obs]
 rw [zhn, obs]
 congr 1
 rw [Bool.eq_iff_iff, Bool.and_eq_true, zde, zde, zde]
 constructor
 · rintro ⟨h1, h2⟩
   rw [w6e] at h2; omega
 · intro h; refine ⟨by omega, ?_⟩; rw [w6e]; omega
theorem z21 (N : Nat) (hN : 2000 < N) (hm : 2 ≤ m.Registers ∧ m.Registers ≤ 8) (hs : c.Storage.Bytes.size ≤ 1024) (l : List zA) (hl : l.length ≤ 1000000000) : za1 N m c l = some ((zqa m c l).getD 0) := by
 unfold za1 zqa
 by_cases h60 : 60 < l.length
 · rw [dct (by omega), ctr, ifp h60]; rfl
 · rw [dcf (by omega), cfa, ifn h60]; have := zca (f := za1.r0 N) (fun i => (l, (l.length : Int), (i : Int), m, c)) (fun i => (l[i]?).bind (zji m c)) l.length
    (fun i hi => by
     have hx := lge hi; generalize l[i] = x at hx; simp only [za1.r0, za1.b0, zan, hx, obs, dct (show (i : Int) < (l.length : Int) by omega), ctr, z5i, zry N (by omega), zcw, zdh]; rw [w6e (n := m.Registers - 1), w6e (n := (i : Int) + 1)]; unfold zji; cases h1 : inB x.Register 0 (m.Registers - 1) with
     | false => simp
     | true =>
      simp only [bnt, cfa, orB, obs]
      by_cases h2 : zbf x.zD ≠ 0 ∨ x.zD.Kind = 0 ∨ x.zD.Kind = 4
      · rw [ifn (by simp), ifp h2, show (decide (zbf x.zD ≠ 0) || decide (x.zD.Kind = 0) || decide (x.zD.Kind = 4)) = true by simpa [or_assoc] using h2]; rfl
      · rw [ifn (by simp), ifn h2, show (decide (zbf x.zD ≠ 0) || decide (x.zD.Kind = 0) || decide (x.zD.Kind = 4)) = false by rw [not_or, not_or] at h2; simp [h2.2.1, h2.2.2, Classical.not_not.1 h2.1]]; rw [not_or] at h2; have ht : zbf x.zD = 0 := Classical.not_not.1 h2.1; have hp := zo3 ht; rw [cfa, zuj N (by omega) ht]; simp only [obs]; rw [w6e, zhn, obs]; show cond (zup c x) _ _ = _; cases zup c x <;> rfl)
    (by simp only [za1.r0, za1.b0, dcf (show ¬ (l.length : Int) < (l.length : Int) by omega), cfa]) (show l.length < N by omega)
   simp only [nc0] at this; rw [this, zg0]; cases l.findSome? (zji m c) <;> rfl
theorem z3h (N : Nat) (hN : 2000 < N) (hm : 2 ≤ m.Registers ∧ m.Registers ≤ 8) (hs : c.Storage.Bytes.size ≤ 1024) (F : List (List zA)) (j : Nat) (l : List zA) (hj : F[j]? = some l) (hl : l.length ≤ 60) :
 zk (zd.r2 N) N (F, (j : Int), 0, m, c) = some (match l.findSome? (zji m c) with | some e => .inl ((j : Int), e) | none => .inr (F, (j : Int), (l.length : Int), m, c)) := by
 have := zca (f := zd.r2 N) (fun i => (F, (j : Int), (i : Int), m, c)) (fun i => ((l[i]?).bind (zji m c)).map fun e => ((j : Int), e)) l.length
  (fun i hi => by
   have hx := lge hi; generalize l[i] = x at hx; simp only [zd.r2, zd.b2, zan, hj, hx, obs, dct (show (i : Int) < (l.length : Int) by omega), ctr, zic, zx5, zpv, zcw, zdh]; rw [w6e (n := m.Registers - 1), w6e (n := (i : Int) + 1)]; unfold zji; cases h1 : inB x.Register 0 (m.Registers - 1) with
   | false => simp
   | true =>
    simp only [bnt, cfa, orB, obs]; have hk : zbf x.zD = 0 → (!inB x.zD.Kind 1 3) = (decide (x.zD.Kind = 0) || decide (x.zD.Kind = 4)) := fun ht => by
     rcases zir ht with ⟨q0, _⟩ | ⟨q0 | q0, _⟩ | ⟨q0, _⟩ | ⟨q0, _⟩ <;> rw [q0] <;> decide
    by_cases h2 : zbf x.zD ≠ 0 ∨ x.zD.Kind = 0 ∨ x.zD.Kind = 4
    · rw [ifn (by simp), ifp h2]; have : (decide (zbf x.zD ≠ 0) || !inB x.zD.Kind 1 3) = true := by
       by_cases ht : zbf x.zD = 0
       · rw [hk ht]; rcases h2 with h2 | h2
         · exact absurd ht h2
         · simp [h2]
       · simp [ht]
      rw [this]; rfl
    · rw [ifn (by simp), ifn h2]; rw [not_or, not_or] at h2; have ht : zbf x.zD = 0 := Classical.not_not.1 h2.1; have hp := zo3 ht; have : (decide (zbf x.zD ≠ 0) || !inB x.zD.Kind 1 3) = false := by rw [hk ht]; simp [ht, h2.2.1, h2.2.2]
      rw [this, cfa, zm8 ht]; simp only [obs]; rw [isr _ _ _ hp.1 hs, obs, zhn, obs]; show cond (zup c x) _ _ = _; cases zup c x <;> rfl)
  (by simp only [zd.r2, zd.b2, zan, hj, obs, dcf (show ¬ (l.length : Int) < (l.length : Int) by omega), cfa]) (show l.length < N by omega)
 simp only [nc0] at this
 rw [this]
 congr 1
 have e : (List.range l.length).findSome? (fun i : Nat => ((l[i]?).bind (zji m c)).map fun e => ((j : Int), e)) = (l.findSome? (zji m c)).map fun e => ((j : Int), e) := by
  have h2 : (fun i : Nat => ((l[i]?).bind (zji m c)).map fun e => ((j : Int), e)) = fun i : Nat => (l[i]?).bind fun x => (zji m c x).map fun e => ((j : Int), e) := by
   funext i
   cases l[i]? <;> rfl
  rw [h2, zg0]; clear h2 this hl hj
  induction l with
  | nil => rfl
  | cons x l ih =>
   rw [List.findSome?_cons, List.findSome?_cons]; cases zji m c x with
   | none => exact ih
   | some e => rfl
 rw [e]
 cases l.findSome? (zji m c) <;> rfl
def lsE (m : zI) (c : zF) (F : List (List zA)) (i : Nat) : Option (Int × Int) := (F[i]?).bind fun l => (zqa m c l).map fun e => ((i : Int), e)
theorem z1g (N : Nat) (hN : 2000 < N) (hm : 2 ≤ m.Registers ∧ m.Registers ≤ 8) (hs : c.Storage.Bytes.size ≤ 1024) (F : List (List zA)) (hF : F.length ≤ 1000) (hl : ∀ l ∈ F, l.length ≤ 1000000000) :
 zk (ze.r0 N) N (F, (F.length : Int), 0, m, c) = some (match (List.range F.length).findSome? (lsE m c F) with | some r => .inl r | none => .inr (F, (F.length : Int), (F.length : Int), m, c)) := by
 have := zca (f := ze.r0 N) (fun i => (F, (F.length : Int), (i : Int), m, c)) (lsE m c F) F.length
  (fun i hi => by
   have hx := lge hi; have hlen := hl _ (lmg hx); unfold lsE; rw [hx, obs]; generalize F[i] = l at hx hlen; simp only [ze.r0, ze.b0, zan, hx, obs, dct (show (i : Int) < (F.length : Int) by omega), ctr, z21 N hN hm hs l hlen, zdh]; rw [w6e (n := (i : Int) + 1)]; cases he : zqa m c l with
   | none => simp
   | some e => simp [z15 he])
  (by simp only [ze.r0, ze.b0, dcf (show ¬ (F.length : Int) < (F.length : Int) by omega), cfa]) (show F.length < N by omega)
 simp only [nc0] at this
 rw [this]
 cases (List.range F.length).findSome? (lsE m c F) <;> rfl
theorem z1s (N : Nat) (hN : 2000 < N) (hm : 2 ≤ m.Registers ∧ m.Registers ≤ 8) (hs : c.Storage.Bytes.size ≤ 1024) (F : List (List zA)) (hF : F.length ≤ 1000) :
 zk (zd.r0 N) N (F, 0, m, c) = some (match (List.range F.length).findSome? (lsE m c F) with | some r => .inl r | none => .inr (F, (F.length : Int), m, c)) := by
 have := zca (f := zd.r0 N) (fun i => (F, (i : Int), m, c)) (lsE m c F) F.length
  (fun i hi => by
   have hx := lge hi; unfold lsE zqa; rw [hx, obs]; generalize F[i] = l at hx; simp only [zd.r0, zd.b0, zan, hx, obs, dct (show (i : Int) < (F.length : Int) by omega), ctr]
   by_cases h60 : 60 < l.length
   · rw [dct (by omega), ifp h60]; rfl
   · rw [dcf (by omega), ifn h60, cfa, z3h N hN hm hs F i l hx (by omega)]; simp only [obs]; cases l.findSome? (zji m c) with
     | some e => rfl
     | none =>
      simp only [zaz]; rw [w6e (n := (i : Int) + 1)]; rfl)
  (by simp only [zd.r0, zd.b0, dcf (show ¬ (F.length : Int) < (F.length : Int) by omega), cfa]) (show F.length < N by omega)
 simp only [nc0] at this
 rw [this]
 cases (List.range F.length).findSome? (lsE m c F) <;> rfl
theorem z3u {F : List (List zA)} (h : (List.range F.length).findSome? (lsE m c F) = none) : ∀ l ∈ F, l.length ≤ 60 ∧ ∀ f ∈ l, FctV m c f := by
 intro l hl
 obtain ⟨i, hi⟩ := List.getElem?_of_mem hl
 rw [List.findSome?_eq_none_iff] at h
 have := h i (by simp; exact (gei hi).1)
 unfold lsE at this
 rw [hi, obs, Option.map_eq_none_iff] at this
 exact z4x this
theorem z4n {m : zI} {c : zF} {n : Int} (h : zm0 m c = (n, 0)) : (∀ x ∈ c.zC, zmu m c x = 0) ∧ (∀ t ∈ c.zQ, znx c t = true) ∧ n = (c.zC.length : Int) := by
 have h1 := z3m h
 refine ⟨h1, ?_⟩
 unfold zm0 at h
 cases hf : (List.range c.zC.length).findSome? (gI m c) with
 | some r =>
  exfalso
  obtain ⟨j, _, hj⟩ := eof hf; unfold gI at hj; rw [Option.bind_eq_some_iff] at hj; obtain ⟨y, hy1, hy⟩ := hj; rw [ifp (h1 y (lmg hy1))] at hy; cases hy
 | none =>
  rw [hf] at h; cases hg : (List.range c.zQ.length).findSome? (gT c) with
  | some r =>
   exfalso
   rw [hg] at h; obtain ⟨j, _, hj⟩ := eof hg; unfold gT at hj; rw [Option.bind_eq_some_iff] at hj; obtain ⟨y, hy1, hy⟩ := hj; split at hy
   · cases hy
   · cases hy; have h3 : (3 : Int) = 0 := congrArg Prod.snd h; exact absurd h3 (by decide)
  | none =>
   rw [hg] at h; refine ⟨fun t ht => ?_, (congrArg Prod.fst h).symm⟩; rw [List.findSome?_eq_none_iff] at hg; obtain ⟨i, hi⟩ := List.getElem?_of_mem ht; have := hg i (by simp; exact (gei hi).1); unfold gT at this; rw [hi, obs] at this; split at this
   · assumption
   · cases this
theorem z5c (N : Nat) (hN : 1048600 < N) {m : zI} {c : zF} (hc : Wft En 1048576 Ty.zF c) {n : Int} (h : zu N m c = some (n, 0)) : CdV m c ∧ n = (c.zC.length : Int) := by
 obtain ⟨e, _, he2, he3⟩ := zt2 m
 obtain ⟨i1, e1, e2, _, hs2, hs⟩ := zvx N (by omega) c.Storage
 obtain ⟨w1, w2, w3, w4, w5⟩ := znc hc
 unfold zu at h
 try simp only [eS, eM, eC] at h
 rw [he2, hs2] at h
 simp only [obs] at h
 by_cases h0 : e = 0
 · subst h0; have hm := he3 rfl; simp only [bsf, cfa] at h
   by_cases h2 : e2 = 0
   · rcases hs with ⟨rfl, hs⟩ | ⟨ok, htl, _, _⟩
     · exact absurd h2 hs
     · subst h2; obtain ⟨l, hl1, hl2⟩ := zx6 N c.Storage htl (by omega); rw [hl1] at h; simp only [bsf, cfa, obs, orB] at h; cases hd : decide ((l.length : Int) > 0) with
       | true => rw [hd] at h; cases h
       | false =>
        rw [hd] at h hl2; simp only [cfa] at h
        by_cases hz : (c.zC.length : Int) = 0
        · rw [hz] at h; cases h
        · rw [zcw, dcf hz] at h; simp only [cfa] at h; cases hb : (decide ((c.zC.length : Int) > 240) || decide ((c.zQ.length : Int) > 40)) with
          | true => rw [hb] at h; cases h
          | false =>
           rw [hb] at h; simp only [cfa] at h; have := zwa N hN hm ok hc; rw [this] at h; simp only [Bool.or_eq_false_iff, decide_eq_false_iff_not] at hb; obtain ⟨r1, r2, r3⟩ := z4n (Option.some.inj h); have hand : ∀ t ∈ c.zQ, 0 ≤ t.Handler ∧ t.Handler < (c.zC.length : Int) := fun t ht => by
            have h5 := r2 t ht; unfold znx at h5; simp only [Bool.and_eq_true] at h5; have h6 := zde.1 h5.2.2.2; omega
           exact ⟨⟨hm.1, hm.2, ok.le, by omega, by omega, by omega, fun x hx => z6b (r1 x hx), hand⟩, r3⟩
   · rw [zdh, dct h2] at h; simp only [ctr, Option.some.injEq, Prod.mk.injEq] at h; exact absurd h.2 h2
 · rw [zdh, dct h0] at h; simp only [ctr, Option.some.injEq, Prod.mk.injEq] at h; exact absurd h.2 h0
variable {m : zI} {c : zF}
theorem z1h (N : Nat) (l t : List zA) (h : l.length < N) (hl : l.length < 1000000000) (h' : t.length < N) (hl' : t.length < 1000000000) : zbt N l t = some (l.any fun f => !zfa t f) := by
 unfold zbt zt
 have := zsm (f := zt.r0 N) l (fun f => !zfa t f) (fun i => (l, (l.length : Int), (i : Int), t)) (fun i y hy => by
  have hi := (gei hy).1; simp only [zt.r0, zt.b0, zen, zr5 N t y h' hl', zan, hy, obs, dct (show (i : Int) < (l.length : Int) by omega), ctr]; rw [w6e]; cases zfa t y <;> simp)
  (by simp only [zt.r0, zt.b0, dcf (show ¬ (l.length : Int) < (l.length : Int) by omega), cfa]) h
 simp only [nc0] at this
 rw [this]
 have e := zow l (fun f => !zfa t f)
 cases hf : l.findIdx? (fun f => !zfa t f) with
 | none => rw [hf] at e; rw [← e]; simp [zaz]
 | some k => rw [hf] at e; rw [← e]; simp [zaz]
theorem z1j (N : Nat) (l : List Bool) (h : l.length < N) (hl : l.length < 1000000000) : zab N l true = some (match l.findIdx? id with | some k => (k : Int) | none => -1) := by
 unfold zab
 have := zsm (f := zab.r0 N) l id (fun i => (l, true, (l.length : Int), (i : Int))) (fun i y hy => by
  have hi := (gei hy).1; simp only [zab.r0, zab.b0, zan, hy, obs, dct (show (i : Int) < (l.length : Int) by omega), ctr]; rw [w6e]; cases y <;> simp)
  (by simp only [zab.r0, zab.b0, dcf (show ¬ (l.length : Int) < (l.length : Int) by omega), cfa]) h
 simp only [nc0] at this
 rw [this]
 cases l.findIdx? id <;> rfl
theorem zy7 (N : Nat) (l : List Int) (z : Int) (h : l.length < N) (hl : l.length < 1000000000) : ∃ r, zce N l z = some r ∧ (decide (r = -1)) = !l.contains z := by
 unfold zce
 have := zsm (f := zce.r0 N) l (fun x => decide (x = z)) (fun i => (l, z, (i : Int))) (fun i y hy => by
  have hi := (gei hy).1; simp only [zce.r0, zce.b0, zan, hy, obs, dct (show (i : Int) < (l.length : Int) by omega), ctr, zcw]; rw [w6e]
  by_cases e : y = z <;> simp [e])
  (by simp only [zce.r0, zce.b0, dcf (show ¬ (l.length : Int) < (l.length : Int) by omega), cfa]) h
 simp only [nc0] at this
 rw [this]
 have e := zow l (fun x => decide (x = z))
 have e2 : (l.any fun x => decide (x = z)) = l.contains z := by
  rw [Bool.eq_iff_iff, List.any_eq_true, List.contains_iff_mem]; constructor
  · rintro ⟨x, hx, h⟩
    have := of_decide_eq_true h; subst this; exact hx
  · intro h; exact ⟨z, h, by simp⟩
 rw [e2] at e
 cases hf : l.findIdx? (fun x => decide (x = z)) with
 | none => rw [hf] at e; rw [← e]; exact ⟨_, rfl, by simp⟩
 | some k => rw [hf] at e; rw [← e]; exact ⟨_, rfl, by simp⟩
def zi1 (c : zF) (F : List (List zA)) (i : Nat) : List zA := match c.zC[i]?, F[i]? with | some x, some l => zhf x l | _, _ => []
def zl7 (F : List (List zA)) (k : Nat) : List zA := (F[k]?).getD []
def zm2 (c : zF) (F : List (List zA)) (i k : Nat) : Bool := (zl7 F k).any fun f => !zfa (zi1 c F i) f
def zrn (c : zF) (F : List (List zA)) (i k : Nat) : Bool := (zd6 c i).contains (k : Int) && zm2 c F i k
def zp6 (c : zF) (F : List (List zA)) (k : Nat) : Bool := zs9 c k && decide (0 < (zl7 F k).length)
def ztf (c : zF) (F : List (List zA)) (k : Nat) : Bool := zp6 c F k || (List.range c.zC.length).any fun i => zrn c F i k
structure FsV (m : zI) (c : zF) (F : List (List zA)) : Prop where
 len : F.length = c.zC.length
 v : ∀ l ∈ F, l.length ≤ 60 ∧ ∀ f ∈ l, FctV m c f
theorem z4b {x : zB} {l : List zA} (hl : l.length ≤ 100) : (zhf x l).length ≤ 100000 := by
 have ordl : ∀ k : List zA, (ordD Proofs.Tryz.ltF k).length ≤ k.length := by
  have ins : ∀ (y : zA) (k : List zA), (insD Proofs.Tryz.ltF y k).length ≤ k.length + 1 := by
   intro y k
   induction k with
   | nil => simp [insD]
   | cons z k ih =>
    rw [insD]; cases Proofs.Tryz.ltF y z with
    | true => simp
    | false =>
     cases Proofs.Tryz.ltF z y with
     | true => simp only [cfa, ctr, lnc]; omega
     | false => simp
  intro k
  induction k with
  | nil => simp [ordD]
  | cons y k ih =>
   rw [ordD]; exact Nat.le_trans (ins y _) (by simp; omega)
 have h1 : (woL x.R l).length ≤ l.length := List.length_filter_le _ _
 unfold zhf
 split
 · refine Nat.le_trans (ordl _) ?_; unfold zn5; have h2 : (l.flatMap (ziz x l)).length ≤ 100 * 100 := by
    have : ∀ k : List zA, k.length ≤ 100 → (k.flatMap (ziz x l)).length ≤ k.length * 100 := by
     intro k
     induction k with
     | nil => intro _; simp
     | cons g k ih =>
      intro hk; have hk' : k.length + 1 ≤ 100 := by simpa using hk
      have := ih (by omega); have h3 : (ziz x l g).length ≤ 100 := by
       unfold ziz; split
       · exact Nat.le_trans (List.length_filterMap_le _ _) hl
       · simp
      rw [List.flatMap_cons, lna, lnc, Nat.succ_mul]; omega
    exact Nat.le_trans (this l hl) (Nat.mul_le_mul_right 100 hl)
   simp only [lna, lnc, ln0]; split
   · simp; omega
   · simp only [lna, lnc, ln0]; omega
 · split
   · exact Nat.le_trans (ordl _) (by simp; omega)
   · split
     · omega
     · split
       · have h2 : (l.filterMap (zhg x.A x.R)).length ≤ l.length := List.length_filterMap_le _ _; exact Nat.le_trans (ordl _) (by rw [lna]; omega)
       · split
         · refine Nat.le_trans (ordl _) ?_; unfold zqw; split
           · exact Nat.le_trans (List.length_filter_le _ _) (by omega)
           · have h2 : (l.filter fun f => !apB x.Place.Offset (szE x.zD) f).length ≤ l.length := List.length_filter_le _ _; rw [lna]; split <;> simp <;> omega
         · split
           · exact Nat.le_trans (List.length_filter_le _ _) (by omega)
           · omega
theorem zsk {i : Nat} : (zd6 c i).length ≤ 2 := by
 unfold zd6
 cases c.zC[i]? with
 | none => simp
 | some x =>
  simp only [lna]; split <;> split <;> simp
variable {F : List (List zA)}
theorem zyt (N : Nat) (hN : 1048600 < N) (hc : CdV m c) (hF : FsV m c F) {i : Nat} (hi : i < c.zC.length) (p : Nat → Bool) :
 zf (ze.r4 N) N (F, zjj c, (List.range c.zC.length).map p, (F.length : Int), (i : Int), zd6 c i, ((zd6 c i).length : Int), 0, c, zi1 c F i) =
  some (F, zjj c, (List.range c.zC.length).map (fun k => p k || zrn c F i k), (F.length : Int), (i : Int), zd6 c i, ((zd6 c i).length : Int), ((zd6 c i).length : Int), c, zi1 c F i) := by
 have hl := hc.len
 have hs2 := zsk (c := c) (i := i)
 have hbl : (zi1 c F i).length ≤ 100000 := by
  unfold zi1; split
  · rename_i x l _ h2; exact z4b (by have := (hF.v l (lmg h2)).1; omega)
  · simp
 have := zfe (f := ze.r4 N) (fun j => (F, zjj c, (List.range c.zC.length).map (fun k : Nat => p k || (((zd6 c i).take j).contains (k : Int) && zm2 c F i k)), (F.length : Int), (i : Int), zd6 c i, ((zd6 c i).length : Int), (j : Int), c, zi1 c F i)) (zd6 c i).length (fun j hj => by
  have hx := lge hj; obtain ⟨k0, hk0, hk1⟩ := z26 hc (lmg hx); generalize (zd6 c i)[j] = z at hx hk0; subst hk0; have hkl : k0 < F.length := by rw [hF.len]; exact hk1
  have hk : F[k0]? = some F[k0] := lge hkl; have hk60 := (hF.v _ (lmg hk)).1; simp only [ze.r4, ze.b4, zan, hx, hk, obs, dct (show (j : Int) < ((zd6 c i).length : Int) by omega), ctr, ifp (show 0 ≤ (k0 : Int) by omega), itn]; rw [ifp (by simp; omega), zi9 _ hk1, obs, z1h N _ _ (by omega) (by omega) (by omega) (by omega), obs, orB, obs, ifp (by simp; omega), obs, zjx, w6e, List.take_add_one, hx]; have e : (F[k0]).any (fun f => !zfa (zi1 c F i) f) = zm2 c F i k0 := by unfold zm2 zl7; rw [hk]; rfl
  rw [e]
  congr 5
  apply List.map_congr_left; intro k _
  by_cases ek : k = k0
  · subst ek; rw [ifp rfl]; cases p k <;> cases zm2 c F i k <;> simp
  · rw [ifn ek]; have : ¬ ((k : Int) = (k0 : Int)) := by omega
    have e2 : ((zd6 c i).take j ++ (some (k0 : Int)).toList).contains (k : Int) = ((zd6 c i).take j).contains (k : Int) := by
     rw [Bool.eq_iff_iff, List.contains_iff_mem, List.contains_iff_mem]; simp [this]
    rw [e2])
  (by simp only [ze.r4, ze.b4, dcf (show ¬ ((zd6 c i).length : Int) < ((zd6 c i).length : Int) by omega), cfa]) (show (zd6 c i).length < N by omega)
 have e0 : (fun k : Nat => p k || (((zd6 c i).take 0).contains (k : Int) && zm2 c F i k)) = p := by funext k; simp
 simp only [nc0, e0, List.take_length] at this
 exact this
theorem zz3 (N : Nat) (hN : 1048600 < N) (hc : CdV m c) (hF : FsV m c F) :
 zf (ze.r2 N) N (F, zjj c, List.replicate F.length false, (F.length : Int), 0, c) = some (F, zjj c, (List.range c.zC.length).map (ztf c F), (F.length : Int), (F.length : Int), c) := by
 have hl := hc.len
 have := zfe (f := ze.r2 N) (fun i => (F, zjj c, (List.range c.zC.length).map (fun k : Nat => (decide (k < i) && zp6 c F k) || (List.range i).any fun j => zrn c F j k), (F.length : Int), (i : Int), c)) F.length (fun i hi => by
  have hi' : i < c.zC.length := by rw [← hF.len]; exact hi
  have hk := lge hi; have hx := lge hi'; have hv := hF.v _ (lmg hk); have hix := hc.ins _ (lmg hx); have hent : (zjj c)[i]? = some (zs9 c i) := zi9 _ hi'; have hb : zi1 c F i = zhf c.zC[i] F[i] := by unfold zi1; rw [hx, hk]
  simp only [ze.r2, ze.b2, zan, hx, hk, hent, obs, dct (show (i : Int) < (F.length : Int) by omega), ctr, ifp (show 0 ≤ (i : Int) by omega), itn]; rw [ifp (by simp; omega), zi9 _ hi', obs, zhn, obs, orB, obs, ifp (by simp; omega), obs, zz4 N (by omega) hc.m2 hc.sz hix hv.2 (by omega) (by omega), obs, z20 (by omega) hi', obs, zjx, ← hb, zyt N hN hc hF hi']; simp only [obs]; rw [w6e]
  congr 5
  apply List.map_congr_left; intro k _; have eo : decide ((F[i].length : Int) > 0) = decide (0 < (zl7 F i).length) := by
   unfold zl7; rw [hk]
   by_cases h : 0 < F[i].length
   · rw [dct (by omega)]; symm; exact dct h
   · rw [dcf (by omega)]; symm; exact dcf h
  rw [eo, List.range_succ, List.any_append, List.any_cons, List.any_nil, Bool.or_false]
  by_cases ek : k = i
  · subst ek; rw [ifp rfl, dcf (Nat.lt_irrefl k), Bool.false_and, Bool.false_or, dct (Nat.lt_succ_self k), Bool.true_and]; show ((_ || zp6 c F k) || _) = (zp6 c F k || (_ || _)); cases zp6 c F k <;> simp
  · rw [ifn ek]; have : decide (k < i) = decide (k < i + 1) := by
     by_cases h : k < i
     · rw [dct h, dct (by omega)]
     · rw [dcf h, dcf (by omega)]
    rw [this, Bool.or_assoc])
  (by simp only [ze.r2, ze.b2, dcf (show ¬ (F.length : Int) < (F.length : Int) by omega), cfa]) (show F.length < N by have := hF.len; omega)
 have e0 : ((List.range c.zC.length).map (fun k : Nat => (decide (k < 0) && zp6 c F k) || (List.range 0).any fun j => zrn c F j k)) = List.replicate F.length false := by
  rw [hF.len, zsu]; apply List.map_congr_left; intro k _; simp
 simp only [nc0, e0] at this
 rw [this]
 congr 4
 apply List.map_congr_left
 intro k hk
 have hk : k < c.zC.length := by simpa using hk
 unfold ztf
 rw [dct (show k < F.length by rw [hF.len]; exact hk), Bool.true_and, hF.len]
theorem zy8 (N : Nat) (hN : 1048600 < N) (hc : CdV m c) (hF : FsV m c F) {k : Nat} (hk : k < c.zC.length) :
 zk (zd.r7 N) N (F, zjj c, (k : Int), 0, c) = some (if (List.range c.zC.length).any (fun i => zrn c F i k) = true then .inl ((k : Int), 42) else .inr (F, zjj c, (k : Int), (c.zC.length : Int), c)) := by
 have hl := hc.len
 have hkl : k < F.length := by rw [hF.len]; exact hk
 have hkF : F[k]? = some F[k] := lge hkl
 have hk60 := (hF.v _ (lmg hkF)).1
 have := z2k (f := zd.r7 N) (List.range c.zC.length) (fun i => zrn c F i k) ((k : Int), 42) (fun i => (F, zjj c, (k : Int), (i : Int), c)) (fun i j hj => by
  obtain ⟨hi, rfl⟩ := gei hj; have hi' : i < c.zC.length := by simpa using hi
  simp only [List.getElem_range]; have hx := lge hi'; have hil : i < F.length := by rw [hF.len]; exact hi'
  have hiF : F[i]? = some F[i] := lge hil; have hv := hF.v _ (lmg hiF); obtain ⟨r, hr1, hr2⟩ := zy7 N (zd6 c i) (k : Int) (by have := zsk (c := c) (i := i); omega) (by have := zsk (c := c) (i := i); omega); obtain ⟨ys, hy1, hy2, _, hy3⟩ := z0j N (by omega) (hc.ins _ (lmg hx)) hv.2 (by omega); have hb : zi1 c F i = zhf c.zC[i] F[i] := by unfold zi1; rw [hx, hiF]
  have hys : ∀ f, zfa ys f = zfa (zi1 c F i) f := fun f => by
   rw [Bool.eq_iff_iff, zh7, zh7, hy2, hb, zyj]
  simp only [zd.r7, zd.b7, zan, obs, dct (show (i : Int) < (F.length : Int) by have := hF.len; omega), ctr, z3f (show c.zC.length ≤ 1000000 by omega) hi', hr1, zcw, hr2, hx, hiF, hy1]; rw [w6e (n := (i : Int) + 1)]; unfold zrn; cases hcn : (zd6 c i).contains (k : Int) with
  | false => simp
  | true =>
   have h9 := z2k (f := zd.r9 N) F[k] (fun f => !zfa (zi1 c F i) f) ((k : Int), (42 : Int)) (fun j => (F, zjj c, (k : Int), (i : Int), ys, (j : Int), c)) (fun j f hf => by
    have hjl := (gei hf).1; simp only [zd.r9, zd.b9, zan, hkF, hf, obs, dct (show (j : Int) < (F[k].length : Int) by omega), ctr]; rw [ztw N ys f (by omega) (by omega), hys]; simp only [obs]; rw [w6e]; cases zfa (zi1 c F i) f <;> simp)
    (by simp only [zd.r9, zd.b9, zan, hkF, obs, dcf (show ¬ (F[k].length : Int) < (F[k].length : Int) by omega), cfa]) (show F[k].length < N by omega)
   simp only [nc0] at h9; simp only [bnt, cfa, Bool.true_and]; rw [h9]; have e : F[k].any (fun f => !zfa (zi1 c F i) f) = zm2 c F i k := by unfold zm2 zl7; rw [hkF]; rfl
   rw [e]; simp only [obs]; cases zm2 c F i k with
   | true => rfl
   | false =>
    simp only [Bool.false_eq_true, if_false, zaz]; rw [w6e]; rfl)
  (by simp only [zd.r7, zd.b7, List.length_range, dcf (show ¬ (c.zC.length : Int) < (F.length : Int) by have := hF.len; omega), cfa]) (show (List.range c.zC.length).length < N by simp; omega)
 simp only [nc0, List.length_range] at this
 exact this
variable {m : zI} {c : zF} {F : List (List zA)}
theorem zt8 {β : Type} (p : Nat → Bool) (g : Nat → β) : ∀ n, (List.range n).findSome? (fun k => if p k = true then some (g k) else none) = (((List.range n).map p).findIdx? id).map g
 | 0 => rfl
 | n + 1 => by
  rw [List.range_succ, List.findSome?_append, List.map_append, List.findIdx?_append, zt8 p g n]; cases ((List.range n).map p).findIdx? id with
  | some k => rfl
  | none => cases h : p n <;> simp [h]
theorem z0i (N : Nat) (hN : 1048600 < N) (hc : CdV m c) (hF : FsV m c F) :
 zk (zd.r5 N) N (F, zjj c, 0, c) = some (match ((List.range c.zC.length).map (ztf c F)).findIdx? id with | some k => .inl ((k : Int), 42) | none => .inr (F, zjj c, (F.length : Int), c)) := by
 have hl := hc.len
 have := zca (f := zd.r5 N) (fun i => (F, zjj c, (i : Int), c)) (fun k => if ztf c F k = true then some ((k : Int), (42 : Int)) else none) F.length
  (fun i hi => by
   have hi' : i < c.zC.length := by rw [← hF.len]; exact hi
   have hk := lge hi; have hent : (zjj c)[i]? = some (zs9 c i) := zi9 _ hi'; simp only [zd.r5, zd.b5, zan, hk, hent, obs, dct (show (i : Int) < (F.length : Int) by omega), ctr, ifp (show 0 ≤ (i : Int) by omega), itn]; rw [ifp (by simp [zjj]; omega), zhn, obs]; have eo : (zs9 c i && decide ((F[i].length : Int) > 0)) = zp6 c F i := by
    unfold zp6 zl7; rw [hk]
    congr 1
    by_cases h : 0 < F[i].length
    · rw [dct (by omega)]; symm; exact dct h
    · rw [dcf (by omega)]; symm; exact dcf h
   rw [eo]; unfold ztf; cases zp6 c F i with
   | true => rfl
   | false =>
    rw [cfa, Bool.false_or, zy8 N hN hc hF hi']; simp only [obs]; cases (List.range c.zC.length).any fun j => zrn c F j i with
    | true => rfl
    | false =>
     simp only [Bool.false_eq_true, if_false, zaz]; rw [w6e]; rfl)
  (by simp only [zd.r5, zd.b5, dcf (show ¬ (F.length : Int) < (F.length : Int) by omega), cfa]) (show F.length < N by have := hF.len; omega)
 rw [zt8, hF.len] at this
 simp only [nc0] at this
 rw [this, hF.len]
 cases ((List.range c.zC.length).map (ztf c F)).findIdx? id <;> rfl
theorem zzu (N : Nat) (hN : 1048600 < N) (m : zI) {c : zF} (hc : Wft En 1048576 Ty.zF c) {F : List (List zA)} (hF : F.length ≤ 250) (hl : ∀ l ∈ F, l.length ≤ 64) :
 ∃ r, ze N m c F = some r ∧ zd N m c F = some r := by
 obtain ⟨⟨n, e⟩, h1, h2⟩ := z04 N hN m hc
 unfold ze zd zep zi4
 rw [h1, h2]
 simp only [obs]
 have ec : ∀ (b : Bool) (z : Int), zif b z = some (cond b z 0) := fun b z => by cases b <;> rfl
 rw [ec, obs, z1k N [e, cond ((F.length : Int) != (c.zC.length : Int)) 6 0] (by show 2 < N; omega) (by show 2 < 1000000000; omega), obs]
 by_cases he : e = 0
 · subst he; obtain ⟨hcv, hn⟩ := z5c N hN hc h2
   by_cases hlen : (F.length : Int) = (c.zC.length : Int)
   · have e1 : ze2 [0, cond ((F.length : Int) != (c.zC.length : Int)) 6 0] = 0 := by rw [zdh, dcf (by simpa using hlen)]; rfl
     rw [e1, show ((F.length : Int) != (c.zC.length : Int)) = false by rw [zdh, dcf (by simpa using hlen)]]; simp only [bsf, cfa]; have hm : 2 ≤ m.Registers ∧ m.Registers ≤ 8 := ⟨hcv.m1, hcv.m2⟩; rw [z1g N (by omega) hm hcv.sz F (by omega) (fun l h => by have := hl l h; omega), z1s N (by omega) hm hcv.sz F (by omega)]; simp only [obs]; cases hls : (List.range F.length).findSome? (lsE m c F) with
     | some r => exact ⟨r, rfl, rfl⟩
     | none =>
      have hFv : FsV m c F := ⟨by omega, z3u hls⟩; have hil := hcv.len; simp only [zaz]; rw [zyu N hN hcv, zy9 N hN hcv]; simp only [obs]; rw [ifp, ifp, itn, z2h (by omega), ctr, zz3 N hN hcv hFv, z0i N hN hcv hFv]; simp only [obs]; rw [z1j N _ (by simp; omega) (by simp; omega)]; simp only [obs]; cases ((List.range c.zC.length).map (ztf c F)).findIdx? id with
      | some k =>
       refine ⟨((k : Int), 42), ?_, rfl⟩; simp only; rw [dct (by omega)]; rfl
      | none => exact ⟨((F.length : Int), 0), rfl, rfl⟩
   · have e1 : ze2 [0, cond ((F.length : Int) != (c.zC.length : Int)) 6 0] = 6 := by rw [zdh, dct (by simpa using hlen)]; rfl
     rw [e1, show ((F.length : Int) != (c.zC.length : Int)) = true by rw [zdh, dct (by simpa using hlen)]]; exact ⟨(0, 6), rfl, rfl⟩
 · have e1 : ze2 [e, cond ((F.length : Int) != (c.zC.length : Int)) 6 0] = e := by simp [ze2, he]
   rw [e1, show (e != 0) = true by simpa using he]; exact ⟨(0, e), rfl, rfl⟩
theorem z0y (N : Nat) (hN : 1048600 < N) {F : List (List zA)} (hF : F.length ≤ 1048576) (hl : ∀ l ∈ F, l.length ≤ 1048576) :
 ∃ b, zbx N F = some b ∧ (b = true → F.length ≤ 250 ∧ ∀ l ∈ F, l.length ≤ 64) := by
 unfold zbx
 have := zca (f := zbx.r0 N) (fun i => (F, (i : Int))) (fun i => (F[i]?).bind fun l => if 64 < l.length then some false else none) (min F.length 251)
  (fun i hi => by
   have hi' : i < F.length := by omega
   have hx := lge hi'; generalize F[i] = l at hx; simp only [zbx.r0, zbx.b0, zan, hx, obs, dct (show (i : Int) < (F.length : Int) by omega), ctr, dct (show (i : Int) ≤ 250 by omega)]; rw [w6e]
   by_cases h : 64 < l.length
   · rw [dct (by omega), ifp h]; rfl
   · rw [dcf (by omega), ifn h]; rfl)
  (by
   simp only [zbx.r0, zbx.b0]
   by_cases h : F.length ≤ 250
   · rw [show min F.length 251 = F.length by omega, dcf (show ¬ (F.length : Int) < (F.length : Int) by omega)]; rfl
   · rw [show min F.length 251 = 251 by omega, dcf (show ¬ ((251 : Nat) : Int) ≤ 250 by omega)]; cases decide (((251 : Nat) : Int) < (F.length : Int)) <;> rfl) (show min F.length 251 < N by omega)
 simp only [nc0] at this
 rw [this]
 simp only [obs]
 cases hf : (List.range (min F.length 251)).findSome? (fun i => (F[i]?).bind fun l => if 64 < l.length then some false else none) with
 | some r =>
  obtain ⟨i, _, hr⟩ := eof hf; rw [Option.bind_eq_some_iff] at hr; obtain ⟨l, _, hr⟩ := hr; split at hr
  · cases hr; exact ⟨false, rfl, fun h => by cases h⟩
  · cases hr
 | none =>
  refine ⟨_, rfl, fun h => ?_⟩; have h : ((F.length : Nat) : Int) ≤ 250 := of_decide_eq_true h; have h250 : F.length ≤ 250 := by omega
  refine ⟨h250, fun l hl => ?_⟩; obtain ⟨i, hi⟩ := List.getElem?_of_mem hl; rw [List.findSome?_eq_none_iff] at hf; have hil := (gei hi).1; have := hf i (by simp; omega); rw [hi, obs] at this; split at this
  · cases this
  · omega
theorem z0n (N : Nat) (hN : 1048600 < N) {F : List (List zA)} (hF : F.length ≤ 250) (hl : ∀ l ∈ F, l.length ≤ 64) : zbv N F = some F := by
 unfold zbv
 have := zuw (f := zbv.r0 N) F (fun l => some l) (fun i acc => (F, acc, (i : Int))) (fun i x acc hx hacc => by
  have hi := (gei hx).1; have hxl := hl x (lmg hx); simp only [zbv.r0, zbv.b0, zan, hx, obs, dct (show (i : Int) < (F.length : Int) by omega), ctr, lnc, ln0, zi0 (show x.length ≤ 1000000000 by omega), z6g (show acc.length + (0 + 1) ≤ 1000000 by omega)]; rw [w6e]; rfl)
  (fun acc => by simp only [zbv.r0, zbv.b0, dcf (show ¬ (F.length : Int) < (F.length : Int) by omega), cfa]) (show F.length < N by omega)
 simp only [nc0] at this
 rw [this]
 simp
theorem z2c {n : Nat} {F : List (List zA)} (h : Wft En n (Ty.sl (Ty.sl Ty.zA)) F) : F.length ≤ n ∧ ∀ l ∈ F, l.length ≤ n := by
 have h1 := h (.lst (Ty.sl Ty.zA) F) (.head _)
 cases h1 with
 | lst h1 h2 =>
  refine ⟨h1, fun l hl => ?_⟩; have h3 := h2 l hl (.lst Ty.zA l) (.head _); cases h3 with
  | lst h3 _ => exact h3
theorem z4c : zkh 2000000 = some true := by kernel_rfl
theorem plainTranslateProofs : zfi := by
 intro m c F hm hc hF
 refine ⟨2000000, ?_⟩
 obtain ⟨b, hb⟩ := z0x 2000000 (by decide) hc
 obtain ⟨f1, f2⟩ := z2c hF
 obtain ⟨b2, hb2, hb3⟩ := z0y 2000000 (by decide) f1 f2
 unfold zd3
 rw [z4c]
 simp only [obs, bnt, cfa]
 rw [hb]
 cases b with
 | false => rfl
 | true =>
  simp only [obs, bnt, cfa]; rw [hb2]; cases b2 with
  | false => rfl
  | true =>
   obtain ⟨h1, h2⟩ := hb3 rfl; obtain ⟨r, hr1, hr2⟩ := zzu 2000000 (by decide) m hc h1 h2; simp only [obs, bnt, cfa]; rw [z11 hc, obs, z0n 2000000 (by decide) h1 h2, obs, hr1, obs, hr2]; simp
end
end Go.Proofs.YtblgefddnnlniaaGreatDoor.M
namespace Go.Proofs.YtblgefddnnlniaaGreatDoor
theorem translateProofs_card : Rows.TranslateProofsUptoCardSaid := M.cardTranslateProofs M.plainTranslateProofs
#print axioms translateProofs_card
end Go.Proofs.YtblgefddnnlniaaGreatDoor
