/- The plain law of TranslateOptimizes: part 0. -/
import Derived.Test.YtblgefddnnlniaaGreatDoorF2
import Derived.Test.YtblgefddnnlniaaGreatDoorA4
import Derived.Lib.Strings
namespace Go.Proofs.YtblgefddnnlniaaGreatDoor.M
open Go Go.Amx
set_option linter.unusedVariables false
set_option linter.unusedSimpArgs false
set_option maxRecDepth 100000
noncomputable section
theorem obs {α β : Type} (a : α) (f : α → Option β) : (some a).bind f = f a := rfl
theorem dct {p : Prop} [Decidable p] (h : p) : decide p = true := decide_eq_true h
theorem dcf {p : Prop} [Decidable p] (h : ¬ p) : decide p = false := decide_eq_false h
theorem lna {α : Type} {a b : List α} : (a ++ b).length = a.length + b.length := List.length_append
theorem lns {α : Type} {a : α} : [a].length = 1 := List.length_singleton
theorem lge {α : Type} {l : List α} {i : Nat} (h : i < l.length) : l[i]? = some l[i] := List.getElem?_eq_getElem h
theorem itn (n : Nat) : Int.toNat (n : Int) = n := Int.toNat_natCast n
theorem ctr {α : Sort _} (a b : α) : cond true a b = a := rfl
theorem cfa {α : Sort _} (a b : α) : cond false a b = b := rfl
theorem ifp {c : Prop} {h : Decidable c} (hc : c := by omega) {α : Sort _} {t e : α} : ite c t e = t := if_pos hc
theorem ifn {c : Prop} {h : Decidable c} (hc : ¬c := by omega) {α : Sort _} {t e : α} : ite c t e = e := if_neg hc
theorem bsf {α : Type _} [BEq α] [LawfulBEq α] (a : α) : (a != a) = false := bne_self_eq_false a
theorem tde {a b : Int} (h : 0 ≤ a := by omega) : a.tdiv b = a / b := Int.tdiv_eq_ediv_of_nonneg h
theorem tme {a b : Int} (h : 0 ≤ a := by omega) : a.tmod b = a % b := Int.tmod_eq_emod_of_nonneg h
theorem lnt {α : Type _} {i : Nat} {l : List α} : (l.take i).length = min i l.length := List.length_take
theorem lnr {α : Type _} {n : Nat} {a : α} : (List.replicate n a).length = n := List.length_replicate
theorem gdd {α : Type _} {l : List α} {i : Nat} {a : α} : l.getD i a = l[i]?.getD a := List.getD_eq_getElem?_getD
theorem cbc {p : Prop} (h : ¬p → False) : p := Classical.byContradiction h
theorem lnc {α : Type _} {a : α} {l : List α} : (a :: l).length = l.length + 1 := List.length_cons
theorem gei {α : Type _} {i : Nat} {a : α} {l : List α} (h : l[i]? = some a) : ∃ h : i < l.length, l[i] = a := List.getElem?_eq_some_iff.1 h
theorem eof {α β : Type _} {b : β} {f : α → Option β} {l : List α} (h : l.findSome? f = some b) : ∃ a, a ∈ l ∧ f a = some b := List.exists_of_findSome?_eq_some h
theorem ln0 {α : Type _} : ([] : List α).length = 0 := rfl
theorem lnm {α β : Type _} {l : List α} (f : α → β) : (l.map f).length = l.length := List.length_map f
theorem dr0 {α : Type _} {l : List α} : l.drop 0 = l := rfl
theorem bsa {a b : ByteArray} : (a ++ b).size = a.size + b.size := ByteArray.size_append
theorem bnt : (!true) = false := rfl
theorem mel {a b : Nat} (h : a < b) : a % b = a := Nat.mod_eq_of_lt h
theorem nc0 : ((0 : Nat) : Int) = 0 := Int.natCast_zero
theorem bst {α : Type _} [BEq α] [ReflBEq α] (a : α) : (a == a) = true := beq_self_eq_true a
theorem lmg {α : Type _} {l : List α} {i : Nat} {a : α} (h : l[i]? = some a) : a ∈ l := List.mem_of_getElem? h
theorem w6e {n : Int} (h1 : -9223372036854775808 ≤ n := by omega) (h2 : n ≤ 9223372036854775807 := by omega) : w6 n = n := z7y h1 h2
theorem zuo (N : Nat) (l : List Int) (h : l.length < N) (hl : l.length < 1000000000) : zaw N l = some (zgq l) := by
 unfold zaw
 have := zbm (f := zaw.r0 N) (fun i => (l, (l.length : Int), (i : Int))) (fun i => (l[i]?).bind fun x => if x = 0 then none else some x) l.length
  (fun i hi => by
   have hx := lge hi; simp only [zaw.r0, zaw.b0, zac, hx, obs, dct (show (i : Int) < (l.length : Int) by omega), ctr]
   by_cases h0 : l[i] = 0
   · simp only [h0, bsf, cfa, if_true]; rw [w6e]; rfl
   · simp only [h0, if_false]; rw [show (l[i] != 0) = true by simpa using h0]; rfl)
  (by simp only [zaw.r0, zaw.b0, dcf (show ¬ (l.length : Int) < (l.length : Int) by omega), cfa]) h
 simp only [nc0] at this
 rw [this, zi3, ← zsm]
 simp only [obs]
 cases l.findSome? (fun x => if x = 0 then none else some x) <;> rfl
theorem z42 (N : Nat) (l : List Int) (h : l.length < N) (hl : l.length < 1000000000) : za2 N l = some (zgq l) := by
 unfold za2
 have := zbm (f := za2.r0 N) (fun i => (l, (l.length : Int), (i : Int))) (fun i => (l[i]?).bind fun x => if x = 0 then none else some x) l.length
  (fun i hi => by
   have hx := lge hi; simp only [za2.r0, za2.b0, zac, hx, obs, dct (show (i : Int) < (l.length : Int) by omega), ctr]
   by_cases h0 : l[i] = 0
   · simp only [h0, bsf, cfa, if_true]; rw [w6e]; rfl
   · simp only [h0, if_false]; rw [show (l[i] != 0) = true by simpa using h0]; rfl)
  (by simp only [za2.r0, za2.b0, dcf (show ¬ (l.length : Int) < (l.length : Int) by omega), cfa]) h
 simp only [nc0] at this
 rw [this, zi3, ← zsm]
 simp only [obs]
 cases l.findSome? (fun x => if x = 0 then none else some x) <;> rfl
def inB (n lo hi : Int) : Bool := decide (lo ≤ n) && decide (n ≤ hi)
theorem zo5 (n lo hi : Int) : zbd n lo hi = some (inB n lo hi) := by
 unfold zbd inB
 cases decide (lo ≤ n) <;> rfl
theorem z5s (n lo hi : Int) : zei n lo hi = some (inB n lo hi) := by
 unfold zei inB
 cases decide (lo ≤ n) <;> rfl
theorem zix (n lo hi : Int) : zp n lo hi = some (inB n lo hi) := by
 unfold zp inB
 cases decide (lo ≤ n) <;> rfl
theorem zqb (b : Bool) (e : Int) : zbu b e = some (cond b e 0) := by cases b <;> rfl
theorem zz8 (b : Bool) (e : Int) : zbp b e = some (cond b e 0) := by cases b <;> rfl
theorem zoc (b : Bool) : zc4 b = some (cond b 1 0) := by cases b <;> rfl
theorem zrb (m : zI) : ∃ e, zdo m = some e ∧ zgl m = some e ∧ (e = 0 → 2 ≤ m.Registers ∧ m.Registers ≤ 8) := by
 refine ⟨cond (!inB m.Registers 2 8) 3 0, ?_, ?_, ?_⟩
 · simp only [zdo, zo5, zqb, obs]
 · simp only [zgl, zix, obs]; cases inB m.Registers 2 8 <;> rfl
 · intro h; cases hb : inB m.Registers 2 8 with
   | false => rw [hb] at h; cases h
   | true => simpa [inB] using hb
def zb5 (t : DataType) : Int :=
 if t.Kind = 0 then (if inB t.Length 1 256 then (if t.Scale = 0 then 0 else 3) else 18)
 else if t.Kind = 1 ∨ t.Kind = 2 then (if inB t.Length 1 15 then (if inB t.Scale 0 t.Length then 0 else 3) else 18)
 else if t.Kind = 3 then (if t.Length = 4 ∨ t.Length = 9 then (if inB t.Scale 0 t.Length then 0 else 3) else 18)
 else if t.Kind = 4 then (if t.Length = 0 then (if t.Scale = 0 then 0 else 3) else 18)
 else 4
theorem z8u (a b : Bool) (x y : Int) (hx : x ≠ 0) (hy : y ≠ 0) : zgq [cond a x 0, cond b y 0] = cond a x (cond b y 0) := by
 cases a <;> cases b <;> simp [zgq, hx, hy]
theorem zv9 (N : Nat) (hN : 10 < N) (t : DataType) : zcd N t = some (zb5 t) := by
 have f2 : ∀ a b : Int, za2 N [a, b] = some (zgq [a, b]) := fun a b => z42 N _ (by simp; omega) (by simp)
 unfold zcd zb5
 simp only [z5s, zz8, f2, obs, z8u _ _ 18 3 (by decide) (by decide)]
 by_cases h0 : t.Kind = 0
 · simp only [h0, bst, ctr, if_true]; cases inB t.Length 1 256 <;> by_cases hs : t.Scale = 0 <;> simp [zci, hs]
 · simp only [beq_eq_false_iff_ne.2 h0, h0, cfa, if_false]
   by_cases h1 : t.Kind = 1
   · simp only [h1, bst, ctr, true_or, if_true, obs]; cases inB t.Length 1 15 <;> cases inB t.Scale 0 t.Length <;> simp
   · by_cases h2 : t.Kind = 2
     · simp only [h2, h1]; cases inB t.Length 1 15 <;> cases inB t.Scale 0 t.Length <;> simp
     · by_cases h3 : t.Kind = 3
       · simp only [h3]
         by_cases h4 : t.Length = 4 <;> by_cases h5 : t.Length = 9 <;> cases inB t.Scale 0 t.Length <;> simp [zci, h4, h5]
       · by_cases h4 : t.Kind = 4
         · simp only [h4]
           by_cases h5 : t.Length = 0 <;> by_cases h6 : t.Scale = 0 <;> simp [zci, h5, h6]
         · simp [zci, h1, h2, h3, h4]
theorem zqx (k : Int) : zck k = some (inB k 1 3) := by simp only [zck, zix, obs]
theorem zz5 (t : DataType) : zf9 t = some (zb5 t) := by
 have w0' : w6 0 = 0 := by decide
 have w1 : w6 3 = 3 := by decide
 have hz : inB t.Scale 0 0 = decide (t.Scale = 0) := by
  unfold inB
  by_cases h : t.Scale = 0
  · simp [h]
  · simp only [h, decide_false]
    by_cases h1 : 0 ≤ t.Scale
    · simp [h1, show ¬ t.Scale ≤ 0 by omega]
    · simp [h1]
 unfold zf9 zb5
 simp only [zix, zqx, zoc, obs, hz]
 by_cases h0 : t.Kind = 0
 · have e : inB (0 : Int) 0 4 = true := by decide
   have e' : inB (0 : Int) 1 3 = false := by decide
   simp only [h0, e, e']; cases inB t.Length 1 256 <;> by_cases hs : t.Scale = 0 <;> simp [zci, hs, w0', w1]
 · by_cases h1 : t.Kind = 1
   · have e : inB (1 : Int) 0 4 = true := by decide
     have e' : inB (1 : Int) 1 3 = true := by decide
     simp only [h1, e, e']; cases inB t.Length 1 15 <;> cases inB t.Scale 0 t.Length <;> simp [w0', w1]
   · by_cases h2 : t.Kind = 2
     · have e : inB (2 : Int) 0 4 = true := by decide
       have e' : inB (2 : Int) 1 3 = true := by decide
       simp only [h2, e, e']; cases inB t.Length 1 15 <;> cases inB t.Scale 0 t.Length <;> simp [w0', w1]
     · by_cases h3 : t.Kind = 3
       · have e : inB (3 : Int) 0 4 = true := by decide
         have e' : inB (3 : Int) 1 3 = true := by decide
         simp only [h3, e, e']
         by_cases h4 : t.Length = 4 <;> by_cases h5 : t.Length = 9 <;> cases inB t.Scale 0 t.Length <;> simp [zci, h4, h5, w0', w1]
       · by_cases h4 : t.Kind = 4
         · have e : inB (4 : Int) 0 4 = true := by decide
           have e' : inB (4 : Int) 1 3 = false := by decide
           simp only [h4, e, e']
           by_cases h5 : t.Length = 0 <;> by_cases h6 : t.Scale = 0 <;> simp [zci, h5, h6, w0', w1]
         · have e : inB t.Kind 0 4 = false := by
            unfold inB
            by_cases hh : 0 ≤ t.Kind
            · simp only [hh, decide_true, Bool.true_and, decide_eq_false_iff_not]; omega
            · simp [hh]
           simp [zci, h0, h1, h2, h3, h4, e]
theorem zbr {n lo hi : Int} : inB n lo hi = true ↔ lo ≤ n ∧ n ≤ hi := by simp [inB]
theorem zjc {t : DataType} (h : zb5 t = 0) : (t.Kind = 0 ∧ 1 ≤ t.Length ∧ t.Length ≤ 256) ∨ ((t.Kind = 1 ∨ t.Kind = 2) ∧ 1 ≤ t.Length ∧ t.Length ≤ 15) ∨ (t.Kind = 3 ∧ (t.Length = 4 ∨ t.Length = 9)) ∨ (t.Kind = 4 ∧ t.Length = 0) := by
 unfold zb5 at h
 split at h
 · rename_i h0; split at h
   · rename_i h1; exact .inl ⟨h0, (zbr.1 h1).1, (zbr.1 h1).2⟩
   · cases h
 · split at h
   · rename_i h0; split at h
     · rename_i h1; exact .inr (.inl ⟨h0, (zbr.1 h1).1, (zbr.1 h1).2⟩)
     · cases h
   · split at h
     · rename_i h0; split at h
       · rename_i h1; exact .inr (.inr (.inl ⟨h0, h1⟩))
       · cases h
     · split at h
       · rename_i h0; split at h
         · rename_i h1; exact .inr (.inr (.inr ⟨h0, h1⟩))
         · cases h
       · cases h
def szE (t : DataType) : Int := if t.Kind = 1 then t.Length / 2 + 1 else if t.Kind = 3 then (if t.Length = 9 then 4 else 2) else if t.Kind = 4 then 16 else t.Length
theorem zs1 {t : DataType} (h : zb5 t = 0) : 0 < szE t ∧ szE t ≤ 256 := by
 unfold szE
 rcases zjc h with ⟨h0, h1, h2⟩ | ⟨h0 | h0, h1, h2⟩ | ⟨h0, h1 | h1⟩ | ⟨h0, h1⟩ <;> simp only [h0] <;> simp <;> omega
theorem znz {t : DataType} (h : zb5 t = 0) : zdp t = some (szE t) := by
 unfold zdp szE
 rcases zjc h with ⟨h0, h1, h2⟩ | ⟨h0 | h0, h1, h2⟩ | ⟨h0, h1 | h1⟩ | ⟨h0, h1⟩ <;> simp only [h0, h1, zci, zoc] <;> simp
 · rw [tde, w6e (n := t.Length / 2), w6e]
 · decide
 · decide
theorem zz7 {t : DataType} (h : zb5 t = 0) : zg1 t = some (szE t) := by
 unfold zg1 szE
 rcases zjc h with ⟨h0, h1, h2⟩ | ⟨h0 | h0, h1, h2⟩ | ⟨h0, h1 | h1⟩ | ⟨h0, h1⟩ <;> simp only [h0, h1, zci] <;> simp
 · rw [tde, w6e (n := t.Length / 2), w6e]
 · decide
 · decide
theorem z7g (N : Nat) (hN : 10 < N) {t : DataType} (h : zb5 t = 0) : zh9 N t = some (szE t) := by
 unfold zh9 zee
 rw [zv9 N hN, h]
 simp [zz7 h]
structure StoOk (s : Storage) : Prop where
 le : s.Bytes.size ≤ 1024
 quad : s.Bytes.size % 16 = 0
def zj1 (s : Storage) (a : Int) : Bool := decide (0 ≤ a) && (decide (a % 16 = 0) && decide (a < (s.Bytes.size : Int)))
theorem z0b (s : Storage) (a : Int) : zdg s a = some (zj1 s a) := by
 unfold zdg zj1
 by_cases h : 0 ≤ a
 · rw [tme h]; simp only [ge_iff_le, h, decide_true, ctr, obs, zci, Bool.true_and]; cases decide (a % 16 = 0) <;> rfl
 · simp [h]
theorem zz6 {s : Storage} (ok : StoOk s) (a : Int) : zep s a = some (zj1 s a) := by
 have h1 := ok.le
 have h2 := ok.quad
 unfold zep zj1
 rw [w6e, zix]
 simp only [obs]
 by_cases h : 0 ≤ a
 · rw [tme h]; simp only [inB, h, decide_true, Bool.true_and, zci]
   by_cases h3 : a % 16 = 0
   · have e : decide (a ≤ (s.Bytes.size : Int) - 16) = decide (a < (s.Bytes.size : Int)) := by
      by_cases h4 : a < (s.Bytes.size : Int)
      · rw [dct h4]; exact dct (by omega)
      · rw [dcf h4]; exact dcf (by omega)
     simp only [h3, decide_true, Bool.true_and, e]; cases decide (a < (s.Bytes.size : Int)) <;> rfl
   · simp only [h3, decide_false, Bool.false_and]; cases decide (a ≤ (s.Bytes.size : Int) - 16) <;> rfl
 · simp [inB, h]
def zhx (s : Storage) (p : zL) (n : Int) : Bool := if p.Based then zj1 s p.Pointer && inB p.Offset 0 256 else inB p.Offset 0 ((s.Bytes.size : Int) - n)
theorem zyr {s : Storage} (ok : StoOk s) (N : Nat) (hN : 10 < N) (p : zL) {t : DataType} (h : zb5 t = 0) : zc2 N s p t = some (zhx s p (szE t)) := by
 obtain ⟨h1, h2⟩ := zs1 h
 have h3 := ok.le
 unfold zc2 zhx
 rw [z0b, z7g N hN h, zo5]
 simp only [obs]
 rw [w6e]
 simp only [zo5, obs]
 cases p.Based <;> cases zj1 s p.Pointer <;> simp
theorem zx0 {s : Storage} (ok : StoOk s) {c : zF} (hc : c.Storage = s) (p : zL) (hp : -9223372036854775808 ≤ p.Offset ∧ p.Offset ≤ 9223372036854775807) {t : DataType} (h : zb5 t = 0) : zd8 c p (szE t) = some (zhx s p (szE t)) := by
 obtain ⟨h1, h2⟩ := zs1 h
 have h3 := ok.le
 unfold zd8 zhx zfn
 rw [hc]
 simp only [zz6 ok, zix, obs]
 cases p.Based with
 | true => cases zj1 s p.Pointer <;> simp
 | false =>
  simp only [cfa]
  by_cases h4 : inB p.Offset 0 (s.Bytes.size : Int) = true
  · obtain ⟨h5, h6⟩ := zbr.1 h4; rw [w6e]; simp only [h4, ctr, obs, Bool.false_eq_true, if_false]
    congr 1
    unfold inB; simp only [h5, decide_true, Bool.true_and, show (0 : Int) ≤ szE t by omega]
    by_cases h7 : szE t ≤ (s.Bytes.size : Int) - p.Offset
    · rw [dct h7]; exact (dct (by omega)).symm
    · rw [dcf h7]; exact (dcf (by omega)).symm
  · have e : inB p.Offset 0 (s.Bytes.size : Int) = false := by simpa using h4
    simp only [e, cfa, obs, Bool.false_eq_true, if_false]
    congr 1
    cases h5 : inB p.Offset 0 ((s.Bytes.size : Int) - szE t) with
    | false => rfl
    | true =>
     obtain ⟨h6, h7⟩ := zbr.1 h5; exact absurd (zbr.2 ⟨h6, by omega⟩) h4
def zpr (n : Number) : Int := cond (inB n.N (-999999999999999) 999999999999999 && inB n.Scale 0 15) 0 3
theorem z3b (n : Number) : zfd n = some (zpr n) := by
 unfold zfd zpr
 simp only [z5s, zz8, obs]
 cases inB n.N (-999999999999999) 999999999999999 <;> cases inB n.Scale 0 15 <;> rfl
theorem z2w (n : Number) : zeh n = some (zpr n) := by
 have w0 : w6 (3 * 0) = 0 := by decide
 have w1 : w6 (3 * 1) = 3 := by decide
 unfold zeh zpr
 simp only [zix, zoc, obs]
 cases inB n.N (-999999999999999) 999999999999999 <;> cases inB n.Scale 0 15 <;> simp [w0, w1, zoc] <;> decide
def z5y (op : Int) (ins : Bool) : Option zR :=
 (idx z1n op).bind fun x1 => (cond (op == 4) (some ins) (some false)).bind fun g2 =>
  cond g2 (some (⟨(orI .i64 (orI .i64 (z0l .i64 x1.fields 4) 8) 64), x1.types⟩ : zR)) (some x1)
theorem z8v (x : zC) : zbk x = z5y x.Op x.zJ := rfl
def z0s (op : Int) (ins : Bool) : Option zM := zc3 ⟨op, 0, 0, 0, 0, ⟨false, 0, 0⟩, ⟨false, 0, 0⟩, ⟨0, 0, 0⟩, ⟨0, 0, 0⟩, false, ins, ⟨0, 0⟩, ⟨#[]⟩, ⟨#[]⟩, 0, 0, 0, 0⟩
theorem zuv (x : zC) : zc3 x = z0s x.Op x.zJ := rfl
structure Agree (f : zR) (u : zM) : Prop where
 R : (zt .i64 f.fields 1 != 0) = u.R
 A : (zt .i64 f.fields 2 != 0) = u.A
 B : (zt .i64 f.fields 4 != 0) = u.B
 Place : (zt .i64 f.fields 8 != 0) = u.Place
 From : (zt .i64 f.fields 16 != 0) = u.From
 zD : (zt .i64 f.fields 32 != 0) = (u.zD != 0)
 Second : (zt .i64 f.fields 64 != 0) = (u.Second != 0)
 Half : (zt .i64 f.fields 128 != 0) = u.Half
 Number : (zt .i64 f.fields 256 != 0) = u.Number
 Text : (zt .i64 f.fields 512 != 0) = u.Text
 Other : (zt .i64 f.fields 1024 != 0) = u.Other
 Mask : (zt .i64 f.fields 2048 != 0) = u.Mask
 Target : (zt .i64 f.fields 4096 != 0) = u.Target
 Pointer : (zt .i64 f.fields 8192 != 0) = u.Pointer
 Source : (zt .i64 f.fields 16384 != 0) = u.Source
 Calc : (zt .i64 f.fields 32768 != 0) = u.zO
 class1 : u.zD = 0 ∨ u.zD = f.types
 class2 : u.Second = 0 ∨ u.Second = f.types
 cls : f.types = 0 ∨ f.types = 1 ∨ f.types = 2 ∨ f.types = 3
def zzf (f : zR) (u : zM) : Bool :=
 ((zt .i64 f.fields 1 != 0) == u.R) && (((zt .i64 f.fields 2 != 0) == u.A) && (((zt .i64 f.fields 4 != 0) == u.B) && (((zt .i64 f.fields 8 != 0) == u.Place) && (((zt .i64 f.fields 16 != 0) == u.From) &&
 (((zt .i64 f.fields 32 != 0) == (u.zD != 0)) && (((zt .i64 f.fields 64 != 0) == (u.Second != 0)) && (((zt .i64 f.fields 128 != 0) == u.Half) && (((zt .i64 f.fields 256 != 0) == u.Number) && (((zt .i64 f.fields 512 != 0) == u.Text) &&
 (((zt .i64 f.fields 1024 != 0) == u.Other) && (((zt .i64 f.fields 2048 != 0) == u.Mask) && (((zt .i64 f.fields 4096 != 0) == u.Target) && (((zt .i64 f.fields 8192 != 0) == u.Pointer) && (((zt .i64 f.fields 16384 != 0) == u.Source) &&
 (((zt .i64 f.fields 32768 != 0) == u.zO) && ((u.zD == 0 || u.zD == f.types) && ((u.Second == 0 || u.Second == f.types) && (f.types == 0 || (f.types == 1 || (f.types == 2 || f.types == 3))))))))))))))))))))
theorem z5n {f : zR} {u : zM} (h : zzf f u = true) : Agree f u := by
 simp only [zzf, Bool.and_eq_true, beq_iff_eq, Bool.or_eq_true] at h
 obtain ⟨h1, h2, h3, h4, h5, h6, h7, h8, h9, h10, h11, h12, h13, h14, h15, h16, h17, h18, h19⟩ := h
 exact ⟨h1, h2, h3, h4, h5, h6, h7, h8, h9, h10, h11, h12, h13, h14, h15, h16, h17, h18, h19⟩
def z1g (op : Int) (ins : Bool) : Bool := match z5y op ins, z0s op ins with
 | some f, some u => (zzf f u && ((!u.From || u.Second != 0) && (!u.Place || cond (op == 4) (u.Second != 0) (u.zD != 0)))) && (cond (op == 4) (u.R && u.A && u.zO && (u.Place == ins) && (u.Second != 0) == ins) (u.zO == false))
 | _, _ => false
theorem z8j : ((List.range 27).all fun k => z1g (k : Int) true && z1g (k : Int) false) = true := by kernel_rfl
theorem zng (x : zC) (h : inB x.Op 0 26 = true) : ∃ f u, zbk x = some f ∧ zc3 x = some u ∧ Agree f u ∧ (x.Op = 4 → u.Place = x.zJ) ∧ (u.From = true → u.Second ≠ 0) ∧ (u.Place = true → if x.Op = 4 then u.Second ≠ 0 else u.zD ≠ 0) := by
 obtain ⟨h1, h2⟩ := zbr.1 h
 obtain ⟨k, hk⟩ : ∃ k : Nat, x.Op = (k : Int) := ⟨x.Op.toNat, by omega⟩
 have hlt : k < 27 := by omega
 have h3 := List.all_eq_true.1 z8j k (by simpa using hlt)
 have h4 : z1g x.Op x.zJ = true := by
  rw [hk]; cases x.zJ
  · exact ((Bool.and_eq_true _ _).mp h3).2
  · exact ((Bool.and_eq_true _ _).mp h3).1
 rw [z8v, zuv]
 unfold z1g at h4
 split at h4
 · rename_i f u hf hu; obtain ⟨h5, h6⟩ := (Bool.and_eq_true _ _).mp h4; simp only [Bool.and_eq_true] at h5; obtain ⟨h5, h8, h9⟩ := h5; refine ⟨f, u, hf, hu, z5n h5, fun h7 => ?_, fun h7 => ?_, fun h7 => ?_⟩
   · rw [h7] at h6; simp only [bst, ctr, Bool.and_eq_true, beq_iff_eq] at h6; exact h6.1.2
   · rw [h7] at h8; simpa using h8
   · rw [h7] at h9; split
     · rename_i h10; rw [h10] at h9; simpa using h9
     · rename_i h10; rw [zci, dcf h10] at h9; simpa using h9
 · cases h4
theorem zql (a b : Int) : (a == b) = !(a != b) := by simp [bne]
def zg4 (x : zC) (u : zM) : Bool :=
 (!u.R && x.R != 0) || ((!u.A && x.A != 0) || ((!u.B && x.B != 0) || ((!u.zO && x.zO != 0) || ((!u.Place && !(!x.Place.Based && (x.Place.Pointer == 0 && x.Place.Offset == 0))) ||
 ((!u.From && !(!x.From.Based && (x.From.Pointer == 0 && x.From.Offset == 0))) || ((u.zD == 0 && !(x.zD.Kind == 0 && (x.zD.Length == 0 && x.zD.Scale == 0))) || ((u.Second == 0 && !(x.Second.Kind == 0 && (x.Second.Length == 0 && x.Second.Scale == 0))) ||
 ((!u.Half && x.Half) || ((x.Op != 4 && x.zJ) || ((!u.Number && !(x.Number.N == 0 && x.Number.Scale == 0)) || ((!u.Text && !(x.Text.toList == [])) || ((!u.Other && !(x.Other.toList == [])) ||
 ((!u.Mask && x.Mask != 0) || ((!u.Target && x.Target != 0) || ((!u.Pointer && x.Pointer != 0) || ((!u.Source && x.Source != 0) || ((!x.Place.Based && x.Place.Pointer != 0) || (!x.From.Based && x.From.Pointer != 0))))))))))))))))))
theorem orB (a b : Bool) : (cond a (some true) (some b)) = some (a || b) := by cases a <;> rfl
theorem zgu (a b : Bool) : (cond a (some b) (some false)) = some (a && b) := by cases a <;> rfl
theorem z4u (x : zC) (u : zM) : zhn x u = some (zg4 x u) := by
 unfold zhn zg4
 have e : (⟨#[]⟩ : ByteArray).toList = [] := by kernel_rfl
 simp only [zgu, orB, obs, zbw, Bool.and_true, e, Bool.or_assoc, beq_false]
def znc (p : zL) (b : Bool) : zL := cond b (cond p.Based p ⟨p.Based, 0, p.Offset⟩) ⟨false, 0, 0⟩
theorem z3g (p : zL) (b : Bool) : zgo p b = some (znc p b) := by
 unfold zgo znc
 cases b <;> cases p.Based <;> rfl
theorem z9u (k v fl : Int) : zca k v fl = some (cond (zt .i64 fl k != 0) v 0) := by
 unfold zca
 rw [zql]
 cases (zt .i64 fl k != 0) <;> rfl
def zxb (x : zC) (u : zM) : zC :=
 ⟨x.Op, cond u.R x.R 0, cond u.A x.A 0, cond u.B x.B 0, cond u.zO x.zO 0, znc x.Place u.Place, znc x.From u.From, cond (u.zD != 0) x.zD ⟨0, 0, 0⟩, cond (u.Second != 0) x.Second ⟨0, 0, 0⟩,
  cond x.Half u.Half false, cond x.zJ (x.Op == 4) false, cond u.Number x.Number ⟨0, 0⟩, cond u.Text x.Text ⟨#[]⟩, cond u.Other x.Other ⟨#[]⟩, cond u.Mask x.Mask 0, cond u.Target x.Target 0, cond u.Pointer x.Pointer 0, cond u.Source x.Source 0⟩
theorem z7i {x : zC} {f : zR} {u : zM} (hf : zbk x = some f) (ag : Agree f u) : zia x = some (zxb x u) := by
 have b2 : ∀ a b : Bool, (cond a (some b) (some false)) = some (cond a b false) := fun a b => by cases a <;> rfl
 unfold zia zxb
 simp only [hf, z9u, z3g, b2, obs, zql (zt .i64 f.fields 32), zql (zt .i64 f.fields 64), zql (zt .i64 f.fields 256), zql (zt .i64 f.fields 512), zql (zt .i64 f.fields 1024),
  ag.R, ag.A, ag.B, ag.Place, ag.From, ag.zD, ag.Second, ag.Half, ag.Number, ag.Text, ag.Other, ag.Mask, ag.Target, ag.Pointer, ag.Source, ag.Calc]
 cases (u.zD != 0) <;> cases (u.Second != 0) <;> cases u.Number <;> cases u.Text <;> cases u.Other <;> rfl
theorem z9q (b : Bool) (n : Int) : (!(cond b n 0 == n)) = (!b && n != 0) := by
 cases b
 · by_cases h : n = 0
   · simp [h]
   · simp [h, zci, zdz, Ne.symm h]
 · simp
theorem z92 (a b : ByteArray) : (a == b) = decide (a = b) := by
 cases a with | mk x =>
 cases b with | mk y =>
 show ByteArray.beq _ _ = _
 unfold ByteArray.beq
 by_cases h : x = y
 · simp [h]
 · simp [h]
theorem z9p (b : Bool) (t : ByteArray) : (!(cond b t (⟨#[]⟩ : ByteArray) == t)) = (!b && !(t.toList == [])) := by
 rw [z92]
 cases b
 · simp only [cfa, Bool.not_false, Bool.true_and]
   congr 1
   rw [Lib.toList_data]
   by_cases h : t = ⟨#[]⟩
   · subst h; rfl
   · rw [dcf (Ne.symm h)]
     symm
     rw [beq_eq_false_iff_ne]; intro hh; apply h; cases t with
     | mk d => simp at hh; rw [hh]
 · simp
theorem z9s (a b : Bool) : (!(cond a b false == a)) = (!b && a) := by cases a <;> cases b <;> rfl
theorem z9r (a : Bool) (op : Int) : (!(cond a (op == 4) false == a)) = (op != 4 && a) := by
 cases a
 · simp
 · simp [bne]
theorem z5u (p : zL) (b r : Bool) : (!((znc p b).Based == p.Based) || (!((znc p b).Pointer == p.Pointer) || (!((znc p b).Offset == p.Offset) || r))) =
 ((!b && !(!p.Based && (p.Pointer == 0 && p.Offset == 0))) || ((!p.Based && p.Pointer != 0) || r)) := by
 obtain ⟨ba, pt, of⟩ := p
 cases b <;> cases ba <;> by_cases h1 : pt = 0 <;> by_cases h2 : of = 0 <;> simp [znc, zci, zdz, h1, h2, eq_comm (a := (0 : Int))]
theorem z5v (t : DataType) (b : Int) (r : Bool) : (!((cond (b != 0) t ⟨0, 0, 0⟩).Kind == t.Kind) || (!((cond (b != 0) t ⟨0, 0, 0⟩).Length == t.Length) || (!((cond (b != 0) t ⟨0, 0, 0⟩).Scale == t.Scale) || r))) =
 ((b == 0 && !(t.Kind == 0 && (t.Length == 0 && t.Scale == 0))) || r) := by
 obtain ⟨k, l, s⟩ := t
 by_cases h0 : b = 0 <;> by_cases h1 : k = 0 <;> by_cases h2 : l = 0 <;> by_cases h3 : s = 0 <;> simp [zci, zdz, h0, h1, h2, h3, eq_comm (a := (0 : Int))]
theorem z9o (t : Number) (b r : Bool) : (!((cond b t ⟨0, 0⟩).N == t.N) || (!((cond b t ⟨0, 0⟩).Scale == t.Scale) || r)) = ((!b && !(t.N == 0 && t.Scale == 0)) || r) := by
 obtain ⟨n, s⟩ := t
 cases b <;> by_cases h1 : n = 0 <;> by_cases h2 : s = 0 <;> simp [zci, zdz, h1, h2, eq_comm (a := (0 : Int))]
theorem z1j (x : zC) (u : zM) (r2 : zC) (h : r2 = zxb x u) :
 (!(zbw [(r2.Op == x.Op), (r2.R == x.R), (r2.A == x.A), (r2.B == x.B), (r2.zO == x.zO), (r2.Place.Based == x.Place.Based), (r2.Place.Pointer == x.Place.Pointer), (r2.Place.Offset == x.Place.Offset), (r2.From.Based == x.From.Based), (r2.From.Pointer == x.From.Pointer), (r2.From.Offset == x.From.Offset), (r2.zD.Kind == x.zD.Kind), (r2.zD.Length == x.zD.Length), (r2.zD.Scale == x.zD.Scale), (r2.Second.Kind == x.Second.Kind), (r2.Second.Length == x.Second.Length), (r2.Second.Scale == x.Second.Scale), (r2.Half == x.Half), (r2.zJ == x.zJ), (r2.Number.N == x.Number.N), (r2.Number.Scale == x.Number.Scale), (r2.Text == x.Text), (r2.Other == x.Other), (r2.Mask == x.Mask), (r2.Target == x.Target), (r2.Pointer == x.Pointer), (r2.Source == x.Source)])) = zg4 x u := by
 subst h
 simp only [zbw, Bool.not_and, zxb]
 rw [z5u x.Place, z5u x.From, z5v x.zD, z5v x.Second, z9o x.Number]
 simp only [z9q, z9p, z9s, z9r, bst, bnt, Bool.false_or, Bool.or_false, zg4, bne]
 ac_rfl
def zdl (t : DataType) (c : Int) : Int := if c = 0 then 0 else if zb5 t = 0 then (if (c = 1 ∧ ¬ (1 ≤ t.Kind ∧ t.Kind ≤ 3)) ∨ (c = 2 ∧ t.Kind ≠ 0) ∨ (c = 3 ∧ t.Kind = 4) then 17 else 0) else zb5 t
theorem zlw {t : DataType} {c : Int} (h : zdl t c = 0) (hc : c ≠ 0) : zb5 t = 0 := by
 unfold zdl at h
 rw [ifn hc] at h
 by_cases h0 : zb5 t = 0
 · exact h0
 · rw [ifn h0] at h; exact absurd h h0
theorem zvm (N : Nat) (hN : 10 < N) (t : DataType) (c : Int) (hc : c = 1 ∨ c = 2 ∨ c = 3) : zet N t c = some (zdl t c) := by
 have f2 : ∀ a b : Int, zaw N [a, b] = some (zgq [a, b]) := fun a b => zuo N _ (by simp; omega) (by simp)
 unfold zet zdl
 rw [zv9 N hN]
 simp only [zqb, f2, zgu, orB, obs, zci, zdz]
 have hc0 : c ≠ 0 := by omega
 rw [ifn hc0]
 by_cases h : zb5 t = 0
 · rw [ifp h, h]; simp only [zgq, if_true]; rcases zjc h with ⟨h0, _⟩ | ⟨h0 | h0, _⟩ | ⟨h0, _⟩ | ⟨h0, _⟩ <;> rcases hc with rfl | rfl | rfl <;> simp [h0]
 · rw [ifn h]; simp only [zgq, h, if_false]
theorem zvb (t : DataType) (c : Int) (hc : c = 0 ∨ c = 1 ∨ c = 2 ∨ c = 3) : zg6 t c = some (zdl t c) := by
 unfold zg6 zdl
 rw [zz5]
 simp only [zqx, zgu, orB, obs, zci, zdz]
 by_cases hc0 : c = 0
 · simp [hc0]
 · rw [ifn hc0]; simp only [hc0, decide_false, cfa]
   by_cases h : zb5 t = 0
   · rw [ifp h, h]; rcases zjc h with ⟨h0, _⟩ | ⟨h0 | h0, _⟩ | ⟨h0, _⟩ | ⟨h0, _⟩ <;> rcases hc with rfl | rfl | rfl | rfl <;> first | exact absurd rfl hc0 | simp [h0, inB]
   · rw [ifn h]; simp [h]
theorem z5a (N : Nat) (hN : 10 < N) {x : zC} {f : zR} {u : zM} (ag : Agree f u) : zf7 N x f = some (zgq [zdl x.zD u.zD, zdl x.Second u.Second]) := by
 have w0 : ∀ t, zdl t 0 = 0 := fun t => by simp [zdl]
 have hcls : ∀ c, c ≠ 0 → (c = 0 ∨ c = f.types) → c = f.types ∧ (f.types = 1 ∨ f.types = 2 ∨ f.types = 3) := by
  intro c h0 h1; have := ag.cls; omega
 have eta : ∀ t : DataType, (⟨t.Kind, t.Length, t.Scale⟩ : DataType) = t := fun t => rfl
 unfold zf7
 rw [ag.zD, ag.Second]
 by_cases h1 : u.zD = 0
 · by_cases h2 : u.Second = 0
   · simp [h1, h2, w0, zgq]
   · obtain ⟨e2, c2⟩ := hcls _ h2 ag.class2; have ht := fun t => zvm N hN t f.types c2; have h0 : f.types ≠ 0 := by omega
     simp only [eta, ht, h1, e2, w0]
     by_cases h3 : zdl x.Second f.types = 0 <;> simp [h3, h0, zgq, zdz]
 · obtain ⟨e1, c1⟩ := hcls _ h1 ag.class1; have ht := fun t => zvm N hN t f.types c1; have h0 : f.types ≠ 0 := by omega
   by_cases h2 : u.Second = 0
   · simp only [eta, ht, h2, e1, w0]
     by_cases h3 : zdl x.zD f.types = 0 <;> simp [h3, h0, zgq, zdz]
   · obtain ⟨e2, c2⟩ := hcls _ h2 ag.class2; simp only [eta, ht, e2, e1]
     by_cases h3 : zdl x.zD f.types = 0 <;> by_cases h4 : zdl x.Second f.types = 0 <;> simp [h3, h4, h0, zgq, zdz]
def zl0 (x : zC) (u : zM) : List Int := cond u.R [x.R] [] ++ (cond u.A [x.A] [] ++ cond u.B [x.B] [])
theorem z7h (n : Nat) {x : zC} {f : zR} {u : zM} (hf : zbk x = some f) (ag : Agree f u) : zaf (n + 10) x = some (zl0 x u) := by
 have s0 : w6 (1 * 2 ^ (min ((0 : Int).toNat) 64)) = 1 := by decide
 have s1 : w6 (1 * 2 ^ (min ((1 : Int).toNat) 64)) = 2 := by decide
 have s2 : w6 (1 * 2 ^ (min ((2 : Int).toNat) 64)) = 4 := by decide
 have a0 : w6 (0 + 1) = 1 := by decide
 have a1 : w6 (1 + 1) = 2 := by decide
 have a2 : w6 (2 + 1) = 3 := by decide
 have rm : ∀ k : Nat, k ≤ 3 → Nat.ble (k * 8) zar = true := fun k hk => Nat.ble_eq_true_of_le (by unfold zar; omega)
 unfold zaf
 rw [hf]
 simp only [obs]
 have i0 : ∀ l, zaf.r0 (n + 10) (l, f.fields, [x.R, x.A, x.B], (([x.R, x.A, x.B] : List Int).length : Int), 0) = some (.again (cond u.R (l ++ [x.R]) l, f.fields, [x.R, x.A, x.B], (([x.R, x.A, x.B] : List Int).length : Int), 1)) ∨ l.length > 2 := by
  intro l
  by_cases hl : l.length > 2
  · exact .inr hl
  · left; simp only [zaf.r0, zaf.b0, s0, a0, ag.R]; have := rm (l.length + 1) (by omega); cases u.R <;> simp [this]
 have i1 : ∀ l, zaf.r0 (n + 10) (l, f.fields, [x.R, x.A, x.B], (([x.R, x.A, x.B] : List Int).length : Int), 1) = some (.again (cond u.A (l ++ [x.A]) l, f.fields, [x.R, x.A, x.B], (([x.R, x.A, x.B] : List Int).length : Int), 2)) ∨ l.length > 2 := by
  intro l
  by_cases hl : l.length > 2
  · exact .inr hl
  · left; simp only [zaf.r0, zaf.b0, s1, a1, ag.A]; have := rm (l.length + 1) (by omega); cases u.A <;> simp [this]
 have i2 : ∀ l, zaf.r0 (n + 10) (l, f.fields, [x.R, x.A, x.B], (([x.R, x.A, x.B] : List Int).length : Int), 2) = some (.again (cond u.B (l ++ [x.B]) l, f.fields, [x.R, x.A, x.B], (([x.R, x.A, x.B] : List Int).length : Int), 3)) ∨ l.length > 2 := by
  intro l
  by_cases hl : l.length > 2
  · exact .inr hl
  · left; simp only [zaf.r0, zaf.b0, s2, a2, ag.B]; have := rm (l.length + 1) (by omega); cases u.B <;> simp [this]
 have i3 : ∀ l, zaf.r0 (n + 10) (l, f.fields, [x.R, x.A, x.B], (([x.R, x.A, x.B] : List Int).length : Int), 3) = some (.leave (l, f.fields, [x.R, x.A, x.B], (([x.R, x.A, x.B] : List Int).length : Int), 3)) := by
  intro l; simp [zaf.r0, zaf.b0]
 have l1 : (cond u.R ([] ++ [x.R]) ([] : List Int)).length ≤ 1 := by cases u.R <;> simp
 have l2 : (cond u.A (cond u.R ([] ++ [x.R]) ([] : List Int) ++ [x.A]) (cond u.R ([] ++ [x.R]) ([] : List Int))).length ≤ 2 := by cases u.R <;> cases u.A <;> simp
 show (zf (zaf.r0 (n + 10)) (n + 10) _).bind _ = _
 simp only [zf]
 rw [(i0 []).resolve_right (by simp)]
 simp only [obs]
 rw [(i1 _).resolve_right (by omega)]
 simp only [obs]
 rw [(i2 _).resolve_right (by omega)]
 simp only [obs]
 rw [i3]
 simp only [obs, zl0]
 cases u.R <;> cases u.A <;> cases u.B <;> rfl
def zd7 (m : zI) (r : Int) : Bool := !inB r 0 (m.Registers - 1)
theorem zzu (N : Nat) (l : List Int) (h : l.length < N) (hl : l.length < 1000000000) (m : zI) (hm : 2 ≤ m.Registers ∧ m.Registers ≤ 8) : zcv N l m = some (l.any (zd7 m)) := by
 unfold zcv zan
 have c1 : ∀ r, zfe r m = some (zd7 m r) := fun r => by
  unfold zfe zd7; rw [w6e, zo5]; rfl
 have := zbm (f := zan.r0 N) (fun i => (l, (l.length : Int), (i : Int), m)) (fun i => (l[i]?).bind fun x => if zd7 m x then some (i : Int) else none) l.length
  (fun i hi => by
   have hx := lge hi; simp only [zan.r0, zan.b0, zac, hx, obs, dct (show (i : Int) < (l.length : Int) by omega), ctr, c1]; rw [w6e]; cases hb : zd7 m l[i] <;> simp)
  (by simp only [zan.r0, zan.b0, dcf (show ¬ (l.length : Int) < (l.length : Int) by omega), cfa]) h
 simp only [nc0] at this
 rw [this]
 simp only [obs]
 cases hfs : (List.range l.length).findSome? (fun i : Nat => (l[i]?).bind fun x => if zd7 m x = true then some (i : Int) else none) with
 | some r =>
  simp only [zax, obs]; obtain ⟨i, hi, hr⟩ := eof hfs; rw [Option.bind_eq_some_iff] at hr; obtain ⟨x, hx, hr⟩ := hr; split at hr
  · rename_i hb; cases hr; have : l.any (zd7 m) = true := List.any_eq_true.2 ⟨x, lmg hx, hb⟩; rw [this]; simp
  · cases hr
 | none =>
  simp only [zax, obs]; rw [List.findSome?_eq_none_iff] at hfs; have : l.any (zd7 m) = false := by
   rw [List.any_eq_false]; intro x hx hb; obtain ⟨i, hi⟩ := List.getElem?_of_mem hx; have := hfs i (by simp; exact (gei hi).1); rw [hi] at this; simp [hb] at this
  rw [this]; rfl
theorem z6q (m : zI) (hm : 2 ≤ m.Registers ∧ m.Registers ≤ 8) {x : zC} {u : zM} (hu : zc3 x = some u) : zeo m x = some (!(zl0 x u).any (zd7 m)) := by
 have c1 : ∀ r, zen m r = some (!zd7 m r) := fun r => by
  unfold zen zd7; rw [w6e, zix]; simp
 unfold zeo
 rw [hu]
 have aux : ∀ b r, (cond b [r] []).any (zd7 m) = (b && zd7 m r) := fun b r => by cases b <;> simp
 simp only [c1, obs, zl0, List.any_append, aux]
 generalize zd7 m x.R = p
 generalize zd7 m x.A = q
 generalize zd7 m x.B = r
 cases u.R <;> cases u.A <;> cases u.B <;> cases p <;> cases q <;> cases r <;> rfl
def zko (x : zC) : DataType := if x.Op = 4 then x.Second else x.zD
def ze6 (m : zI) (c : zF) (x : zC) (u : zM) : Bool :=
 (zl0 x u).any (zd7 m) || ((u.Target && !inB x.Target 0 ((c.zA.length : Int) - 1)) || ((u.Mask && !inB x.Mask 1 7) || ((u.Pointer && !zj1 c.Storage x.Pointer) || ((u.Source && !zj1 c.Storage x.Source) ||
  ((u.Place && !zhx c.Storage x.Place (szE (zko x))) || ((u.From && !zhx c.Storage x.From (szE x.Second)) || (u.zO && !inB x.zO 0 4)))))))
theorem eD (t : DataType) : (⟨t.Kind, t.Length, t.Scale⟩ : DataType) = t := rfl
theorem eP (t : zL) : (⟨t.Based, t.Pointer, t.Offset⟩ : zL) = t := rfl
theorem eS (t : Storage) : (⟨t.Bytes, t.Tags⟩ : Storage) = t := rfl
theorem eN (t : Number) : (⟨t.N, t.Scale⟩ : Number) = t := rfl
theorem eM (t : zI) : (⟨t.Registers, t.yB, t.zZ⟩ : zI) = t := rfl
theorem eC (t : zF) : (⟨t.Storage, t.zA, t.zP⟩ : zF) = t := rfl
theorem eX (t : zC) : (⟨t.Op, t.R, t.A, t.B, t.zO, t.Place, t.From, t.zD, t.Second, t.Half, t.zJ, t.Number, t.Text, t.Other, t.Mask, t.Target, t.Pointer, t.Source⟩ : zC) = t := rfl
theorem eF (t : zR) : (⟨t.fields, t.types⟩ : zR) = t := rfl
theorem nF (a b : Bool) : (cond a (some (!b)) (some false)) = some (a && !b) := by cases a <;> rfl
structure InsOk (c : zF) (x : zC) (u : zM) : Prop where
 sto : StoOk c.Storage
 len : c.zA.length < 1000000000
 pt : u.Place = true → zb5 (zko x) = 0
 ft : u.From = true → zb5 x.Second = 0
 po : -9223372036854775808 ≤ x.Place.Offset ∧ x.Place.Offset ≤ 9223372036854775807
 fo : -9223372036854775808 ≤ x.From.Offset ∧ x.From.Offset ≤ 9223372036854775807
theorem z15 {a b : Bool} {o : Option Bool} (h : a = true → o = some b) : (cond a o (some false)) = some (a && b) := by
 cases a
 · rfl
 · exact h rfl
theorem z5b (N : Nat) (hN : 20 < N) {m : zI} (hm : 2 ≤ m.Registers ∧ m.Registers ≤ 8) {c : zF} {x : zC} {f : zR} {u : zM} (hf : zbk x = some f) (ag : Agree f u) (ok : InsOk c x u) :
 zgp N m c x = some (!ze6 m c x u) := by
 obtain ⟨n, rfl⟩ : ∃ n, N = n + 10 := ⟨N - 10, by omega⟩
 have hl : (zl0 x u).length ≤ 3 := by unfold zl0; cases u.R <;> cases u.A <;> cases u.B <;> simp
 have hlen := ok.len
 have g1 : ∀ p t, (u.Place = true → zb5 t = 0) → (cond u.Place ((zc2 (n + 10) c.Storage p t).bind fun r => some (!r)) (some false)) = some (u.Place && !zhx c.Storage p (szE t)) := fun p t h => z15 fun hp => by rw [zyr ok.sto _ (by omega) _ (h hp)]; rfl
 have g2 : ∀ p t, (u.From = true → zb5 t = 0) → (cond u.From ((zc2 (n + 10) c.Storage p t).bind fun r => some (!r)) (some false)) = some (u.From && !zhx c.Storage p (szE t)) := fun p t h => z15 fun hp => by rw [zyr ok.sto _ (by omega) _ (h hp)]; rfl
 unfold zgp
 try simp only [eD, eP, eS, eM, eC, eX]
 rw [hf, z7h n hf ag]
 simp only [obs]
 rw [zzu _ _ (by omega) (by omega) m hm]
 simp only [obs]
 unfold ze6
 cases hr : (zl0 x u).any (zd7 m) with
 | true => rfl
 | false =>
  simp only [cfa, Bool.false_or, ag.Place, ag.From, ag.Target, ag.Mask, ag.Pointer, ag.Source, ag.Calc, zgu, zci, obs]; rw [w6e]; simp only [zo5, z0b, nF, obs]
  by_cases h4 : x.Op = 4
  · have hp : zko x = x.Second := ifp h4; have k := ok.pt; rw [hp] at k ⊢; rw [g2 _ _ ok.ft]; cases hup : u.Place with
    | true =>
     simp only [h4, decide_true, Bool.and_true, ctr, Bool.true_and]; have := g1 x.Place x.Second k; rw [hup] at this; simp only [ctr, Bool.true_and] at this; rw [this]; simp only [orB, obs, Bool.or_assoc, Bool.true_and]
    | false =>
     simp only [h4, decide_true, Bool.false_and, cfa, obs, orB, Bool.or_assoc, Bool.false_or]
  · have hp : zko x = x.zD := ifn h4; have k := ok.pt; rw [hp] at k ⊢; rw [g1 _ _ k, g2 _ _ ok.ft]; simp only [h4, decide_false, Bool.and_false, cfa, obs, orB, Bool.or_assoc]
def zjm (m : zI) (x : zC) : Bool := (decide (x.Op = 7) && !m.yB) || (x.zJ && !m.zZ)
def zk8 (x : zC) : Bool := decide ((x.Text.size : Int) > 256) || decide ((x.Other.size : Int) > 256)
theorem z8r (m : zI) (x : zC) (h : x.zJ = true → x.Op = 4) : zg3 m x = some (!zjm m x) := by
 unfold zg3 zjm
 by_cases h7 : x.Op = 7
 · have h4 : x.zJ = false := by
    cases hi : x.zJ with
    | false => rfl
    | true => have := h hi; omega
   rw [h4]; simp only [h7, zdz]; cases m.yB <;> rfl
 · by_cases h4 : x.Op = 4
   · simp only [h4, zdz]; cases x.zJ <;> cases m.zZ <;> rfl
   · have h5 : x.zJ = false := by
      cases hi : x.zJ with
      | false => rfl
      | true => exact absurd (h hi) h4
     simp [h5, h7, h4, zdz]
theorem z4s (m : zI) (x : zC) : zjq m x = some (zjm m x) := by
 unfold zjq zjm
 simp only [zci]
 cases decide (x.Op = 7) <;> cases m.yB <;> cases x.zJ <;> cases m.zZ <;> rfl
def zkw (m : zI) (c : zF) (x : zC) (u : zM) : Int :=
 cond (zg4 x u) 5 (cond (zjm m x) 39 (if zdl x.zD u.zD ≠ 0 then zdl x.zD u.zD else if zdl x.Second u.Second ≠ 0 then zdl x.Second u.Second else
  cond (ze6 m c x u) 3 (if zpr x.Number ≠ 0 then zpr x.Number else cond (zk8 x) 2 0)))
theorem ztv {x : zC} {u : zM} (h : zg4 x u = false) : (x.zJ = true → x.Op = 4) ∧ (u.Number = false → zpr x.Number = 0) := by
 unfold zg4 at h
 simp only [Bool.or_eq_false_iff] at h
 obtain ⟨_, _, _, _, _, _, _, _, _, h10, h11, _⟩ := h
 constructor
 · intro hi; rw [hi] at h10; simpa using h10
 · intro hn; rw [hn] at h11; simp only [Bool.not_false, Bool.true_and, Bool.not_eq_eq_eq_not, bnt, Bool.and_eq_true, beq_iff_eq, Bool.not_eq_false'] at h11; obtain ⟨e1, e2⟩ : x.Number.N = 0 ∧ x.Number.Scale = 0 := by simpa using h11
   unfold zpr; rw [e1, e2]
   decide
theorem z8q (N : Nat) (hN : 20 < N) {m : zI} (hm : 2 ≤ m.Registers ∧ m.Registers ≤ 8) {c : zF} {x : zC} {f : zR} {u : zM} (hop : inB x.Op 0 26 = true) (hf : zbk x = some f) (ag : Agree f u)
 (ok : zdl x.zD u.zD = 0 → zdl x.Second u.Second = 0 → InsOk c x u) : zcn N m c x = some (zkw m c x u) := by
 have f3 : ∀ a b d : Int, zaw N [a, b, d] = some (zgq [a, b, d]) := fun a b d => zuo N _ (by simp; omega) (by simp)
 unfold zcn zkw
 try simp only [eD, eP, eS, eM, eC, eX, eN, eF]
 rw [zo5, hop, hf, z7i hf ag]
 simp only [obs, bnt, cfa]
 rw [z5a N (by omega) ag]
 rw [z1j x u _ rfl]
 simp only [zqb, z3b, obs, f3, orB]
 cases he : zg4 x u with
 | true =>
  have hx : ∃ b, zg3 m x = some b := by
   unfold zg3; cases (x.Op != 7) <;> cases m.yB <;> cases (x.Op != 4) <;> cases x.zJ <;> cases m.zZ <;> exact ⟨_, rfl⟩
  obtain ⟨b, hb⟩ := hx; rw [hb]; simp [zgq]
 | false =>
  obtain ⟨h1, h2⟩ := ztv he; rw [z8r m x h1]; simp only [obs, Bool.not_not, cfa]; cases zjm m x with
  | true => simp [zgq]
  | false =>
   simp only [cfa]
   by_cases e1 : zdl x.zD u.zD = 0
   · by_cases e2 : zdl x.Second u.Second = 0
     · rw [z5b N hN hm hf ag (ok e1 e2)]; simp only [e1, e2, zgq, if_true, obs, Bool.not_not]; cases ze6 m c x u with
       | true => simp
       | false =>
        by_cases e3 : zpr x.Number = 0
        · cases hl : zk8 x with
          | true => unfold zk8 at hl; simp [e3, hl]
          | false => unfold zk8 at hl; simp [e3, hl]
        · simp [e3]
     · simp [zgq, e1, e2, zdz]
   · simp [zgq, e1, zdz]
theorem z7r {f : zR} {u : zM} (ag : Agree f u) : (u.zD = 0 ∨ u.zD = 1 ∨ u.zD = 2 ∨ u.zD = 3) ∧ (u.Second = 0 ∨ u.Second = 1 ∨ u.Second = 2 ∨ u.Second = 3) := by
 have h1 := ag.class1
 have h2 := ag.class2
 have h3 := ag.cls
 omega
theorem z8c {m : zI} (hm : 2 ≤ m.Registers ∧ m.Registers ≤ 8) {c : zF} {x : zC} {f : zR} {u : zM} (hop : inB x.Op 0 26 = true) (hu : zc3 x = some u) (ag : Agree f u)
 (ok : zdl x.zD u.zD = 0 → zdl x.Second u.Second = 0 → InsOk c x u) : zdf m c x = some (zkw m c x u) := by
 obtain ⟨c1, c2⟩ := z7r ag
 unfold zdf zkw
 try simp only [eD, eP, eS, eM, eC, eX, eN, eF]
 rw [zix, hop, hu]
 simp only [obs, bnt, cfa]
 rw [z4u, z4s, zvb _ _ c1, zvb _ _ c2, z6q m hm hu]
 simp only [obs]
 cases he : zg4 x u with
 | true => rfl
 | false =>
  obtain ⟨h1, h2⟩ := ztv he; simp only [cfa]; cases zjm m x with
  | true => rfl
  | false =>
   simp only [cfa]
   by_cases e1 : zdl x.zD u.zD = 0
   · by_cases e2 : zdl x.Second u.Second = 0
     · have o := ok e1 e2; have hlen := o.len; have hb : ∀ t, zb5 t = 0 → zdp t = some (szE t) := fun t h => znz h; have g1 : ∀ t, (u.Place = true → zb5 t = 0) → (cond u.Place ((zdp t).bind fun r => (zd8 c x.Place r).bind fun r => some (!r)) (some false)) = some (u.Place && !zhx c.Storage x.Place (szE t)) := fun t h => z15 fun hp => by rw [znz (h hp)]; simp only [obs]; rw [zx0 o.sto rfl _ o.po (h hp)]; rfl
       have g2 : (cond u.From ((zdp x.Second).bind fun r => (zd8 c x.From r).bind fun r => some (!r)) (some false)) = some (u.From && !zhx c.Storage x.From (szE x.Second)) := z15 fun hp => by rw [znz (o.ft hp)]; simp only [obs]; rw [zx0 o.sto rfl _ o.fo (o.ft hp)]; rfl
       have k := o.pt; have kn : ∀ e : Int, (u.Number = false → e = 0) → (cond (u.Number && e != 0) (some e) (cond (zk8 x) (some 2) (some 0))) = some (if e ≠ 0 then e else cond (zk8 x) 2 0) := by
        intro e h
        by_cases h0 : e = 0
        · subst h0; cases u.Number <;> cases zk8 x <;> rfl
        · cases hn : u.Number with
          | false => exact absurd (h hn) h0
          | true => simp [h0, zdz]
       simp only [e1, e2, bsf, cfa, ne_eq, not_true_eq_false, if_false, zci]; rw [w6e]; simp only [zix, zz6 o.sto, z2w, nF, zgu, orB, g2, obs, ← zk8.eq_def]; unfold ze6
       by_cases h4 : x.Op = 4
       · have hp : zko x = x.Second := ifp h4; rw [hp] at k ⊢; rw [g1 _ k]; simp only [h4, decide_true, ctr, obs, kn _ h2]; generalize (zl0 x u).any (zd7 m) = t1; generalize (u.Target && !inB x.Target 0 ((c.zA.length : Int) - 1)) = t2; generalize (u.Mask && !inB x.Mask 1 7) = t3; generalize (u.Pointer && !zj1 c.Storage x.Pointer) = t4; generalize (u.Source && !zj1 c.Storage x.Source) = t5; generalize (u.Place && !zhx c.Storage x.Place (szE x.Second)) = t6; generalize (u.From && !zhx c.Storage x.From (szE x.Second)) = t7; generalize (u.zO && !inB x.zO 0 4) = t8; cases t1 <;> cases t2 <;> cases t3 <;> cases t4 <;> cases t5 <;> cases t6 <;> cases t7 <;> cases t8 <;> rfl
       · have hp : zko x = x.zD := ifn h4; rw [hp] at k ⊢; rw [g1 _ k]; simp only [h4, decide_false, cfa, obs, kn _ h2]; generalize (zl0 x u).any (zd7 m) = t1; generalize (u.Target && !inB x.Target 0 ((c.zA.length : Int) - 1)) = t2; generalize (u.Mask && !inB x.Mask 1 7) = t3; generalize (u.Pointer && !zj1 c.Storage x.Pointer) = t4; generalize (u.Source && !zj1 c.Storage x.Source) = t5; generalize (u.Place && !zhx c.Storage x.Place (szE x.zD)) = t6; generalize (u.From && !zhx c.Storage x.From (szE x.Second)) = t7; generalize (u.zO && !inB x.zO 0 4) = t8; cases t1 <;> cases t2 <;> cases t3 <;> cases t4 <;> cases t5 <;> cases t6 <;> cases t7 <;> cases t8 <;> rfl
     · simp [e1, e2, zdz]
   · simp [e1, zdz]
theorem zls {n : Nat} {c : zF} (h : Wft En n Ty.zF c) : c.Storage.Bytes.size ≤ n ∧ c.Storage.Tags.length ≤ n ∧ c.zA.length ≤ n ∧ c.zP.length ≤ n ∧ ∀ x ∈ c.zA, Wft En n Ty.zC x := by
 have h1 := h (.sc (.string c.Storage.Bytes)) (by show _ ∈ zff c; simp [zff])
 have h2 := h (.lst Ty.bool c.Storage.Tags) (by show _ ∈ zff c; simp [zff])
 have h3 := h (.lst Ty.zC c.zA) (by show _ ∈ zff c; simp [zff])
 have h4 := h (.lst Ty.zQ c.zP) (by show _ ∈ zff c; simp [zff])
 cases h1 with
 | str h1 =>
  cases h2 with
  | lst h2 _ =>
   cases h3 with
   | lst h3 h3' =>
    cases h4 with
    | lst h4 _ => exact ⟨h1, h2, h3, h4, h3'⟩
theorem zzy {n : Nat} {z : Int} (h : Wfc En n (.sc (.int .i64 z))) : -9223372036854775808 ≤ z ∧ z ≤ 9223372036854775807 := by
 cases h with
 | int h1 h2 =>
  have e1 : IntKind.i64.min = -9223372036854775808 := by decide
  have e2 : IntKind.i64.max = 9223372036854775807 := by decide
  rw [e1] at h1; rw [e2] at h2; exact ⟨h1, h2⟩
theorem z8p {n : Nat} {x : zC} (h : Wft En n Ty.zC x) : (-9223372036854775808 ≤ x.Place.Offset ∧ x.Place.Offset ≤ 9223372036854775807) ∧ (-9223372036854775808 ≤ x.From.Offset ∧ x.From.Offset ≤ 9223372036854775807) :=
 ⟨zzy (h _ (by show _ ∈ zdx x; simp [zdx])), zzy (h _ (by show _ ∈ zdx x; simp [zdx]))⟩
def zg8 (m : zI) (c : zF) (x : zC) : Int := if inB x.Op 0 26 = true then zkw m c x ((zc3 x).getD ⟨false, false, false, false, false, false, false, false, false, false, false, false, false, false, 0, 0⟩) else 4
theorem zza (N : Nat) (hN : 20 < N) {m : zI} (hm : 2 ≤ m.Registers ∧ m.Registers ≤ 8) {c : zF} (hs : StoOk c.Storage) (hlen : c.zA.length < 1000000000) {n : Nat} {x : zC} (hx : Wft En n Ty.zC x) :
 zcn N m c x = some (zg8 m c x) ∧ zdf m c x = some (zg8 m c x) := by
 obtain ⟨w1, w2⟩ := z8p hx
 unfold zg8
 by_cases hop : inB x.Op 0 26 = true
 · obtain ⟨f, u, hf, hu, ag, h4, h5, h6⟩ := zng x hop; have ok : zdl x.zD u.zD = 0 → zdl x.Second u.Second = 0 → InsOk c x u := fun e1 e2 => {
    sto := hs, len := hlen, po := w1, fo := w2,
    pt := fun hp => (by
     have := h6 hp; unfold zko; split
     · rename_i h7; rw [ifp h7] at this; exact zlw e2 this
     · rename_i h7; rw [ifn h7] at this; exact zlw e1 this),
    ft := fun hp => zlw e2 (h5 hp) }
   rw [ifp hop, hu]; exact ⟨z8q N hN hm hop hf ag ok, z8c hm hop hu ag ok⟩
 · rw [ifn hop]; have e : inB x.Op 0 26 = false := by simpa using hop
   constructor
   · unfold zcn; rw [zo5, e]; rfl
   · unfold zdf; rw [zix, e]; rfl
def zj0 (c : zF) (t : zQ) : Bool := (inB t.From 0 t.To && (decide (t.To ≤ (c.zA.length : Int)) && (inB t.Exception 0 999 && inB t.Handler 0 ((c.zA.length : Int) - 1))))
theorem z7e (c : zF) (hlen : c.zA.length < 1000000000) (t : zQ) : zgn c t = some (cond (zj0 c t) 0 3) := by
 unfold zgn zj0
 rw [w6e]
 simp only [zo5, zqb, zgu, obs, Bool.and_assoc]
 generalize (inB t.From 0 t.To && (decide (t.To ≤ (c.zA.length : Int)) && (inB t.Exception 0 999 && inB t.Handler 0 ((c.zA.length : Int) - 1)))) = b
 cases b <;> rfl
theorem z6o (c : zF) (t : zQ) : ((decide (t.From < 0) || decide (t.From > t.To)) || (decide (t.To > (c.zA.length : Int)))) = !(inB t.From 0 t.To && decide (t.To ≤ (c.zA.length : Int))) := by
 unfold inB
 by_cases h1 : t.From < 0
 · simp [h1, show ¬ (0 ≤ t.From) by omega]
 · by_cases h2 : t.From > t.To
   · simp [h1, h2, show ¬ (t.From ≤ t.To) by omega]
   · by_cases h3 : t.To > (c.zA.length : Int)
     · simp [h1, h2, h3, show ¬ (t.To ≤ (c.zA.length : Int)) by omega]
     · simp [h1, h2, h3, show (0 ≤ t.From) by omega, show (t.From ≤ t.To) by omega, show (t.To ≤ (c.zA.length : Int)) by omega]
def gI (m : zI) (c : zF) (i : Nat) : Option (Int × Int) := (c.zA[i]?).bind fun x => if zg8 m c x = 0 then none else some ((i : Int), zg8 m c x)
def gT (c : zF) (i : Nat) : Option (Int × Int) := (c.zP[i]?).bind fun t => if zj0 c t = true then none else some ((i : Int), 3)
def zm0 (m : zI) (c : zF) : Int × Int :=
 match (List.range c.zA.length).findSome? (gI m c) with
 | some r => r
 | none => match (List.range c.zP.length).findSome? (gT c) with
  | some r => r
  | none => ((c.zA.length : Int), 0)
theorem z5c (N : Nat) (hN : 1048600 < N) {m : zI} (hm : 2 ≤ m.Registers ∧ m.Registers ≤ 8) {c : zF} (hs : StoOk c.Storage) (hc : Wft En 1048576 Ty.zF c) :
 ((zj (zq.r0 N) N (c.zA, (c.zA.length : Int), 0, m, c)).bind fun z10 =>
 zax z10 (fun z => some z) (fun y9 => (zj (zq.r2 N) N (y9.2.2.2.2.zP, (y9.2.2.2.2.zP.length : Int), 0, y9.2.2.2.2)).bind fun z12 => zax z12 (fun z =>
 some z) (fun y11 => some ((y11.2.2.2.zA.length : Int), 0)))) = some (zm0 m c) := by
 obtain ⟨w1, w2, w3, w4, w5⟩ := zls hc
 have l1 := zbm (f := zq.r0 N) (fun i => (c.zA, (c.zA.length : Int), (i : Int), m, c)) (gI m c) c.zA.length
  (fun i hi => by
   have hx := lge hi; have hb := (zza N (by omega) hm hs (by omega) (w5 _ (List.getElem_mem hi))).1; simp only [zq.r0, zq.b0, zac, hx, obs, dct (show (i : Int) < (c.zA.length : Int) by omega), ctr, eD, eP, eS, eM, eC, eX, eN, gI, hb]; rw [w6e]
   by_cases h0 : zg8 m c c.zA[i] = 0 <;> simp [h0, zdz])
  (by simp only [zq.r0, zq.b0, dcf (show ¬ (c.zA.length : Int) < (c.zA.length : Int) by omega), cfa]) (N := N) (by omega)
 have l2 := zbm (f := zq.r2 N) (fun i => (c.zP, (c.zP.length : Int), (i : Int), c)) (gT c) c.zP.length
  (fun i hi => by
   have hx := lge hi; simp only [zq.r2, zq.b2, zac, hx, obs, dct (show (i : Int) < (c.zP.length : Int) by omega), ctr, gT, z7e c (by omega)]; rw [w6e]; cases zj0 c c.zP[i] <;> simp)
  (by simp only [zq.r2, zq.b2, dcf (show ¬ (c.zP.length : Int) < (c.zP.length : Int) by omega), cfa]) (N := N) (by omega)
 simp only [nc0] at l1 l2
 rw [l1]
 unfold zm0
 simp only [obs]
 cases (List.range c.zA.length).findSome? (gI m c) with
 | some r => rfl
 | none =>
  simp only [zax]; rw [l2]; simp only [obs]; cases (List.range c.zP.length).findSome? (gT c) <;> rfl
theorem zqy (N : Nat) (hN : 1048600 < N) {m : zI} (hm : 2 ≤ m.Registers ∧ m.Registers ≤ 8) {c : zF} (hs : StoOk c.Storage) (hc : Wft En 1048576 Ty.zF c) :
 ((zj (zk.r1 N) N (0, m, c)).bind fun z6 =>
 zax z6 (fun z => some z) (fun y5 => (zj (zk.r3 N) N (0, y5.2.2)).bind fun z8 => zax z8 (fun z => some z) (fun y7 =>
 some ((y7.2.zA.length : Int), 0)))) = some (zm0 m c) := by
 obtain ⟨w1, w2, w3, w4, w5⟩ := zls hc
 have l1 := zbm (f := zk.r1 N) (fun i => ((i : Int), m, c)) (gI m c) c.zA.length
  (fun i hi => by
   have hx := lge hi; have hb := (zza N (by omega) hm hs (by omega) (w5 _ (List.getElem_mem hi))).2; simp only [zk.r1, zk.b1, zac, hx, obs, dct (show (i : Int) < (c.zA.length : Int) by omega), ctr, eD, eP, eS, eM, eC, eX, eN, gI, hb]; rw [w6e]
   by_cases h0 : zg8 m c c.zA[i] = 0 <;> simp [h0, zdz])
  (by simp only [zk.r1, zk.b1, dcf (show ¬ (c.zA.length : Int) < (c.zA.length : Int) by omega), cfa]) (N := N) (by omega)
 have l2 := zbm (f := zk.r3 N) (fun i => ((i : Int), c)) (gT c) c.zP.length
  (fun i hi => by
   have hx := lge hi; simp only [zk.r3, zk.b3, zac, hx, obs, dct (show (i : Int) < (c.zP.length : Int) by omega), ctr, gT, orB, zix, z6o]; rw [w6e (n := (i : Int) + 1), w6e (n := (c.zA.length : Int) - 1)]; have bl : ∀ a b d e : Bool, ((!(a && b) || !d) || !e) = !(a && (b && (d && e))) := fun a b d e => by cases a <;> cases b <;> cases d <;> cases e <;> rfl
   simp only [zix, obs, orB, bl, ← zj0.eq_def]; cases zj0 c c.zP[i] <;> simp)
  (by simp only [zk.r3, zk.b3, dcf (show ¬ (c.zP.length : Int) < (c.zP.length : Int) by omega), cfa]) (N := N) (by omega)
 simp only [nc0] at l1 l2
 rw [l1]
 unfold zm0
 simp only [obs]
 cases (List.range c.zA.length).findSome? (gI m c) with
 | some r => rfl
 | none =>
  simp only [zax]; rw [l2]; simp only [obs]; cases (List.range c.zP.length).findSome? (gT c) <;> rfl
theorem z87 (n lo hi : Int) : zd6 n lo hi = some (inB n lo hi) := by
 unfold zd6 inB
 cases decide (lo ≤ n) <;> rfl
theorem zn4 {b : ByteArray} {i : Int} (h0 : 0 ≤ i) (h1 : i < (b.size : Int)) : ∃ x, zon b i = some x := by
 unfold zon
 rw [ifp h0]
 exact ⟨_, getElem?_pos b i.toNat (by omega)⟩
theorem zr2 (N : Nat) (b : ByteArray) (h : b.size < N) (hb : b.size < 1000) : ∃ x, zbt N b = some x := by
 unfold zbt
 obtain ⟨s', h1, _⟩ := zfy (f := zbt.r0 N) (fun i s => ∃ a : Int, s = (b, a, (b.size : Int), (i : Int))) b.size
  (fun i s hi hs => by
   obtain ⟨a, rfl⟩ := hs; obtain ⟨x, hx⟩ := zn4 (b := b) (i := (i : Int)) (by omega) (by omega); simp only [zbt.r0, zbt.b0, dct (show (i : Int) < (b.size : Int) by omega), ctr, hx, obs]; rw [w6e (n := (i : Int) + 1)]; exact ⟨_, rfl, _, rfl⟩)
  (fun s hs => by
   obtain ⟨a, rfl⟩ := hs; simp only [zbt.r0, zbt.b0, dcf (show ¬ (b.size : Int) < (b.size : Int) by omega), cfa]; exact ⟨_, rfl, _, rfl⟩) h (s := (b, 0, (b.size : Int), 0)) ⟨0, rfl⟩
 rw [h1]
 exact ⟨_, rfl⟩
theorem zx1 (N : Nat) (b : ByteArray) (hb : b.size = 16) (k n : Nat) (hn : k + n ≤ 16) (hN : 20 < N) : ∃ x, zdk N b (k : Int) (n : Int) = some x := by
 unfold zdk
 obtain ⟨s', h1, _⟩ := zfy (f := zdk.r0 N) (fun i s => ∃ a : Int, s = (b, (k : Int), (n : Int), a, (i : Int))) n
  (fun i s hi hs => by
   obtain ⟨a, rfl⟩ := hs; obtain ⟨x, hx⟩ := zn4 (b := b) (i := (k : Int) + (i : Int)) (by omega) (by omega); simp only [zdk.r0, zdk.b0, dct (show (i : Int) < (n : Int) by omega), ctr]; rw [w6e (n := (k : Int) + (i : Int)), hx, w6e (n := (i : Int) + 1)]; exact ⟨_, rfl, _, rfl⟩)
  (fun s hs => by
   obtain ⟨a, rfl⟩ := hs; simp only [zdk.r0, zdk.b0, dcf (show ¬ (n : Int) < (n : Int) by omega), cfa]; exact ⟨_, rfl, _, rfl⟩) (N := N) (by omega) (s := (b, (k : Int), (n : Int), 0, 0)) ⟨0, rfl⟩
 rw [h1]
 exact ⟨_, rfl⟩
theorem z4i (p : Pointer) : ∃ e, zfc p = some e := by
 unfold zfc
 simp only [z87, obs, zgu]
 generalize inB p.Kind 0 2 = a
 generalize inB p.Address.yC 0 1099511627775 = b
 generalize inB p.Address.Offset 0 16777215 = c
 generalize inB p.Authority 0 1023 = d
 generalize (p.Authority != 0 && p.Kind != 1) = e
 cases a <;> cases b <;> cases c <;> cases d <;> cases e <;> exact ⟨_, rfl⟩
theorem z4v (p : Pointer) : ∃ e, zgm p = some e := by
 unfold zgm
 simp only [zix, obs, zgu, orB]
 generalize inB p.Kind 0 2 = a
 generalize inB p.Address.yC 0 1099511627775 = b
 generalize inB p.Address.Offset 0 16777215 = c
 generalize inB p.Authority 0 1023 = d
 generalize (p.Kind != 1 && p.Authority != 0) = e
 cases a <;> cases b <;> cases c <;> cases d <;> cases e <;> exact ⟨_, rfl⟩
theorem zmb (b : ByteArray) (i j : Nat) (h : j ≤ b.size) (hij : i ≤ j) : (b.extract i j).size = j - i := by
 rw [ByteArray.size_extract]
 omega
theorem z0x (N : Nat) (hN : 20 < N) (b : ByteArray) (hb : b.size = 16) : ∃ r, zgk N b = some r := by
 obtain ⟨x1, h1⟩ := zn4 (b := b) (i := 1) (by omega) (by omega)
 obtain ⟨x0, h0⟩ := zn4 (b := b) (i := 0) (by omega) (by omega)
 have z1 : (b.extract (2 : Int).toNat (4 : Int).toNat).size = 2 := zmb b 2 4 (by omega) (by omega)
 have z2 : (b.extract (4 : Int).toNat (10 : Int).toNat).size = 6 := zmb b 4 10 (by omega) (by omega)
 have z3 : (b.extract (10 : Int).toNat b.size).size = 6 := (zmb b 10 b.size (by omega) (by omega)).trans (by omega)
 obtain ⟨n1, e1⟩ := zr2 N _ (by omega : (b.extract (2 : Int).toNat (4 : Int).toNat).size < N) (by omega)
 obtain ⟨n2, e2⟩ := zr2 N _ (by omega : (b.extract (4 : Int).toNat (10 : Int).toNat).size < N) (by omega)
 obtain ⟨n3, e3⟩ := zr2 N _ (by omega : (b.extract (10 : Int).toNat b.size).size < N) (by omega)
 unfold zgk
 rw [show ((b.size : Int) != 16) = false by rw [hb]; rfl]
 simp only [cfa, h1, h0, obs]
 cases ((x1.toNat : Int) != 0) with
 | true => exact ⟨_, rfl⟩
 | false =>
  simp only [cfa]; rw [ifp, ifp, e1]; simp only [obs]; rw [ifp, ifp, e2]; simp only [obs]; rw [ifp, e3]; simp only [obs]; obtain ⟨e, he⟩ := z4i (⟨(w6 (x0.toNat : Int)), (⟨n2, n3⟩ : Address), n1⟩ : Pointer); rw [he]; simp only [obs]; cases (e != 0) <;> exact ⟨_, rfl⟩
theorem z09 (N : Nat) (hN : 20 < N) (b : ByteArray) (hb : b.size = 16) : ∃ r, zmo N b = some r := by
 obtain ⟨x1, h1⟩ := zn4 (b := b) (i := 1) (by omega) (by omega)
 obtain ⟨x0, h0⟩ := zn4 (b := b) (i := 0) (by omega) (by omega)
 obtain ⟨n1, e1⟩ := zx1 N b hb 2 2 (by omega) hN
 obtain ⟨n2, e2⟩ := zx1 N b hb 4 6 (by omega) hN
 obtain ⟨n3, e3⟩ := zx1 N b hb 10 6 (by omega) hN
 have e1' : zdk N b 2 2 = some n1 := e1
 have e2' : zdk N b 4 6 = some n2 := e2
 have e3' : zdk N b 10 6 = some n3 := e3
 unfold zmo
 rw [show ((b.size : Int) != 16) = false by rw [hb]; rfl]
 simp only [cfa, h1, h0, obs]
 cases ((x1.toNat : Int) != 0) with
 | true => exact ⟨_, rfl⟩
 | false =>
  simp only [cfa, e1', e2', e3', obs]; obtain ⟨e, he⟩ := z4v (⟨(w6 (x0.toNat : Int)), (⟨n2, n3⟩ : Address), n1⟩ : Pointer); rw [he]; simp only [obs]; cases (e != 0) <;> exact ⟨_, rfl⟩
theorem zt1 (N : Nat) (hN : 2000 < N) (s : Storage) : ∃ i1 e1 e2, zao N s = some (i1, e1) ∧ zkb N s = some e2 ∧
 ((e1 = e2 ∧ e1 ≠ 0) ∨ (StoOk s ∧ s.Tags.length ≤ 64 ∧ (e1 = 0 ∨ (e1 = 22 ∧ true ∈ s.Tags)) ∧ (e2 = 0 ∨ (e2 = 22 ∧ true ∈ s.Tags)))) := by
 unfold zao zkb zc8
 try simp only [eS]
 by_cases h1 : (s.Bytes.size : Int) > 1024
 · rw [dct h1]; exact ⟨_, _, _, rfl, rfl, .inl ⟨rfl, by decide⟩⟩
 · rw [dcf h1]; have hm : (s.Bytes.size : Int).tmod 16 = (s.Bytes.size : Int) % 16 := tme; have hd : (s.Bytes.size : Int).tdiv 16 = (s.Bytes.size : Int) / 16 := tde
   by_cases h2 : (s.Bytes.size : Int) % 16 = 0
   · rw [hm, hd, w6e]
     by_cases h3 : (s.Tags.length : Int) = (s.Bytes.size : Int) / 16
     · rw [show (((s.Bytes.size : Int) % 16) != 0) = false by rw [h2]; rfl, show ((s.Tags.length : Int) != (s.Bytes.size : Int) / 16) = false by rw [← h3]; exact bsf _]; simp only [cfa]; have ok : StoOk s := ⟨by omega, by omega⟩; have hw : ∀ i : Nat, i < s.Tags.length → w6 ((i : Int) * 16) = (i : Int) * 16 ∧ w6 ((i : Int) * 16 + 16) = (i : Int) * 16 + 16 := fun i hi => ⟨w6e, w6e⟩; have hx : ∀ i : Nat, i < s.Tags.length → (s.Bytes.extract ((i : Int) * 16).toNat ((i : Int) * 16 + 16).toNat).size = 16 := fun i hi => by
        rw [zmb _ _ _ (by omega) (by omega)]; omega
       have l1 := zpu (f := zao.r1 N) (fun i t => t = (s.Tags, (s.Tags.length : Int), (i : Int), s)) (fun r => r.2 = 22 ∧ true ∈ s.Tags) s.Tags.length
        (fun i t hi ht => by
         subst ht; obtain ⟨w1, w2⟩ := hw i hi; have hx1 := lge hi; simp only [zao.r1, zao.b1, zac, hx1, obs, dct (show (i : Int) < (s.Tags.length : Int) by omega), ctr]; rw [w6e (n := (i : Int) + 1)]; cases hb : s.Tags[i] with
         | false => exact .inl ⟨_, rfl, rfl⟩
         | true =>
          simp only [bnt, cfa, w1, w2]; rw [ifp, ifp]; obtain ⟨r, hr⟩ := z0x N (by omega) _ (hx i hi); rw [hr]; simp only [obs]; cases (r.2 != 0) with
          | true => exact .inr ⟨_, rfl, rfl, by rw [← hb]; exact List.getElem_mem hi⟩
          | false => exact .inl ⟨_, rfl, rfl⟩)
        (fun t ht => by
         subst ht; exact ⟨_, by simp only [zao.r1, zao.b1, dcf (show ¬ (s.Tags.length : Int) < (s.Tags.length : Int) by omega), cfa], rfl⟩) (N := N) (by omega) (s := (s.Tags, (s.Tags.length : Int), 0, s)) rfl
       have l2 := zpu (f := zc8.r0 N) (fun i t => t = ((s.Bytes.size : Int) / 16, (i : Int), s)) (fun r => r.2 = 22 ∧ true ∈ s.Tags) s.Tags.length
        (fun i t hi ht => by
         subst ht; obtain ⟨w1, w2⟩ := hw i hi; have hx1 := lge hi; simp only [zc8.r0, zc8.b0, zac, hx1, obs, dct (show (i : Int) < (s.Bytes.size : Int) / 16 by omega), ctr]; rw [w6e (n := (i : Int) + 1)]; cases hb : s.Tags[i] with
         | false => exact .inl ⟨_, rfl, rfl⟩
         | true =>
          simp only [ctr, zl1, w1, w2]; rw [ifp, ifp]; simp only [obs]; obtain ⟨r, hr⟩ := z09 N (by omega) _ (hx i hi); rw [hr]; simp only [obs]; cases (r.2 != 0) with
          | true => exact .inr ⟨_, rfl, rfl, by rw [← hb]; exact List.getElem_mem hi⟩
          | false => exact .inl ⟨_, rfl, rfl⟩)
        (fun t ht => by
         subst ht; exact ⟨_, by simp only [zc8.r0, zc8.b0, dcf (show ¬ (s.Tags.length : Int) < (s.Bytes.size : Int) / 16 by omega), cfa], rfl⟩) (N := N) (by omega) (s := ((s.Bytes.size : Int) / 16, 0, s)) rfl
       have r1 : ∃ i1 e1, ((zj (zao.r1 N) N (s.Tags, (s.Tags.length : Int), 0, s)).bind fun z2 => zax z2 (fun z => some z) (fun y1 => some ((y1.2.2.2.Tags.length : Int), (0 : Int)))) = some (i1, e1) ∧ (e1 = 0 ∨ (e1 = 22 ∧ true ∈ s.Tags)) := by
        rcases l1 with ⟨t, g1, _⟩ | ⟨r, g1, g2⟩
        · rw [g1]; exact ⟨_, _, rfl, .inl rfl⟩
        · rw [g1]; exact ⟨r.1, r.2, rfl, .inr g2⟩
       have r2 : ∃ e2, ((((zj (zc8.r0 N) N ((s.Bytes.size : Int) / 16, 0, s)).bind fun z2 => zax z2 (fun z => some z) (fun y1 => some (y1.1, (0 : Int)))).bind fun r1 => some r1.2) = some e2) ∧ (e2 = 0 ∨ (e2 = 22 ∧ true ∈ s.Tags)) := by
        rcases l2 with ⟨t, g1, _⟩ | ⟨r, g1, g2⟩
        · rw [g1]; exact ⟨_, rfl, .inl rfl⟩
        · rw [g1]; exact ⟨r.2, rfl, .inr g2⟩
       obtain ⟨i1, e1, g1, g2⟩ := r1; obtain ⟨e2, g3, g4⟩ := r2; exact ⟨i1, e1, e2, g1, g3, .inr ⟨ok, by omega, g2, g4⟩⟩
     · rw [show (((s.Bytes.size : Int) % 16) != 0) = false by rw [h2]; rfl, show ((s.Tags.length : Int) != (s.Bytes.size : Int) / 16) = true by rw [zdz]; exact dct h3]; exact ⟨_, _, _, rfl, rfl, .inl ⟨rfl, by decide⟩⟩
   · rw [hm, show (((s.Bytes.size : Int) % 16) != 0) = true by rw [zdz]; exact dct h2]; exact ⟨_, _, _, rfl, rfl, .inl ⟨rfl, by decide⟩⟩
theorem z7f (N : Nat) (l : List Bool) (h : l.length < N) (hl : l.length < 1000000000) : zew N l true = some (l.contains true) := by
 unfold zew zbg
 have := zbm (f := zbg.r0 N) (fun i => (l, true, (l.length : Int), (i : Int))) (fun i => (l[i]?).bind fun x => if x = true then some (i : Int) else none) l.length
  (fun i hi => by
   have hx := lge hi; simp only [zbg.r0, zbg.b0, zac, hx, obs, dct (show (i : Int) < (l.length : Int) by omega), ctr]; rw [w6e]; cases hb : l[i] <;> simp)
  (by simp only [zbg.r0, zbg.b0, dcf (show ¬ (l.length : Int) < (l.length : Int) by omega), cfa]) h
 simp only [nc0] at this
 rw [this]
 simp only [obs]
 cases hfs : (List.range l.length).findSome? (fun i : Nat => (l[i]?).bind fun x => if x = true then some (i : Int) else none) with
 | some r =>
  simp only [zax, obs]; obtain ⟨i, hi, hr⟩ := eof hfs; rw [Option.bind_eq_some_iff] at hr; obtain ⟨x, hx, hr⟩ := hr; split at hr
  · rename_i hb; cases hr; have : l.contains true = true := by rw [List.contains_iff_mem, ← hb]; exact lmg hx
    rw [this]; simp
  · cases hr
 | none =>
  simp only [zax, obs]; rw [List.findSome?_eq_none_iff] at hfs; have : l.contains true = false := by
   rw [Bool.eq_false_iff]; intro hc; rw [List.contains_iff_mem] at hc; obtain ⟨i, hi⟩ := List.getElem?_of_mem hc; have := hfs i (by simp; exact (gei hi).1); rw [hi] at this; simp at this
  rw [this]; rfl
theorem zv3 (N : Nat) (s : Storage) (h : s.Tags.length ≤ 64) (hN : 2000 < N) : ∃ l, zbo N s = some l ∧ (decide ((l.length : Int) > 0)) = s.Tags.contains true := by
 unfold zbo
 obtain ⟨s', h1, l, h2, h3, h4⟩ := zfy (f := zbo.r0 N) (fun i t => ∃ l : List Int, t = (l, (i : Int), s) ∧ l.length ≤ i ∧ (decide ((l.length : Int) > 0)) = (s.Tags.take i).contains true) s.Tags.length
  (fun i t hi ht => by
   obtain ⟨l, rfl, h3, h4⟩ := ht; have hx := lge hi; have rm : Nat.ble ((l.length + ([(w6 ((i : Int) * 16))] : List Int).length) * 8) zar = true := Nat.ble_eq_true_of_le (by unfold zar; simp; omega); simp only [zbo.r0, zbo.b0, zac, hx, obs, dct (show (i : Int) < (s.Tags.length : Int) by omega), ctr, rm]; rw [w6e (n := (i : Int) + 1)]; have tk : s.Tags.take (i + 1) = s.Tags.take i ++ [s.Tags[i]] := by rw [List.take_add_one, hx]; rfl
   cases hb : s.Tags[i] with
   | true => exact ⟨_, rfl, _, rfl, by simp; omega, by rw [tk, hb]; simp⟩
   | false => exact ⟨_, rfl, _, rfl, by omega, by rw [tk, hb, h4]; simp⟩)
  (fun t ht => by
   obtain ⟨l, rfl, h3, h4⟩ := ht; simp only [zbo.r0, zbo.b0, dcf (show ¬ (s.Tags.length : Int) < (s.Tags.length : Int) by omega), cfa]; exact ⟨_, rfl, l, rfl, h3, h4⟩) (N := N) (by omega) (s := ([], 0, s)) ⟨[], rfl, by simp, by simp⟩
 rw [h1, h2]
 exact ⟨l, rfl, by rw [h4, List.take_length]⟩
theorem z40 {c : zF} (hc : Wft En 1048576 Ty.zF c) : zh8 c = some c := by
 obtain ⟨w1, w2, w3, w4, w5⟩ := zls hc
 unfold zh8 zii zi6
 rw [show Nat.ble (c.Storage.Tags.length * 1) zar = true from Nat.ble_eq_true_of_le (by unfold zar; omega), show Nat.ble (c.zA.length * 224) zar = true from Nat.ble_eq_true_of_le (by unfold zar; omega), show Nat.ble (c.zP.length * 32) zar = true from Nat.ble_eq_true_of_le (by unfold zar; omega)]
 rfl
theorem z3w (N : Nat) (hN : 1048600 < N) (m : zI) {c : zF} (hc : Wft En 1048576 Ty.zF c) : ∃ r, zq N m c = some r ∧ zk N m c = some r := by
 obtain ⟨e, he1, he2, he3⟩ := zrb m
 obtain ⟨i1, e1, e2, hs1, hs2, hs⟩ := zt1 N (by omega) c.Storage
 obtain ⟨w1, w2, w3, w4, w5⟩ := zls hc
 have f3 : ∀ a b d : Int, zaw N [a, b, d] = some (zgq [a, b, d]) := fun a b d => zuo N _ (by simp; omega) (by simp)
 unfold zq zk
 try simp only [eS, eM, eC]
 rw [he1, he2, hs1, hs2]
 simp only [obs]
 by_cases h0 : e = 0
 · subst h0; have hm := he3 rfl; simp only [bsf, cfa]; rcases hs with ⟨rfl, hs⟩ | ⟨ok, htl, hs3, hs4⟩
   · rw [show (e1 != 0) = true by rw [zdz]; exact dct hs]; exact ⟨_, rfl, rfl⟩
   · obtain ⟨l, hl1, hl2⟩ := zv3 N c.Storage htl (by omega); rw [z7f N _ (by omega) (by omega), hl1]; simp only [obs, zqb, f3, orB, hl2]
     by_cases ht : c.Storage.Tags.contains true = true
     · rw [ht]; refine ⟨(0, 22), ?_, ?_⟩
       · rcases hs3 with rfl | ⟨rfl, _⟩
         · simp [zgq]
         · rfl
       · rcases hs4 with rfl | ⟨rfl, _⟩
         · rfl
         · rfl
     · have ht' : c.Storage.Tags.contains true = false := by simpa using ht
       have hn : ¬ true ∈ c.Storage.Tags := fun hh => ht (List.contains_iff_mem.2 hh); obtain rfl : e1 = 0 := hs3.resolve_right fun hh => hn hh.2; obtain rfl : e2 = 0 := hs4.resolve_right fun hh => hn hh.2; rw [ht']; have hl1 := z5c N hN hm ok hc; have hl2 := zqy N hN hm ok hc
       by_cases hz : (c.zA.length : Int) = 0
       · refine ⟨(0, 1), ?_, ?_⟩
         · simp [zgq, hz]
         · simp [hz]
       · cases hbig : (decide ((c.zA.length : Int) > 240) || decide ((c.zP.length : Int) > 40)) with
         | true =>
          refine ⟨(0, 2), ?_, ?_⟩
          · simp only [bsf, cfa, ctr, obs, zci, dcf hz, zgq, if_true]; rfl
          · simp only [bsf, cfa, ctr, obs, zci, dcf hz]
         | false =>
          refine ⟨zm0 m c, ?_, ?_⟩
          · rw [← hl1]; simp only [bsf, cfa, obs, zci, dcf hz, zgq, if_true]
          · rw [← hl2]; simp only [bsf, cfa, obs, zci, dcf hz]
 · rw [show (e != 0) = true by rw [zdz]; exact dct h0]; exact ⟨_, rfl, rfl⟩
theorem z3k (N : Nat) (hN : 1048600 < N) {c : zF} (hc : Wft En 1048576 Ty.zF c) : ∃ b, zb9 N c = some b := by
 obtain ⟨w1, w2, w3, w4, w5⟩ := zls hc
 unfold zb9
 have ft : ∀ s, ∃ b, zer s = some b := fun s => by
  unfold zer; cases decide ((s.Bytes.size : Int) ≤ 1072) <;> exact ⟨_, rfl⟩
 have e1 : ∀ i : Nat, i ≤ c.zA.length → (cond (decide ((i : Int) < (c.zA.length : Int))) (some (decide ((i : Int) < 244))) (some false)) = some (decide ((i : Int) < (c.zA.length : Int)) && decide ((i : Int) < 244)) := fun i _ => zgu _ _
 have l1 := zpu (f := zb9.r0 N) (fun i t => t = ((i : Int), c)) (fun r => True) (min c.zA.length 244)
  (fun i t hi ht => by
   subst ht; have hlt : i < c.zA.length := by omega
   have hx := lge hlt; simp only [zb9.r0, zb9.b0, zgu, obs, dct (show (i : Int) < (c.zA.length : Int) by omega), dct (show (i : Int) < 244 by omega), Bool.and_self, ctr, zac, hx, orB]; rw [w6e (n := (i : Int) + 1)]; cases (decide ((c.zA[i].Text.size : Int) > 300) || decide ((c.zA[i].Other.size : Int) > 300)) with
   | true => exact .inr ⟨_, rfl, trivial⟩
   | false => exact .inl ⟨_, rfl, rfl⟩)
  (fun t ht => by
   subst ht; have e : (decide (((min c.zA.length 244 : Nat) : Int) < (c.zA.length : Int)) && decide (((min c.zA.length 244 : Nat) : Int) < 244)) = false := by
    by_cases h : c.zA.length < 244
    · rw [dcf (show ¬ ((min c.zA.length 244 : Nat) : Int) < (c.zA.length : Int) by omega)]; rfl
    · rw [dcf (show ¬ ((min c.zA.length 244 : Nat) : Int) < 244 by omega)]; simp
   simp only [zb9.r0, zb9.b0, zgu, obs, e, cfa]; exact ⟨_, rfl, rfl⟩) (N := N) (by omega) (s := (0, c)) rfl
 rcases l1 with ⟨t, g1, _⟩ | ⟨r, g1, _⟩
 · rw [g1]; simp only [obs, zax]; obtain ⟨b, hb⟩ := ft t.2.Storage; rw [hb]; simp only [obs, zgu]; exact ⟨_, rfl⟩
 · rw [g1]; exact ⟨_, rfl⟩
theorem z60 {m : zI} {c : zF} {n : Int} (h : zm0 m c = (n, 0)) : ∀ x ∈ c.zA, zg8 m c x = 0 := by
 intro x hx
 refine cbc fun h0 => ?_
 unfold zm0 at h
 obtain ⟨i, hi⟩ := List.getElem?_of_mem hx
 cases hf : (List.range c.zA.length).findSome? (gI m c) with
 | none =>
  rw [List.findSome?_eq_none_iff] at hf; have := hf i (by simp; exact (gei hi).1); unfold gI at this; rw [hi] at this; simp [h0] at this
 | some r =>
  rw [hf] at h; simp only at h; subst h; obtain ⟨j, _, hj⟩ := eof hf; unfold gI at hj; rw [Option.bind_eq_some_iff] at hj; obtain ⟨y, _, hy⟩ := hj
  by_cases h1 : zg8 m c y = 0
  · simp [h1] at hy
  · rw [ifn h1] at hy; simp only [Option.some.injEq, Prod.mk.injEq] at hy; exact h1 hy.2
theorem zt2 {α σ : Type} {f : σ → Option (Round Int σ)} (l : List α) (p : α → Bool) (S : Nat → σ) (hstep : ∀ i x, l[i]? = some x → f (S i) = some (cond (p x) (.result (i : Int)) (.again (S (i + 1)))))
 (hl : f (S l.length) = some (.leave (S l.length))) {N : Nat} (hN : l.length < N) : zj f N (S 0) = some (match l.findIdx? p with | some i => .inl (i : Int) | none => .inr (S l.length)) := by
 have := zbm (f := f) S (fun i => (l[i]?).bind fun x => if p x = true then some (i : Int) else none) l.length (fun i hi => by
  have hx := lge hi; rw [hstep i _ hx]; simp only [hx, obs]; cases hb : p l[i] <;> simp) hl hN
 rw [this]
 congr 1
 have key : (List.range l.length).findSome? (fun i : Nat => (l[i]?).bind fun x => if p x = true then some (i : Int) else none) = (l.findIdx? p).map (fun i => (i : Int)) := by
  cases hf : l.findIdx? p with
  | none =>
   rw [List.findIdx?_eq_none_iff] at hf; rw [List.findSome?_eq_none_iff.2]
   · rfl
   · intro i hi; have hi' : i < l.length := by simpa using hi
     have h9 := hf _ (List.getElem_mem hi'); rw [lge hi', obs, ifn (by simp [h9])]
  | some k =>
   rw [List.findIdx?_eq_some_iff_getElem] at hf; obtain ⟨hk, h1, h2⟩ := hf; show _ = some (k : Int); have : (List.range l.length).findSome? (fun i : Nat => (l[i]?).bind fun x => if p x = true then some (i : Int) else none) = some (k : Int) := by
    rw [List.findSome?_eq_some_iff]; refine ⟨List.range k, k, (List.range' (k + 1) (l.length - (k + 1))), ?_, ?_, ?_⟩
    · apply List.ext_getElem
      · simp; omega
      · intro i h3 h4; rw [List.getElem_append]; split
        · simp
        · rename_i h5; have h5' : k ≤ i := by simpa using h5
          by_cases e : i = k
          · subst e; simp
          · have : i - k ≠ 0 := by omega
            rw [List.getElem_cons]; simp [this]; omega
    · rw [lge hk]; simp [h1]
    · intro x hx; have hx' : x < k := by simpa using hx
      rw [lge (by omega)]; have := h2 x hx'; simp [this]
   rw [this]
 rw [key]
 cases l.findIdx? p <;> rfl
theorem zpv {α : Type} (l : List α) (p : α → Bool) : (l.findIdx? p).isSome = l.any p := by
 cases h : l.findIdx? p with
 | none =>
  rw [List.findIdx?_eq_none_iff] at h
  symm
  simp only [Option.isSome_none, List.any_eq_false]; intro x hx; simp [h x hx]
 | some k =>
  rw [List.findIdx?_eq_some_iff_getElem] at h; obtain ⟨hk, h1, h2⟩ := h
  symm
  simp only [Option.isSome_some, List.any_eq_true]; exact ⟨_, List.getElem_mem hk, h1⟩
theorem zsr {α β σ : Type} {f : σ → Option (Stp σ)} (l : List α) (g : α → Option β) (S : Nat → List β → σ) (hstep : ∀ i x acc, l[i]? = some x → acc.length ≤ i → f (S i acc) = some (.again (S (i + 1) (acc ++ (g x).toList))))
 (hl : ∀ acc, f (S l.length acc) = some (.leave (S l.length acc))) {N : Nat} (hN : l.length < N) : zf f N (S 0 []) = some (S l.length (l.filterMap g)) := by
 have e0 : ∀ i, ((l.take i).filterMap g).length ≤ i := fun i => Nat.le_trans (List.length_filterMap_le _ _) (by simp; omega)
 have := zdj (f := f) (fun i => S i ((l.take i).filterMap g)) l.length (fun i hi => by
  have hx := lge hi; rw [hstep i _ _ hx (e0 i), List.take_add_one, hx, List.filterMap_append]
  congr 3) (hl _) hN
 simpa using this
theorem zxd {α σ : Type} {f : σ → Option (Stp σ)} (l : List α) (p : α → Bool) (S : List α → Nat → Nat → σ)
 (hstep : ∀ s i j x, s[j]? = some x → i < j → s.length = l.length → x ∈ l → f (S s i j) = some (.again (cond (p x) (S s i (j + 1)) (S (s.set i x) (i + 1) (j + 1)))))
 (hl : ∀ s i, s.length = l.length → i ≤ l.length → f (S s i l.length) = some (.leave (S s i l.length))) {k : Nat} (hk : l.findIdx? p = some k) {N : Nat} (hN : l.length < N) :
 ∃ s i, zf f N (S l k (k + 1)) = some (S s i l.length) ∧ s.length = l.length ∧ i ≤ l.length ∧ s.take i = l.filter (fun x => !p x) := by
 rw [List.findIdx?_eq_some_iff_getElem] at hk
 obtain ⟨hkl, h1, h2⟩ := hk
 have first : l.take k = (l.take (k + 1)).filter (fun x => !p x) := by
  rw [List.take_add_one, lge hkl, List.filter_append]; simp only [Option.toList_some, List.filter_cons, h1, bnt, Bool.false_eq_true, if_false, List.filter_nil, List.append_nil]
  symm
  rw [List.filter_eq_self]; intro x hx; obtain ⟨j, hj, rfl⟩ := List.mem_take_iff_getElem.1 hx; have := h2 j (by omega); simpa using this
 let I : Nat → σ → Prop := fun t q => ∃ s i, q = S s i (k + 1 + t) ∧ s.length = l.length ∧ i < k + 1 + t ∧ (∀ j, k + 1 + t ≤ j → s[j]? = l[j]?) ∧ s.take i = (l.take (k + 1 + t)).filter (fun x => !p x)
 obtain ⟨q, hq, hI⟩ := zfy (f := f) I (l.length - (k + 1)) (by
  rintro t q ht ⟨s, i, rfl, hs, hi, hsame, htake⟩
  have hlt : k + 1 + t < l.length := by omega
  have hx := lge hlt; have hsx : s[k + 1 + t]? = some l[k + 1 + t] := by rw [hsame _ (Nat.le_refl _), hx]
  refine ⟨_, hstep s i _ _ hsx hi hs (List.getElem_mem hlt), ?_⟩; cases hp : p l[k + 1 + t] with
  | true =>
   refine ⟨s, i, rfl, hs, by omega, fun j hj => hsame j (by omega), ?_⟩; rw [htake, ← Nat.add_assoc, List.take_add_one, hx, List.filter_append]; simp [hp]
  | false =>
   refine ⟨s.set i l[k + 1 + t], i + 1, rfl, by simpa using hs, by omega, fun j hj => ?_, ?_⟩
   · rw [List.getElem?_set_ne (by omega)]; exact hsame j (by omega)
   · rw [List.take_add_one, List.getElem?_set_self (by omega), List.take_set_of_le (Nat.le_refl _), htake, ← Nat.add_assoc, List.take_add_one, hx, List.filter_append]; simp [hp])
  (by
   rintro q ⟨s, i, rfl, hs, hi, hsame, htake⟩
   have e : k + 1 + (l.length - (k + 1)) = l.length := by omega
   rw [e] at hi htake ⊢; exact ⟨_, hl s i hs (by omega), s, i, by rw [e], hs, by omega, fun j hj => hsame j hj, by rw [e]; exact htake⟩)
  (N := N) (by omega) (s := S l k (k + 1)) ⟨l, k, rfl, rfl, by omega, fun j _ => rfl, first⟩
 obtain ⟨s, i, rfl, hs, hi, hsame, htake⟩ := hI
 have e : k + 1 + (l.length - (k + 1)) = l.length := by omega
 rw [e] at hq hi htake
 refine ⟨s, i, hq, hs, by omega, ?_⟩
 rw [htake, List.take_length]
theorem zm5 {α : Type} {l : List α} {p : α → Bool} (h : l.findIdx? p = none) : l.filter (fun x => !p x) = l := by
 rw [List.findIdx?_eq_none_iff] at h
 rw [List.filter_eq_self]
 intro x hx
 simp [h x hx]
def zj3 (a b : zB) : Bool := a.Register == b.Register && (a.zD.Kind == b.zD.Kind && (a.zD.Length == b.zD.Length && (a.zD.Scale == b.zD.Scale && a.Offset == b.Offset)))
theorem zo8 {a b : zB} : zj3 a b = true ↔ a = b := by
 obtain ⟨r, ⟨k, l, s⟩, o⟩ := a
 obtain ⟨r', ⟨k', l', s'⟩, o'⟩ := b
 simp only [zj3, Bool.and_eq_true, beq_iff_eq, zB.mk.injEq, DataType.mk.injEq, and_assoc]
theorem zwz (a b : zB) : zbw [(a.Register == b.Register), (a.zD.Kind == b.zD.Kind), (a.zD.Length == b.zD.Length), (a.zD.Scale == b.zD.Scale), (a.Offset == b.Offset)] = zj3 a b := by
 simp only [zbw, zj3, List.all_cons, List.all_nil, List.foldr_cons, List.foldr_nil, Bool.and_true, id]
theorem z1u (a b : zB) : zj3 a b = zj3 b a := by
 rw [Bool.eq_iff_iff, zo8, zo8]
 exact ⟨Eq.symm, Eq.symm⟩
def zea (l : List zB) (x : zB) : Bool := l.any (zj3 x)
theorem ze7 {l : List zB} {x : zB} : zea l x = true ↔ x ∈ l := by
 unfold zea
 rw [List.any_eq_true]
 constructor
 · rintro ⟨y, hy, h⟩
   rw [zo8] at h; subst h; exact hy
 · intro h; exact ⟨x, h, zo8.2 rfl⟩
theorem zph (N : Nat) (l : List zB) (x : zB) (h : l.length < N) (hl : l.length < 1000000000) : za6 N l x = some (zea l x) := by
 unfold za6 zaq
 have := zt2 (f := zaq.r0 N) l (zj3 x) (fun i => (l, (l.length : Int), (i : Int), x)) (fun i y hy => by
  have hi := (gei hy).1; simp only [zaq.r0, zaq.b0, zac, hy, obs, dct (show (i : Int) < (l.length : Int) by omega), ctr, zwz]; rw [w6e]; cases zj3 x y <;> simp)
  (by simp only [zaq.r0, zaq.b0, dcf (show ¬ (l.length : Int) < (l.length : Int) by omega), cfa]) h
 simp only [nc0] at this
 rw [this]
 have e := zpv l (zj3 x)
 unfold zea
 cases hf : l.findIdx? (zj3 x) with
 | none => rw [hf] at e; rw [← e]; simp [zax]
 | some k => rw [hf] at e; rw [← e]; simp [zax]
theorem zro (s : List zB) (i : Nat) (n : Nat) (hs : s.length = n) (hi : i ≤ n) (z : zB) :
 (if 0 ≤ (i : Int) ∧ (i : Int) ≤ (s.length : Int) then (if 0 ≤ (i : Int) ∧ (i : Int) ≤ ((s.take (i : Int).toNat ++ List.replicate (s.length - (i : Int).toNat) z).length : Int) then
  (if 0 ≤ (0 : Int) ∧ (0 : Int) ≤ (i : Int) then (some (((s.take (i : Int).toNat ++ List.replicate (s.length - (i : Int).toNat) z).drop ((0 : Int).toNat)).take ((i : Int).toNat - (0 : Int).toNat))) else none) else none) else none) = some (s.take i) := by
 have h1 : (s.take i ++ List.replicate (s.length - i) z).length = n := by simp; omega
 rw [ifp, ifp (by rw [itn, h1]; omega), ifp]
 congr 1
 simp only [itn, Int.toNat_zero, dr0, Nat.sub_zero]
 rw [List.take_append_of_le_length (by simp; omega), List.take_take, Nat.min_self]
theorem ztb (l : List zB) (h : l.length ≤ 1000000) : zjk 40 l = some l := by
 unfold zjk
 rw [show Nat.ble (l.length * 40) zar = true from Nat.ble_eq_true_of_le (by show l.length * 40 ≤ 2 ^ 46; omega)]
 rfl
theorem zji {n : Nat} (h : n ≤ 1000000000) : Nat.ble (n * 40) zar = true := Nat.ble_eq_true_of_le (by show n * 40 ≤ 2 ^ 46; omega)
theorem zmw {n : Nat} (h : n ≤ 1000000) : Nat.ble (n * 8) zar = true := Nat.ble_eq_true_of_le (by show n * 8 ≤ 2 ^ 46; omega)
theorem zzd {n : Nat} (h : n ≤ 1000000) : Nat.ble (n * 1) zar = true := Nat.ble_eq_true_of_le (by show n * 1 ≤ 2 ^ 46; omega)
theorem z54 {n : Nat} (h : n ≤ 1000000) : Nat.ble (n * 24) zar = true := Nat.ble_eq_true_of_le (by show n * 24 ≤ 2 ^ 46; omega)
theorem z7o (N : Nat) (l : List zB) (r : Int) (p : zB → Bool) (hp : ∀ x ∈ l, zd2 x r = some (p x)) (h : l.length < N) (hl : l.length ≤ 1000000) : zn N l r = some (l.filter fun f => !(p f)) := by
 unfold zn zy
 have := zt2 (f := zy.r0 N) l p (fun i => (l, (l.length : Int), (i : Int), r)) (fun i y hy => by
  have hi := (gei hy).1; have hc := hp y (lmg hy); simp only [zy.r0, zy.b0, hc, zac, hy, obs, dct (show (i : Int) < (l.length : Int) by omega), ctr]; rw [w6e]; cases p y <;> simp)
  (by simp only [zy.r0, zy.b0, dcf (show ¬ (l.length : Int) < (l.length : Int) by omega), cfa]) h
 simp only [nc0] at this
 rw [this]
 cases hf : l.findIdx? p with
 | none => simp [zax, zm5 hf]
 | some k =>
  have hk : k < l.length := by
   rw [List.findIdx?_eq_some_iff_getElem] at hf; exact hf.1
  obtain ⟨s, i, h1, h2, h3, h4⟩ := zxd (f := zn.r0 N) l p (fun s i j => (s, (i : Int), (j : Int), r)) (fun s i j x hx hij hs hm => by
   have hj := (gei hx).1; have hxi : ∃ y, s[i]? = some y := ⟨_, lge (by omega)⟩; obtain ⟨y, hy⟩ := hxi; have hc := hp x hm; simp only [zn.r0, zn.b0, hc, dct (show (j : Int) < (s.length : Int) by omega), ctr, ifp (show 0 ≤ (j : Int) by omega), ifp (show (j : Int) < (s.length : Int) by omega),
    ifp (show 0 ≤ (i : Int) by omega), ifp (show (i : Int) < (s.length : Int) by omega), itn, hx, hy, obs]
   rw [w6e (n := (i : Int) + 1), w6e (n := (j : Int) + 1)]; cases p x <;> simp)
   (fun s i hs hi => by simp only [zn.r0, zn.b0, hs, dcf (show ¬ (l.length : Int) < (l.length : Int) by omega), cfa]) hf h
  have hne : ((k : Int) == -1) = false := by rw [zci]; simp
  simp only [zax, obs, hne, cfa]; rw [w6e]; have h1 : zf (zn.r0 N) N (l, (k : Int), (k : Int) + 1, r) = some (s, (i : Int), (l.length : Int), r) := by
   have := h1; simpa using this
  rw [h1]; simp only [obs]; rw [zro s i l.length h2 h3, h4]
theorem z7m (N : Nat) (l : List zB) (p : zB → Bool) (hp : ∀ x ∈ l, ze5 x = some (p x)) (h : l.length < N) (hl : l.length ≤ 1000000) : zl N l = some (l.filter fun f => !(p f)) := by
 unfold zl zw
 have := zt2 (f := zw.r0 N) l p (fun i => (l, (l.length : Int), (i : Int))) (fun i y hy => by
  have hi := (gei hy).1; have hc := hp y (lmg hy); simp only [zw.r0, zw.b0, hc, zac, hy, obs, dct (show (i : Int) < (l.length : Int) by omega), ctr]; rw [w6e]; cases p y <;> simp)
  (by simp only [zw.r0, zw.b0, dcf (show ¬ (l.length : Int) < (l.length : Int) by omega), cfa]) h
 simp only [nc0] at this
 rw [this]
 cases hf : l.findIdx? p with
 | none => simp [zax, zm5 hf]
 | some k =>
  have hk : k < l.length := by
   rw [List.findIdx?_eq_some_iff_getElem] at hf; exact hf.1
  obtain ⟨s, i, h1, h2, h3, h4⟩ := zxd (f := zl.r0 N) l p (fun s i j => (s, (i : Int), (j : Int))) (fun s i j x hx hij hs hm => by
   have hj := (gei hx).1; have hxi : ∃ y, s[i]? = some y := ⟨_, lge (by omega)⟩; obtain ⟨y, hy⟩ := hxi; have hc := hp x hm; simp only [zl.r0, zl.b0, hc, dct (show (j : Int) < (s.length : Int) by omega), ctr, ifp (show 0 ≤ (j : Int) by omega), ifp (show (j : Int) < (s.length : Int) by omega),
    ifp (show 0 ≤ (i : Int) by omega), ifp (show (i : Int) < (s.length : Int) by omega), itn, hx, hy, obs]
   rw [w6e (n := (i : Int) + 1), w6e (n := (j : Int) + 1)]; cases p x <;> simp)
   (fun s i hs hi => by simp only [zl.r0, zl.b0, hs, dcf (show ¬ (l.length : Int) < (l.length : Int) by omega), cfa]) hf h
  have hne : ((k : Int) == -1) = false := by rw [zci]; simp
  simp only [zax, obs, hne, cfa]; rw [w6e]; have h1 : zf (zl.r0 N) N (l, (k : Int), (k : Int) + 1) = some (s, (i : Int), (l.length : Int)) := by
   have := h1; simpa using this
  rw [h1]; simp only [obs]; rw [zro s i l.length h2 h3, h4]
theorem z7n (N : Nat) (l : List zB) (a b : Int) (p : zB → Bool) (hp : ∀ x ∈ l, zd0 N x a b = some (p x)) (h : l.length < N) (hl : l.length ≤ 1000000) : zm N l a b = some (l.filter fun f => !(p f)) := by
 unfold zm zx
 have := zt2 (f := zx.r0 N) l p (fun i => (l, (l.length : Int), (i : Int), a, b)) (fun i y hy => by
  have hi := (gei hy).1; have hc := hp y (lmg hy); simp only [zx.r0, zx.b0, hc, zac, hy, obs, dct (show (i : Int) < (l.length : Int) by omega), ctr]; rw [w6e]; cases p y <;> simp)
  (by simp only [zx.r0, zx.b0, dcf (show ¬ (l.length : Int) < (l.length : Int) by omega), cfa]) h
 simp only [nc0] at this
 rw [this]
 cases hf : l.findIdx? p with
 | none => simp [zax, zm5 hf]
 | some k =>
  have hk : k < l.length := by
   rw [List.findIdx?_eq_some_iff_getElem] at hf; exact hf.1
  obtain ⟨s, i, h1, h2, h3, h4⟩ := zxd (f := zm.r0 N) l p (fun s i j => (s, (i : Int), (j : Int), a, b)) (fun s i j x hx hij hs hm => by
   have hj := (gei hx).1; have hxi : ∃ y, s[i]? = some y := ⟨_, lge (by omega)⟩; obtain ⟨y, hy⟩ := hxi; have hc := hp x hm; simp only [zm.r0, zm.b0, hc, dct (show (j : Int) < (s.length : Int) by omega), ctr, ifp (show 0 ≤ (j : Int) by omega), ifp (show (j : Int) < (s.length : Int) by omega),
    ifp (show 0 ≤ (i : Int) by omega), ifp (show (i : Int) < (s.length : Int) by omega), itn, hx, hy, obs]
   rw [w6e (n := (i : Int) + 1), w6e (n := (j : Int) + 1)]; cases p x <;> simp)
   (fun s i hs hi => by simp only [zm.r0, zm.b0, hs, dcf (show ¬ (l.length : Int) < (l.length : Int) by omega), cfa]) hf h
  have hne : ((k : Int) == -1) = false := by rw [zci]; simp
  simp only [zax, obs, hne, cfa]; rw [w6e]; have h1 : zf (zm.r0 N) N (l, (k : Int), (k : Int) + 1, a, b) = some (s, (i : Int), (l.length : Int), a, b) := by
   have := h1; simpa using this
  rw [h1]; simp only [obs]; rw [zro s i l.length h2 h3, h4]
theorem z7p (N : Nat) (l : List zB) (t : List zB) (p : zB → Bool) (hp : ∀ x ∈ l, zdn N x t = some (p x)) (h : l.length < N) (hl : l.length ≤ 1000000) : zo N l t = some (l.filter fun f => !(p f)) := by
 unfold zo zaa
 have := zt2 (f := zaa.r0 N) l p (fun i => (l, (l.length : Int), (i : Int), t)) (fun i y hy => by
  have hi := (gei hy).1; have hc := hp y (lmg hy); simp only [zaa.r0, zaa.b0, hc, zac, hy, obs, dct (show (i : Int) < (l.length : Int) by omega), ctr]; rw [w6e]; cases p y <;> simp)
  (by simp only [zaa.r0, zaa.b0, dcf (show ¬ (l.length : Int) < (l.length : Int) by omega), cfa]) h
 simp only [nc0] at this
 rw [this]
 cases hf : l.findIdx? p with
 | none => simp [zax, zm5 hf]
 | some k =>
  have hk : k < l.length := by
   rw [List.findIdx?_eq_some_iff_getElem] at hf; exact hf.1
  obtain ⟨s, i, h1, h2, h3, h4⟩ := zxd (f := zo.r0 N) l p (fun s i j => (s, (i : Int), (j : Int), t)) (fun s i j x hx hij hs hm => by
   have hj := (gei hx).1; have hxi : ∃ y, s[i]? = some y := ⟨_, lge (by omega)⟩; obtain ⟨y, hy⟩ := hxi; have hc := hp x hm; simp only [zo.r0, zo.b0, hc, dct (show (j : Int) < (s.length : Int) by omega), ctr, ifp (show 0 ≤ (j : Int) by omega), ifp (show (j : Int) < (s.length : Int) by omega),
    ifp (show 0 ≤ (i : Int) by omega), ifp (show (i : Int) < (s.length : Int) by omega), itn, hx, hy, obs]
   rw [w6e (n := (i : Int) + 1), w6e (n := (j : Int) + 1)]; cases p x <;> simp)
   (fun s i hs hi => by simp only [zo.r0, zo.b0, hs, dcf (show ¬ (l.length : Int) < (l.length : Int) by omega), cfa]) hf h
  have hne : ((k : Int) == -1) = false := by rw [zci]; simp
  simp only [zax, obs, hne, cfa]; rw [w6e]; have h1 : zf (zo.r0 N) N (l, (k : Int), (k : Int) + 1, t) = some (s, (i : Int), (l.length : Int), t) := by
   have := h1; simpa using this
  rw [h1]; simp only [obs]; rw [zro s i l.length h2 h3, h4]
theorem zno (N : Nat) (l : List zB) (r : Int) (h : l.length < N) (hl : l.length ≤ 1000000) : zc7 N l r = some (l.filter fun f => !(f.Register == r)) := by
 unfold zc7
 rw [ztb l hl, obs, z7o N l r (fun f => f.Register == r) (fun x _ => rfl) h hl]
 rfl
theorem z6f (N : Nat) (l : List zB) (h : l.length < N) (hl : l.length ≤ 1000000) : zhm N l = some (l.filter fun f => f.Offset == -1) := by
 unfold zhm
 rw [ztb l hl, obs, z7m N l (fun f => f.Offset != -1) (fun x _ => rfl) h hl]
 simp only [obs]
 congr 2
 funext f
 cases he : (f.Offset == -1) <;> simp [bne, he]
theorem z2f (N : Nat) (l t : List zB) (h : l.length < N) (hl : l.length ≤ 1000000) (h' : t.length < N) (hl' : t.length < 1000000000) : zgi N l t = some (l.filter fun f => zea t f) := by
 unfold zgi
 rw [ztb l hl, obs, z7p N l t (fun f => !zea t f) (fun x _ => by unfold zdn; rw [zph N t x h' hl']; rfl) h hl]
 simp only [obs, Bool.not_not]
theorem zz1 (N : Nat) (hN : 10 < N) {t : DataType} (h : zb5 t = 0) : zfs N t = some (szE t) := by
 unfold zfs zee
 rw [zv9 N hN, h]
 simp [zz7 h]
def apB (a b : Int) (x : zB) : Bool := (x.Offset != -1 && decide (x.Offset < w6 (a + b))) && decide (a < w6 (x.Offset + szE x.zD))
theorem zxn (N : Nat) (hN : 10 < N) (l : List zB) (a b : Int) (ht : ∀ x ∈ l, zb5 x.zD = 0) (h : l.length < N) (hl : l.length ≤ 1000000) : zfa N l a b = some (l.filter fun f => !apB a b f) := by
 unfold zfa
 rw [ztb l hl, obs, z7n N l a b (apB a b) (fun x hx => ?_) h hl]
 · rfl
 · unfold zd0 apB; rw [zz1 N hN (ht x hx)]; cases (x.Offset != -1) <;> cases decide (x.Offset < w6 (a + b)) <;> simp
theorem z9x {α β σ : Type} {f : σ → Option (Stp σ)} (l : List α) (g : α → List β) (M : Nat) (hM : ∀ x ∈ l, (g x).length ≤ M) (S : Nat → List β → σ) (a0 : List β)
 (hstep : ∀ i x acc, l[i]? = some x → acc.length ≤ a0.length + i * M → f (S i acc) = some (.again (S (i + 1) (acc ++ g x))))
 (hl : ∀ acc, f (S l.length acc) = some (.leave (S l.length acc))) {N : Nat} (hN : l.length < N) : zf f N (S 0 a0) = some (S l.length (a0 ++ l.flatMap g)) := by
 have e0 : ∀ i, ((l.take i).flatMap g).length ≤ i * M := by
  intro i
  induction i with
  | zero => simp
  | succ i ih =>
   rw [List.take_add_one, List.flatMap_append, lna, Nat.succ_mul]; refine Nat.add_le_add ih ?_; cases hx : l[i]? with
   | none => simp
   | some x => simpa using hM x (lmg hx)
 have := zdj (f := f) (fun i => S i (a0 ++ (l.take i).flatMap g)) l.length (fun i hi => by
  have hx := lge hi; rw [hstep i _ _ hx (by rw [lna]; have := e0 i; omega), List.take_add_one, hx, List.flatMap_append]; simp) (hl _) hN
 simpa using this
def zil (a r : Int) (x : zB) : Option zB := if x.Register = a then some ⟨r, x.zD, x.Offset⟩ else none
theorem zxo (N : Nat) (l : List zB) (a r : Int) (h : l.length < N) (hl : l.length ≤ 100000) : za7 N l a r = some (l.filterMap (zil a r)) := by
 unfold za7
 have := zsr (f := za7.r0 N) l (zil a r) (fun i acc => (a, r, acc, l, (l.length : Int), (i : Int))) (fun i x acc hx hacc => by
  have hi := (gei hx).1; simp only [za7.r0, za7.b0, zac, hx, obs, dct (show (i : Int) < (l.length : Int) by omega), ctr, lnc, ln0, zji (show acc.length + (0 + 1) ≤ 1000000000 by omega)]; rw [w6e, zci]; unfold zil
  by_cases e : x.Register = a <;> simp [e])
  (fun acc => by simp only [za7.r0, za7.b0, dcf (show ¬ (l.length : Int) < (l.length : Int) by omega), cfa]) h
 simp only [nc0] at this
 rw [this]
 rfl
def zv0 (a b : DataType) : Bool := a.Kind == b.Kind && (a.Length == b.Length && a.Scale == b.Scale)
theorem zxj {a b : DataType} : zv0 a b = true ↔ a = b := by
 obtain ⟨k, l, s⟩ := a
 obtain ⟨k', l', s'⟩ := b
 simp only [zv0, Bool.and_eq_true, beq_iff_eq, DataType.mk.injEq]
theorem z4c (a b : DataType) : zbw [(a.Kind == b.Kind), (a.Length == b.Length), (a.Scale == b.Scale)] = zv0 a b := by
 simp only [zbw, zv0, Bool.and_true]
def woL (r : Int) (l : List zB) : List zB := l.filter fun f => !(f.Register == r)
def zl7 (x : zC) (l : List zB) (g : zB) : List zB := if zv0 g.zD x.zD && g.Offset == x.Place.Offset then l.filterMap (zil g.Register x.R) else []
def zrc (x : zC) (l : List zB) : List zB :=
 (woL x.R l ++ [⟨x.R, x.zD, -1⟩]) ++ (if x.Place.Based then [] else [⟨x.R, x.zD, x.Place.Offset⟩] ++ l.flatMap (zl7 x l))
theorem z2b (N : Nat) (x : zC) (l : List zB) (h : l.length < N) (hl : l.length ≤ 5000) : zbe N x l = some (zrc x l) := by
 unfold zbe
 rw [zno N l x.R h (by omega)]
 have hw : (l.filter fun f => !(f.Register == x.R)).length ≤ l.length := List.length_filter_le _ _
 simp only [obs, lna, lnc, ln0]
 rw [zji (by omega), zji (by omega)]
 simp only [ctr]
 unfold zrc woL
 cases hb : x.Place.Based with
 | true => simp
 | false =>
  simp only [cfa]; have := z9x (f := zbe.r0 N) l (zl7 x l) 5000 (fun g _ => by
   unfold zl7; split
   · exact Nat.le_trans (List.length_filterMap_le _ _) hl
   · simp) (fun i acc => (l, acc, l, (l.length : Int), (i : Int), x)) (((l.filter fun f => !(f.Register == x.R)) ++ [⟨x.R, x.zD, -1⟩]) ++ [⟨x.R, x.zD, x.Place.Offset⟩]) (fun i y acc hy hacc => by
   have hi := (gei hy).1; simp only [zbe.r0, zbe.b0, zac, hy, obs, dct (show (i : Int) < (l.length : Int) by omega), ctr, z4c]; rw [zgu, obs, zxo N l y.Register x.R h (by omega), w6e]; have hla : (l.filterMap (zil y.Register x.R)).length ≤ l.length := List.length_filterMap_le _ _; have hi2 : i * 5000 ≤ 5000 * 5000 := Nat.mul_le_mul_right 5000 (by omega); simp only [lna, lnc, ln0] at hacc; unfold zl7; cases hc : (zv0 y.zD x.zD && y.Offset == x.Place.Offset) with
   | true => simp only [ctr, obs, if_true, zji (show acc.length + (l.filterMap (zil y.Register x.R)).length ≤ 1000000000 by omega)]; rfl
   | false => simp)
   (fun acc => by simp only [zbe.r0, zbe.b0, dcf (show ¬ (l.length : Int) < (l.length : Int) by omega), cfa]) h
  simp only [nc0] at this; rw [this]; simp
def zty (x : zC) (l : List zB) : List zB :=
 if x.Place.Based then l.filter fun f => f.Offset == -1
 else (l.filter fun f => !apB x.Place.Offset (szE x.zD) f) ++ (if x.Op == 1 && zea l ⟨x.R, x.zD, -1⟩ then [⟨x.R, x.zD, x.Place.Offset⟩] else [])
theorem z0u (N : Nat) (hN : 10 < N) (x : zC) (l : List zB) (htx : zb5 x.zD = 0) (ht : ∀ x ∈ l, zb5 x.zD = 0) (h : l.length < N) (hl : l.length ≤ 5000) : zf3 N x l = some (zty x l) := by
 unfold zf3 zty
 rw [z6f N l h (by omega), zz1 N hN htx]
 cases hb : x.Place.Based with
 | true => simp
 | false =>
  simp only [cfa, obs]; rw [zxn N hN l _ _ ht h (by omega), zph N l _ h (by omega)]; have hw : (l.filter fun f => !apB x.Place.Offset (szE x.zD) f).length ≤ l.length := List.length_filter_le _ _; simp only [obs, zgu, lnc, ln0, zji (show (l.filter fun f => !apB x.Place.Offset (szE x.zD) f).length + (0 + 1) ≤ 1000000000 by omega)]; cases (x.Op == 1 && zea l ⟨x.R, x.zD, -1⟩) <;> simp
structure InsX (m : zI) (c : zF) (x : zC) : Prop where
 op : 0 ≤ x.Op ∧ x.Op ≤ 26
 r : x.Op = 0 ∨ x.Op = 1 ∨ x.Op = 2 ∨ x.Op = 3 ∨ x.Op = 4 ∨ x.Op = 21 → 0 ≤ x.R ∧ x.R < m.Registers
 a : x.Op = 3 → 0 ≤ x.A ∧ x.A < m.Registers
 ty : x.Op = 0 ∨ x.Op = 1 ∨ x.Op = 4 ∨ x.Op = 9 ∨ x.Op = 10 → zb5 x.zD = 0
 kd : x.Op = 0 ∨ x.Op = 1 ∨ x.Op = 4 → x.zD.Kind ≠ 0 ∧ x.zD.Kind ≠ 4
 pl : x.Op = 0 ∨ x.Op = 1 ∨ x.Op = 9 ∨ x.Op = 10 → x.Place.Based = false → 0 ≤ x.Place.Offset ∧ x.Place.Offset + szE x.zD ≤ (c.Storage.Bytes.size : Int)
 pt : x.Op = 14 ∨ x.Op = 15 ∨ x.Op = 16 → 0 ≤ x.Pointer ∧ x.Pointer < (c.Storage.Bytes.size : Int)
 tg : x.Op = 6 ∨ x.Op = 7 ∨ x.Op = 8 ∨ x.Op = 18 → 0 ≤ x.Target ∧ x.Target < (c.zA.length : Int)
theorem zp0 {t : DataType} (h : zdl t 1 = 0) : zb5 t = 0 ∧ t.Kind ≠ 0 ∧ t.Kind ≠ 4 := by
 unfold zdl at h
 rw [ifn (by decide)] at h
 by_cases h0 : zb5 t = 0
 · rw [ifp h0] at h; split at h
   · cases h
   · rename_i h1; refine ⟨h0, ?_⟩; have h2 : inB t.Kind 1 3 = true := by
      refine cbc fun h2 => h1 (.inl ⟨rfl, fun h3 => h2 (zbr.2 h3)⟩)
     have := zbr.1 h2; omega
 · rw [ifn h0] at h; exact absurd h h0
theorem z9t {m : zI} {c : zF} {x : zC} (h : zg8 m c x = 0) : InsX m c x := by
 unfold zg8 at h
 by_cases hop : inB x.Op 0 26 = true
 · obtain ⟨f, u, hf, hu, ag, _⟩ := zng x hop; rw [ifp hop, hu] at h; have h' : zkw m c x u = 0 := h; unfold zkw at h'; cases he : zg4 x u with
   | true => rw [he] at h'; cases h'
   | false =>
    rw [he] at h'; simp only [cfa] at h'; cases hl : zjm m x with
    | true => rw [hl] at h'; cases h'
    | false =>
     rw [hl] at h'; simp only [cfa] at h'
     by_cases h1 : zdl x.zD u.zD = 0
     · by_cases h2 : zdl x.Second u.Second = 0
       · rw [ifn, ifn] at h'; cases hr : ze6 m c x u with
         | true => rw [hr] at h'; simp at h'
         | false =>
          unfold ze6 at hr; simp only [Bool.or_eq_false_iff] at hr; obtain ⟨r1, r2, r3, r4, r5, r6, r7, r8⟩ := hr; rw [List.any_eq_false] at r1; have reg : ∀ i, i ∈ zl0 x u → 0 ≤ i ∧ i < m.Registers := fun i hi => by
           have := r1 i hi; unfold zd7 at this; have h4 : inB i 0 (m.Registers - 1) = true := by simpa using this
           have := zbr.1 h4; omega
          have andF : ∀ {p q : Bool}, (p && !q) = false → p = true → q = true := fun {p q} h hp => by subst hp; simpa using h
          have hu0 : ∀ k, x.Op = k → ∀ w, zc3 ⟨k, x.R, x.A, x.B, x.zO, x.Place, x.From, x.zD, x.Second, x.Half, x.zJ, x.Number, x.Text, x.Other, x.Mask, x.Target, x.Pointer, x.Source⟩ = some w → u = w := by
           rintro k rfl w hw
           have : zc3 x = some w := hw; rw [hu] at this; exact Option.some.inj this
          have place : u.Place = true → (x.Op ≠ 4) → x.Place.Based = false → zb5 x.zD = 0 → 0 ≤ x.Place.Offset ∧ x.Place.Offset + szE x.zD ≤ (c.Storage.Bytes.size : Int) := fun hp h4 hb ht => by
           have := andF r6 hp; unfold zhx at this; rw [hb] at this; have hpl : zko x = x.zD := by unfold zko; rw [ifn h4]
           rw [hpl] at this; have := zbr.1 (by simpa using this); omega
          have pnt : u.Pointer = true → 0 ≤ x.Pointer ∧ x.Pointer < (c.Storage.Bytes.size : Int) := fun hp => by
           have := andF r4 hp; unfold zj1 at this; simp only [Bool.and_eq_true, decide_eq_true_eq] at this; omega
          have op4 : x.Op = 4 → u.R = true ∧ u.zD = 1 := fun e => by
           cases hi : x.zJ with
           | true => have := hu0 4 e _ (by rw [hi]; rfl); subst this; exact ⟨rfl, rfl⟩
           | false => have := hu0 4 e _ (by rw [hi]; rfl); subst this; exact ⟨rfl, rfl⟩
          have hR : u.R = true → 0 ≤ x.R ∧ x.R < m.Registers := fun hx => reg _ (by unfold zl0; rw [hx]; simp); have hA : u.A = true → 0 ≤ x.A ∧ x.A < m.Registers := fun hx => reg _ (by unfold zl0; rw [hx]; simp); have tyy : x.Op = 0 ∨ x.Op = 1 ∨ x.Op = 4 ∨ x.Op = 9 ∨ x.Op = 10 → zb5 x.zD = 0 := by
           rintro (e | e | e | e | e)
           · have := hu0 0 e _ rfl; subst this; exact (zp0 h1).1
           · have := hu0 1 e _ rfl; subst this; exact (zp0 h1).1
           · rw [(op4 e).2] at h1; exact (zp0 h1).1
           · have := hu0 9 e _ rfl; subst this; exact zlw h1 (by decide)
           · have := hu0 10 e _ rfl; subst this; exact zlw h1 (by decide)
          exact {
           op := zbr.1 hop
           r := by
            rintro (e | e | e | e | e | e)
            · have := hu0 0 e _ rfl; subst this; exact hR rfl
            · have := hu0 1 e _ rfl; subst this; exact hR rfl
            · have := hu0 2 e _ rfl; subst this; exact hR rfl
            · have := hu0 3 e _ rfl; subst this; exact hR rfl
            · exact hR (op4 e).1
            · have := hu0 21 e _ rfl; subst this; exact hR rfl
           a := fun e => by have := hu0 3 e _ rfl; subst this; exact hA rfl
           ty := tyy
           kd := by
            rintro (e | e | e)
            · have := hu0 0 e _ rfl; subst this; exact (zp0 h1).2
            · have := hu0 1 e _ rfl; subst this; exact (zp0 h1).2
            · rw [(op4 e).2] at h1; exact (zp0 h1).2
           pl := by
            rintro (e | e | e | e) hb
            · have ht := tyy (by omega); have := hu0 0 e _ rfl; subst this; exact place rfl (by omega) hb ht
            · have ht := tyy (by omega); have := hu0 1 e _ rfl; subst this; exact place rfl (by omega) hb ht
            · have ht := tyy (by omega); have := hu0 9 e _ rfl; subst this; exact place rfl (by omega) hb ht
            · have ht := tyy (by omega); have := hu0 10 e _ rfl; subst this; exact place rfl (by omega) hb ht
           pt := by
            rintro (e | e | e)
            · have := hu0 14 e _ rfl; subst this; exact pnt rfl
            · have := hu0 15 e _ rfl; subst this; exact pnt rfl
            · have := hu0 16 e _ rfl; subst this; exact pnt rfl
           tg := by
            have tgt : u.Target = true → 0 ≤ x.Target ∧ x.Target < (c.zA.length : Int) := fun hx => by have := zbr.1 (andF r2 hx); omega
            rintro (e | e | e | e)
            · have := hu0 6 e _ rfl; subst this; exact tgt rfl
            · have := hu0 7 e _ rfl; subst this; exact tgt rfl
            · have := hu0 8 e _ rfl; subst this; exact tgt rfl
            · have := hu0 18 e _ rfl; subst this; exact tgt rfl }
       · rw [ifn, ifp h2] at h'; exact absurd h' h2
     · rw [ifp h1] at h'; exact absurd h' h1
 · rw [ifn hop] at h; cases h
structure FctV (m : zI) (c : zF) (f : zB) : Prop where
 r : 0 ≤ f.Register ∧ f.Register < m.Registers
 ty : zb5 f.zD = 0
 kd : f.zD.Kind ≠ 0 ∧ f.zD.Kind ≠ 4
 of : f.Offset = -1 ∨ (0 ≤ f.Offset ∧ f.Offset + szE f.zD ≤ (c.Storage.Bytes.size : Int))
theorem z0t {t : DataType} (h : zb5 t = 0) : 0 ≤ t.Scale ∧ t.Scale ≤ 15 := by
 unfold zb5 at h
 split at h
 · split at h
   · split at h
     · omega
     · cases h
   · cases h
 · split at h
   · split at h
     · rename_i h1; split at h
       · rename_i h2; have := zbr.1 h1; have := zbr.1 h2; omega
       · cases h
     · cases h
   · split at h
     · split at h
       · split at h
         · rename_i h2; have := zbr.1 h2; omega
         · cases h
       · cases h
     · split at h
       · split at h
         · split at h
           · omega
           · cases h
         · cases h
       · cases h
theorem z8y {m : zI} {c : zF} (hm : m.Registers ≤ 8) (hs : c.Storage.Bytes.size ≤ 1024) {f : zB} (h : FctV m c f) : Proofs.Tryz.okF f = true := by
 rw [Proofs.Tryz.okF_iff]
 have h1 := h.r
 have h3 := h.of
 have h4 := zs1 h.ty
 have h2 := z0t h.ty
 rcases zjc h.ty with ⟨q0, q1, q2⟩ | ⟨q0 | q0, q1, q2⟩ | ⟨q0, q1 | q1⟩ | ⟨q0, q1⟩ <;> refine ⟨?_, ?_, ?_, ?_, ?_⟩ <;> omega
theorem zq9 {l : List zB} (h : ∀ f ∈ l, Proofs.Tryz.okF f = true) (hl : l.length ≤ 1000000000) : zmi Proofs.Tryz.ltF Proofs.Tryz.okF l = some (ordD Proofs.Tryz.ltF l) := by
 unfold zmi
 rw [List.all_eq_true.2 h, zji hl]
 rfl
def zhe (x : zC) (l : List zB) : List zB :=
 if x.Op = 0 then ordD Proofs.Tryz.ltF (zrc x l)
 else if x.Op = 4 then ordD Proofs.Tryz.ltF (woL x.R l ++ [⟨x.R, x.zD, -1⟩])
 else if x.Op = 2 ∨ x.Op = 21 then woL x.R l
 else if x.Op = 3 then ordD Proofs.Tryz.ltF (woL x.R l ++ l.filterMap (zil x.A x.R))
 else if x.Op = 1 ∨ x.Op = 9 ∨ x.Op = 10 then ordD Proofs.Tryz.ltF (zty x l)
 else if x.Op = 14 ∨ x.Op = 15 ∨ x.Op = 16 then l.filter fun f => !apB x.Pointer 16 f
 else l
theorem zsy {l : List zB} {a r : Int} {f : zB} : f ∈ l.filterMap (zil a r) ↔ ∃ g ∈ l, g.Register = a ∧ f = ⟨r, g.zD, g.Offset⟩ := by
 rw [List.mem_filterMap]
 constructor
 · rintro ⟨g, hg, h⟩
   unfold zil at h; split at h
   · rename_i e; cases h; exact ⟨g, hg, e, rfl⟩
   · cases h
 · rintro ⟨g, hg, e, rfl⟩
   exact ⟨g, hg, by unfold zil; rw [ifp e]⟩
theorem zlv {l : List zB} {r : Int} {f : zB} : f ∈ woL r l ↔ f ∈ l ∧ f.Register ≠ r := by
 unfold woL
 rw [List.mem_filter]
 simp
theorem z47 {x : zC} {l : List zB} {f : zB} : f ∈ zrc x l ↔ (f ∈ l ∧ f.Register ≠ x.R) ∨ f = ⟨x.R, x.zD, -1⟩ ∨ (x.Place.Based = false ∧ (f = ⟨x.R, x.zD, x.Place.Offset⟩ ∨ ∃ h ∈ l, h.zD = x.zD ∧ h.Offset = x.Place.Offset ∧ ∃ g ∈ l, g.Register = h.Register ∧ f = ⟨x.R, g.zD, g.Offset⟩)) := by
 unfold zrc
 rw [List.mem_append, List.mem_append, zlv, List.mem_singleton, or_assoc]
 cases hb : x.Place.Based with
 | true => simp
 | false =>
  simp only [Bool.false_eq_true, if_false, List.mem_append, List.mem_singleton, List.mem_flatMap, true_and]; have : (∃ a, a ∈ l ∧ f ∈ zl7 x l a) ↔ ∃ h ∈ l, h.zD = x.zD ∧ h.Offset = x.Place.Offset ∧ ∃ g ∈ l, g.Register = h.Register ∧ f = ⟨x.R, g.zD, g.Offset⟩ := by
   constructor
   · rintro ⟨h, hh, hf⟩
     unfold zl7 at hf; split at hf
     · rename_i e; rw [Bool.and_eq_true, zxj, beq_iff_eq] at e; exact ⟨h, hh, e.1, e.2, zsy.1 hf⟩
     · simp at hf
   · rintro ⟨h, hh, e1, e2, hf⟩
     refine ⟨h, hh, ?_⟩; unfold zl7; rw [ifp (by rw [Bool.and_eq_true, zxj, beq_iff_eq]; exact ⟨e1, e2⟩)]; exact zsy.2 hf
  rw [this]
theorem z57 {x : zC} {l : List zB} {f : zB} : f ∈ zty x l ↔ (x.Place.Based = true ∧ f ∈ l ∧ f.Offset = -1) ∨ (x.Place.Based = false ∧ ((f ∈ l ∧ apB x.Place.Offset (szE x.zD) f = false) ∨ (x.Op = 1 ∧ (⟨x.R, x.zD, -1⟩ : zB) ∈ l ∧ f = ⟨x.R, x.zD, x.Place.Offset⟩))) := by
 unfold zty
 cases hb : x.Place.Based with
 | true => simp [List.mem_filter]
 | false =>
  simp only [Bool.false_eq_true, if_false, List.mem_append, List.mem_filter, false_and, false_or, true_and, Bool.not_eq_true']; have : (f ∈ (if x.Op == 1 && zea l ⟨x.R, x.zD, -1⟩ then [(⟨x.R, x.zD, x.Place.Offset⟩ : zB)] else [])) ↔ (x.Op = 1 ∧ (⟨x.R, x.zD, -1⟩ : zB) ∈ l ∧ f = ⟨x.R, x.zD, x.Place.Offset⟩) := by
   split
   · rename_i e; rw [Bool.and_eq_true, beq_iff_eq, ze7] at e; simp [e.1, e.2]
   · rename_i e; rw [Bool.and_eq_true, beq_iff_eq, ze7] at e; simp only [List.not_mem_nil, false_iff]
     rintro ⟨a, b, _⟩
     exact e ⟨a, b⟩
  rw [this]
def Beh (x : zC) (l : List zB) (f : zB) : Prop :=
 if x.Op = 0 then (f ∈ l ∧ f.Register ≠ x.R) ∨ f = ⟨x.R, x.zD, -1⟩ ∨ (x.Place.Based = false ∧ (f = ⟨x.R, x.zD, x.Place.Offset⟩ ∨ ∃ h ∈ l, h.zD = x.zD ∧ h.Offset = x.Place.Offset ∧ ∃ g ∈ l, g.Register = h.Register ∧ f = ⟨x.R, g.zD, g.Offset⟩))
 else if x.Op = 4 then (f ∈ l ∧ f.Register ≠ x.R) ∨ f = ⟨x.R, x.zD, -1⟩
 else if x.Op = 2 ∨ x.Op = 21 then f ∈ l ∧ f.Register ≠ x.R
 else if x.Op = 3 then (f ∈ l ∧ f.Register ≠ x.R) ∨ ∃ g ∈ l, g.Register = x.A ∧ f = ⟨x.R, g.zD, g.Offset⟩
 else if x.Op = 1 ∨ x.Op = 9 ∨ x.Op = 10 then (x.Place.Based = true ∧ f ∈ l ∧ f.Offset = -1) ∨ (x.Place.Based = false ∧ ((f ∈ l ∧ apB x.Place.Offset (szE x.zD) f = false) ∨ (x.Op = 1 ∧ (⟨x.R, x.zD, -1⟩ : zB) ∈ l ∧ f = ⟨x.R, x.zD, x.Place.Offset⟩)))
 else if x.Op = 14 ∨ x.Op = 15 ∨ x.Op = 16 then f ∈ l ∧ apB x.Pointer 16 f = false
 else f ∈ l
theorem zlo {l : List zB} {f : zB} : f ∈ ordD Proofs.Tryz.ltF l ↔ f ∈ l := Proofs.Tryz.mem_ordD _ Proofs.Tryz.ltF_eq f l
theorem ztd {x : zC} {l : List zB} {f : zB} : f ∈ zhe x l ↔ Beh x l f := by
 unfold zhe Beh
 split
 · rw [zlo, z47]
 · split
   · rw [zlo, List.mem_append, zlv, List.mem_singleton]
   · split
     · rw [zlv]
     · split
       · rw [zlo, List.mem_append, zlv, zsy]
       · split
         · rw [zlo, z57]
         · split
           · simp [List.mem_filter]
           · rfl
def zfk (l : List zB) : Prop := l.Pairwise fun a b => Proofs.Tryz.ltF a b = true
theorem znq (l : List zB) : zfk (ordD Proofs.Tryz.ltF l) := Proofs.Tryz.sorted_ordD _ Proofs.Tryz.ltF_swo.2.1 Proofs.Tryz.ltF_eq l
theorem z11 {x : zC} {l : List zB} (h : zfk l) : zfk (zhe x l) := by
 unfold zhe
 split
 · exact znq _
 · split
   · exact znq _
   · split
     · exact List.Pairwise.filter _ h
     · split
       · exact znq _
       · split
         · exact znq _
         · split
           · exact List.Pairwise.filter _ h
           · exact h
variable {m : zI} {c : zF}
theorem z31 {x : zC} (hx : InsX m c x) {l : List zB} (hl : ∀ f ∈ l, FctV m c f) {f : zB} (h : Beh x l f) : FctV m c f := by
 have about : ∀ g ∈ l, (0 ≤ x.R ∧ x.R < m.Registers) → FctV m c ⟨x.R, g.zD, g.Offset⟩ := fun g hg hr => ⟨hr, (hl g hg).ty, (hl g hg).kd, (hl g hg).of⟩
 unfold Beh at h
 split at h
 · rename_i e; rcases h with ⟨h, _⟩ | rfl | ⟨hb, rfl | ⟨_, _, _, _, g, hg, _, rfl⟩⟩
   · exact hl _ h
   · exact ⟨hx.r (.inl e), hx.ty (.inl e), hx.kd (.inl e), .inl rfl⟩
   · exact ⟨hx.r (.inl e), hx.ty (.inl e), hx.kd (.inl e), .inr (hx.pl (.inl e) hb)⟩
   · exact about g hg (hx.r (.inl e))
 · split at h
   · rename_i e; rcases h with ⟨h, _⟩ | rfl
     · exact hl _ h
     · exact ⟨hx.r (by omega), hx.ty (by omega), hx.kd (by omega), .inl rfl⟩
   · split at h
     · exact hl _ h.1
     · split at h
       · rename_i e; rcases h with ⟨h, _⟩ | ⟨g, hg, _, rfl⟩
         · exact hl _ h
         · exact about g hg (hx.r (by omega))
       · split at h
         · rename_i e; rcases h with ⟨_, h, _⟩ | ⟨hb, ⟨h, _⟩ | ⟨e1, _, rfl⟩⟩
           · exact hl _ h
           · exact hl _ h
           · exact ⟨hx.r (by omega), hx.ty (by omega), hx.kd (by omega), .inr (hx.pl (by omega) hb)⟩
         · split at h
           · exact hl _ h.1
           · exact hl _ h
theorem z2g (N : Nat) (hN : 10 < N) (hm : m.Registers ≤ 8) (hs : c.Storage.Bytes.size ≤ 1024) {x : zC} (hx : InsX m c x) {l : List zB} (hf : ∀ f ∈ l, FctV m c f) (h : l.length < N) (hl : l.length ≤ 5000) :
 zgj N x l = some (zhe x l) := by
 have ok : ∀ f ∈ zhe x l, Proofs.Tryz.okF f = true := fun f hf' => z8y hm hs (z31 hx hf (ztd.1 hf'))
 have ht : ∀ f ∈ l, zb5 f.zD = 0 := fun f h => (hf f h).ty
 unfold zgj
 simp only [zci]
 by_cases e0 : x.Op = 0
 · have o2 : zhe x l = ordD Proofs.Tryz.ltF (zrc x l) := by unfold zhe; rw [ifp e0]
   rw [dct e0, ctr, z2b N x l h hl, obs, zq9 (fun f hf' => ok f (by rw [o2, zlo]; exact hf')) ?_, o2]
   · rfl
   · unfold zrc woL; have h1 : (l.filter fun f => !(f.Register == x.R)).length ≤ l.length := List.length_filter_le _ _; have h2 : (l.flatMap (zl7 x l)).length ≤ 5000 * 5000 := by
      have : ∀ k : List zB, k.length ≤ 5000 → (k.flatMap (zl7 x l)).length ≤ k.length * 5000 := by
       intro k
       induction k with
       | nil => intro _; simp
       | cons g k ih =>
        intro hk; have hk' : k.length + 1 ≤ 5000 := by simpa using hk
        have := ih (by omega); have h3 : (zl7 x l g).length ≤ 5000 := by
         unfold zl7; split
         · exact Nat.le_trans (List.length_filterMap_le _ _) hl
         · simp
        rw [List.flatMap_cons, lna, lnc, Nat.succ_mul]; omega
      exact Nat.le_trans (this l hl) (Nat.mul_le_mul_right 5000 hl)
     simp only [lna, lnc, ln0]; split
     · simp; omega
     · simp only [lna, lnc, ln0]; omega
 · rw [dcf e0, cfa]
   by_cases e4 : x.Op = 4
   · have o2 : zhe x l = ordD Proofs.Tryz.ltF (woL x.R l ++ [⟨x.R, x.zD, -1⟩]) := by unfold zhe; rw [ifn e0, ifp e4]
     have h1 : (woL x.R l).length ≤ l.length := List.length_filter_le _ _; rw [dct e4, ctr, zno N l x.R h (by omega), obs]; change cond (Nat.ble (((woL x.R l).length + 1) * 40) zar) ((zmi Proofs.Tryz.ltF Proofs.Tryz.okF (woL x.R l ++ [⟨x.R, x.zD, -1⟩])).bind fun r4 => some r4) none = _; rw [zji (by omega), ctr, zq9 (fun f hf' => ok f (by rw [o2, zlo]; exact hf')) (by simp; omega), o2]; rfl
   · rw [dcf e4, cfa]
     by_cases e2 : x.Op = 2 ∨ x.Op = 21
     · have o2 : zhe x l = woL x.R l := by unfold zhe; rw [ifn e0, ifn e4, ifp e2]
       rw [show cond (decide (x.Op = 2)) (some (decide (x.Op = 2))) (some (decide (x.Op = 21))) = some true by rcases e2 with e | e <;> simp [e], obs, ctr, zno N l x.R h (by omega), o2]; rfl
     · rw [show cond (decide (x.Op = 2)) (some (decide (x.Op = 2))) (some (decide (x.Op = 21))) = some false by rw [not_or] at e2; simp [e2.1, e2.2], obs, cfa]
       by_cases e3 : x.Op = 3
       · have o2 : zhe x l = ordD Proofs.Tryz.ltF (woL x.R l ++ l.filterMap (zil x.A x.R)) := by unfold zhe; rw [ifn e0, ifn e4, ifn e2, ifp e3]
         have h1 : (woL x.R l).length ≤ l.length := List.length_filter_le _ _; have h2 : (l.filterMap (zil x.A x.R)).length ≤ l.length := List.length_filterMap_le _ _; rw [dct e3, ctr, zno N l x.R h (by omega), obs, zxo N l x.A x.R h (by omega), obs]; change cond (Nat.ble (((woL x.R l).length + (l.filterMap (zil x.A x.R)).length) * 40) zar) ((zmi Proofs.Tryz.ltF Proofs.Tryz.okF (woL x.R l ++ l.filterMap (zil x.A x.R))).bind fun r9 => some r9) none = _; rw [zji (by omega), ctr, zq9 (fun f hf' => ok f (by rw [o2, zlo]; exact hf')) (by rw [lna]; omega), o2]; rfl
       · rw [dcf e3, cfa]
         by_cases e1 : x.Op = 1 ∨ x.Op = 9 ∨ x.Op = 10
         · have o2 : zhe x l = ordD Proofs.Tryz.ltF (zty x l) := by unfold zhe; rw [ifn e0, ifn e4, ifn e2, ifn e3, ifp e1]
           rw [show cond (decide (x.Op = 1)) (some (decide (x.Op = 1))) (cond (decide (x.Op = 9)) (some (decide (x.Op = 9))) (some (decide (x.Op = 10)))) = some true by rcases e1 with e | e | e <;> simp [e], obs, ctr,
            z0u N hN x l (hx.ty (by omega)) ht h hl, obs, zq9 (fun f hf' => ok f (by rw [o2, zlo]; exact hf')) ?_, o2]
           · rfl
           · unfold zty; split
             · exact Nat.le_trans (List.length_filter_le _ _) (by omega)
             · rw [lna]; have h1 : (l.filter fun f => !apB x.Place.Offset (szE x.zD) f).length ≤ l.length := List.length_filter_le _ _; split <;> simp <;> omega
         · rw [show cond (decide (x.Op = 1)) (some (decide (x.Op = 1))) (cond (decide (x.Op = 9)) (some (decide (x.Op = 9))) (some (decide (x.Op = 10)))) = some false by rw [not_or, not_or] at e1; simp [e1.1, e1.2.1, e1.2.2], obs, cfa]
           by_cases e5 : x.Op = 14 ∨ x.Op = 15 ∨ x.Op = 16
           · have o2 : zhe x l = l.filter fun f => !apB x.Pointer 16 f := by unfold zhe; rw [ifn e0, ifn e4, ifn e2, ifn e3, ifn e1, ifp e5]
             rw [show cond (decide (x.Op = 14)) (some (decide (x.Op = 14))) (cond (decide (x.Op = 15)) (some (decide (x.Op = 15))) (some (decide (x.Op = 16)))) = some true by rcases e5 with e | e | e <;> simp [e], obs, ctr,
              zxn N hN l _ _ ht h (by omega), o2]
             rfl
           · have o2 : zhe x l = l := by unfold zhe; rw [ifn e0, ifn e4, ifn e2, ifn e3, ifn e1, ifn e5]
             rw [show cond (decide (x.Op = 14)) (some (decide (x.Op = 14))) (cond (decide (x.Op = 15)) (some (decide (x.Op = 15))) (some (decide (x.Op = 16)))) = some false by rw [not_or, not_or] at e5; simp [e5.1, e5.2.1, e5.2.2], obs, cfa, o2]
theorem z5m {α R σ : Type} {f : σ → Option (Round R σ)} (l : List α) (p : α → Bool) (v : R) (S : Nat → σ) (hstep : ∀ i x, l[i]? = some x → f (S i) = some (cond (p x) (.result v) (.again (S (i + 1)))))
 (hl : f (S l.length) = some (.leave (S l.length))) {N : Nat} (hN : l.length < N) : zj f N (S 0) = some (if l.any p = true then .inl v else .inr (S l.length)) := by
 have := zbm (f := f) S (fun i => (l[i]?).bind fun x => if p x = true then some v else none) l.length (fun i hi => by
  have hx := lge hi; rw [hstep i _ hx]; simp only [hx, obs]; cases hb : p l[i] <;> simp) hl hN
 rw [this]
 congr 1
 rw [zi3]
 cases hf : l.findSome? (fun x => if p x = true then some v else none) with
 | none =>
  rw [List.findSome?_eq_none_iff] at hf; have hno : ¬ l.any p = true := by
   rw [List.any_eq_true]
   rintro ⟨x, hx, h⟩
   have := hf x hx; rw [ifp h] at this; cases this
  rw [ifn hno]
 | some r =>
  obtain ⟨x, hx, h⟩ := eof hf; split at h
  · rename_i e; cases h; rw [ifp (List.any_eq_true.2 ⟨x, hx, e⟩)]
  · cases h
theorem z5z {α β σ : Type} {f : σ → Option (Stp σ)} (l : List α) (g : β → α → β) (I : Nat → β → Prop) (S : Nat → β → σ) (a0 : β) (h0 : I 0 a0)
 (hstep : ∀ i x acc, l[i]? = some x → I i acc → f (S i acc) = some (.again (S (i + 1) (g acc x))) ∧ I (i + 1) (g acc x))
 (hl : ∀ acc, f (S l.length acc) = some (.leave (S l.length acc))) {N : Nat} (hN : l.length < N) : zf f N (S 0 a0) = some (S l.length (l.foldl g a0)) ∧ I l.length (l.foldl g a0) := by
 have e0 : ∀ i, i ≤ l.length → I i ((l.take i).foldl g a0) := by
  intro i
  induction i with
  | zero => intro _; simpa using h0
  | succ i ih =>
   intro hi; have hx := lge (show i < l.length by omega); rw [List.take_add_one, hx, List.foldl_append]; exact (hstep i _ _ hx (ih (by omega))).2
 have := zdj (f := f) (fun i => S i ((l.take i).foldl g a0)) l.length (fun i hi => by
  have hx := lge hi; rw [(hstep i _ _ hx (e0 i (by omega))).1, List.take_add_one, hx, List.foldl_append]; rfl) (hl _) hN
 have h1 := e0 l.length (Nat.le_refl _)
 rw [List.take_length] at h1
 exact ⟨by simpa using this, h1⟩
theorem zp4 (N : Nat) (l : List zB) (x : zB) (h : l.length < N) (hl : l.length < 1000000000) : zb7 N l x = some (zea l x) := by
 unfold zb7
 have := z5m (f := zb7.r0 N) l (zj3 x) true (fun i => (l, (i : Int), x)) (fun i y hy => by
  have hi := (gei hy).1; simp only [zb7.r0, zb7.b0, zac, hy, obs, dct (show (i : Int) < (l.length : Int) by omega), ctr, zwz]; rw [w6e, z1u]; cases zj3 x y <;> simp)
  (by simp only [zb7.r0, zb7.b0, dcf (show ¬ (l.length : Int) < (l.length : Int) by omega), cfa]) h
 simp only [nc0] at this
 rw [this]
 unfold zea
 cases hb : l.any (zj3 x) <;> simp [zax]
theorem z6v (N : Nat) (hN : 5 < N) (a b : zB) : zb1 N a b = some (Proofs.Tryz.ltF a b) := by
 unfold zb1
 have := zbm (f := zb1.r0 N) (fun i => (([a.Register, a.Offset, a.zD.Kind, a.zD.Length, a.zD.Scale] : List Int), ([b.Register, b.Offset, b.zD.Kind, b.zD.Length, b.zD.Scale] : List Int), (i : Int)))
  (fun i => if ([a.Register, a.Offset, a.zD.Kind, a.zD.Length, a.zD.Scale] : List Int).getD i 0 = ([b.Register, b.Offset, b.zD.Kind, b.zD.Length, b.zD.Scale] : List Int).getD i 0 then none else some (decide (([a.Register, a.Offset, a.zD.Kind, a.zD.Length, a.zD.Scale] : List Int).getD i 0 < ([b.Register, b.Offset, b.zD.Kind, b.zD.Length, b.zD.Scale] : List Int).getD i 0))) 5 (fun i hi => by
   simp only [zb1.r0, zb1.b0]
   match i, hi with
   | 0, _ => simp [zdz]; by_cases e : a.Register = b.Register <;> simp [e, w6e]
   | 1, _ => simp [zdz]; by_cases e : a.Offset = b.Offset <;> simp [e, w6e]
   | 2, _ => simp [zdz]; by_cases e : a.zD.Kind = b.zD.Kind <;> simp [e, w6e]
   | 3, _ => simp [zdz]; by_cases e : a.zD.Length = b.zD.Length <;> simp [e, w6e]
   | 4, _ => simp [zdz]; by_cases e : a.zD.Scale = b.zD.Scale <;> simp [e, w6e]) (by simp [zb1.r0, zb1.b0]) hN
 simp only [nc0] at this
 rw [this]
 simp only [obs]
 have e5 : List.range 5 = [0, 1, 2, 3, 4] := by decide
 rw [e5]
 unfold Proofs.Tryz.ltF
 by_cases h1 : a.Register = b.Register
 · by_cases h2 : a.Offset = b.Offset
   · by_cases h3 : a.zD.Kind = b.zD.Kind
     · by_cases h4 : a.zD.Length = b.zD.Length
       · by_cases h5 : a.zD.Scale = b.zD.Scale <;> simp [List.findSome?, h1, h2, h3, h4, h5, zax]
       · simp [List.findSome?, h1, h2, h3, h4, zax]
     · simp [List.findSome?, h1, h2, h3, zax]
   · simp [List.findSome?, h1, h2, zax]
 · simp [List.findSome?, h1, zax]
def zh7 (f : zB) : List zB → List zB
 | [] => [f]
 | y :: l => cond (Proofs.Tryz.ltF f y) (f :: y :: l) (y :: zh7 f l)
def zjx (l : List zB) (f : zB) : List zB := cond (zea l f) l (zh7 f l)
theorem zum {f g : zB} : ∀ {l : List zB}, g ∈ zh7 f l ↔ g = f ∨ g ∈ l
 | [] => by simp [zh7]
 | y :: l => by
  rw [zh7]; cases Proofs.Tryz.ltF f y with
  | true => simp
  | false => simp only [cfa, List.mem_cons, zum (l := l)]; constructor <;> (rintro (h | h | h) <;> simp [h])
theorem zn0 {l : List zB} {f g : zB} : g ∈ zjx l f ↔ g = f ∨ g ∈ l := by
 unfold zjx
 cases h : zea l f with
 | true =>
  have := ze7.1 h; simp only [ctr]; constructor
  · exact .inr
  · rintro (rfl | h)
    · exact this
    · exact h
 | false => rw [cfa, zum]
theorem zun {f : zB} : ∀ {l : List zB}, (zh7 f l).length = l.length + 1
 | [] => rfl
 | y :: l => by
  rw [zh7]; cases Proofs.Tryz.ltF f y with
  | true => rfl
  | false => simp only [cfa, lnc, zun (l := l)]
theorem zmr {l : List zB} {f : zB} : (zjx l f).length ≤ l.length + 1 := by
 unfold zjx
 cases zea l f with
 | true => simp
 | false => rw [cfa, zun]; exact Nat.le_refl _
theorem zts {f : zB} : ∀ {l : List zB}, zfk l → f ∉ l → zfk (zh7 f l)
 | [], _, _ => by simp [zh7, zfk]
 | y :: l, h, hf => by
  obtain ⟨h1, h2⟩ := List.pairwise_cons.1 h; rw [zh7]; cases hlt : Proofs.Tryz.ltF f y with
  | true =>
   refine List.pairwise_cons.2 ⟨fun z hz => ?_, h⟩; rcases List.mem_cons.1 hz with rfl | hz
   · exact hlt
   · exact Proofs.Tryz.ltF_swo.2.1 _ _ _ hlt (h1 z hz)
  | false =>
   have hyf : Proofs.Tryz.ltF y f = true := by
    cases hyf : Proofs.Tryz.ltF y f with
    | true => rfl
    | false => exact absurd (Proofs.Tryz.ltF_eq _ _ hlt hyf) (fun e => hf (by rw [e]; simp))
   refine List.pairwise_cons.2 ⟨fun z hz => ?_, zts h2 (fun h => hf (by simp [h]))⟩; rcases zum.1 hz with rfl | hz
   · exact hyf
   · exact h1 z hz
theorem zkm {l : List zB} {f : zB} (h : zfk l) : zfk (zjx l f) := by
 unfold zjx
 cases hb : zea l f with
 | true => exact h
 | false => exact zts h (fun hf => by rw [ze7.2 hf] at hb; cases hb)
theorem zp3 (N : Nat) (hN : 5 < N) (l : List zB) (f : zB) (h : l.length < N) (hl : l.length ≤ 100000) : zcs N l f = some (zjx l f) := by
 unfold zcs zjx
 rw [zp4 N l f h (by omega), obs]
 cases zea l f with
 | true => rfl
 | false =>
  simp only [cfa]; have spl : ∀ k : List zB, zh7 f k = cond (k.any (Proofs.Tryz.ltF f)) (zh7 f k) (k ++ [f]) := by
   intro k
   induction k with
   | nil => rfl
   | cons y k ih =>
    rw [List.any_cons]; cases hlt : Proofs.Tryz.ltF f y with
    | true => simp
    | false =>
     simp only [Bool.false_or, zh7, hlt, cfa]; rw [ih]; cases k.any (Proofs.Tryz.ltF f) <;> simp
  have snoc : ∀ (k : List zB) y, k.any (Proofs.Tryz.ltF f) = true → zh7 f (k ++ [y]) = zh7 f k ++ [y] := by
   intro k y
   induction k with
   | nil => intro h; simp at h
   | cons z k ih =>
    intro h; rw [List.cons_append, zh7, zh7]; cases hlt : Proofs.Tryz.ltF f z with
    | true => simp
    | false =>
     rw [List.any_cons, hlt, Bool.false_or] at h; simp only [cfa, ih h, List.cons_append]
  have snoc2 : ∀ (k : List zB) y, k.any (Proofs.Tryz.ltF f) = false → Proofs.Tryz.ltF f y = true → zh7 f (k ++ [y]) = k ++ [f] ++ [y] := by
   intro k y
   induction k with
   | nil => intro _ h; simp [zh7, h]
   | cons z k ih =>
    intro h hy; rw [List.any_cons, Bool.or_eq_false_iff] at h; rw [List.cons_append, zh7, h.1, cfa, ih h.2 hy]; simp
  have := zdj (f := zcs.r0 N) (fun i => (l, cond ((l.take i).any (Proofs.Tryz.ltF f)) (zh7 f (l.take i)) (l.take i), (l.take i).any (Proofs.Tryz.ltF f), (i : Int), f)) l.length (fun i hi => by
   have hx := lge hi; have htl : (l.take i).length = i := by simp; omega
   have hlen : (cond ((l.take i).any (Proofs.Tryz.ltF f)) (zh7 f (l.take i)) (l.take i)).length ≤ i + 1 := by
    cases (l.take i).any (Proofs.Tryz.ltF f) with
    | true => rw [ctr, zun, htl]; exact Nat.le_refl _
    | false => rw [cfa, htl]; omega
   simp only [zcs.r0, zcs.b0, zac, hx, obs, dct (show (i : Int) < (l.length : Int) by omega), ctr, z6v N hN, lna, lnc, ln0]; rw [w6e, zji (by omega), zji (by omega)]; rw [List.take_add_one, hx, Option.toList_some, List.any_append, List.any_cons, List.any_nil, Bool.or_false]; generalize l[i] = y; cases ha : (l.take i).any (Proofs.Tryz.ltF f) with
   | true => simp [snoc _ _ ha]
   | false =>
    cases hb : Proofs.Tryz.ltF f y with
    | true => simp [snoc2 _ _ ha hb]
    | false => simp)
   (by simp only [zcs.r0, zcs.b0, dcf (show ¬ (l.length : Int) < (l.length : Int) by omega), cfa]) h
  simp only [nc0, List.take_zero, List.any_nil, cfa, List.take_length] at this; rw [this]; simp only [obs]; rw [spl l]; cases ha : l.any (Proofs.Tryz.ltF f) with
  | true => simp
  | false => simp [zji (show l.length + 1 ≤ 1000000000 by omega)]
theorem z08 (N : Nat) (l : List zB) (r : Int) (h : l.length < N) (hl : l.length ≤ 100000) : zcb N l r = some (woL r l) := by
 unfold zcb
 have := zsr (f := zcb.r0 N) l (fun f => if f.Register = r then none else some f) (fun i acc => (l, r, acc, (i : Int))) (fun i x acc hx hacc => by
  have hi := (gei hx).1; simp only [zcb.r0, zcb.b0, zac, hx, obs, dct (show (i : Int) < (l.length : Int) by omega), ctr, lnc, ln0, zji (show acc.length + (0 + 1) ≤ 1000000000 by omega)]; rw [w6e, zdz]
  by_cases e : x.Register = r <;> simp [e])
  (fun acc => by simp only [zcb.r0, zcb.b0, dcf (show ¬ (l.length : Int) < (l.length : Int) by omega), cfa]) h
 simp only [nc0] at this
 rw [this]
 simp only [obs]
 congr 1
 unfold woL
 rw [← List.filterMap_eq_filter]
 congr 1
 funext f
 by_cases e : f.Register = r <;> simp [Option.guard, e]
theorem z4o (N : Nat) (l : List zB) (h : l.length < N) (hl : l.length ≤ 100000) : zcc N l = some (l.filter fun f => f.Offset == -1) := by
 unfold zcc
 have := zsr (f := zcc.r0 N) l (fun f => if f.Offset = -1 then some f else none) (fun i acc => (l, acc, (i : Int))) (fun i x acc hx hacc => by
  have hi := (gei hx).1; simp only [zcc.r0, zcc.b0, zac, hx, obs, dct (show (i : Int) < (l.length : Int) by omega), ctr, lnc, ln0, zji (show acc.length + (0 + 1) ≤ 1000000000 by omega)]; rw [w6e, zci]
  by_cases e : x.Offset = -1 <;> simp [e])
  (fun acc => by simp only [zcc.r0, zcc.b0, dcf (show ¬ (l.length : Int) < (l.length : Int) by omega), cfa]) h
 simp only [nc0] at this
 rw [this]
 simp only [obs]
 congr 1
 rw [← List.filterMap_eq_filter]
 congr 1
 funext f
 by_cases e : f.Offset = -1 <;> simp [Option.guard, e]
theorem zx2 (N : Nat) (l : List zB) (a b : Int) (ht : ∀ x ∈ l, zb5 x.zD = 0) (h : l.length < N) (hl : l.length ≤ 100000) : zct N l a b = some (l.filter fun f => !apB a b f) := by
 unfold zct
 have := zsr (f := zct.r0 N) l (fun f => if apB a b f = true then none else some f) (fun i acc => (l, a, b, acc, (i : Int))) (fun i x acc hx hacc => by
  have hi := (gei hx).1; simp only [zct.r0, zct.b0, zac, hx, obs, dct (show (i : Int) < (l.length : Int) by omega), ctr, lnc, ln0, zji (show acc.length + (0 + 1) ≤ 1000000000 by omega), znz (ht x (lmg hx))]; rw [w6e (n := (i : Int) + 1), zci, orB, obs, orB, obs]; have e : (decide (x.Offset = -1) || decide (w6 (x.Offset + szE x.zD) ≤ a) || decide (w6 (a + b) ≤ x.Offset)) = !apB a b x := by
   unfold apB; rw [zdz]
   by_cases e1 : x.Offset = -1 <;> by_cases e2 : w6 (x.Offset + szE x.zD) ≤ a <;> by_cases e3 : w6 (a + b) ≤ x.Offset <;> simp [e1, e2, e3, Int.not_le.1] <;> omega
  rw [e]; cases apB a b x <;> simp)
  (fun acc => by simp only [zct.r0, zct.b0, dcf (show ¬ (l.length : Int) < (l.length : Int) by omega), cfa]) h
 simp only [nc0] at this
 rw [this]
 simp only [obs]
 congr 1
 rw [← List.filterMap_eq_filter]
 congr 1
 funext f
 cases e : apB a b f <;> simp [Option.guard, e]
variable {m : zI} {c : zF}
theorem zug {α : Type} (q : α → Option zB) : ∀ (l : List α) (a : List zB) {f : zB}, f ∈ l.foldl (fun acc x => match q x with | some g => zjx acc g | none => acc) a ↔ f ∈ a ∨ ∃ x ∈ l, q x = some f
 | [], a, f => by simp
 | x :: l, a, f => by
  rw [List.foldl_cons, zug q l]; cases hq : q x with
  | none =>
   constructor
   · rintro (h | ⟨y, hy, h⟩)
     · exact .inl h
     · exact .inr ⟨y, by simp [hy], h⟩
   · rintro (h | ⟨y, hy, h⟩)
     · exact .inl h
     · rcases List.mem_cons.1 hy with rfl | hy
       · rw [hq] at h; cases h
       · exact .inr ⟨y, hy, h⟩
  | some g =>
   simp only [zn0]; constructor
   · rintro ((rfl | h) | ⟨y, hy, h⟩)
     · exact .inr ⟨x, by simp, hq⟩
     · exact .inl h
     · exact .inr ⟨y, by simp [hy], h⟩
   · rintro (h | ⟨y, hy, h⟩)
     · exact .inl (.inr h)
     · rcases List.mem_cons.1 hy with rfl | hy
       · rw [hq] at h; cases h; exact .inl (.inl rfl)
       · exact .inr ⟨y, hy, h⟩
theorem zpn {α : Type} (q : α → Option zB) : ∀ (l : List α) {a : List zB}, zfk a → zfk (l.foldl (fun acc x => match q x with | some g => zjx acc g | none => acc) a)
 | [], a, h => h
 | x :: l, a, h => by
  rw [List.foldl_cons]; refine zpn q l ?_; cases q x with
  | none => exact h
  | some g => exact zkm h
theorem zuh {α : Type} (q : α → Option zB) : ∀ (l : List α) (a : List zB), (l.foldl (fun acc x => match q x with | some g => zjx acc g | none => acc) a).length ≤ a.length + l.length
 | [], a => by simp
 | x :: l, a => by
  rw [List.foldl_cons]; refine Nat.le_trans (zuh q l _) ?_; cases q x with
  | none => simp only [lnc]; omega
  | some g => have := zmr (l := a) (f := g); simp only [lnc]; omega
def zwb (x : zC) (l : List zB) (g : zB) : Option zB := cond (zea l ⟨g.Register, x.zD, x.Place.Offset⟩) (some ⟨x.R, g.zD, g.Offset⟩) none
theorem z6z (N : Nat) (hN : 20000 < N) (x : zC) (l a : List zB) (h : l.length ≤ 5000) (ha : a.length ≤ 6000) :
 zf (zap.r1 N) N (l, a, 0, x) = some (l, l.foldl (fun acc y => match zwb x l y with | some g => zjx acc g | none => acc) a, (l.length : Int), x) := by
 have := (z5z (f := zap.r1 N) l (fun acc y => match zwb x l y with | some g => zjx acc g | none => acc) (fun i acc => acc.length ≤ 6000 + i) (fun i acc => (l, acc, (i : Int), x)) a (by omega) (fun i y acc hy hacc => by
  have hi := (gei hy).1; simp only [zap.r1, zap.b1, zac, hy, obs, dct (show (i : Int) < (l.length : Int) by omega), ctr, zp4 N l _ (show l.length < N by omega) (by omega), zp3 N (by omega) acc _ (show acc.length < N by omega) (by omega)]; rw [w6e]; unfold zwb; cases zea l ⟨y.Register, x.zD, x.Place.Offset⟩ with
  | true => exact ⟨rfl, by have := zmr (l := acc) (f := ⟨x.R, y.zD, y.Offset⟩); simp only [ctr]; omega⟩
  | false => exact ⟨rfl, by simp only [cfa]; omega⟩)
  (fun acc => by simp only [zap.r1, zap.b1, dcf (show ¬ (l.length : Int) < (l.length : Int) by omega), cfa]) (show l.length < N by omega)).1
 simpa using this
def zwa (x : zC) (g : zB) : Option zB := cond (decide (g.Register = x.A)) (some ⟨x.R, g.zD, g.Offset⟩) none
theorem z6y (N : Nat) (hN : 20000 < N) (x : zC) (l a : List zB) (h : l.length ≤ 5000) (ha : a.length ≤ 6000) :
 zf (zap.r3 N) N (l, a, 0, x) = some (l, l.foldl (fun acc y => match zwa x y with | some g => zjx acc g | none => acc) a, (l.length : Int), x) := by
 have := (z5z (f := zap.r3 N) l (fun acc y => match zwa x y with | some g => zjx acc g | none => acc) (fun i acc => acc.length ≤ 6000 + i) (fun i acc => (l, acc, (i : Int), x)) a (by omega) (fun i y acc hy hacc => by
  have hi := (gei hy).1; simp only [zap.r3, zap.b3, zac, hy, obs, dct (show (i : Int) < (l.length : Int) by omega), ctr, zp3 N (by omega) acc _ (show acc.length < N by omega) (by omega), zci]; rw [w6e]; unfold zwa
  by_cases e : y.Register = x.A
  · rw [dct e]; exact ⟨rfl, by have := zmr (l := acc) (f := ⟨x.R, y.zD, y.Offset⟩); simp only [ctr]; omega⟩
  · rw [dcf e]; exact ⟨rfl, by simp only [cfa]; omega⟩)
  (fun acc => by simp only [zap.r3, zap.b3, dcf (show ¬ (l.length : Int) < (l.length : Int) by omega), cfa]) (show l.length < N by omega)).1
 simpa using this
theorem zwr (N : Nat) (hN : 20000 < N) {x : zC} (hx : InsX m c x) {l : List zB} (hf : ∀ f ∈ l, FctV m c f) (hl : l.length ≤ 5000) :
 ∃ ys, zap N x l = some ys ∧ (∀ f, f ∈ ys ↔ Beh x l f) ∧ (zfk l → zfk ys) ∧ ys.length ≤ 20000 := by
 have ht : ∀ f ∈ l, zb5 f.zD = 0 := fun f h => (hf f h).ty
 have hw : (woL x.R l).length ≤ l.length := List.length_filter_le _ _
 have sw : zfk l → zfk (woL x.R l) := fun h => List.Pairwise.filter _ h
 unfold zap
 rw [z08 N l x.R (by omega) (by omega), z4o N l (by omega) (by omega)]
 simp only [obs, zci]
 by_cases e0 : x.Op = 0
 · rw [dct e0, ctr, zp3 N (by omega) _ _ (by omega) (by omega), obs]; have hl2 : (zjx (woL x.R l) ⟨x.R, x.zD, -1⟩).length ≤ l.length + 1 := Nat.le_trans zmr (by omega); cases hb : x.Place.Based with
   | true =>
    refine ⟨_, rfl, fun f => ?_, fun h => zkm (sw h), by omega⟩; unfold Beh; rw [ifp e0, zn0, zlv, hb]; simp [or_comm]
   | false =>
    rw [cfa, zp3 N (by omega) _ _ (by omega) (by omega), obs]; have hl3 : (zjx (zjx (woL x.R l) ⟨x.R, x.zD, -1⟩) ⟨x.R, x.zD, x.Place.Offset⟩).length ≤ l.length + 2 := Nat.le_trans zmr (by omega); rw [z6z N hN x l _ hl (by omega)]; refine ⟨_, rfl, fun f => ?_, fun h => zpn _ _ (zkm (zkm (sw h))), Nat.le_trans (zuh _ _ _) (by omega)⟩; unfold Beh; rw [ifp e0, zug, zn0, zn0, zlv, hb]; have : (∃ y ∈ l, zwb x l y = some f) ↔ ∃ h ∈ l, h.zD = x.zD ∧ h.Offset = x.Place.Offset ∧ ∃ g ∈ l, g.Register = h.Register ∧ f = ⟨x.R, g.zD, g.Offset⟩ := by
     constructor
     · rintro ⟨y, hy, h⟩
       unfold zwb at h; cases hh : zea l ⟨y.Register, x.zD, x.Place.Offset⟩ with
       | true =>
        rw [hh] at h; cases h; exact ⟨_, ze7.1 hh, rfl, rfl, y, hy, rfl, rfl⟩
       | false => rw [hh] at h; cases h
     · rintro ⟨h, hh, e1, e2, g, hg, e3, rfl⟩
       refine ⟨g, hg, ?_⟩; unfold zwb; have : zea l ⟨g.Register, x.zD, x.Place.Offset⟩ = true := by rw [ze7, e3, ← e1, ← e2]; exact hh
       rw [this]; rfl
    rw [this]; constructor
    · rintro ((h | h | h) | h)
      · exact .inr (.inr ⟨rfl, .inl h⟩)
      · exact .inr (.inl h)
      · exact .inl h
      · exact .inr (.inr ⟨rfl, .inr h⟩)
    · rintro (h | h | ⟨_, h | h⟩)
      · exact .inl (.inr (.inr h))
      · exact .inl (.inr (.inl h))
      · exact .inl (.inl h)
      · exact .inr h
 · rw [dcf e0, cfa]
   by_cases e4 : x.Op = 4
   · rw [dct e4, ctr, zp3 N (by omega) _ _ (by omega) (by omega), obs]; refine ⟨_, rfl, fun f => ?_, fun h => zkm (sw h), Nat.le_trans zmr (by omega)⟩; unfold Beh; rw [ifn e0, ifp e4, zn0, zlv, or_comm]
   · rw [dcf e4, cfa]
     by_cases e2 : x.Op = 2 ∨ x.Op = 21
     · rw [show cond (decide (x.Op = 2)) (some (decide (x.Op = 2))) (some (decide (x.Op = 21))) = some true by rcases e2 with e | e <;> simp [e], obs, ctr]; refine ⟨_, rfl, fun f => ?_, sw, by omega⟩; unfold Beh; rw [ifn e0, ifn e4, ifp e2, zlv]
     · rw [show cond (decide (x.Op = 2)) (some (decide (x.Op = 2))) (some (decide (x.Op = 21))) = some false by rw [not_or] at e2; simp [e2.1, e2.2], obs, cfa]
       by_cases e3 : x.Op = 3
       · rw [dct e3, ctr]
         by_cases ea : x.A = x.R
         · rw [dct ea, ctr]; refine ⟨_, rfl, fun f => ?_, id, by omega⟩; unfold Beh; rw [ifn e0, ifn e4, ifn e2, ifp e3, ea]; constructor
           · intro h
             by_cases er : f.Register = x.R
             · exact .inr ⟨f, h, er, by obtain ⟨r, t, o⟩ := f; subst er; rfl⟩
             · exact .inl ⟨h, er⟩
           · rintro (h | ⟨g, hg, er, rfl⟩)
             · exact h.1
             · obtain ⟨r, t, o⟩ := g; subst er; exact hg
         · rw [dcf ea, cfa, z6y N hN x l _ hl (by omega)]; refine ⟨_, rfl, fun f => ?_, fun h => zpn _ _ (sw h), Nat.le_trans (zuh _ _ _) (by omega)⟩; unfold Beh; rw [ifn e0, ifn e4, ifn e2, ifp e3, zug, zlv]; have : (∃ y ∈ l, zwa x y = some f) ↔ ∃ g ∈ l, g.Register = x.A ∧ f = ⟨x.R, g.zD, g.Offset⟩ := by
            constructor
            · rintro ⟨y, hy, h⟩
              unfold zwa at h
              by_cases e : y.Register = x.A
              · rw [dct e] at h; cases h; exact ⟨y, hy, e, rfl⟩
              · rw [dcf e] at h; cases h
            · rintro ⟨g, hg, e, rfl⟩
              exact ⟨g, hg, by unfold zwa; rw [dct e]; rfl⟩
           rw [this]
       · rw [dcf e3, cfa]
         by_cases e1 : x.Op = 1 ∨ x.Op = 9 ∨ x.Op = 10
         · rw [show cond (decide (x.Op = 1)) (some (decide (x.Op = 1))) (cond (decide (x.Op = 9)) (some (decide (x.Op = 9))) (some (decide (x.Op = 10)))) = some true by rcases e1 with e | e | e <;> simp [e], obs, ctr]; cases hb : x.Place.Based with
           | true =>
            refine ⟨_, rfl, fun f => ?_, fun h => List.Pairwise.filter _ h, Nat.le_trans (List.length_filter_le _ _) (by omega)⟩; unfold Beh; rw [ifn e0, ifn e4, ifn e2, ifn e3, ifp e1, hb]; simp [List.mem_filter]
           | false =>
            have hla : (l.filter fun f => !apB x.Place.Offset (szE x.zD) f).length ≤ l.length := List.length_filter_le _ _; rw [cfa, znz (hx.ty (by omega)), obs, zx2 N l _ _ ht (by omega) (by omega), obs, zp4 N l _ (by omega) (by omega)]; simp only [obs, zgu]; rw [zp3 N (by omega) _ _ (by omega) (by omega)]; cases hc : (decide (x.Op = 1) && zea l ⟨x.R, x.zD, -1⟩) with
            | true =>
             refine ⟨_, rfl, fun f => ?_, fun h => zkm (List.Pairwise.filter _ h), Nat.le_trans zmr (by omega)⟩; rw [Bool.and_eq_true, decide_eq_true_eq, ze7] at hc; unfold Beh; rw [ifn e0, ifn e4, ifn e2, ifn e3, ifp e1, hb, zn0]; simp [List.mem_filter, hc.1, hc.2, or_comm]
            | false =>
             refine ⟨_, rfl, fun f => ?_, fun h => List.Pairwise.filter _ h, Nat.le_trans (List.length_filter_le _ _) (by omega)⟩; unfold Beh; rw [ifn e0, ifn e4, ifn e2, ifn e3, ifp e1, hb]; have hno : ¬ (x.Op = 1 ∧ (⟨x.R, x.zD, -1⟩ : zB) ∈ l) := by
              rintro ⟨a, b⟩
              rw [dct a, ze7.2 b] at hc; cases hc
             simp only [List.mem_filter, Bool.not_eq_true', Bool.false_eq_true, false_and, false_or, true_and]; constructor
             · exact .inl
             · rintro (h | ⟨a, b, _⟩)
               · exact h
               · exact absurd ⟨a, b⟩ hno
         · rw [show cond (decide (x.Op = 1)) (some (decide (x.Op = 1))) (cond (decide (x.Op = 9)) (some (decide (x.Op = 9))) (some (decide (x.Op = 10)))) = some false by rw [not_or, not_or] at e1; simp [e1.1, e1.2.1, e1.2.2], obs, cfa]
           by_cases e5 : x.Op = 14 ∨ x.Op = 15 ∨ x.Op = 16
           · rw [show cond (decide (x.Op = 14)) (some (decide (x.Op = 14))) (cond (decide (x.Op = 15)) (some (decide (x.Op = 15))) (some (decide (x.Op = 16)))) = some true by rcases e5 with e | e | e <;> simp [e], obs, ctr,
              zx2 N l _ _ ht (by omega) (by omega)]
             refine ⟨_, rfl, fun f => ?_, fun h => List.Pairwise.filter _ h, Nat.le_trans (List.length_filter_le _ _) (by omega)⟩; unfold Beh; rw [ifn e0, ifn e4, ifn e2, ifn e3, ifn e1, ifp e5]; simp [List.mem_filter]
           · rw [show cond (decide (x.Op = 14)) (some (decide (x.Op = 14))) (cond (decide (x.Op = 15)) (some (decide (x.Op = 15))) (some (decide (x.Op = 16)))) = some false by rw [not_or, not_or] at e5; simp [e5.1, e5.2.1, e5.2.2], obs, cfa]; refine ⟨_, rfl, fun f => ?_, id, by omega⟩; unfold Beh; rw [ifn e0, ifn e4, ifn e2, ifn e3, ifn e1, ifn e5]
theorem zke {n : Nat} (f : Nat → Bool) {k : Nat} (v : Bool) : ((List.range n).map f).set k v = (List.range n).map fun i => if i = k then v else f i := by
 apply List.ext_getElem?
 intro i
 rw [List.getElem?_set, List.getElem?_map, List.getElem?_map, lnm, List.length_range]
 by_cases hi : i < n
 · rw [List.getElem?_range hi]
   by_cases e : k = i
   · subst e; simp [hi]
   · simp [e, Ne.symm e]
 · rw [List.getElem?_eq_none (by simpa using hi)]
   by_cases e : k = i
   · subst e; simp [hi]
   · simp [e]
theorem zcp {n : Nat} (f : Nat → Bool) {k : Nat} (h : k < n) : ((List.range n).map f)[k]? = some (f k) := by
 rw [List.getElem?_map, List.getElem?_range h]
 rfl
theorem zoe (n : Nat) : List.replicate n false = (List.range n).map fun _ => false := by
 apply List.ext_getElem
 · simp
 · intro i h1 h2; simp
def zrm (c : zF) (k : Nat) : Bool := decide (k = 0) || c.zP.any fun t => decide (t.Handler = (k : Int))
def zwf (c : zF) (k : Nat) : Bool := match k with | 0 => false | j + 1 => (c.zA[j]?).any fun x => decide (x.Op = 18)
theorem zsq (c : zF) (j : Nat) : zwf c (j + 1) = (c.zA[j]?).any fun x => decide (x.Op = 18) := rfl
def zgt (c : zF) (k : Nat) : Bool := zrm c k || zwf c k
def zbx (c : zF) : List Bool := (List.range c.zA.length).map (zgt c)
structure CdV (m : zI) (c : zF) : Prop where
 m1 : 2 ≤ m.Registers
 m2 : m.Registers ≤ 8
 sz : c.Storage.Bytes.size ≤ 1024
 len : c.zA.length ≤ 240
 pos : 0 < c.zA.length
 traps : c.zP.length ≤ 1048576
 ins : ∀ x ∈ c.zA, InsX m c x
 trap : ∀ t ∈ c.zP, 0 ≤ t.Handler ∧ t.Handler < (c.zA.length : Int)
variable {m : zI} {c : zF}
theorem z6e (N : Nat) (hN : 1048600 < N) (hc : CdV m c) : zf (zae.r0 N) N (((List.range c.zA.length).map fun k => decide (k = 0)), c.zP, (c.zP.length : Int), 0, c) = some ((List.range c.zA.length).map (zrm c), c.zP, (c.zP.length : Int), (c.zP.length : Int), c) := by
 have ht := hc.traps
 have := zdj (f := zae.r0 N) (fun i => ((List.range c.zA.length).map (fun k : Nat => decide (k = 0) || (c.zP.take i).any fun t => decide (t.Handler = (k : Int))), c.zP, (c.zP.length : Int), (i : Int), c)) c.zP.length (fun i hi => by
  have hx := lge hi; obtain ⟨h0, h1⟩ := hc.trap _ (lmg hx); generalize c.zP[i] = x at hx h0 h1; simp only [zae.r0, zae.b0, zac, hx, obs, dct (show (i : Int) < (c.zP.length : Int) by omega), ctr, ifp h0]; rw [ifp (by simpa using h1), zcp _ (by omega), w6e, obs, zke, List.take_add_one, hx]
  congr 3
  apply List.map_congr_left; intro k _; simp only [List.any_append, Option.toList_some, List.any_cons, List.any_nil, Bool.or_false]
  by_cases e : k = x.Handler.toNat
  · subst e; have : x.Handler = ((x.Handler.toNat : Nat) : Int) := by omega
    simp [← this]
  · have : ¬ x.Handler = (k : Int) := by omega
    simp [e, this])
  (by simp only [zae.r0, zae.b0, dcf (show ¬ (c.zP.length : Int) < (c.zP.length : Int) by omega), cfa]) (show c.zP.length < N by omega)
 rw [show zrm c = (fun k : Nat => decide (k = 0) || c.zP.any fun t => decide (t.Handler = (k : Int))) from rfl]
 simpa using this
theorem z6w (N : Nat) (hN : 1048600 < N) (hc : CdV m c) : zf (zam.r0 N) N (((List.range c.zA.length).map fun k => decide (k = 0)), 0, c) = some ((List.range c.zA.length).map (zrm c), (c.zP.length : Int), c) := by
 have ht := hc.traps
 have := zdj (f := zam.r0 N) (fun i => ((List.range c.zA.length).map (fun k : Nat => decide (k = 0) || (c.zP.take i).any fun t => decide (t.Handler = (k : Int))), (i : Int), c)) c.zP.length (fun i hi => by
  have hx := lge hi; obtain ⟨h0, h1⟩ := hc.trap _ (lmg hx); generalize c.zP[i] = x at hx h0 h1; simp only [zam.r0, zam.b0, zac, hx, obs, dct (show (i : Int) < (c.zP.length : Int) by omega), ctr, ifp h0]; rw [ifp (by simpa using h1), zcp _ (by omega), w6e, obs, zke, List.take_add_one, hx]
  congr 3
  apply List.map_congr_left; intro k _; simp only [List.any_append, Option.toList_some, List.any_cons, List.any_nil, Bool.or_false]
  by_cases e : k = x.Handler.toNat
  · subst e; have : x.Handler = ((x.Handler.toNat : Nat) : Int) := by omega
    simp [← this]
  · have : ¬ x.Handler = (k : Int) := by omega
    simp [e, this])
  (by simp only [zam.r0, zam.b0, dcf (show ¬ (c.zP.length : Int) < (c.zP.length : Int) by omega), cfa]) (show c.zP.length < N by omega)
 rw [show zrm c = (fun k : Nat => decide (k = 0) || c.zP.any fun t => decide (t.Handler = (k : Int))) from rfl]
 simpa using this
def zj4 (c : zF) : List Int := (List.range c.zA.length).filterMap fun i => (c.zA[i]?).bind fun x => if x.Op = 18 ∧ i + 1 < c.zA.length then some ((i : Int) + 1) else none
theorem z4h (N : Nat) (hN : 1000 < N) (hc : CdV m c) : zat N c = some (zj4 c) := by
 unfold zat
 have hl := hc.len
 have := zsr (f := zat.r0 N) (List.range c.zA.length) (fun i => (c.zA[i]?).bind fun x => if x.Op = 18 ∧ i + 1 < c.zA.length then some ((i : Int) + 1) else none) (fun i acc => (acc, c.zA, (c.zA.length : Int), (i : Int), c)) (fun i j acc hj hacc => by
  obtain ⟨hi, rfl⟩ := gei hj; have hi : i < c.zA.length := by simpa using hi
  have hx := lge hi; simp only [List.getElem_range]; generalize c.zA[i] = x at hx; simp only [zat.r0, zat.b0, zac, hx, obs, dct (show (i : Int) < (c.zA.length : Int) by omega), ctr, zci, lnc, ln0, zmw (show acc.length + (0 + 1) ≤ 1000000 by omega)]; rw [w6e, zgu, obs]
  by_cases e1 : x.Op = 18 <;> by_cases e2 : i + 1 < c.zA.length
  · simp [e1, e2, show ((i : Int) + 1 < (c.zA.length : Int)) by omega]
  · simp [e1, e2, show ¬ ((i : Int) + 1 < (c.zA.length : Int)) by omega]
  · simp [e1]
  · simp [e1])
  (fun acc => by simp only [zat.r0, zat.b0, List.length_range, dcf (show ¬ (c.zA.length : Int) < (c.zA.length : Int) by omega), cfa]) (show (List.range c.zA.length).length < N by simp; omega)
 simp only [nc0] at this
 rw [this]
 rfl
theorem zut {z : Int} : z ∈ zj4 c ↔ ∃ k : Nat, z = (k : Int) ∧ k < c.zA.length ∧ zwf c k = true := by
 unfold zj4
 rw [List.mem_filterMap]
 constructor
 · rintro ⟨i, hi, h⟩
   have hi : i < c.zA.length := by simpa using hi
   rw [lge hi, obs] at h; split at h
   · rename_i e; cases h; refine ⟨i + 1, rfl, e.2, ?_⟩; rw [zsq, lge hi]; simp [e.1]
   · cases h
 · rintro ⟨k, rfl, hk, h⟩
   cases k with
   | zero => cases h
   | succ j =>
    have hj : j < c.zA.length := by omega
    refine ⟨j, by simpa using hj, ?_⟩; rw [zsq, lge hj] at h; rw [lge hj]; have h18 : c.zA[j].Op = 18 := by simpa using h
    rw [obs, ifp ⟨h18, hk⟩]; rfl
theorem z0v (N : Nat) (hN : 1048600 < N) (hc : CdV m c) : zae N c = some (zbx c) := by
 unfold zae
 have hl := hc.len
 have hp := hc.pos
 rw [ifp, ifp, itn, zzd (by omega), ctr, ifp, ifp (by simp; omega), Int.toNat_zero, zoe, zcp _ hp, obs, zke]
 have e : ((List.range c.zA.length).map fun i => if i = 0 then true else false) = (List.range c.zA.length).map fun k => decide (k = 0) := by
  apply List.map_congr_left; intro k _
  by_cases h : k = 0 <;> simp [h]
 rw [e, z6e N hN hc]
 simp only [obs]
 rw [z4h N (by omega) hc]
 simp only [obs]
 have hcl : (zj4 c).length ≤ c.zA.length := by
  unfold zj4; exact Nat.le_trans (List.length_filterMap_le _ _) (by simp)
 have := zdj (f := zae.r2 N) (fun i => ((List.range c.zA.length).map (fun k : Nat => zrm c k || ((zj4 c).take i).any fun t => decide (t = (k : Int))), zj4 c, ((zj4 c).length : Int), (i : Int))) (zj4 c).length (fun i hi => by
  have hx := lge hi; obtain ⟨k0, hk0, hk1, _⟩ := zut.1 (lmg hx); generalize (zj4 c)[i] = x at hx hk0; subst hk0; simp only [zae.r2, zae.b2, zac, hx, obs, dct (show (i : Int) < ((zj4 c).length : Int) by omega), ctr, ifp (show 0 ≤ (k0 : Int) by omega)]; rw [ifp (by simp; omega), itn, zcp _ hk1, w6e, obs, zke, List.take_add_one, hx]
  congr 3
  apply List.map_congr_left; intro k _; simp only [List.any_append, Option.toList_some, List.any_cons, List.any_nil, Bool.or_false]
  by_cases e : k = k0
  · subst e; simp
  · have : ¬ ((k0 : Int) = (k : Int)) := by omega
    simp [e, this])
  (by simp only [zae.r2, zae.b2, dcf (show ¬ ((zj4 c).length : Int) < ((zj4 c).length : Int) by omega), cfa]) (show (zj4 c).length < N by omega)
 simp only [nc0, List.take_zero, List.any_nil, Bool.or_false, List.take_length] at this
 rw [this]
 simp only [obs]
 congr 1
 apply List.map_congr_left
 intro k hk
 have hk : k < c.zA.length := by simpa using hk
 unfold zgt
 congr 1
 rw [Bool.eq_iff_iff, List.any_eq_true]
 constructor
 · rintro ⟨z, hz, h⟩
   have h := of_decide_eq_true h; subst h; obtain ⟨k', e, _, h⟩ := zut.1 hz; obtain rfl : k = k' := by omega
   exact h
 · intro h; exact ⟨(k : Int), zut.2 ⟨k, rfl, hk, h⟩, by simp⟩
theorem zqz (N : Nat) (hN : 1048600 < N) (hc : CdV m c) : zam N c = some (zbx c) := by
 unfold zam
 have hl := hc.len
 have hp := hc.pos
 rw [ifp, ifp, itn, zzd (by omega), ctr, ifp, ifp (by simp; omega), Int.toNat_zero, zoe, zcp _ hp, obs, zke]
 have e : ((List.range c.zA.length).map fun i => if i = 0 then true else false) = (List.range c.zA.length).map fun k => decide (k = 0) := by
  apply List.map_congr_left; intro k _
  by_cases h : k = 0 <;> simp [h]
 rw [e, z6w N hN hc]
 simp only [obs]
 have := zdj (f := zam.r2 N) (fun i => ((List.range c.zA.length).map (fun k : Nat => zrm c k || (decide (k ≤ i) && zwf c k)), (i : Int), c)) (c.zA.length - 1) (fun i hi => by
  have hi' : i < c.zA.length := by omega
  have hx := lge hi'; have e1 : ((i : Int) + 1).toNat = i + 1 := by omega
  simp only [zam.r2, zam.b2]; rw [w6e, lnm, List.length_range, dct (show (i : Int) + 1 < (c.zA.length : Int) by omega), ctr, ifp, ifp, e1, zcp _ (by omega), obs, zac, hx, obs, orB, obs, ifp, ifp, obs, zke]; have e2 : (i : Int) + 1 = ((i + 1 : Nat) : Int) := by omega
  rw [e2]
  congr 3
  apply List.map_congr_left; intro k _
  by_cases e : k = i + 1
  · subst e; rw [ifp rfl]; simp only [dcf (show ¬ i + 1 ≤ i by omega), Bool.false_and, Bool.or_false, dct (Nat.le_refl (i + 1)), Bool.true_and]
    congr 1
    rw [zsq, hx, zci]; rfl
  · rw [ifn e]; have : decide (k ≤ i) = decide (k ≤ i + 1) := by
     by_cases h : k ≤ i
     · rw [dct h, dct (by omega)]
     · rw [dcf h, dcf (by omega)]
    rw [this])
  (by
   simp only [zam.r2, zam.b2]; rw [w6e, lnm, List.length_range, dcf (by omega), cfa]) (show c.zA.length - 1 < N by omega)
 have e0 : ((List.range c.zA.length).map (fun k : Nat => zrm c k || (decide (k ≤ 0) && zwf c k))) = (List.range c.zA.length).map (zrm c) := by
  apply List.map_congr_left; intro k _; cases k with
  | zero => simp [zwf]
  | succ j => simp
 simp only [nc0, e0] at this
 rw [this]
 simp only [obs]
 congr 1
 apply List.map_congr_left
 intro k hk
 have hk : k < c.zA.length := by simpa using hk
 unfold zgt
 rw [dct (by omega), Bool.true_and]
def zop (o : Int) : Bool := decide (o ≠ 8) && (decide (o ≠ 18) && (decide (o ≠ 19) && (decide (o ≠ 20) && decide (o ≠ 26))))
def zes (o : Int) : Bool := decide (o = 6) || (decide (o = 7) || (decide (o = 8) || decide (o = 18)))
def zay (c : zF) (i : Nat) : List Int := match c.zA[i]? with
 | none => []
 | some x => (if i + 1 < c.zA.length ∧ zop x.Op = true then [(i : Int) + 1] else []) ++ (if zes x.Op = true then [x.Target] else [])
theorem zxl (o : Int) : zcw o = some (zes o) := by
 unfold zcw zes
 simp only [zci, orB, obs, Bool.or_assoc]
theorem ztp (o : Int) : zex o = some (zes o) := by
 unfold zex zes
 simp only [zci, orB, obs, Bool.or_assoc]
theorem zz0 (hl : c.zA.length ≤ 1000000) {i : Nat} (hi : i < c.zA.length) : zdd c (i : Int) = some (zay c i) := by
 unfold zdd zay
 have hx := lge hi
 rw [zac, hx, obs]
 simp only
 generalize c.zA[i] = x
 have q : (cond (x.Op == 8) (some (x.Op == 8)) (cond (x.Op == 18) (some (x.Op == 18)) (cond (x.Op == 19) (some (x.Op == 19)) (cond (x.Op == 20) (some (x.Op == 20)) (some (x.Op == 26)))))) = some (!zop x.Op) := by
  unfold zop; simp only [zci]
  by_cases h1 : x.Op = 8
  · simp [h1]
  · by_cases h2 : x.Op = 18
    · simp [h2]
    · by_cases h3 : x.Op = 19
      · simp [h3]
      · by_cases h4 : x.Op = 20
        · simp [h4]
        · by_cases h5 : x.Op = 26 <;> simp [h1, h2, h3, h4, h5]
 rw [q, obs, zxl, w6e]
 simp only [obs, lnc, ln0, zmw (show 0 + 1 ≤ 1000000 by omega), zmw (show 0 + 1 + (0 + 1) ≤ 1000000 by omega), ctr]
 cases hg : zop x.Op with
 | false => simp; cases zes x.Op <;> simp
 | true =>
  by_cases h : i + 1 < c.zA.length
  · rw [dct (show (i : Int) + 1 < (c.zA.length : Int) by omega)]; simp [h]; cases zes x.Op <;> simp
  · rw [dcf (show ¬ (i : Int) + 1 < (c.zA.length : Int) by omega)]; simp [h]; cases zes x.Op <;> simp
theorem zv4 (hl : c.zA.length ≤ 1000000) {i : Nat} (hi : i < c.zA.length) : zdh c (i : Int) = some (zay c i) := by
 unfold zdh zay
 have hx := lge hi
 rw [zac, hx, obs]
 simp only
 generalize c.zA[i] = x
 rw [w6e]
 simp only [zgu, obs, zdz, ztp, lnc, ln0, zmw (show 0 + 1 ≤ 1000000 by omega), zmw (show 0 + 1 + (0 + 1) ≤ 1000000 by omega), ctr]
 have e : (decide ((i : Int) + 1 < (c.zA.length : Int)) && decide (x.Op ≠ 8) && decide (x.Op ≠ 18) && decide (x.Op ≠ 19) && decide (x.Op ≠ 20) && decide (x.Op ≠ 26)) = (decide (i + 1 < c.zA.length) && zop x.Op) := by
  unfold zop; simp only [Bool.and_assoc]
  congr 1
  by_cases h : i + 1 < c.zA.length
  · rw [dct h, dct (by omega)]
  · rw [dcf h, dcf (by omega)]
 rw [e]
 by_cases h : i + 1 < c.zA.length <;> cases hg : zop x.Op <;> cases hj : zes x.Op <;> simp [h]
theorem zi0 (hc : CdV m c) {i : Nat} {z : Int} (h : z ∈ zay c i) : ∃ k : Nat, z = (k : Int) ∧ k < c.zA.length := by
 unfold zay at h
 cases hx : c.zA[i]? with
 | none => rw [hx] at h; simp at h
 | some x =>
  rw [hx] at h; simp only [List.mem_append] at h; rcases h with h | h
  · split at h
    · rename_i e; have : z = (i : Int) + 1 := by simpa using h
      exact ⟨i + 1, by omega, e.1⟩
    · simp at h
  · split at h
    · rename_i e; have hz : z = x.Target := by simpa using h
      unfold zes at e; simp only [Bool.or_eq_true, decide_eq_true_eq] at e; have := (hc.ins x (lmg hx)).tg (by omega); exact ⟨x.Target.toNat, by omega, by omega⟩
    · simp at h
variable {m : zI} {c : zF}
def zv8 (c : zF) (f : zB) : Bool := decide (f.Offset ≠ -1) && !inB f.Offset 0 ((c.Storage.Bytes.size : Int) - szE f.zD)
def zli (m : zI) (c : zF) (f : zB) : Option Int :=
 if inB f.Register 0 (m.Registers - 1) = false then some 3
 else if zb5 f.zD ≠ 0 ∨ f.zD.Kind = 0 ∨ f.zD.Kind = 4 then some 17
 else if zv8 c f = true then some 3 else none
def zym (m : zI) (c : zF) (l : List zB) : Option Int := if 60 < l.length then some 2 else l.findSome? (zli m c)
theorem z8z {f : zB} (h : zli m c f = none) : FctV m c f := by
 unfold zli at h
 split at h
 · cases h
 · rename_i h1; split at h
   · cases h
   · rename_i h2; split at h
     · cases h
     · rename_i h3; have h1 : inB f.Register 0 (m.Registers - 1) = true := by simpa using h1
       have h1 := zbr.1 h1; rw [not_or, not_or] at h2; obtain ⟨ht, hk, hk2⟩ := h2; refine ⟨by omega, Classical.not_not.1 ht, ⟨hk, hk2⟩, ?_⟩; unfold zv8 at h3
       by_cases e : f.Offset = -1
       · exact .inl e
       · rw [dct e, Bool.true_and, Bool.not_eq_true', Bool.not_eq_false] at h3; have := zbr.1 h3; exact .inr ⟨this.1, by omega⟩
theorem z8m {l : List zB} (h : zym m c l = none) : l.length ≤ 60 ∧ ∀ f ∈ l, FctV m c f := by
 unfold zym at h
 split at h
 · cases h
 · rename_i h1; rw [List.findSome?_eq_none_iff] at h; exact ⟨by omega, fun f hf => z8z (h f hf)⟩
theorem isr (s : Storage) (a n : Int) (hn : 0 < n) (hs : s.Bytes.size ≤ 1024) : zfn s a n = some (inB a 0 ((s.Bytes.size : Int) - n)) := by
 unfold zfn
 rw [zix, zix]
 simp only [obs]
 rw [zgu, obs]
 congr 1
 rw [Bool.eq_iff_iff, Bool.and_eq_true, zbr, zbr, zbr]
 constructor
 · rintro ⟨h1, h2⟩
   rw [w6e] at h2; omega
 · intro h; refine ⟨by omega, ?_⟩; rw [w6e]; omega
theorem z6u (N : Nat) (hN : 2000 < N) (hm : 2 ≤ m.Registers ∧ m.Registers ≤ 8) (hs : c.Storage.Bytes.size ≤ 1024) (F : List (List zB)) (j : Nat) (l : List zB) (hj : F[j]? = some l) (hl : l.length ≤ 60) :
 zj (zd.r2 N) N (F, (j : Int), 0, m, c) = some (match l.findSome? (zli m c) with | some e => .inl ((j : Int), e) | none => .inr (F, (j : Int), (l.length : Int), m, c)) := by
 have := zbm (f := zd.r2 N) (fun i => (F, (j : Int), (i : Int), m, c)) (fun i => ((l[i]?).bind (zli m c)).map fun e => ((j : Int), e)) l.length
  (fun i hi => by
   have hx := lge hi; generalize l[i] = x at hx; simp only [zd.r2, zd.b2, zac, hj, hx, obs, dct (show (i : Int) < (l.length : Int) by omega), ctr, zix, zz5, zqx, zci, zdz]; rw [w6e (n := m.Registers - 1), w6e (n := (i : Int) + 1)]; unfold zli; cases h1 : inB x.Register 0 (m.Registers - 1) with
   | false => simp
   | true =>
    simp only [bnt, cfa, orB, obs]; have hk : zb5 x.zD = 0 → (!inB x.zD.Kind 1 3) = (decide (x.zD.Kind = 0) || decide (x.zD.Kind = 4)) := fun ht => by
     rcases zjc ht with ⟨q0, _⟩ | ⟨q0 | q0, _⟩ | ⟨q0, _⟩ | ⟨q0, _⟩ <;> rw [q0] <;> decide
    by_cases h2 : zb5 x.zD ≠ 0 ∨ x.zD.Kind = 0 ∨ x.zD.Kind = 4
    · rw [ifn (by simp), ifp h2]; have : (decide (zb5 x.zD ≠ 0) || !inB x.zD.Kind 1 3) = true := by
       by_cases ht : zb5 x.zD = 0
       · rw [hk ht]; rcases h2 with h2 | h2
         · exact absurd ht h2
         · simp [h2]
       · simp [ht]
      rw [this]; rfl
    · rw [ifn (by simp), ifn h2]; rw [not_or, not_or] at h2; have ht : zb5 x.zD = 0 := Classical.not_not.1 h2.1; have hp := zs1 ht; have : (decide (zb5 x.zD ≠ 0) || !inB x.zD.Kind 1 3) = false := by rw [hk ht]; simp [ht, h2.2.1, h2.2.2]
      rw [this, cfa, znz ht]; simp only [obs]; rw [isr _ _ _ hp.1 hs, obs, zgu, obs]; show cond (zv8 c x) _ _ = _; cases zv8 c x <;> rfl)
  (by simp only [zd.r2, zd.b2, zac, hj, obs, dcf (show ¬ (l.length : Int) < (l.length : Int) by omega), cfa]) (show l.length < N by omega)
 simp only [nc0] at this
 rw [this]
 congr 1
 have e : (List.range l.length).findSome? (fun i : Nat => ((l[i]?).bind (zli m c)).map fun e => ((j : Int), e)) = (l.findSome? (zli m c)).map fun e => ((j : Int), e) := by
  have h2 : (fun i : Nat => ((l[i]?).bind (zli m c)).map fun e => ((j : Int), e)) = fun i : Nat => (l[i]?).bind fun x => (zli m c x).map fun e => ((j : Int), e) := by
   funext i
   cases l[i]? <;> rfl
  rw [h2, zi3]; clear h2 this hl hj
  induction l with
  | nil => rfl
  | cons x l ih =>
   rw [List.findSome?_cons, List.findSome?_cons]; cases zli m c x with
   | none => exact ih
   | some e => rfl
 rw [e]
 cases l.findSome? (zli m c) <;> rfl
def lsE (m : zI) (c : zF) (F : List (List zB)) (i : Nat) : Option (Int × Int) := (F[i]?).bind fun l => (zym m c l).map fun e => ((i : Int), e)
theorem z4r (N : Nat) (hN : 2000 < N) (hm : 2 ≤ m.Registers ∧ m.Registers ≤ 8) (hs : c.Storage.Bytes.size ≤ 1024) (F : List (List zB)) (hF : F.length ≤ 1000) :
 zj (zd.r0 N) N (F, 0, m, c) = some (match (List.range F.length).findSome? (lsE m c F) with | some r => .inl r | none => .inr (F, (F.length : Int), m, c)) := by
 have := zbm (f := zd.r0 N) (fun i => (F, (i : Int), m, c)) (lsE m c F) F.length
  (fun i hi => by
   have hx := lge hi; unfold lsE zym; rw [hx, obs]; generalize F[i] = l at hx; simp only [zd.r0, zd.b0, zac, hx, obs, dct (show (i : Int) < (F.length : Int) by omega), ctr]
   by_cases h60 : 60 < l.length
   · rw [dct (by omega), ifp h60]; rfl
   · rw [dcf (by omega), ifn h60, cfa, z6u N hN hm hs F i l hx (by omega)]; simp only [obs]; cases l.findSome? (zli m c) with
     | some e => rfl
     | none =>
      simp only [zax]; rw [w6e (n := (i : Int) + 1)]; rfl)
  (by simp only [zd.r0, zd.b0, dcf (show ¬ (F.length : Int) < (F.length : Int) by omega), cfa]) (show F.length < N by omega)
 simp only [nc0] at this
 rw [this]
 cases (List.range F.length).findSome? (lsE m c F) <;> rfl
theorem z7c {F : List (List zB)} (h : (List.range F.length).findSome? (lsE m c F) = none) : ∀ l ∈ F, l.length ≤ 60 ∧ ∀ f ∈ l, FctV m c f := by
 intro l hl
 obtain ⟨i, hi⟩ := List.getElem?_of_mem hl
 rw [List.findSome?_eq_none_iff] at h
 have := h i (by simp; exact (gei hi).1)
 unfold lsE at this
 rw [hi, obs, Option.map_eq_none_iff] at this
 exact z8m this
theorem z24 {m : zI} {c : zF} {n : Int} (h : zm0 m c = (n, 0)) : (∀ x ∈ c.zA, zg8 m c x = 0) ∧ (∀ t ∈ c.zP, zj0 c t = true) ∧ n = (c.zA.length : Int) := by
 have h1 := z60 h
 refine ⟨h1, ?_⟩
 unfold zm0 at h
 cases hf : (List.range c.zA.length).findSome? (gI m c) with
 | some r =>
  exfalso
  obtain ⟨j, _, hj⟩ := eof hf; unfold gI at hj; rw [Option.bind_eq_some_iff] at hj; obtain ⟨y, hy1, hy⟩ := hj; rw [ifp (h1 y (lmg hy1))] at hy; cases hy
 | none =>
  rw [hf] at h; cases hg : (List.range c.zP.length).findSome? (gT c) with
  | some r =>
   exfalso
   rw [hg] at h; obtain ⟨j, _, hj⟩ := eof hg; unfold gT at hj; rw [Option.bind_eq_some_iff] at hj; obtain ⟨y, hy1, hy⟩ := hj; split at hy
   · cases hy
   · cases hy; have h3 : (3 : Int) = 0 := congrArg Prod.snd h; exact absurd h3 (by decide)
  | none =>
   rw [hg] at h; refine ⟨fun t ht => ?_, (congrArg Prod.fst h).symm⟩; rw [List.findSome?_eq_none_iff] at hg; obtain ⟨i, hi⟩ := List.getElem?_of_mem ht; have := hg i (by simp; exact (gei hi).1); unfold gT at this; rw [hi, obs] at this; split at this
   · assumption
   · cases this
theorem z80 (N : Nat) (hN : 1048600 < N) {m : zI} {c : zF} (hc : Wft En 1048576 Ty.zF c) {n : Int} (h : zk N m c = some (n, 0)) : CdV m c ∧ n = (c.zA.length : Int) := by
 obtain ⟨e, _, he2, he3⟩ := zrb m
 obtain ⟨i1, e1, e2, _, hs2, hs⟩ := zt1 N (by omega) c.Storage
 obtain ⟨w1, w2, w3, w4, w5⟩ := zls hc
 unfold zk at h
 try simp only [eS, eM, eC] at h
 rw [he2, hs2] at h
 simp only [obs] at h
 by_cases h0 : e = 0
 · subst h0; have hm := he3 rfl; simp only [bsf, cfa] at h
   by_cases h2 : e2 = 0
   · rcases hs with ⟨rfl, hs⟩ | ⟨ok, htl, _, _⟩
     · exact absurd h2 hs
     · subst h2; obtain ⟨l, hl1, hl2⟩ := zv3 N c.Storage htl (by omega); rw [hl1] at h; simp only [bsf, cfa, obs, orB] at h; cases hd : decide ((l.length : Int) > 0) with
       | true => rw [hd] at h; cases h
       | false =>
        rw [hd] at h hl2; simp only [cfa] at h
        by_cases hz : (c.zA.length : Int) = 0
        · rw [hz] at h; cases h
        · rw [zci, dcf hz] at h; simp only [cfa] at h; cases hb : (decide ((c.zA.length : Int) > 240) || decide ((c.zP.length : Int) > 40)) with
          | true => rw [hb] at h; cases h
          | false =>
           rw [hb] at h; simp only [cfa] at h; have := zqy N hN hm ok hc; rw [this] at h; simp only [Bool.or_eq_false_iff, decide_eq_false_iff_not] at hb; obtain ⟨r1, r2, r3⟩ := z24 (Option.some.inj h); have hand : ∀ t ∈ c.zP, 0 ≤ t.Handler ∧ t.Handler < (c.zA.length : Int) := fun t ht => by
            have h5 := r2 t ht; unfold zj0 at h5; simp only [Bool.and_eq_true] at h5; have h6 := zbr.1 h5.2.2.2; omega
           exact ⟨⟨hm.1, hm.2, ok.le, by omega, by omega, by omega, fun x hx => z9t (r1 x hx), hand⟩, r3⟩
   · rw [zdz, dct h2] at h; simp only [ctr, Option.some.injEq, Prod.mk.injEq] at h; exact absurd h.2 h2
 · rw [zdz, dct h0] at h; simp only [ctr, Option.some.injEq, Prod.mk.injEq] at h; exact absurd h.2 h0
variable {m : zI} {c : zF}
theorem z1a (N : Nat) (l : List Int) (z : Int) (h : l.length < N) (hl : l.length < 1000000000) : ∃ r, zco N l z = some r ∧ (decide (r = -1)) = !l.contains z := by
 unfold zco
 have := zt2 (f := zco.r0 N) l (fun x => decide (x = z)) (fun i => (l, z, (i : Int))) (fun i y hy => by
  have hi := (gei hy).1; simp only [zco.r0, zco.b0, zac, hy, obs, dct (show (i : Int) < (l.length : Int) by omega), ctr, zci]; rw [w6e]
  by_cases e : y = z <;> simp [e])
  (by simp only [zco.r0, zco.b0, dcf (show ¬ (l.length : Int) < (l.length : Int) by omega), cfa]) h
 simp only [nc0] at this
 rw [this]
 have e := zpv l (fun x => decide (x = z))
 have e2 : (l.any fun x => decide (x = z)) = l.contains z := by
  rw [Bool.eq_iff_iff, List.any_eq_true, List.contains_iff_mem]; constructor
  · rintro ⟨x, hx, h⟩
    have := of_decide_eq_true h; subst this; exact hx
  · intro h; exact ⟨z, h, by simp⟩
 rw [e2] at e
 cases hf : l.findIdx? (fun x => decide (x = z)) with
 | none => rw [hf] at e; rw [← e]; exact ⟨_, rfl, by simp⟩
 | some k => rw [hf] at e; rw [← e]; exact ⟨_, rfl, by simp⟩
def znw (c : zF) (F : List (List zB)) (i : Nat) : List zB := match c.zA[i]?, F[i]? with | some x, some l => zhe x l | _, _ => []
def zn5 (F : List (List zB)) (k : Nat) : List zB := (F[k]?).getD []
def zvi (c : zF) (F : List (List zB)) (i k : Nat) : Bool := (zn5 F k).any fun f => !zea (znw c F i) f
def zwi (c : zF) (F : List (List zB)) (i k : Nat) : Bool := (zay c i).contains (k : Int) && zvi c F i k
def zye (c : zF) (F : List (List zB)) (k : Nat) : Bool := zgt c k && decide (0 < (zn5 F k).length)
def zuu (c : zF) (F : List (List zB)) (k : Nat) : Bool := zye c F k || (List.range c.zA.length).any fun i => zwi c F i k
structure FsV (m : zI) (c : zF) (F : List (List zB)) : Prop where
 len : F.length = c.zA.length
 v : ∀ l ∈ F, l.length ≤ 60 ∧ ∀ f ∈ l, FctV m c f
theorem zmj {i : Nat} : (zay c i).length ≤ 2 := by
 unfold zay
 cases c.zA[i]? with
 | none => simp
 | some x =>
  simp only [lna]; split <;> split <;> simp
variable {F : List (List zB)}
theorem z1b (N : Nat) (hN : 1048600 < N) (hc : CdV m c) (hF : FsV m c F) {k : Nat} (hk : k < c.zA.length) :
 zj (zd.r7 N) N (F, zbx c, (k : Int), 0, c) = some (if (List.range c.zA.length).any (fun i => zwi c F i k) = true then .inl ((k : Int), 42) else .inr (F, zbx c, (k : Int), (c.zA.length : Int), c)) := by
 have hl := hc.len
 have hkl : k < F.length := by rw [hF.len]; exact hk
 have hkF : F[k]? = some F[k] := lge hkl
 have hk60 := (hF.v _ (lmg hkF)).1
 have := z5m (f := zd.r7 N) (List.range c.zA.length) (fun i => zwi c F i k) ((k : Int), 42) (fun i => (F, zbx c, (k : Int), (i : Int), c)) (fun i j hj => by
  obtain ⟨hi, rfl⟩ := gei hj; have hi' : i < c.zA.length := by simpa using hi
  simp only [List.getElem_range]; have hx := lge hi'; have hil : i < F.length := by rw [hF.len]; exact hi'
  have hiF : F[i]? = some F[i] := lge hil; have hv := hF.v _ (lmg hiF); obtain ⟨r, hr1, hr2⟩ := z1a N (zay c i) (k : Int) (by have := zmj (c := c) (i := i); omega) (by have := zmj (c := c) (i := i); omega); obtain ⟨ys, hy1, hy2, _, hy3⟩ := zwr N (by omega) (hc.ins _ (lmg hx)) hv.2 (by omega); have hb : znw c F i = zhe c.zA[i] F[i] := by unfold znw; rw [hx, hiF]
  have hys : ∀ f, zea ys f = zea (znw c F i) f := fun f => by
   rw [Bool.eq_iff_iff, ze7, ze7, hy2, hb, ztd]
  simp only [zd.r7, zd.b7, zac, obs, dct (show (i : Int) < (F.length : Int) by have := hF.len; omega), ctr, zv4 (show c.zA.length ≤ 1000000 by omega) hi', hr1, zci, hr2, hx, hiF, hy1]; rw [w6e (n := (i : Int) + 1)]; unfold zwi; cases hcn : (zay c i).contains (k : Int) with
  | false => simp
  | true =>
   have h9 := z5m (f := zd.r9 N) F[k] (fun f => !zea (znw c F i) f) ((k : Int), (42 : Int)) (fun j => (F, zbx c, (k : Int), (i : Int), ys, (j : Int), c)) (fun j f hf => by
    have hjl := (gei hf).1; simp only [zd.r9, zd.b9, zac, hkF, hf, obs, dct (show (j : Int) < (F[k].length : Int) by omega), ctr]; rw [zp4 N ys f (by omega) (by omega), hys]; simp only [obs]; rw [w6e]; cases zea (znw c F i) f <;> simp)
    (by simp only [zd.r9, zd.b9, zac, hkF, obs, dcf (show ¬ (F[k].length : Int) < (F[k].length : Int) by omega), cfa]) (show F[k].length < N by omega)
   simp only [nc0] at h9; simp only [bnt, cfa, Bool.true_and]; rw [h9]; have e : F[k].any (fun f => !zea (znw c F i) f) = zvi c F i k := by unfold zvi zn5; rw [hkF]; rfl
   rw [e]; simp only [obs]; cases zvi c F i k with
   | true => rfl
   | false =>
    simp only [Bool.false_eq_true, if_false, zax]; rw [w6e]; rfl)
  (by simp only [zd.r7, zd.b7, List.length_range, dcf (show ¬ (c.zA.length : Int) < (F.length : Int) by have := hF.len; omega), cfa]) (show (List.range c.zA.length).length < N by simp; omega)
 simp only [nc0, List.length_range] at this
 exact this
variable {m : zI} {c : zF} {F : List (List zB)}
theorem zvo {β : Type} (p : Nat → Bool) (g : Nat → β) : ∀ n, (List.range n).findSome? (fun k => if p k = true then some (g k) else none) = (((List.range n).map p).findIdx? id).map g
 | 0 => rfl
 | n + 1 => by
  rw [List.range_succ, List.findSome?_append, List.map_append, List.findIdx?_append, zvo p g n]; cases ((List.range n).map p).findIdx? id with
  | some k => rfl
  | none => cases h : p n <;> simp [h]
theorem z2x (N : Nat) (hN : 1048600 < N) (hc : CdV m c) (hF : FsV m c F) :
 zj (zd.r5 N) N (F, zbx c, 0, c) = some (match ((List.range c.zA.length).map (zuu c F)).findIdx? id with | some k => .inl ((k : Int), 42) | none => .inr (F, zbx c, (F.length : Int), c)) := by
 have hl := hc.len
 have := zbm (f := zd.r5 N) (fun i => (F, zbx c, (i : Int), c)) (fun k => if zuu c F k = true then some ((k : Int), (42 : Int)) else none) F.length
  (fun i hi => by
   have hi' : i < c.zA.length := by rw [← hF.len]; exact hi
   have hk := lge hi; have hent : (zbx c)[i]? = some (zgt c i) := zcp _ hi'; simp only [zd.r5, zd.b5, zac, hk, hent, obs, dct (show (i : Int) < (F.length : Int) by omega), ctr, ifp (show 0 ≤ (i : Int) by omega), itn]; rw [ifp (by simp [zbx]; omega), zgu, obs]; have eo : (zgt c i && decide ((F[i].length : Int) > 0)) = zye c F i := by
    unfold zye zn5; rw [hk]
    congr 1
    by_cases h : 0 < F[i].length
    · rw [dct (by omega)]; symm; exact dct h
    · rw [dcf (by omega)]; symm; exact dcf h
   rw [eo]; unfold zuu; cases zye c F i with
   | true => rfl
   | false =>
    rw [cfa, Bool.false_or, z1b N hN hc hF hi']; simp only [obs]; cases (List.range c.zA.length).any fun j => zwi c F j i with
    | true => rfl
    | false =>
     simp only [Bool.false_eq_true, if_false, zax]; rw [w6e]; rfl)
  (by simp only [zd.r5, zd.b5, dcf (show ¬ (F.length : Int) < (F.length : Int) by omega), cfa]) (show F.length < N by have := hF.len; omega)
 rw [zvo, hF.len] at this
 simp only [nc0] at this
 rw [this, hF.len]
 cases ((List.range c.zA.length).map (zuu c F)).findIdx? id <;> rfl
theorem z7v : zk1 2000000 = some true := by kernel_rfl
variable {m : zI} {c : zF}
theorem zre {α : Type} {f : α → Option (Stp α)} (I J : α → Prop) (μ : α → Nat) (h : ∀ s, I s → (∃ s', f s = some (.again s') ∧ I s' ∧ μ s' < μ s) ∨ (∃ s', f s = some (.leave s') ∧ J s')) :
 ∀ (N : Nat) (s : α), I s → μ s < N → ∃ s', zf f N s = some s' ∧ J s'
 | 0, s, _, hN => by omega
 | N + 1, s, hI, hN => by
  rcases h s hI with ⟨s', h1, h2, h3⟩ | ⟨s', h1, h2⟩
  · obtain ⟨s2, h4, h5⟩ := zre I J μ h N s' h2 (by omega); exact ⟨s2, by rw [zf, h1]; exact h4, h5⟩
  · exact ⟨s', by rw [zf, h1]; rfl, h2⟩
def cnt (p : Nat → Bool) : Nat → Nat
 | 0 => 0
 | n + 1 => cnt p n + cond (p n) 0 1
def upd (p : Nat → Bool) (x : Nat) (k : Nat) : Bool := if k = x then true else p k
theorem zvu (p : Nat → Bool) : ∀ n, cnt p n ≤ n
 | 0 => Nat.le_refl _
 | n + 1 => by have := zvu p n; simp only [cnt]; cases p n <;> simp <;> omega
theorem zwg (p : Nat → Bool) (x : Nat) : ∀ n, cnt (upd p x) n + cond (decide (x < n) && !p x) 1 0 = cnt p n
 | 0 => by simp [cnt]
 | n + 1 => by
  have ih := zwg p x n; simp only [cnt]
  by_cases e : n = x
  · subst e; rw [dcf (Nat.lt_irrefl n)] at ih; simp only [Bool.false_and, cfa, Nat.add_zero] at ih; rw [dct (Nat.lt_succ_self n), ih]; have : upd p n n = true := by simp [upd]
    rw [this]; cases p n <;> simp
  · have h1 : upd p x n = p n := by simp [upd, e]
    have h2 : decide (x < n + 1) = decide (x < n) := by
     by_cases h : x < n
     · rw [dct h, dct (by omega)]
     · rw [dcf h, dcf (by omega)]
    rw [h1, h2]; omega
theorem zp1 {n : Nat} (p : Nat → Bool) (x : Nat) : ((List.range n).map p).set x true = (List.range n).map (upd p x) := zke p true
inductive Rch (c : zF) : Nat → Prop
 | ent {k : Nat} (h : k < c.zA.length) (he : zgt c k = true) : Rch c k
 | step {i k : Nat} (h : Rch c i) (hs : (k : Int) ∈ zay c i) : Rch c k
theorem Rch.lt (hc : CdV m c) {k : Nat} (h : Rch c k) : k < c.zA.length := by
 cases h with
 | ent h _ => exact h
 | step _ hs =>
  obtain ⟨k', e, hk⟩ := zi0 hc hs; omega
theorem zn1 {n : Nat} {p q : Nat → Bool} (h : ∀ k, k < n → p k = q k) : (List.range n).map p = (List.range n).map q := List.map_congr_left fun k hk => h k (by simpa using hk)
theorem z26 (hc : CdV m c) {p : Nat → Bool} (h1 : ∀ k, k < c.zA.length → p k = true → Rch c k) (h2 : ∀ k, k < c.zA.length → zgt c k = true → p k = true)
 (h3 : ∀ i, i < c.zA.length → p i = true → ∀ k : Nat, (k : Int) ∈ zay c i → p k = true) : ∀ k, Rch c k → p k = true := by
 intro k h
 induction h with
 | ent h he => exact h2 _ h he
 | step h hs ih => exact h3 _ (h.lt hc) ih _ hs
theorem z1e (hc : CdV m c) {p q : Nat → Bool} (h1 : ∀ k, k < c.zA.length → p k = true → Rch c k) (h2 : ∀ k, Rch c k → p k = true) (g1 : ∀ k, k < c.zA.length → q k = true → Rch c k) (g2 : ∀ k, Rch c k → q k = true) :
 ∀ k, k < c.zA.length → p k = q k := fun k hk => by
 rw [Bool.eq_iff_iff]
 exact ⟨fun h => g2 k (h1 k hk h), fun h => h2 k (g1 k hk h)⟩
def zuq (c : zF) : List Int := (List.range c.zA.length).filterMap fun i => if zgt c i = true then some (i : Int) else none
theorem z2a (N : Nat) (hN : 1000 < N) (hc : CdV m c) (s : List Bool) : zf (zad.r0 N) N (s, [], zbx c, (c.zA.length : Int), 0, c) = some (s, zuq c, zbx c, (c.zA.length : Int), (c.zA.length : Int), c) := by
 have hl := hc.len
 have := zsr (f := zad.r0 N) (List.range c.zA.length) (fun i => if zgt c i = true then some (i : Int) else none) (fun i acc => (s, acc, zbx c, (c.zA.length : Int), (i : Int), c)) (fun i j acc hj hacc => by
  obtain ⟨hi, rfl⟩ := gei hj; have hi : i < c.zA.length := by simpa using hi
  have hent : (zbx c)[i]? = some (zgt c i) := zcp _ hi; simp only [List.getElem_range]; simp only [zad.r0, zad.b0, zac, hent, obs, dct (show (i : Int) < (c.zA.length : Int) by omega), ctr, lnc, ln0, zmw (show acc.length + (0 + 1) ≤ 1000000 by omega)]; rw [w6e]; cases zgt c i <;> simp)
  (fun acc => by simp only [zad.r0, zad.b0, List.length_range, dcf (show ¬ (c.zA.length : Int) < (c.zA.length : Int) by omega), cfa]) (show (List.range c.zA.length).length < N by simp; omega)
 simp only [nc0, List.length_range] at this
 exact this
theorem zyx {z : Int} : z ∈ zuq c ↔ ∃ k : Nat, z = (k : Int) ∧ k < c.zA.length ∧ zgt c k = true := by
 unfold zuq
 rw [List.mem_filterMap]
 constructor
 · rintro ⟨i, hi, h⟩
   split at h
   · rename_i e; cases h; exact ⟨i, rfl, by simpa using hi, e⟩
   · cases h
 · rintro ⟨k, rfl, hk, he⟩
   exact ⟨k, by simpa using hk, by rw [ifp he]⟩
structure QR (c : zF) (p : Nat → Bool) (l : List Int) : Prop where
 r : ∀ k, k < c.zA.length → p k = true → Rch c k
 w : ∀ z ∈ l, ∃ k : Nat, z = (k : Int) ∧ Rch c k
 e : ∀ k, k < c.zA.length → zgt c k = true → p k = true ∨ (k : Int) ∈ l
 s : ∀ i, i < c.zA.length → p i = true → ∀ k : Nat, (k : Int) ∈ zay c i → p k = true ∨ (k : Int) ∈ l
theorem z4e (N : Nat) (hN : 1048600 < N) (hc : CdV m c) : ∃ p : Nat → Bool, zad N c (zbx c) = some ((List.range c.zA.length).map p) ∧ (∀ k, k < c.zA.length → p k = true → Rch c k) ∧ ∀ k, Rch c k → p k = true := by
 have hl := hc.len
 have hle : (zbx c).length = c.zA.length := by simp [zbx]
 unfold zad
 rw [hle, ifp, ifp, itn, zzd (by omega), ctr, z2a N (by omega) hc]
 simp only [obs]
 have hol : (zuq c).length ≤ c.zA.length := Nat.le_trans (List.length_filterMap_le _ _) (by simp)
 obtain ⟨s, hs, p, rfl, hq⟩ := zre (f := zad.r2 N) (fun s => ∃ p o, s = ((List.range c.zA.length).map p, o, c) ∧ QR c p o ∧ o.length + 3 * cnt p c.zA.length ≤ 4 * c.zA.length)
  (fun s => ∃ p, s = ((List.range c.zA.length).map p, [], c) ∧ QR c p []) (fun s => match s with | (b, o, _) => o.length + 3 * cnt (fun k => (b[k]?).getD false) c.zA.length) (by
  rintro s ⟨p, o, rfl, hq, hm⟩
  have hcp : cnt (fun k => (((List.range c.zA.length).map p)[k]?).getD false) c.zA.length = cnt p c.zA.length := by
   have : ∀ j, j ≤ c.zA.length → cnt (fun k => (((List.range c.zA.length).map p)[k]?).getD false) j = cnt p j := by
    intro j
    induction j with
    | zero => intro _; rfl
    | succ j ih =>
     intro hj; simp only [cnt]; rw [ih (by omega), zcp p (show j < c.zA.length by omega)]; rfl
   exact this _ (Nat.le_refl _)
  cases o with
  | nil => exact .inr ⟨_, by simp [zad.r2, zad.b2], p, rfl, hq⟩
  | cons z o =>
   left; obtain ⟨x, rfl, hx⟩ := hq.w z (by simp); have hxl := hx.lt hc; have hol2 : o.length + 1 ≤ 4 * c.zA.length := by simp only [lnc] at hm; omega
   simp only [zad.r2, zad.b2, lnc]; rw [dct (by omega), ctr, ifp, ifp]; simp only [Int.toNat_zero, List.getElem?_cons_zero, obs]; rw [ifp, ifp, ifp (by simp; omega), itn, zcp p hxl, obs]; cases hp : p x with
   | true =>
    refine ⟨_, rfl, ⟨p, o, rfl, ⟨hq.r, fun z hz => hq.w z (by simp [hz]), fun k hk he => ?_, fun i hi hpi k hk => ?_⟩, by simp only [lnc] at hm; omega⟩, ?_⟩
    · rcases hq.e k hk he with h | h
      · exact .inl h
      · rcases List.mem_cons.1 h with h | h
        · obtain rfl : k = x := by omega
          exact .inl hp
        · exact .inr h
    · rcases hq.s i hi hpi k hk with h | h
      · exact .inl h
      · rcases List.mem_cons.1 h with h | h
        · obtain rfl : k = x := by omega
          exact .inl hp
        · exact .inr h
    · simp
   | false =>
    have hsl := zmj (c := c) (i := x); have hcu := zwg p x c.zA.length; rw [dct hxl, hp] at hcu; simp only [Bool.not_false, Bool.and_true, ctr] at hcu; have hone : (1 : Int).toNat = 1 := rfl; rw [zz0 (by omega) hxl]; simp only [Bool.not_false, ctr, obs, hone, List.drop_succ_cons, dr0]; rw [ifp, ifp (by simp; omega), zmw (by omega), ctr, zp1]; refine ⟨_, rfl, ⟨upd p x, o ++ zay c x, rfl, ⟨fun k hk hpk => ?_, fun z hz => ?_, fun k hk he => ?_, fun i hi hpi k hk => ?_⟩, ?_⟩, ?_⟩
    · unfold upd at hpk; split at hpk
      · rename_i e; subst e; exact hx
      · exact hq.r k hk hpk
    · rcases List.mem_append.1 hz with hz | hz
      · exact hq.w z (by simp [hz])
      · obtain ⟨k, rfl, _⟩ := zi0 hc hz; exact ⟨k, rfl, .step hx hz⟩
    · unfold upd; split
      · exact .inl rfl
      · rename_i e; rcases hq.e k hk he with h | h
        · exact .inl h
        · rcases List.mem_cons.1 h with h | h
          · omega
          · exact .inr (by simp [h])
    · unfold upd at hpi ⊢; split at hpi
      · rename_i e; subst e; exact .inr (by simp [hk])
      · split
        · exact .inl rfl
        · rename_i e; rcases hq.s i hi hpi k hk with h | h
          · exact .inl h
          · rcases List.mem_cons.1 h with h | h
            · omega
            · exact .inr (by simp [h])
    · simp only [lnc] at hm; rw [lna]; omega
    · have : cnt (fun k => (((List.range c.zA.length).map (upd p x))[k]?).getD false) c.zA.length = cnt (upd p x) c.zA.length := by
       have : ∀ j, j ≤ c.zA.length → cnt (fun k => (((List.range c.zA.length).map (upd p x))[k]?).getD false) j = cnt (upd p x) j := by
        intro j
        induction j with
        | zero => intro _; rfl
        | succ j ih =>
         intro hj; simp only [cnt]; rw [ih (by omega), zcp (upd p x) (show j < c.zA.length by omega)]; rfl
       exact this _ (Nat.le_refl _)
      simp only [this, hcp, lna, lnc]; omega) N (List.replicate c.zA.length false, zuq c, c) ⟨fun _ => false, zuq c, by rw [zoe], ⟨fun k _ h => by simp at h, fun z hz => by
   obtain ⟨k, e, hk, he⟩ := zyx.1 hz; exact ⟨k, e, .ent hk he⟩, fun k hk he => .inr (zyx.2 ⟨k, rfl, hk, he⟩), fun i _ h => by simp at h⟩, by have := zvu (fun _ => false) c.zA.length; omega⟩ (by
    show (zuq c).length + 3 * cnt _ _ < N; have := zvu (fun k => ((List.replicate c.zA.length false)[k]?).getD false) c.zA.length; omega)
 rw [hs]
 refine ⟨p, rfl, hq.r, z26 hc hq.r (fun k hk he => ?_) fun i hi hp k hk => ?_⟩
 · rcases hq.e k hk he with h | h
   · exact h
   · simp at h
 · rcases hq.s i hi hp k hk with h | h
   · exact h
   · simp at h
variable {m : zI} {c : zF}
theorem zss {p q : Nat → Bool} : ∀ n, (∀ k, k < n → p k = q k) → cnt p n = cnt q n
 | 0, _ => rfl
 | n + 1, h => by simp only [cnt]; rw [zss n (fun k hk => h k (by omega)), h n (by omega)]
structure PS (c : zF) (p0 p : Nat → Bool) (b : Bool) : Prop where
 sub : ∀ k, p0 k = true → p k = true
 r : ∀ k, k < c.zA.length → p k = true → Rch c k
 f : b = false → ∀ k, k < c.zA.length → p k = p0 k
 t : b = true → cnt p c.zA.length < cnt p0 c.zA.length
theorem PS.mark {p0 p : Nat → Bool} {b : Bool} (h : PS c p0 p b) {k : Nat} (hk : k < c.zA.length) (hr : Rch c k) : PS c p0 (upd p k) (b || !p k) := by
 have hcu := zwg p k c.zA.length
 rw [dct hk] at hcu
 refine ⟨fun j hj => ?_, fun j hj hp => ?_, fun hb j hj => ?_, fun hb => ?_⟩
 · unfold upd; split
   · rfl
   · exact h.sub j hj
 · unfold upd at hp; split at hp
   · rename_i e; subst e; exact hr
   · exact h.r j hj hp
 · rw [Bool.or_eq_false_iff, Bool.not_eq_false'] at hb; unfold upd; split
   · rename_i e; subst e; rw [← h.f hb.1 j hj, hb.2]
   · exact h.f hb.1 j hj
 · cases b with
   | true => have := h.t rfl; omega
   | false =>
    have e := zss c.zA.length (h.f rfl); have hp : p k = false := by simpa using hb
    rw [hp] at hcu; simp at hcu; omega
theorem z2t (N : Nat) (hN : 1000 < N) (hc : CdV m c) {p0 p : Nat → Bool} {b : Bool} (h : PS c p0 p b) {i : Nat} (hi : i < c.zA.length) :
 ∃ p' b' j, zf (zr.r4 N) N ((List.range c.zA.length).map p, b, (i : Int), zay c i, 0, c) = some ((List.range c.zA.length).map p', b', (i : Int), zay c i, j, c) ∧ PS c p0 p' b' ∧ (b' = false → b = false) ∧
  (p i = true → ∀ k : Nat, (k : Int) ∈ zay c i → p' k = true) := by
 have hl := hc.len
 have hsl := zmj (c := c) (i := i)
 cases hp : p i with
 | false =>
  have := zdj (f := zr.r4 N) (fun j => ((List.range c.zA.length).map p, b, (i : Int), zay c i, (j : Int), c)) 0 (fun j hj => by omega) (by
   simp only [zr.r4, zr.b4]; rw [ifp, ifp (by simp; omega), itn, zcp p hi, hp]; cases decide (((0 : Nat) : Int) < ((zay c i).length : Int)) <;> rfl) (show 0 < N by omega)
  exact ⟨p, b, _, this, h, id, fun h => by cases h⟩
 | true =>
  obtain ⟨s, hs, hI⟩ := zfy (f := zr.r4 N) (fun j s => ∃ p' b', s = ((List.range c.zA.length).map p', b', (i : Int), zay c i, (j : Int), c) ∧ PS c p0 p' b' ∧ (b' = false → b = false) ∧ p' i = true ∧ ∀ t k, t < j → (zay c i)[t]? = some ((k : Nat) : Int) → p' k = true) (zay c i).length (by
   rintro j s hj ⟨p', b', rfl, h', hb', hpi, hall⟩
   have hx := lge hj; obtain ⟨k0, hk0, hk1⟩ := zi0 hc (List.getElem_mem hj); have hmem : ((k0 : Nat) : Int) ∈ zay c i := by rw [← hk0]; exact List.getElem_mem hj
   rw [hk0] at hx; have hrk : Rch c k0 := .step (h'.r i hi hpi) hmem; refine ⟨_, ?_, upd p' k0, b' || !p' k0, rfl, h'.mark hk1 hrk, fun hb => hb' (by rw [Bool.or_eq_false_iff] at hb; exact hb.1), ?_, fun t k ht htk => ?_⟩
   · simp only [zr.r4, zr.b4]; rw [dct (show (j : Int) < ((zay c i).length : Int) by omega), ctr, ifp, ifp (by simp; omega), itn, zcp p' hi, hpi]; simp only [obs, ctr]; rw [ifp, ifp, itn, hx]; simp only [obs]; rw [ifp, ifp (by simp; omega), itn, zcp p' hk1]; simp only [obs]; rw [orB, obs, ifp, ifp, ifp, ifp (by simp; omega), zp1, w6e]; rfl
   · unfold upd; split <;> first | rfl | exact hpi
   · unfold upd; split
     · rfl
     · rename_i e
       by_cases htj : t = j
       · subst htj; rw [hx] at htk; have : (k0 : Int) = (k : Int) := Option.some.inj htk; omega
       · exact hall t k (by omega) htk)
   (by
    rintro s ⟨p', b', rfl, h', hb', hpi, hall⟩
    refine ⟨_, ?_, p', b', rfl, h', hb', hpi, hall⟩; simp only [zr.r4, zr.b4]; rw [dcf (Int.lt_irrefl _)]; rfl) (N := N) (by omega) (s := ((List.range c.zA.length).map p, b, (i : Int), zay c i, 0, c)) ⟨p, b, rfl, h, id, hp, fun t k ht => by omega⟩
  obtain ⟨p', b', rfl, h', hb', _, hall⟩ := hI; refine ⟨p', b', _, hs, h', hb', fun _ k hk => ?_⟩; obtain ⟨t, ht⟩ := List.getElem?_of_mem hk; exact hall t k (gei ht).1 ht
theorem z2u (N : Nat) (hN : 1000 < N) (hc : CdV m c) {p0 : Nat → Bool} (h0 : ∀ k, k < c.zA.length → p0 k = true → Rch c k) :
 ∃ p b, zf (zr.r2 N) N ((List.range c.zA.length).map p0, false, 0, c) = some ((List.range c.zA.length).map p, b, (c.zA.length : Int), c) ∧ PS c p0 p b ∧
  (b = false → ∀ i, i < c.zA.length → p0 i = true → ∀ k : Nat, (k : Int) ∈ zay c i → p0 k = true) := by
 have hl := hc.len
 obtain ⟨s, hs, p, b, rfl, h1, h2⟩ := zfy (f := zr.r2 N) (fun i s => ∃ p b, s = ((List.range c.zA.length).map p, b, (i : Int), c) ∧ PS c p0 p b ∧ (b = false → ∀ i', i' < i → p0 i' = true → ∀ k : Nat, (k : Int) ∈ zay c i' → p0 k = true)) c.zA.length (by
  rintro i s hi ⟨p, b, rfl, h1, h2⟩
  obtain ⟨p', b', j, e1, e2, e3, e4⟩ := z2t N hN hc h1 hi; refine ⟨_, ?_, p', b', rfl, e2, fun hb i' hi' hp k hk => ?_⟩
  · simp only [zr.r2, zr.b2]; rw [dct (by simp; omega), ctr, zv4 (by omega) hi, obs, e1, obs]; simp only; rw [w6e]; rfl
  · by_cases e : i' = i
    · subst e; have hkl := zi0 hc hk; obtain ⟨k', hk', hkl⟩ := hkl; obtain rfl : k = k' := by omega
      have hpi : p i' = true := h1.sub i' hp; rw [← e2.f hb k hkl]; exact e4 hpi k hk
    · exact h2 (e3 hb) i' (by omega) hp k hk)
  (by
   rintro s ⟨p, b, rfl, h1, h2⟩
   refine ⟨_, ?_, p, b, rfl, h1, h2⟩; simp only [zr.r2, zr.b2]; rw [dcf (by simp)]; rfl) (N := N) (by omega) (s := ((List.range c.zA.length).map p0, false, 0, c)) ⟨p0, false, rfl, ⟨fun _ h => h, h0, fun _ _ _ => rfl, fun h => by cases h⟩, fun _ i' hi' => by omega⟩
 exact ⟨p, b, hs, h1, h2⟩
theorem z4q (N : Nat) (hN : 1048600 < N) (hc : CdV m c) : ∃ p : Nat → Bool, zr N c = some ((List.range c.zA.length).map p) ∧ (∀ k, k < c.zA.length → p k = true → Rch c k) ∧ ∀ k, Rch c k → p k = true := by
 have hl := hc.len
 unfold zr
 rw [zqz N hN hc, obs]
 obtain ⟨s, hs, p, rfl, q1, q2, q3⟩ := zre (f := zr.r0 N) (fun s => ∃ p b, s = ((List.range c.zA.length).map p, b, c) ∧ (∀ k, k < c.zA.length → p k = true → Rch c k) ∧ (∀ k, k < c.zA.length → zgt c k = true → p k = true) ∧
  (b = false → ∀ i, i < c.zA.length → p i = true → ∀ k : Nat, (k : Int) ∈ zay c i → p k = true))
  (fun s => ∃ p, s = ((List.range c.zA.length).map p, false, c) ∧ (∀ k, k < c.zA.length → p k = true → Rch c k) ∧ (∀ k, k < c.zA.length → zgt c k = true → p k = true) ∧ (∀ i, i < c.zA.length → p i = true → ∀ k : Nat, (k : Int) ∈ zay c i → p k = true))
  (fun s => match s with | (l, b, _) => cond b (cnt (fun k => (l[k]?).getD false) c.zA.length + 1) 0) (by
  have hcp : ∀ p : Nat → Bool, cnt (fun k => (((List.range c.zA.length).map p)[k]?).getD false) c.zA.length = cnt p c.zA.length := fun p => zss _ fun k hk => by rw [zcp p hk]; rfl
  rintro s ⟨p, b, rfl, h1, h2, h3⟩
  cases b with
  | false => exact .inr ⟨_, rfl, p, rfl, h1, h2, h3 rfl⟩
  | true =>
   obtain ⟨p', b', e1, e2, e3⟩ := z2u N (by omega) hc h1; refine .inl ⟨((List.range c.zA.length).map p', b', c), by simp only [zr.r0, zr.b0, ctr, e1, obs], ⟨p', b', rfl, e2.r, fun k hk he => e2.sub k (h2 k hk he), fun hb i hi hp k hk => ?_⟩, ?_⟩
   · obtain ⟨k', hk', hkl⟩ := zi0 hc hk; obtain rfl : k = k' := by omega
     rw [e2.f hb k hkl]; exact e3 hb i hi (by rw [← e2.f hb i hi]; exact hp) k hk
   · simp only [hcp]; cases b' with
     | true => have := e2.t rfl; simp only [ctr]; omega
     | false => simp only [ctr, cfa]; omega) N (zbx c, true, c) ⟨zgt c, true, rfl, fun k hk he => .ent hk he, fun k _ h => h, fun h => by cases h⟩ (by
   have := zvu (fun k => ((zbx c)[k]?).getD false) c.zA.length; show cnt _ _ + 1 < N; omega)
 rw [hs]
 exact ⟨p, rfl, q1, z26 hc q1 q2 q3⟩
variable {m : zI} {c : zF}
def zfw {α : Type} (G : Nat → α) (x : Nat) (v : α) (k : Nat) : α := if k = x then v else G k
theorem zok {α : Type} {n : Nat} (f : Nat → α) {k : Nat} (v : α) : ((List.range n).map f).set k v = (List.range n).map (zfw f k v) := by
 apply List.ext_getElem?
 intro i
 rw [List.getElem?_set, List.getElem?_map, List.getElem?_map, lnm, List.length_range]
 unfold zfw
 by_cases hi : i < n
 · rw [List.getElem?_range hi]
   by_cases e : k = i
   · subst e; simp [hi]
   · simp [e, Ne.symm e]
 · rw [List.getElem?_eq_none (by simpa using hi)]
   by_cases e : k = i
   · subst e; simp [hi]
   · simp [e]
theorem zd1 {α : Type} {n : Nat} (f : Nat → α) {k : Nat} (h : k < n) : ((List.range n).map f)[k]? = some (f k) := by
 rw [List.getElem?_map, List.getElem?_range h]
 rfl
theorem zui {α : Type} : ∀ (l u : List α), l.Nodup → (∀ x ∈ l, x ∈ u) → l.length ≤ u.length
 | [], _, _, _ => Nat.zero_le _
 | x :: l, u, hn, hs => by
  obtain ⟨h1, h2⟩ := List.nodup_cons.1 hn; obtain ⟨a, b, rfl⟩ := List.append_of_mem (hs x (by simp)); have := zui l (a ++ b) h2 (fun y hy => by
   have hy2 := hs y (by simp [hy]); rcases List.mem_append.1 hy2 with h | h
   · exact List.mem_append.2 (.inl h)
   · rcases List.mem_cons.1 h with rfl | h
     · exact absurd hy h1
     · exact List.mem_append.2 (.inr h))
  simp only [lna, lnc] at this ⊢; omega
def zn8 (c : zF) : List zB := (List.range 8).flatMap fun r : Nat => c.zA.flatMap fun x => [⟨(r : Int), x.zD, -1⟩, ⟨(r : Int), x.zD, x.Place.Offset⟩]
theorem flat_len {α β : Type} (f : α → List β) (k : Nat) (h : ∀ x, (f x).length = k) : ∀ l : List α, (l.flatMap f).length = l.length * k
 | [] => by simp
 | x :: l => by rw [List.flatMap_cons, lna, h, flat_len f k h l, lnc, Nat.succ_mul]; omega
theorem zzz (hc : CdV m c) : (zn8 c).length ≤ 3840 := by
 unfold zn8
 rw [flat_len _ (c.zA.length * 2) (fun r => flat_len _ 2 (fun x => rfl) _)]
 have := hc.len
 simp only [List.length_range]
 omega
theorem zvz {f : zB} : f ∈ zn8 c ↔ (0 ≤ f.Register ∧ f.Register < 8) ∧ ∃ x ∈ c.zA, f.zD = x.zD ∧ (f.Offset = -1 ∨ f.Offset = x.Place.Offset) := by
 unfold zn8
 rw [List.mem_flatMap]
 constructor
 · rintro ⟨r, hr, h⟩
   have hr : r < 8 := by simpa using hr
   rw [List.mem_flatMap] at h; obtain ⟨x, hx, h⟩ := h; rcases List.mem_cons.1 h with rfl | h
   · exact ⟨⟨by simp, by show (r : Int) < 8; omega⟩, x, hx, rfl, .inl rfl⟩
   · obtain rfl : f = ⟨(r : Int), x.zD, x.Place.Offset⟩ := by simpa using h
     exact ⟨⟨by simp, by show (r : Int) < 8; omega⟩, x, hx, rfl, .inr rfl⟩
 · rintro ⟨⟨h1, h2⟩, x, hx, ht, ho⟩
   refine ⟨f.Register.toNat, by simp; omega, ?_⟩; rw [List.mem_flatMap]; refine ⟨x, hx, ?_⟩; have hr : ((f.Register.toNat : Nat) : Int) = f.Register := by omega
   rw [hr]; obtain ⟨r, t, o⟩ := f; simp only at ht ho; subst ht; rcases ho with rfl | rfl
   · simp
   · simp
theorem z7u (hc : CdV m c) {x : zC} (hx : x ∈ c.zA) {l : List zB} (hl : ∀ f ∈ l, f ∈ zn8 c) {f : zB} (h : Beh x l f) : f ∈ zn8 c := by
 have hi := hc.ins x hx
 have hm := hc.m2
 have mk : ∀ {o : Int}, (0 ≤ x.R ∧ x.R < m.Registers) → (o = -1 ∨ o = x.Place.Offset) → (⟨x.R, x.zD, o⟩ : zB) ∈ zn8 c := fun hr ho => zvz.2 ⟨⟨hr.1, by show x.R < 8; omega⟩, x, hx, rfl, ho⟩
 have about : ∀ g ∈ l, (0 ≤ x.R ∧ x.R < m.Registers) → (⟨x.R, g.zD, g.Offset⟩ : zB) ∈ zn8 c := fun g hg hr => by
  obtain ⟨_, y, hy, h1, h2⟩ := zvz.1 (hl g hg); exact zvz.2 ⟨⟨hr.1, by show x.R < 8; omega⟩, y, hy, h1, h2⟩
 unfold Beh at h
 split at h
 · rename_i e; rcases h with ⟨h, _⟩ | rfl | ⟨hb, rfl | ⟨_, _, _, _, g, hg, _, rfl⟩⟩
   · exact hl _ h
   · exact mk (hi.r (.inl e)) (.inl rfl)
   · exact mk (hi.r (.inl e)) (.inr rfl)
   · exact about g hg (hi.r (.inl e))
 · split at h
   · rcases h with ⟨h, _⟩ | rfl
     · exact hl _ h
     · exact mk (hi.r (by omega)) (.inl rfl)
   · split at h
     · exact hl _ h.1
     · split at h
       · rcases h with ⟨h, _⟩ | ⟨g, hg, _, rfl⟩
         · exact hl _ h
         · exact about g hg (hi.r (by omega))
       · split at h
         · rcases h with ⟨_, h, _⟩ | ⟨hb, ⟨h, _⟩ | ⟨e1, _, rfl⟩⟩
           · exact hl _ h
           · exact hl _ h
           · exact mk (hi.r (by omega)) (.inr rfl)
         · split at h
           · exact hl _ h.1
           · exact hl _ h
theorem z5l {x : zC} {l l' : List zB} (hs : ∀ f ∈ l, f ∈ l') {f : zB} (h : Beh x l f) : Beh x l' f := by
 unfold Beh at h ⊢
 split
 · rename_i e; rw [ifp e] at h; rcases h with ⟨h, h'⟩ | h | ⟨hb, h | ⟨a, ha, h1, h2, g, hg, h3, h4⟩⟩
   · exact .inl ⟨hs _ h, h'⟩
   · exact .inr (.inl h)
   · exact .inr (.inr ⟨hb, .inl h⟩)
   · exact .inr (.inr ⟨hb, .inr ⟨a, hs _ ha, h1, h2, g, hs _ hg, h3, h4⟩⟩)
 · rename_i e; rw [ifn e] at h; split
   · rename_i e; rw [ifp e] at h; rcases h with ⟨h, h'⟩ | h
     · exact .inl ⟨hs _ h, h'⟩
     · exact .inr h
   · rename_i e; rw [ifn e] at h; split
     · rename_i e; rw [ifp e] at h; exact ⟨hs _ h.1, h.2⟩
     · rename_i e; rw [ifn e] at h; split
       · rename_i e; rw [ifp e] at h; rcases h with ⟨h, h'⟩ | ⟨g, hg, h1, h2⟩
         · exact .inl ⟨hs _ h, h'⟩
         · exact .inr ⟨g, hs _ hg, h1, h2⟩
       · rename_i e; rw [ifn e] at h; split
         · rename_i e; rw [ifp e] at h; rcases h with ⟨hb, h, h'⟩ | ⟨hb, ⟨h, h'⟩ | ⟨h1, h2, h3⟩⟩
           · exact .inl ⟨hb, hs _ h, h'⟩
           · exact .inr ⟨hb, .inl ⟨hs _ h, h'⟩⟩
           · exact .inr ⟨hb, .inr ⟨h1, hs _ h2, h3⟩⟩
         · rename_i e; rw [ifn e] at h; split
           · rename_i e; rw [ifp e] at h; exact ⟨hs _ h.1, h.2⟩
           · rename_i e; rw [ifn e] at h; exact hs _ h
def fxB (c : zF) (R : Nat → Bool) (k : Nat) : Bool := zgt c k || !R k
def Nok (c : zF) (R : Nat → Bool) (D : Nat → Bool) (G : Nat → List zB) (i : Nat) : Prop :=
 ∀ x, c.zA[i]? = some x → ∀ k : Nat, (k : Int) ∈ zay c i → fxB c R k = false → D k = true ∧ ∀ f ∈ G k, Beh x (G i) f
structure Cl (c : zF) (R : Nat → Bool) (D : Nat → Bool) (G : Nat → List zB) : Prop where
 fx : ∀ k, k < c.zA.length → fxB c R k = true → D k = true ∧ G k = []
 st : ∀ i, i < c.zA.length → D i = true → Nok c R D G i
structure Inv (m : zI) (c : zF) (R : Nat → Bool) (D : Nat → Bool) (G : Nat → List zB) : Prop where
 so : ∀ k, zfk (G k)
 ok : ∀ k, ∀ f ∈ G k, FctV m c f
 un : ∀ k, ∀ f ∈ G k, f ∈ zn8 c
 no : ∀ k, D k = false → G k = []
 fx : ∀ k, k < c.zA.length → fxB c R k = true → D k = true ∧ G k = []
 ab : ∀ D' G', Cl c R D' G' → ∀ k, k < c.zA.length → D k = true → D' k = true ∧ ∀ f ∈ G' k, f ∈ G k
theorem zr7 {l : List zB} (h : zfk l) : l.Nodup := by
 unfold List.Nodup
 refine List.Pairwise.imp ?_ h
 intro a b hab e
 subst e
 rw [Proofs.Tryz.ltF_swo.1] at hab
 cases hab
theorem zqa (hc : CdV m c) {R D : Nat → Bool} {G : Nat → List zB} (h : Inv m c R D G) (k : Nat) : (G k).length ≤ 3840 := Nat.le_trans (zui _ _ (zr7 (h.so k)) (h.un k)) (zzz hc)
theorem z1l (hc : CdV m c) {R D D' : Nat → Bool} {G G' : Nat → List zB} (h : Inv m c R D G) (h2 : Cl c R D G) (g : Inv m c R D' G') (g2 : Cl c R D' G') : ∀ k, k < c.zA.length → D k = D' k ∧ G k = G' k := by
 intro k hk
 have e : D k = D' k := by
  rw [Bool.eq_iff_iff]; exact ⟨fun hd => (h.ab D' G' g2 k hk hd).1, fun hd => (g.ab D G h2 k hk hd).1⟩
 refine ⟨e, ?_⟩
 cases hd : D k with
 | false => rw [h.no k hd, g.no k (by rw [← e]; exact hd)]
 | true =>
  have hd' : D' k = true := by rw [← e]; exact hd
  exact Proofs.Tryz.strict_unique _ Proofs.Tryz.ltF_swo.1 Proofs.Tryz.ltF_swo.2.1 _ _ (h.so k) (g.so k) fun f => ⟨fun hf => (g.ab D G h2 k hk hd').2 f hf, fun hf => (h.ab D' G' g2 k hk hd).2 f hf⟩
def mea (D : Nat → Bool) (G : Nat → List zB) : Nat → Nat
 | 0 => 0
 | n + 1 => mea D G n + cond (D n) (G n).length 3841
theorem zyi {D : Nat → Bool} {G : Nat → List zB} (h : ∀ k, (G k).length ≤ 3840) : ∀ n, mea D G n ≤ n * 3841
 | 0 => Nat.le_refl _
 | n + 1 => by
  have := zyi (D := D) h n; have := h n; simp only [mea, Nat.succ_mul]; cases D n <;> simp <;> omega
theorem zz9 (D : Nat → Bool) (G : Nat → List zB) (x : Nat) (v : List zB) : ∀ n, mea (upd D x) (zfw G x v) n + cond (decide (x < n)) (cond (D x) (G x).length 3841) 0 = mea D G n + cond (decide (x < n)) v.length 0
 | 0 => by simp [mea]
 | n + 1 => by
  have ih := zz9 D G x v n; simp only [mea]
  by_cases e : n = x
  · subst e; rw [dcf (Nat.lt_irrefl n)] at ih; simp only [cfa, Nat.add_zero] at ih; rw [dct (Nat.lt_succ_self n), ih]; have h1 : upd D n n = true := by simp [upd]
    have h2 : zfw G n v n = v := by simp [zfw]
    rw [h1, h2]; simp only [ctr]; omega
  · have h1 : upd D x n = D n := by simp [upd, e]
    have h2 : zfw G x v n = G n := by simp [zfw, e]
    have h3 : decide (x < n + 1) = decide (x < n) := by
     by_cases h : x < n
     · rw [dct h, dct (by omega)]
     · rw [dcf h, dcf (by omega)]
    rw [h1, h2, h3]; omega
theorem zww {D D' : Nat → Bool} {G G' : Nat → List zB} : ∀ n, (∀ k, k < n → D k = D' k ∧ G k = G' k) → mea D G n = mea D' G' n
 | 0, _ => rfl
 | n + 1, h => by simp only [mea]; rw [zww n (fun k hk => h k (by omega)), (h n (by omega)).1, (h n (by omega)).2]
def nxt (D : Nat → Bool) (G : Nat → List zB) (r : List zB) (k : Nat) : List zB := cond (D k) ((G k).filter fun f => zea r f) r
theorem z49 (hc : CdV m c) {R D : Nat → Bool} {G : Nat → List zB} (h : Inv m c R D G) {r : List zB} {k : Nat} (hk : k < c.zA.length) (hf : fxB c R k = false) (hs : zfk r) (ho : ∀ f ∈ r, FctV m c f) (hu : ∀ f ∈ r, f ∈ zn8 c)
 (hr : ∀ D' G', Cl c R D' G' → D' k = true ∧ ∀ f ∈ G' k, f ∈ r) : Inv m c R (upd D k) (zfw G k (nxt D G r k)) := by
 have mem : ∀ f ∈ nxt D G r k, f ∈ r ∧ (D k = true → f ∈ G k) := fun f hf => by
  unfold nxt at hf; cases hd : D k with
  | true => rw [hd, ctr, List.mem_filter, ze7] at hf; exact ⟨hf.2, fun _ => hf.1⟩
  | false => rw [hd, cfa] at hf; exact ⟨hf, fun h => by cases h⟩
 refine ⟨fun j => ?_, fun j f hf' => ?_, fun j f hf' => ?_, fun j hj => ?_, fun j hj hfx => ?_, fun D' G' hcl j hj hd => ?_⟩
 · unfold zfw; split
   · unfold nxt; cases D k with
     | true => exact List.Pairwise.filter _ (h.so k)
     | false => exact hs
   · exact h.so j
 · unfold zfw at hf'; split at hf'
   · exact ho f (mem f hf').1
   · exact h.ok j f hf'
 · unfold zfw at hf'; split at hf'
   · exact hu f (mem f hf').1
   · exact h.un j f hf'
 · unfold upd at hj; split at hj
   · cases hj
   · rename_i e; unfold zfw; rw [ifn e]; exact h.no j hj
 · have e : j ≠ k := fun e => by subst e; rw [hf] at hfx; cases hfx
   unfold upd zfw; rw [ifn e, ifn e]; exact h.fx j hj hfx
 · unfold zfw; unfold upd at hd; split at hd
   · rename_i e; subst e; obtain ⟨q1, q2⟩ := hr D' G' hcl; refine ⟨q1, fun f hf' => ?_⟩; rw [ifp rfl]; unfold nxt; cases hd2 : D j with
     | true => rw [ctr, List.mem_filter, ze7]; exact ⟨(h.ab D' G' hcl j hj hd2).2 f hf', q2 f hf'⟩
     | false => exact q2 f hf'
   · rename_i e; rw [ifn e]; exact h.ab D' G' hcl j hj hd
end
end Go.Proofs.YtblgefddnnlniaaGreatDoor.M
