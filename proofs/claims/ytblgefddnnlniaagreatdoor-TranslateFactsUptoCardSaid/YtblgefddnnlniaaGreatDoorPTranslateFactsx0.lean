/- The plain law of TranslateFacts: part 0. -/
import Derived.Test.YtblgefddnnlniaaGreatDoorF1
import Derived.Test.YtblgefddnnlniaaGreatDoorA4
import Derived.Lib.Strings
namespace Go.Proofs.YtblgefddnnlniaaGreatDoor.M
open Go Go.Amx
set_option linter.unusedVariables false
set_option linter.unusedSimpArgs false
set_option maxRecDepth 100000
noncomputable section
theorem obs {α β : Type} (a : α) (f : α → Option β) : (some a).bind f = f a := rfl
theorem dct {p : Prop} [Decidable p] (h : p) : decide p = true := decide_eq_true h
theorem dcf {p : Prop} [Decidable p] (h : ¬ p) : decide p = false := decide_eq_false h
theorem lna {α : Type} {a b : List α} : (a ++ b).length = a.length + b.length := List.length_append
theorem lns {α : Type} {a : α} : [a].length = 1 := List.length_singleton
theorem lge {α : Type} {l : List α} {i : Nat} (h : i < l.length) : l[i]? = some l[i] := List.getElem?_eq_getElem h
theorem itn (n : Nat) : Int.toNat (n : Int) = n := Int.toNat_natCast n
theorem ctr {α : Sort _} (a b : α) : cond true a b = a := rfl
theorem cfa {α : Sort _} (a b : α) : cond false a b = b := rfl
theorem ifp {c : Prop} {h : Decidable c} (hc : c := by omega) {α : Sort _} {t e : α} : ite c t e = t := if_pos hc
theorem ifn {c : Prop} {h : Decidable c} (hc : ¬c := by omega) {α : Sort _} {t e : α} : ite c t e = e := if_neg hc
theorem bsf {α : Type _} [BEq α] [LawfulBEq α] (a : α) : (a != a) = false := bne_self_eq_false a
theorem tde {a b : Int} (h : 0 ≤ a := by omega) : a.tdiv b = a / b := Int.tdiv_eq_ediv_of_nonneg h
theorem tme {a b : Int} (h : 0 ≤ a := by omega) : a.tmod b = a % b := Int.tmod_eq_emod_of_nonneg h
theorem lnt {α : Type _} {i : Nat} {l : List α} : (l.take i).length = min i l.length := List.length_take
theorem lnr {α : Type _} {n : Nat} {a : α} : (List.replicate n a).length = n := List.length_replicate
theorem gdd {α : Type _} {l : List α} {i : Nat} {a : α} : l.getD i a = l[i]?.getD a := List.getD_eq_getElem?_getD
theorem cbc {p : Prop} (h : ¬p → False) : p := Classical.byContradiction h
theorem lnc {α : Type _} {a : α} {l : List α} : (a :: l).length = l.length + 1 := List.length_cons
theorem gei {α : Type _} {i : Nat} {a : α} {l : List α} (h : l[i]? = some a) : ∃ h : i < l.length, l[i] = a := List.getElem?_eq_some_iff.1 h
theorem eof {α β : Type _} {b : β} {f : α → Option β} {l : List α} (h : l.findSome? f = some b) : ∃ a, a ∈ l ∧ f a = some b := List.exists_of_findSome?_eq_some h
theorem ln0 {α : Type _} : ([] : List α).length = 0 := rfl
theorem lnm {α β : Type _} {l : List α} (f : α → β) : (l.map f).length = l.length := List.length_map f
theorem dr0 {α : Type _} {l : List α} : l.drop 0 = l := rfl
theorem bsa {a b : ByteArray} : (a ++ b).size = a.size + b.size := ByteArray.size_append
theorem bnt : (!true) = false := rfl
theorem mel {a b : Nat} (h : a < b) : a % b = a := Nat.mod_eq_of_lt h
theorem nc0 : ((0 : Nat) : Int) = 0 := Int.natCast_zero
theorem bst {α : Type _} [BEq α] [ReflBEq α] (a : α) : (a == a) = true := beq_self_eq_true a
theorem lmg {α : Type _} {l : List α} {i : Nat} {a : α} (h : l[i]? = some a) : a ∈ l := List.mem_of_getElem? h
theorem w6e {n : Int} (h1 : -9223372036854775808 ≤ n := by omega) (h2 : n ≤ 9223372036854775807 := by omega) : w6 n = n := z49 h1 h2
theorem ztb (N : Nat) (l : List Int) (h : l.length < N) (hl : l.length < 1000000000) : zar N l = some (zf4 l) := by
 unfold zar
 have := zdq (f := zar.r0 N) (fun i => (l, (l.length : Int), (i : Int))) (fun i => (l[i]?).bind fun x => if x = 0 then none else some x) l.length
  (fun i hi => by
   have hx := lge hi; simp only [zar.r0, zar.b0, zay, hx, obs, dct (show (i : Int) < (l.length : Int) by omega), ctr]
   by_cases h0 : l[i] = 0
   · simp only [h0, bsf, cfa, if_true]; rw [w6e]; rfl
   · simp only [h0, if_false]; rw [show (l[i] != 0) = true by simpa using h0]; rfl)
  (by simp only [zar.r0, zar.b0, dcf (show ¬ (l.length : Int) < (l.length : Int) by omega), cfa]) h
 simp only [nc0] at this
 rw [this, zl0, ← zrf]
 simp only [obs]
 cases l.findSome? (fun x => if x = 0 then none else some x) <;> rfl
theorem z2v (N : Nat) (l : List Int) (h : l.length < N) (hl : l.length < 1000000000) : zax N l = some (zf4 l) := by
 unfold zax
 have := zdq (f := zax.r0 N) (fun i => (l, (l.length : Int), (i : Int))) (fun i => (l[i]?).bind fun x => if x = 0 then none else some x) l.length
  (fun i hi => by
   have hx := lge hi; simp only [zax.r0, zax.b0, zay, hx, obs, dct (show (i : Int) < (l.length : Int) by omega), ctr]
   by_cases h0 : l[i] = 0
   · simp only [h0, bsf, cfa, if_true]; rw [w6e]; rfl
   · simp only [h0, if_false]; rw [show (l[i] != 0) = true by simpa using h0]; rfl)
  (by simp only [zax.r0, zax.b0, dcf (show ¬ (l.length : Int) < (l.length : Int) by omega), cfa]) h
 simp only [nc0] at this
 rw [this, zl0, ← zrf]
 simp only [obs]
 cases l.findSome? (fun x => if x = 0 then none else some x) <;> rfl
def inB (n lo hi : Int) : Bool := decide (lo ≤ n) && decide (n ≤ hi)
theorem zn3 (n lo hi : Int) : za9 n lo hi = some (inB n lo hi) := by
 unfold za9 inB
 cases decide (lo ≤ n) <;> rfl
theorem z3i (n lo hi : Int) : zdz n lo hi = some (inB n lo hi) := by
 unfold zdz inB
 cases decide (lo ≤ n) <;> rfl
theorem zjx (n lo hi : Int) : zk n lo hi = some (inB n lo hi) := by
 unfold zk inB
 cases decide (lo ≤ n) <;> rfl
theorem zo6 (b : Bool) (e : Int) : zbm b e = some (cond b e 0) := by cases b <;> rfl
theorem zyp (b : Bool) (e : Int) : zbi b e = some (cond b e 0) := by cases b <;> rfl
theorem zpr (b : Bool) : zda b = some (cond b 1 0) := by cases b <;> rfl
theorem zt6 (m : zI) : ∃ e, zc6 m = some e ∧ zgx m = some e ∧ (e = 0 → 2 ≤ m.Registers ∧ m.Registers ≤ 8) := by
 refine ⟨cond (!inB m.Registers 2 8) 3 0, ?_, ?_, ?_⟩
 · simp only [zc6, zn3, zo6, obs]
 · simp only [zgx, zjx, obs]; cases inB m.Registers 2 8 <;> rfl
 · intro h; cases hb : inB m.Registers 2 8 with
   | false => rw [hb] at h; cases h
   | true => simpa [inB] using hb
def zb8 (t : DataType) : Int :=
 if t.Kind = 0 then (if inB t.Length 1 256 then (if t.Scale = 0 then 0 else 3) else 18)
 else if t.Kind = 1 ∨ t.Kind = 2 then (if inB t.Length 1 15 then (if inB t.Scale 0 t.Length then 0 else 3) else 18)
 else if t.Kind = 3 then (if t.Length = 4 ∨ t.Length = 9 then (if inB t.Scale 0 t.Length then 0 else 3) else 18)
 else if t.Kind = 4 then (if t.Length = 0 then (if t.Scale = 0 then 0 else 3) else 18)
 else 4
theorem z5z (a b : Bool) (x y : Int) (hx : x ≠ 0) (hy : y ≠ 0) : zf4 [cond a x 0, cond b y 0] = cond a x (cond b y 0) := by
 cases a <;> cases b <;> simp [zf4, hx, hy]
theorem zuv (N : Nat) (hN : 10 < N) (t : DataType) : zb0 N t = some (zb8 t) := by
 have f2 : ∀ a b : Int, zax N [a, b] = some (zf4 [a, b]) := fun a b => z2v N _ (by simp; omega) (by simp)
 unfold zb0 zb8
 simp only [z3i, zyp, f2, obs, z5z _ _ 18 3 (by decide) (by decide)]
 by_cases h0 : t.Kind = 0
 · simp only [h0, bst, ctr, if_true]; cases inB t.Length 1 256 <;> by_cases hs : t.Scale = 0 <;> simp [zc3, hs]
 · simp only [beq_eq_false_iff_ne.2 h0, h0, cfa, if_false]
   by_cases h1 : t.Kind = 1
   · simp only [h1, bst, ctr, true_or, if_true, obs]; cases inB t.Length 1 15 <;> cases inB t.Scale 0 t.Length <;> simp
   · by_cases h2 : t.Kind = 2
     · simp only [h2, h1]; cases inB t.Length 1 15 <;> cases inB t.Scale 0 t.Length <;> simp
     · by_cases h3 : t.Kind = 3
       · simp only [h3]
         by_cases h4 : t.Length = 4 <;> by_cases h5 : t.Length = 9 <;> cases inB t.Scale 0 t.Length <;> simp [zc3, h4, h5]
       · by_cases h4 : t.Kind = 4
         · simp only [h4]
           by_cases h5 : t.Length = 0 <;> by_cases h6 : t.Scale = 0 <;> simp [zc3, h5, h6]
         · simp [zc3, h1, h2, h3, h4]
theorem zty (k : Int) : zcy k = some (inB k 1 3) := by simp only [zcy, zjx, obs]
theorem z34 (t : DataType) : zhl t = some (zb8 t) := by
 have w0' : w6 0 = 0 := by decide
 have w1 : w6 3 = 3 := by decide
 have hz : inB t.Scale 0 0 = decide (t.Scale = 0) := by
  unfold inB
  by_cases h : t.Scale = 0
  · simp [h]
  · simp only [h, decide_false]
    by_cases h1 : 0 ≤ t.Scale
    · simp [h1, show ¬ t.Scale ≤ 0 by omega]
    · simp [h1]
 unfold zhl zb8
 simp only [zjx, zty, zpr, obs, hz]
 by_cases h0 : t.Kind = 0
 · have e : inB (0 : Int) 0 4 = true := by decide
   have e' : inB (0 : Int) 1 3 = false := by decide
   simp only [h0, e, e']; cases inB t.Length 1 256 <;> by_cases hs : t.Scale = 0 <;> simp [zc3, hs, w0', w1]
 · by_cases h1 : t.Kind = 1
   · have e : inB (1 : Int) 0 4 = true := by decide
     have e' : inB (1 : Int) 1 3 = true := by decide
     simp only [h1, e, e']; cases inB t.Length 1 15 <;> cases inB t.Scale 0 t.Length <;> simp [w0', w1]
   · by_cases h2 : t.Kind = 2
     · have e : inB (2 : Int) 0 4 = true := by decide
       have e' : inB (2 : Int) 1 3 = true := by decide
       simp only [h2, e, e']; cases inB t.Length 1 15 <;> cases inB t.Scale 0 t.Length <;> simp [w0', w1]
     · by_cases h3 : t.Kind = 3
       · have e : inB (3 : Int) 0 4 = true := by decide
         have e' : inB (3 : Int) 1 3 = true := by decide
         simp only [h3, e, e']
         by_cases h4 : t.Length = 4 <;> by_cases h5 : t.Length = 9 <;> cases inB t.Scale 0 t.Length <;> simp [zc3, h4, h5, w0', w1]
       · by_cases h4 : t.Kind = 4
         · have e : inB (4 : Int) 0 4 = true := by decide
           have e' : inB (4 : Int) 1 3 = false := by decide
           simp only [h4, e, e']
           by_cases h5 : t.Length = 0 <;> by_cases h6 : t.Scale = 0 <;> simp [zc3, h5, h6, w0', w1]
         · have e : inB t.Kind 0 4 = false := by
            unfold inB
            by_cases hh : 0 ≤ t.Kind
            · simp only [hh, decide_true, Bool.true_and, decide_eq_false_iff_not]; omega
            · simp [hh]
           simp [zc3, h0, h1, h2, h3, h4, e]
theorem zes {n lo hi : Int} : inB n lo hi = true ↔ lo ≤ n ∧ n ≤ hi := by simp [inB]
theorem zjt {t : DataType} (h : zb8 t = 0) : (t.Kind = 0 ∧ 1 ≤ t.Length ∧ t.Length ≤ 256) ∨ ((t.Kind = 1 ∨ t.Kind = 2) ∧ 1 ≤ t.Length ∧ t.Length ≤ 15) ∨ (t.Kind = 3 ∧ (t.Length = 4 ∨ t.Length = 9)) ∨ (t.Kind = 4 ∧ t.Length = 0) := by
 unfold zb8 at h
 split at h
 · rename_i h0; split at h
   · rename_i h1; exact .inl ⟨h0, (zes.1 h1).1, (zes.1 h1).2⟩
   · cases h
 · split at h
   · rename_i h0; split at h
     · rename_i h1; exact .inr (.inl ⟨h0, (zes.1 h1).1, (zes.1 h1).2⟩)
     · cases h
   · split at h
     · rename_i h0; split at h
       · rename_i h1; exact .inr (.inr (.inl ⟨h0, h1⟩))
       · cases h
     · split at h
       · rename_i h0; split at h
         · rename_i h1; exact .inr (.inr (.inr ⟨h0, h1⟩))
         · cases h
       · cases h
def szE (t : DataType) : Int := if t.Kind = 1 then t.Length / 2 + 1 else if t.Kind = 3 then (if t.Length = 9 then 4 else 2) else if t.Kind = 4 then 16 else t.Length
theorem zuo {t : DataType} (h : zb8 t = 0) : 0 < szE t ∧ szE t ≤ 256 := by
 unfold szE
 rcases zjt h with ⟨h0, h1, h2⟩ | ⟨h0 | h0, h1, h2⟩ | ⟨h0, h1 | h1⟩ | ⟨h0, h1⟩ <;> simp only [h0] <;> simp <;> omega
theorem zoy {t : DataType} (h : zb8 t = 0) : zds t = some (szE t) := by
 unfold zds szE
 rcases zjt h with ⟨h0, h1, h2⟩ | ⟨h0 | h0, h1, h2⟩ | ⟨h0, h1 | h1⟩ | ⟨h0, h1⟩ <;> simp only [h0, h1, zc3, zpr] <;> simp
 · rw [tde, w6e (n := t.Length / 2), w6e]
 · decide
 · decide
theorem zyo {t : DataType} (h : zb8 t = 0) : zgd t = some (szE t) := by
 unfold zgd szE
 rcases zjt h with ⟨h0, h1, h2⟩ | ⟨h0 | h0, h1, h2⟩ | ⟨h0, h1 | h1⟩ | ⟨h0, h1⟩ <;> simp only [h0, h1, zc3] <;> simp
 · rw [tde, w6e (n := t.Length / 2), w6e]
 · decide
 · decide
theorem z4q (N : Nat) (hN : 10 < N) {t : DataType} (h : zb8 t = 0) : zhm N t = some (szE t) := by
 unfold zhm zdp
 rw [zuv N hN, h]
 simp [zyo h]
structure StoOk (s : Storage) : Prop where
 le : s.Bytes.size ≤ 1024
 quad : s.Bytes.size % 16 = 0
def zjc (s : Storage) (a : Int) : Bool := decide (0 ≤ a) && (decide (a % 16 = 0) && decide (a < (s.Bytes.size : Int)))
theorem zys (s : Storage) (a : Int) : zcz s a = some (zjc s a) := by
 unfold zcz zjc
 by_cases h : 0 ≤ a
 · rw [tme h]; simp only [ge_iff_le, h, decide_true, ctr, obs, zc3, Bool.true_and]; cases decide (a % 16 = 0) <;> rfl
 · simp [h]
theorem zyn {s : Storage} (ok : StoOk s) (a : Int) : zd8 s a = some (zjc s a) := by
 have h1 := ok.le
 have h2 := ok.quad
 unfold zd8 zjc
 rw [w6e, zjx]
 simp only [obs]
 by_cases h : 0 ≤ a
 · rw [tme h]; simp only [inB, h, decide_true, Bool.true_and, zc3]
   by_cases h3 : a % 16 = 0
   · have e : decide (a ≤ (s.Bytes.size : Int) - 16) = decide (a < (s.Bytes.size : Int)) := by
      by_cases h4 : a < (s.Bytes.size : Int)
      · rw [dct h4]; exact dct (by omega)
      · rw [dcf h4]; exact dcf (by omega)
     simp only [h3, decide_true, Bool.true_and, e]; cases decide (a < (s.Bytes.size : Int)) <;> rfl
   · simp only [h3, decide_false, Bool.false_and]; cases decide (a ≤ (s.Bytes.size : Int) - 16) <;> rfl
 · simp [inB, h]
def zg8 (s : Storage) (p : zK) (n : Int) : Bool := if p.Based then zjc s p.Pointer && inB p.Offset 0 256 else inB p.Offset 0 ((s.Bytes.size : Int) - n)
theorem zw6 {s : Storage} (ok : StoOk s) (N : Nat) (hN : 10 < N) (p : zK) {t : DataType} (h : zb8 t = 0) : zcm N s p t = some (zg8 s p (szE t)) := by
 obtain ⟨h1, h2⟩ := zuo h
 have h3 := ok.le
 unfold zcm zg8
 rw [zys, z4q N hN h, zn3]
 simp only [obs]
 rw [w6e]
 simp only [zn3, obs]
 cases p.Based <;> cases zjc s p.Pointer <;> simp
theorem zwh {s : Storage} (ok : StoOk s) {c : zF} (hc : c.Storage = s) (p : zK) (hp : -9223372036854775808 ≤ p.Offset ∧ p.Offset ≤ 9223372036854775807) {t : DataType} (h : zb8 t = 0) : zdk c p (szE t) = some (zg8 s p (szE t)) := by
 obtain ⟨h1, h2⟩ := zuo h
 have h3 := ok.le
 unfold zdk zg8 ziw
 rw [hc]
 simp only [zyn ok, zjx, obs]
 cases p.Based with
 | true => cases zjc s p.Pointer <;> simp
 | false =>
  simp only [cfa]
  by_cases h4 : inB p.Offset 0 (s.Bytes.size : Int) = true
  · obtain ⟨h5, h6⟩ := zes.1 h4; rw [w6e]; simp only [h4, ctr, obs, Bool.false_eq_true, if_false]
    congr 1
    unfold inB; simp only [h5, decide_true, Bool.true_and, show (0 : Int) ≤ szE t by omega]
    by_cases h7 : szE t ≤ (s.Bytes.size : Int) - p.Offset
    · rw [dct h7]; exact (dct (by omega)).symm
    · rw [dcf h7]; exact (dcf (by omega)).symm
  · have e : inB p.Offset 0 (s.Bytes.size : Int) = false := by simpa using h4
    simp only [e, cfa, obs, Bool.false_eq_true, if_false]
    congr 1
    cases h5 : inB p.Offset 0 ((s.Bytes.size : Int) - szE t) with
    | false => rfl
    | true =>
     obtain ⟨h6, h7⟩ := zes.1 h5; exact absurd (zes.2 ⟨h6, by omega⟩) h4
def zp2 (n : Number) : Int := cond (inB n.N (-999999999999999) 999999999999999 && inB n.Scale 0 15) 0 3
theorem z1f (n : Number) : zer n = some (zp2 n) := by
 unfold zer zp2
 simp only [z3i, zyp, obs]
 cases inB n.N (-999999999999999) 999999999999999 <;> cases inB n.Scale 0 15 <;> rfl
theorem z04 (n : Number) : zdy n = some (zp2 n) := by
 have w0 : w6 (3 * 0) = 0 := by decide
 have w1 : w6 (3 * 1) = 3 := by decide
 unfold zdy zp2
 simp only [zjx, zpr, obs]
 cases inB n.N (-999999999999999) 999999999999999 <;> cases inB n.Scale 0 15 <;> simp [w0, w1, zpr] <;> decide
def z3n (op : Int) (ins : Bool) : Option zR :=
 (idx zz2 op).bind fun x1 => (cond (op == 4) (some ins) (some false)).bind fun g2 =>
  cond g2 (some (⟨(orI .i64 (orI .i64 (zy4 .i64 x1.fields 4) 8) 64), x1.types⟩ : zR)) (some x1)
theorem z51 (x : zC) : zbf x = z3n x.Op x.zN := rfl
def z3e (op : Int) (ins : Bool) : Option zL := zdx ⟨op, 0, 0, 0, 0, ⟨false, 0, 0⟩, ⟨false, 0, 0⟩, ⟨0, 0, 0⟩, ⟨0, 0, 0⟩, false, ins, ⟨0, 0⟩, ⟨#[]⟩, ⟨#[]⟩, 0, 0, 0, 0⟩
theorem z5a (x : zC) : zdx x = z3e x.Op x.zN := rfl
structure Agree (f : zR) (u : zL) : Prop where
 R : (zn .i64 f.fields 1 != 0) = u.R
 A : (zn .i64 f.fields 2 != 0) = u.A
 B : (zn .i64 f.fields 4 != 0) = u.B
 Place : (zn .i64 f.fields 8 != 0) = u.Place
 From : (zn .i64 f.fields 16 != 0) = u.From
 zD : (zn .i64 f.fields 32 != 0) = (u.zD != 0)
 Second : (zn .i64 f.fields 64 != 0) = (u.Second != 0)
 Half : (zn .i64 f.fields 128 != 0) = u.Half
 Number : (zn .i64 f.fields 256 != 0) = u.Number
 Text : (zn .i64 f.fields 512 != 0) = u.Text
 Other : (zn .i64 f.fields 1024 != 0) = u.Other
 Mask : (zn .i64 f.fields 2048 != 0) = u.Mask
 Target : (zn .i64 f.fields 4096 != 0) = u.Target
 Pointer : (zn .i64 f.fields 8192 != 0) = u.Pointer
 Source : (zn .i64 f.fields 16384 != 0) = u.Source
 Calc : (zn .i64 f.fields 32768 != 0) = u.zO
 class1 : u.zD = 0 ∨ u.zD = f.types
 class2 : u.Second = 0 ∨ u.Second = f.types
 cls : f.types = 0 ∨ f.types = 1 ∨ f.types = 2 ∨ f.types = 3
def zxt (f : zR) (u : zL) : Bool :=
 ((zn .i64 f.fields 1 != 0) == u.R) && (((zn .i64 f.fields 2 != 0) == u.A) && (((zn .i64 f.fields 4 != 0) == u.B) && (((zn .i64 f.fields 8 != 0) == u.Place) && (((zn .i64 f.fields 16 != 0) == u.From) &&
 (((zn .i64 f.fields 32 != 0) == (u.zD != 0)) && (((zn .i64 f.fields 64 != 0) == (u.Second != 0)) && (((zn .i64 f.fields 128 != 0) == u.Half) && (((zn .i64 f.fields 256 != 0) == u.Number) && (((zn .i64 f.fields 512 != 0) == u.Text) &&
 (((zn .i64 f.fields 1024 != 0) == u.Other) && (((zn .i64 f.fields 2048 != 0) == u.Mask) && (((zn .i64 f.fields 4096 != 0) == u.Target) && (((zn .i64 f.fields 8192 != 0) == u.Pointer) && (((zn .i64 f.fields 16384 != 0) == u.Source) &&
 (((zn .i64 f.fields 32768 != 0) == u.zO) && ((u.zD == 0 || u.zD == f.types) && ((u.Second == 0 || u.Second == f.types) && (f.types == 0 || (f.types == 1 || (f.types == 2 || f.types == 3))))))))))))))))))))
theorem z3c {f : zR} {u : zL} (h : zxt f u = true) : Agree f u := by
 simp only [zxt, Bool.and_eq_true, beq_iff_eq, Bool.or_eq_true] at h
 obtain ⟨h1, h2, h3, h4, h5, h6, h7, h8, h9, h10, h11, h12, h13, h14, h15, h16, h17, h18, h19⟩ := h
 exact ⟨h1, h2, h3, h4, h5, h6, h7, h8, h9, h10, h11, h12, h13, h14, h15, h16, h17, h18, h19⟩
def zzv (op : Int) (ins : Bool) : Bool := match z3n op ins, z3e op ins with
 | some f, some u => (zxt f u && ((!u.From || u.Second != 0) && (!u.Place || cond (op == 4) (u.Second != 0) (u.zD != 0)))) && (cond (op == 4) (u.R && u.A && u.zO && (u.Place == ins) && (u.Second != 0) == ins) (u.zO == false))
 | _, _ => false
theorem z5p : ((List.range 27).all fun k => zzv (k : Int) true && zzv (k : Int) false) = true := by kernel_rfl
theorem zvi (x : zC) (h : inB x.Op 0 26 = true) : ∃ f u, zbf x = some f ∧ zdx x = some u ∧ Agree f u ∧ (x.Op = 4 → u.Place = x.zN) ∧ (u.From = true → u.Second ≠ 0) ∧ (u.Place = true → if x.Op = 4 then u.Second ≠ 0 else u.zD ≠ 0) := by
 obtain ⟨h1, h2⟩ := zes.1 h
 obtain ⟨k, hk⟩ : ∃ k : Nat, x.Op = (k : Int) := ⟨x.Op.toNat, by omega⟩
 have hlt : k < 27 := by omega
 have h3 := List.all_eq_true.1 z5p k (by simpa using hlt)
 have h4 : zzv x.Op x.zN = true := by
  rw [hk]; cases x.zN
  · exact ((Bool.and_eq_true _ _).mp h3).2
  · exact ((Bool.and_eq_true _ _).mp h3).1
 rw [z51, z5a]
 unfold zzv at h4
 split at h4
 · rename_i f u hf hu; obtain ⟨h5, h6⟩ := (Bool.and_eq_true _ _).mp h4; simp only [Bool.and_eq_true] at h5; obtain ⟨h5, h8, h9⟩ := h5; refine ⟨f, u, hf, hu, z3c h5, fun h7 => ?_, fun h7 => ?_, fun h7 => ?_⟩
   · rw [h7] at h6; simp only [bst, ctr, Bool.and_eq_true, beq_iff_eq] at h6; exact h6.1.2
   · rw [h7] at h8; simpa using h8
   · rw [h7] at h9; split
     · rename_i h10; rw [h10] at h9; simpa using h9
     · rename_i h10; rw [zc3, dcf h10] at h9; simpa using h9
 · cases h4
theorem zpf (a b : Int) : (a == b) = !(a != b) := by simp [bne]
def zkf (x : zC) (u : zL) : Bool :=
 (!u.R && x.R != 0) || ((!u.A && x.A != 0) || ((!u.B && x.B != 0) || ((!u.zO && x.zO != 0) || ((!u.Place && !(!x.Place.Based && (x.Place.Pointer == 0 && x.Place.Offset == 0))) ||
 ((!u.From && !(!x.From.Based && (x.From.Pointer == 0 && x.From.Offset == 0))) || ((u.zD == 0 && !(x.zD.Kind == 0 && (x.zD.Length == 0 && x.zD.Scale == 0))) || ((u.Second == 0 && !(x.Second.Kind == 0 && (x.Second.Length == 0 && x.Second.Scale == 0))) ||
 ((!u.Half && x.Half) || ((x.Op != 4 && x.zN) || ((!u.Number && !(x.Number.N == 0 && x.Number.Scale == 0)) || ((!u.Text && !(x.Text.toList == [])) || ((!u.Other && !(x.Other.toList == [])) ||
 ((!u.Mask && x.Mask != 0) || ((!u.Target && x.Target != 0) || ((!u.Pointer && x.Pointer != 0) || ((!u.Source && x.Source != 0) || ((!x.Place.Based && x.Place.Pointer != 0) || (!x.From.Based && x.From.Pointer != 0))))))))))))))))))
theorem orB (a b : Bool) : (cond a (some true) (some b)) = some (a || b) := by cases a <;> rfl
theorem zjb (a b : Bool) : (cond a (some b) (some false)) = some (a && b) := by cases a <;> rfl
theorem z2n (x : zC) (u : zL) : zgw x u = some (zkf x u) := by
 unfold zgw zkf
 have e : (⟨#[]⟩ : ByteArray).toList = [] := by kernel_rfl
 simp only [zjb, orB, obs, zc2, Bool.and_true, e, Bool.or_assoc, beq_false]
def zmh (p : zK) (b : Bool) : zK := cond b (cond p.Based p ⟨p.Based, 0, p.Offset⟩) ⟨false, 0, 0⟩
theorem z1k (p : zK) (b : Bool) : zf2 p b = some (zmh p b) := by
 unfold zf2 zmh
 cases b <;> cases p.Based <;> rfl
theorem z6y (k v fl : Int) : zbx k v fl = some (cond (zn .i64 fl k != 0) v 0) := by
 unfold zbx
 rw [zpf]
 cases (zn .i64 fl k != 0) <;> rfl
def zvu (x : zC) (u : zL) : zC :=
 ⟨x.Op, cond u.R x.R 0, cond u.A x.A 0, cond u.B x.B 0, cond u.zO x.zO 0, zmh x.Place u.Place, zmh x.From u.From, cond (u.zD != 0) x.zD ⟨0, 0, 0⟩, cond (u.Second != 0) x.Second ⟨0, 0, 0⟩,
  cond x.Half u.Half false, cond x.zN (x.Op == 4) false, cond u.Number x.Number ⟨0, 0⟩, cond u.Text x.Text ⟨#[]⟩, cond u.Other x.Other ⟨#[]⟩, cond u.Mask x.Mask 0, cond u.Target x.Target 0, cond u.Pointer x.Pointer 0, cond u.Source x.Source 0⟩
theorem z4s {x : zC} {f : zR} {u : zL} (hf : zbf x = some f) (ag : Agree f u) : zhn x = some (zvu x u) := by
 have b2 : ∀ a b : Bool, (cond a (some b) (some false)) = some (cond a b false) := fun a b => by cases a <;> rfl
 unfold zhn zvu
 simp only [hf, z6y, z1k, b2, obs, zpf (zn .i64 f.fields 32), zpf (zn .i64 f.fields 64), zpf (zn .i64 f.fields 256), zpf (zn .i64 f.fields 512), zpf (zn .i64 f.fields 1024),
  ag.R, ag.A, ag.B, ag.Place, ag.From, ag.zD, ag.Second, ag.Half, ag.Number, ag.Text, ag.Other, ag.Mask, ag.Target, ag.Pointer, ag.Source, ag.Calc]
 cases (u.zD != 0) <;> cases (u.Second != 0) <;> cases u.Number <;> cases u.Text <;> cases u.Other <;> rfl
theorem z6u (b : Bool) (n : Int) : (!(cond b n 0 == n)) = (!b && n != 0) := by
 cases b
 · by_cases h : n = 0
   · simp [h]
   · simp [h, zc3, zei, Ne.symm h]
 · simp
theorem z64 (a b : ByteArray) : (a == b) = decide (a = b) := by
 cases a with | mk x =>
 cases b with | mk y =>
 show ByteArray.beq _ _ = _
 unfold ByteArray.beq
 by_cases h : x = y
 · simp [h]
 · simp [h]
theorem z6t (b : Bool) (t : ByteArray) : (!(cond b t (⟨#[]⟩ : ByteArray) == t)) = (!b && !(t.toList == [])) := by
 rw [z64]
 cases b
 · simp only [cfa, Bool.not_false, Bool.true_and]
   congr 1
   rw [Lib.toList_data]
   by_cases h : t = ⟨#[]⟩
   · subst h; rfl
   · rw [dcf (Ne.symm h)]
     symm
     rw [beq_eq_false_iff_ne]; intro hh; apply h; cases t with
     | mk d => simp at hh; rw [hh]
 · simp
theorem z6w (a b : Bool) : (!(cond a b false == a)) = (!b && a) := by cases a <;> cases b <;> rfl
theorem z6v (a : Bool) (op : Int) : (!(cond a (op == 4) false == a)) = (op != 4 && a) := by
 cases a
 · simp
 · simp [bne]
theorem z3j (p : zK) (b r : Bool) : (!((zmh p b).Based == p.Based) || (!((zmh p b).Pointer == p.Pointer) || (!((zmh p b).Offset == p.Offset) || r))) =
 ((!b && !(!p.Based && (p.Pointer == 0 && p.Offset == 0))) || ((!p.Based && p.Pointer != 0) || r)) := by
 obtain ⟨ba, pt, of⟩ := p
 cases b <;> cases ba <;> by_cases h1 : pt = 0 <;> by_cases h2 : of = 0 <;> simp [zmh, zc3, zei, h1, h2, eq_comm (a := (0 : Int))]
theorem z3k (t : DataType) (b : Int) (r : Bool) : (!((cond (b != 0) t ⟨0, 0, 0⟩).Kind == t.Kind) || (!((cond (b != 0) t ⟨0, 0, 0⟩).Length == t.Length) || (!((cond (b != 0) t ⟨0, 0, 0⟩).Scale == t.Scale) || r))) =
 ((b == 0 && !(t.Kind == 0 && (t.Length == 0 && t.Scale == 0))) || r) := by
 obtain ⟨k, l, s⟩ := t
 by_cases h0 : b = 0 <;> by_cases h1 : k = 0 <;> by_cases h2 : l = 0 <;> by_cases h3 : s = 0 <;> simp [zc3, zei, h0, h1, h2, h3, eq_comm (a := (0 : Int))]
theorem z6s (t : Number) (b r : Bool) : (!((cond b t ⟨0, 0⟩).N == t.N) || (!((cond b t ⟨0, 0⟩).Scale == t.Scale) || r)) = ((!b && !(t.N == 0 && t.Scale == 0)) || r) := by
 obtain ⟨n, s⟩ := t
 cases b <;> by_cases h1 : n = 0 <;> by_cases h2 : s = 0 <;> simp [zc3, zei, h1, h2, eq_comm (a := (0 : Int))]
theorem zzy (x : zC) (u : zL) (r2 : zC) (h : r2 = zvu x u) :
 (!(zc2 [(r2.Op == x.Op), (r2.R == x.R), (r2.A == x.A), (r2.B == x.B), (r2.zO == x.zO), (r2.Place.Based == x.Place.Based), (r2.Place.Pointer == x.Place.Pointer), (r2.Place.Offset == x.Place.Offset), (r2.From.Based == x.From.Based), (r2.From.Pointer == x.From.Pointer), (r2.From.Offset == x.From.Offset), (r2.zD.Kind == x.zD.Kind), (r2.zD.Length == x.zD.Length), (r2.zD.Scale == x.zD.Scale), (r2.Second.Kind == x.Second.Kind), (r2.Second.Length == x.Second.Length), (r2.Second.Scale == x.Second.Scale), (r2.Half == x.Half), (r2.zN == x.zN), (r2.Number.N == x.Number.N), (r2.Number.Scale == x.Number.Scale), (r2.Text == x.Text), (r2.Other == x.Other), (r2.Mask == x.Mask), (r2.Target == x.Target), (r2.Pointer == x.Pointer), (r2.Source == x.Source)])) = zkf x u := by
 subst h
 simp only [zc2, Bool.not_and, zvu]
 rw [z3j x.Place, z3j x.From, z3k x.zD, z3k x.Second, z6s x.Number]
 simp only [z6u, z6t, z6w, z6v, bst, bnt, Bool.false_or, Bool.or_false, zkf, bne]
 ac_rfl
def zdc (t : DataType) (c : Int) : Int := if c = 0 then 0 else if zb8 t = 0 then (if (c = 1 ∧ ¬ (1 ≤ t.Kind ∧ t.Kind ≤ 3)) ∨ (c = 2 ∧ t.Kind ≠ 0) ∨ (c = 3 ∧ t.Kind = 4) then 17 else 0) else zb8 t
theorem zk7 {t : DataType} {c : Int} (h : zdc t c = 0) (hc : c ≠ 0) : zb8 t = 0 := by
 unfold zdc at h
 rw [ifn hc] at h
 by_cases h0 : zb8 t = 0
 · exact h0
 · rw [ifn h0] at h; exact absurd h h0
theorem zua (N : Nat) (hN : 10 < N) (t : DataType) (c : Int) (hc : c = 1 ∨ c = 2 ∨ c = 3) : zea N t c = some (zdc t c) := by
 have f2 : ∀ a b : Int, zar N [a, b] = some (zf4 [a, b]) := fun a b => ztb N _ (by simp; omega) (by simp)
 unfold zea zdc
 rw [zuv N hN]
 simp only [zo6, f2, zjb, orB, obs, zc3, zei]
 have hc0 : c ≠ 0 := by omega
 rw [ifn hc0]
 by_cases h : zb8 t = 0
 · rw [ifp h, h]; simp only [zf4, if_true]; rcases zjt h with ⟨h0, _⟩ | ⟨h0 | h0, _⟩ | ⟨h0, _⟩ | ⟨h0, _⟩ <;> rcases hc with rfl | rfl | rfl <;> simp [h0]
 · rw [ifn h]; simp only [zf4, h, if_false]
theorem ztx (t : DataType) (c : Int) (hc : c = 0 ∨ c = 1 ∨ c = 2 ∨ c = 3) : zgi t c = some (zdc t c) := by
 unfold zgi zdc
 rw [z34]
 simp only [zty, zjb, orB, obs, zc3, zei]
 by_cases hc0 : c = 0
 · simp [hc0]
 · rw [ifn hc0]; simp only [hc0, decide_false, cfa]
   by_cases h : zb8 t = 0
   · rw [ifp h, h]; rcases zjt h with ⟨h0, _⟩ | ⟨h0 | h0, _⟩ | ⟨h0, _⟩ | ⟨h0, _⟩ <;> rcases hc with rfl | rfl | rfl | rfl <;> first | exact absurd rfl hc0 | simp [h0, inB]
   · rw [ifn h]; simp [h]
theorem z2y (N : Nat) (hN : 10 < N) {x : zC} {f : zR} {u : zL} (ag : Agree f u) : zfl N x f = some (zf4 [zdc x.zD u.zD, zdc x.Second u.Second]) := by
 have w0 : ∀ t, zdc t 0 = 0 := fun t => by simp [zdc]
 have hcls : ∀ c, c ≠ 0 → (c = 0 ∨ c = f.types) → c = f.types ∧ (f.types = 1 ∨ f.types = 2 ∨ f.types = 3) := by
  intro c h0 h1; have := ag.cls; omega
 have eta : ∀ t : DataType, (⟨t.Kind, t.Length, t.Scale⟩ : DataType) = t := fun t => rfl
 unfold zfl
 rw [ag.zD, ag.Second]
 by_cases h1 : u.zD = 0
 · by_cases h2 : u.Second = 0
   · simp [h1, h2, w0, zf4]
   · obtain ⟨e2, c2⟩ := hcls _ h2 ag.class2; have ht := fun t => zua N hN t f.types c2; have h0 : f.types ≠ 0 := by omega
     simp only [eta, ht, h1, e2, w0]
     by_cases h3 : zdc x.Second f.types = 0 <;> simp [h3, h0, zf4, zei]
 · obtain ⟨e1, c1⟩ := hcls _ h1 ag.class1; have ht := fun t => zua N hN t f.types c1; have h0 : f.types ≠ 0 := by omega
   by_cases h2 : u.Second = 0
   · simp only [eta, ht, h2, e1, w0]
     by_cases h3 : zdc x.zD f.types = 0 <;> simp [h3, h0, zf4, zei]
   · obtain ⟨e2, c2⟩ := hcls _ h2 ag.class2; simp only [eta, ht, e2, e1]
     by_cases h3 : zdc x.zD f.types = 0 <;> by_cases h4 : zdc x.Second f.types = 0 <;> simp [h3, h4, h0, zf4, zei]
def zlt (x : zC) (u : zL) : List Int := cond u.R [x.R] [] ++ (cond u.A [x.A] [] ++ cond u.B [x.B] [])
theorem z4r (n : Nat) {x : zC} {f : zR} {u : zL} (hf : zbf x = some f) (ag : Agree f u) : zab (n + 10) x = some (zlt x u) := by
 have s0 : w6 (1 * 2 ^ (min ((0 : Int).toNat) 64)) = 1 := by decide
 have s1 : w6 (1 * 2 ^ (min ((1 : Int).toNat) 64)) = 2 := by decide
 have s2 : w6 (1 * 2 ^ (min ((2 : Int).toNat) 64)) = 4 := by decide
 have a0 : w6 (0 + 1) = 1 := by decide
 have a1 : w6 (1 + 1) = 2 := by decide
 have a2 : w6 (2 + 1) = 3 := by decide
 have rm : ∀ k : Nat, k ≤ 3 → Nat.ble (k * 8) zao = true := fun k hk => Nat.ble_eq_true_of_le (by unfold zao; omega)
 unfold zab
 rw [hf]
 simp only [obs]
 have i0 : ∀ l, zab.r0 (n + 10) (l, f.fields, [x.R, x.A, x.B], (([x.R, x.A, x.B] : List Int).length : Int), 0) = some (.again (cond u.R (l ++ [x.R]) l, f.fields, [x.R, x.A, x.B], (([x.R, x.A, x.B] : List Int).length : Int), 1)) ∨ l.length > 2 := by
  intro l
  by_cases hl : l.length > 2
  · exact .inr hl
  · left; simp only [zab.r0, zab.b0, s0, a0, ag.R]; have := rm (l.length + 1) (by omega); cases u.R <;> simp [this]
 have i1 : ∀ l, zab.r0 (n + 10) (l, f.fields, [x.R, x.A, x.B], (([x.R, x.A, x.B] : List Int).length : Int), 1) = some (.again (cond u.A (l ++ [x.A]) l, f.fields, [x.R, x.A, x.B], (([x.R, x.A, x.B] : List Int).length : Int), 2)) ∨ l.length > 2 := by
  intro l
  by_cases hl : l.length > 2
  · exact .inr hl
  · left; simp only [zab.r0, zab.b0, s1, a1, ag.A]; have := rm (l.length + 1) (by omega); cases u.A <;> simp [this]
 have i2 : ∀ l, zab.r0 (n + 10) (l, f.fields, [x.R, x.A, x.B], (([x.R, x.A, x.B] : List Int).length : Int), 2) = some (.again (cond u.B (l ++ [x.B]) l, f.fields, [x.R, x.A, x.B], (([x.R, x.A, x.B] : List Int).length : Int), 3)) ∨ l.length > 2 := by
  intro l
  by_cases hl : l.length > 2
  · exact .inr hl
  · left; simp only [zab.r0, zab.b0, s2, a2, ag.B]; have := rm (l.length + 1) (by omega); cases u.B <;> simp [this]
 have i3 : ∀ l, zab.r0 (n + 10) (l, f.fields, [x.R, x.A, x.B], (([x.R, x.A, x.B] : List Int).length : Int), 3) = some (.leave (l, f.fields, [x.R, x.A, x.B], (([x.R, x.A, x.B] : List Int).length : Int), 3)) := by
  intro l; simp [zab.r0, zab.b0]
 have l1 : (cond u.R ([] ++ [x.R]) ([] : List Int)).length ≤ 1 := by cases u.R <;> simp
 have l2 : (cond u.A (cond u.R ([] ++ [x.R]) ([] : List Int) ++ [x.A]) (cond u.R ([] ++ [x.R]) ([] : List Int))).length ≤ 2 := by cases u.R <;> cases u.A <;> simp
 show (zd (zab.r0 (n + 10)) (n + 10) _).bind _ = _
 simp only [zd]
 rw [(i0 []).resolve_right (by simp)]
 simp only [obs]
 rw [(i1 _).resolve_right (by omega)]
 simp only [obs]
 rw [(i2 _).resolve_right (by omega)]
 simp only [obs]
 rw [i3]
 simp only [obs, zlt]
 cases u.R <;> cases u.A <;> cases u.B <;> rfl
def zev (m : zI) (r : Int) : Bool := !inB r 0 (m.Registers - 1)
theorem zya (N : Nat) (l : List Int) (h : l.length < N) (hl : l.length < 1000000000) (m : zI) (hm : 2 ≤ m.Registers ∧ m.Registers ≤ 8) : zcf N l m = some (l.any (zev m)) := by
 unfold zcf zai
 have c1 : ∀ r, zet r m = some (zev m r) := fun r => by
  unfold zet zev; rw [w6e, zn3]; rfl
 have := zdq (f := zai.r0 N) (fun i => (l, (l.length : Int), (i : Int), m)) (fun i => (l[i]?).bind fun x => if zev m x then some (i : Int) else none) l.length
  (fun i hi => by
   have hx := lge hi; simp only [zai.r0, zai.b0, zay, hx, obs, dct (show (i : Int) < (l.length : Int) by omega), ctr, c1]; rw [w6e]; cases hb : zev m l[i] <;> simp)
  (by simp only [zai.r0, zai.b0, dcf (show ¬ (l.length : Int) < (l.length : Int) by omega), cfa]) h
 simp only [nc0] at this
 rw [this]
 simp only [obs]
 cases hfs : (List.range l.length).findSome? (fun i : Nat => (l[i]?).bind fun x => if zev m x = true then some (i : Int) else none) with
 | some r =>
  simp only [zbd, obs]; obtain ⟨i, hi, hr⟩ := eof hfs; rw [Option.bind_eq_some_iff] at hr; obtain ⟨x, hx, hr⟩ := hr; split at hr
  · rename_i hb; cases hr; have : l.any (zev m) = true := List.any_eq_true.2 ⟨x, lmg hx, hb⟩; rw [this]; simp
  · cases hr
 | none =>
  simp only [zbd, obs]; rw [List.findSome?_eq_none_iff] at hfs; have : l.any (zev m) = false := by
   rw [List.any_eq_false]; intro x hx hb; obtain ⟨i, hi⟩ := List.getElem?_of_mem hx; have := hfs i (by simp; exact (gei hi).1); rw [hi] at this; simp [hb] at this
  rw [this]; rfl
theorem z36 (m : zI) (hm : 2 ≤ m.Registers ∧ m.Registers ≤ 8) {x : zC} {u : zL} (hu : zdx x = some u) : zd7 m x = some (!(zlt x u).any (zev m)) := by
 have c1 : ∀ r, zd6 m r = some (!zev m r) := fun r => by
  unfold zd6 zev; rw [w6e, zjx]; simp
 unfold zd7
 rw [hu]
 have aux : ∀ b r, (cond b [r] []).any (zev m) = (b && zev m r) := fun b r => by cases b <;> simp
 simp only [c1, obs, zlt, List.any_append, aux]
 generalize zev m x.R = p
 generalize zev m x.A = q
 generalize zev m x.B = r
 cases u.R <;> cases u.A <;> cases u.B <;> cases p <;> cases q <;> cases r <;> rfl
def zj0 (x : zC) : DataType := if x.Op = 4 then x.Second else x.zD
def zks (m : zI) (c : zF) (x : zC) (u : zL) : Bool :=
 (zlt x u).any (zev m) || ((u.Target && !inB x.Target 0 ((c.zA.length : Int) - 1)) || ((u.Mask && !inB x.Mask 1 7) || ((u.Pointer && !zjc c.Storage x.Pointer) || ((u.Source && !zjc c.Storage x.Source) ||
  ((u.Place && !zg8 c.Storage x.Place (szE (zj0 x))) || ((u.From && !zg8 c.Storage x.From (szE x.Second)) || (u.zO && !inB x.zO 0 4)))))))
theorem eD (t : DataType) : (⟨t.Kind, t.Length, t.Scale⟩ : DataType) = t := rfl
theorem eP (t : zK) : (⟨t.Based, t.Pointer, t.Offset⟩ : zK) = t := rfl
theorem eS (t : Storage) : (⟨t.Bytes, t.Tags⟩ : Storage) = t := rfl
theorem eN (t : Number) : (⟨t.N, t.Scale⟩ : Number) = t := rfl
theorem eM (t : zI) : (⟨t.Registers, t.yB, t.zZ⟩ : zI) = t := rfl
theorem eC (t : zF) : (⟨t.Storage, t.zA, t.zQ⟩ : zF) = t := rfl
theorem eX (t : zC) : (⟨t.Op, t.R, t.A, t.B, t.zO, t.Place, t.From, t.zD, t.Second, t.Half, t.zN, t.Number, t.Text, t.Other, t.Mask, t.Target, t.Pointer, t.Source⟩ : zC) = t := rfl
theorem eF (t : zR) : (⟨t.fields, t.types⟩ : zR) = t := rfl
theorem nF (a b : Bool) : (cond a (some (!b)) (some false)) = some (a && !b) := by cases a <;> rfl
structure InsOk (c : zF) (x : zC) (u : zL) : Prop where
 sto : StoOk c.Storage
 len : c.zA.length < 1000000000
 pt : u.Place = true → zb8 (zj0 x) = 0
 ft : u.From = true → zb8 x.Second = 0
 po : -9223372036854775808 ≤ x.Place.Offset ∧ x.Place.Offset ≤ 9223372036854775807
 fo : -9223372036854775808 ≤ x.From.Offset ∧ x.From.Offset ≤ 9223372036854775807
theorem z0h {a b : Bool} {o : Option Bool} (h : a = true → o = some b) : (cond a o (some false)) = some (a && b) := by
 cases a
 · rfl
 · exact h rfl
theorem z2z (N : Nat) (hN : 20 < N) {m : zI} (hm : 2 ≤ m.Registers ∧ m.Registers ≤ 8) {c : zF} {x : zC} {f : zR} {u : zL} (hf : zbf x = some f) (ag : Agree f u) (ok : InsOk c x u) :
 zf3 N m c x = some (!zks m c x u) := by
 obtain ⟨n, rfl⟩ : ∃ n, N = n + 10 := ⟨N - 10, by omega⟩
 have hl : (zlt x u).length ≤ 3 := by unfold zlt; cases u.R <;> cases u.A <;> cases u.B <;> simp
 have hlen := ok.len
 have g1 : ∀ p t, (u.Place = true → zb8 t = 0) → (cond u.Place ((zcm (n + 10) c.Storage p t).bind fun r => some (!r)) (some false)) = some (u.Place && !zg8 c.Storage p (szE t)) := fun p t h => z0h fun hp => by rw [zw6 ok.sto _ (by omega) _ (h hp)]; rfl
 have g2 : ∀ p t, (u.From = true → zb8 t = 0) → (cond u.From ((zcm (n + 10) c.Storage p t).bind fun r => some (!r)) (some false)) = some (u.From && !zg8 c.Storage p (szE t)) := fun p t h => z0h fun hp => by rw [zw6 ok.sto _ (by omega) _ (h hp)]; rfl
 unfold zf3
 try simp only [eD, eP, eS, eM, eC, eX]
 rw [hf, z4r n hf ag]
 simp only [obs]
 rw [zya _ _ (by omega) (by omega) m hm]
 simp only [obs]
 unfold zks
 cases hr : (zlt x u).any (zev m) with
 | true => rfl
 | false =>
  simp only [cfa, Bool.false_or, ag.Place, ag.From, ag.Target, ag.Mask, ag.Pointer, ag.Source, ag.Calc, zjb, zc3, obs]; rw [w6e]; simp only [zn3, zys, nF, obs]
  by_cases h4 : x.Op = 4
  · have hp : zj0 x = x.Second := ifp h4; have k := ok.pt; rw [hp] at k ⊢; rw [g2 _ _ ok.ft]; cases hup : u.Place with
    | true =>
     simp only [h4, decide_true, Bool.and_true, ctr, Bool.true_and]; have := g1 x.Place x.Second k; rw [hup] at this; simp only [ctr, Bool.true_and] at this; rw [this]; simp only [orB, obs, Bool.or_assoc, Bool.true_and]
    | false =>
     simp only [h4, decide_true, Bool.false_and, cfa, obs, orB, Bool.or_assoc, Bool.false_or]
  · have hp : zj0 x = x.zD := ifn h4; have k := ok.pt; rw [hp] at k ⊢; rw [g1 _ _ k, g2 _ _ ok.ft]; simp only [h4, decide_false, Bool.and_false, cfa, obs, orB, Bool.or_assoc]
def zmk (m : zI) (x : zC) : Bool := (decide (x.Op = 7) && !m.yB) || (x.zN && !m.zZ)
def zn0 (x : zC) : Bool := decide ((x.Text.size : Int) > 256) || decide ((x.Other.size : Int) > 256)
theorem z5w (m : zI) (x : zC) (h : x.zN = true → x.Op = 4) : zgf m x = some (!zmk m x) := by
 unfold zgf zmk
 by_cases h7 : x.Op = 7
 · have h4 : x.zN = false := by
    cases hi : x.zN with
    | false => rfl
    | true => have := h hi; omega
   rw [h4]; simp only [h7, zei]; cases m.yB <;> rfl
 · by_cases h4 : x.Op = 4
   · simp only [h4, zei]; cases x.zN <;> cases m.zZ <;> rfl
   · have h5 : x.zN = false := by
      cases hi : x.zN with
      | false => rfl
      | true => exact absurd (h hi) h4
     simp [h5, h7, h4, zei]
theorem z2l (m : zI) (x : zC) : zi0 m x = some (zmk m x) := by
 unfold zi0 zmk
 simp only [zc3]
 cases decide (x.Op = 7) <;> cases m.yB <;> cases x.zN <;> cases m.zZ <;> rfl
def zta (m : zI) (c : zF) (x : zC) (u : zL) : Int :=
 cond (zkf x u) 5 (cond (zmk m x) 39 (if zdc x.zD u.zD ≠ 0 then zdc x.zD u.zD else if zdc x.Second u.Second ≠ 0 then zdc x.Second u.Second else
  cond (zks m c x u) 3 (if zp2 x.Number ≠ 0 then zp2 x.Number else cond (zn0 x) 2 0)))
theorem zsl {x : zC} {u : zL} (h : zkf x u = false) : (x.zN = true → x.Op = 4) ∧ (u.Number = false → zp2 x.Number = 0) := by
 unfold zkf at h
 simp only [Bool.or_eq_false_iff] at h
 obtain ⟨_, _, _, _, _, _, _, _, _, h10, h11, _⟩ := h
 constructor
 · intro hi; rw [hi] at h10; simpa using h10
 · intro hn; rw [hn] at h11; simp only [Bool.not_false, Bool.true_and, Bool.not_eq_eq_eq_not, bnt, Bool.and_eq_true, beq_iff_eq, Bool.not_eq_false'] at h11; obtain ⟨e1, e2⟩ : x.Number.N = 0 ∧ x.Number.Scale = 0 := by simpa using h11
   unfold zp2; rw [e1, e2]
   decide
theorem z5v (N : Nat) (hN : 20 < N) {m : zI} (hm : 2 ≤ m.Registers ∧ m.Registers ≤ 8) {c : zF} {x : zC} {f : zR} {u : zL} (hop : inB x.Op 0 26 = true) (hf : zbf x = some f) (ag : Agree f u)
 (ok : zdc x.zD u.zD = 0 → zdc x.Second u.Second = 0 → InsOk c x u) : zb7 N m c x = some (zta m c x u) := by
 have f3 : ∀ a b d : Int, zar N [a, b, d] = some (zf4 [a, b, d]) := fun a b d => ztb N _ (by simp; omega) (by simp)
 unfold zb7 zta
 try simp only [eD, eP, eS, eM, eC, eX, eN, eF]
 rw [zn3, hop, hf, z4s hf ag]
 simp only [obs, bnt, cfa]
 rw [z2y N (by omega) ag]
 rw [zzy x u _ rfl]
 simp only [zo6, z1f, obs, f3, orB]
 cases he : zkf x u with
 | true =>
  have hx : ∃ b, zgf m x = some b := by
   unfold zgf; cases (x.Op != 7) <;> cases m.yB <;> cases (x.Op != 4) <;> cases x.zN <;> cases m.zZ <;> exact ⟨_, rfl⟩
  obtain ⟨b, hb⟩ := hx; rw [hb]; simp [zf4]
 | false =>
  obtain ⟨h1, h2⟩ := zsl he; rw [z5w m x h1]; simp only [obs, Bool.not_not, cfa]; cases zmk m x with
  | true => simp [zf4]
  | false =>
   simp only [cfa]
   by_cases e1 : zdc x.zD u.zD = 0
   · by_cases e2 : zdc x.Second u.Second = 0
     · rw [z2z N hN hm hf ag (ok e1 e2)]; simp only [e1, e2, zf4, if_true, obs, Bool.not_not]; cases zks m c x u with
       | true => simp
       | false =>
        by_cases e3 : zp2 x.Number = 0
        · cases hl : zn0 x with
          | true => unfold zn0 at hl; simp [e3, hl]
          | false => unfold zn0 at hl; simp [e3, hl]
        · simp [e3]
     · simp [zf4, e1, e2, zei]
   · simp [zf4, e1, zei]
theorem z41 {f : zR} {u : zL} (ag : Agree f u) : (u.zD = 0 ∨ u.zD = 1 ∨ u.zD = 2 ∨ u.zD = 3) ∧ (u.Second = 0 ∨ u.Second = 1 ∨ u.Second = 2 ∨ u.Second = 3) := by
 have h1 := ag.class1
 have h2 := ag.class2
 have h3 := ag.cls
 omega
theorem z5h {m : zI} (hm : 2 ≤ m.Registers ∧ m.Registers ≤ 8) {c : zF} {x : zC} {f : zR} {u : zL} (hop : inB x.Op 0 26 = true) (hu : zdx x = some u) (ag : Agree f u)
 (ok : zdc x.zD u.zD = 0 → zdc x.Second u.Second = 0 → InsOk c x u) : zcx m c x = some (zta m c x u) := by
 obtain ⟨c1, c2⟩ := z41 ag
 unfold zcx zta
 try simp only [eD, eP, eS, eM, eC, eX, eN, eF]
 rw [zjx, hop, hu]
 simp only [obs, bnt, cfa]
 rw [z2n, z2l, ztx _ _ c1, ztx _ _ c2, z36 m hm hu]
 simp only [obs]
 cases he : zkf x u with
 | true => rfl
 | false =>
  obtain ⟨h1, h2⟩ := zsl he; simp only [cfa]; cases zmk m x with
  | true => rfl
  | false =>
   simp only [cfa]
   by_cases e1 : zdc x.zD u.zD = 0
   · by_cases e2 : zdc x.Second u.Second = 0
     · have o := ok e1 e2; have hlen := o.len; have hb : ∀ t, zb8 t = 0 → zds t = some (szE t) := fun t h => zoy h; have g1 : ∀ t, (u.Place = true → zb8 t = 0) → (cond u.Place ((zds t).bind fun r => (zdk c x.Place r).bind fun r => some (!r)) (some false)) = some (u.Place && !zg8 c.Storage x.Place (szE t)) := fun t h => z0h fun hp => by rw [zoy (h hp)]; simp only [obs]; rw [zwh o.sto rfl _ o.po (h hp)]; rfl
       have g2 : (cond u.From ((zds x.Second).bind fun r => (zdk c x.From r).bind fun r => some (!r)) (some false)) = some (u.From && !zg8 c.Storage x.From (szE x.Second)) := z0h fun hp => by rw [zoy (o.ft hp)]; simp only [obs]; rw [zwh o.sto rfl _ o.fo (o.ft hp)]; rfl
       have k := o.pt; have kn : ∀ e : Int, (u.Number = false → e = 0) → (cond (u.Number && e != 0) (some e) (cond (zn0 x) (some 2) (some 0))) = some (if e ≠ 0 then e else cond (zn0 x) 2 0) := by
        intro e h
        by_cases h0 : e = 0
        · subst h0; cases u.Number <;> cases zn0 x <;> rfl
        · cases hn : u.Number with
          | false => exact absurd (h hn) h0
          | true => simp [h0, zei]
       simp only [e1, e2, bsf, cfa, ne_eq, not_true_eq_false, if_false, zc3]; rw [w6e]; simp only [zjx, zyn o.sto, z04, nF, zjb, orB, g2, obs, ← zn0.eq_def]; unfold zks
       by_cases h4 : x.Op = 4
       · have hp : zj0 x = x.Second := ifp h4; rw [hp] at k ⊢; rw [g1 _ k]; simp only [h4, decide_true, ctr, obs, kn _ h2]; generalize (zlt x u).any (zev m) = t1; generalize (u.Target && !inB x.Target 0 ((c.zA.length : Int) - 1)) = t2; generalize (u.Mask && !inB x.Mask 1 7) = t3; generalize (u.Pointer && !zjc c.Storage x.Pointer) = t4; generalize (u.Source && !zjc c.Storage x.Source) = t5; generalize (u.Place && !zg8 c.Storage x.Place (szE x.Second)) = t6; generalize (u.From && !zg8 c.Storage x.From (szE x.Second)) = t7; generalize (u.zO && !inB x.zO 0 4) = t8; cases t1 <;> cases t2 <;> cases t3 <;> cases t4 <;> cases t5 <;> cases t6 <;> cases t7 <;> cases t8 <;> rfl
       · have hp : zj0 x = x.zD := ifn h4; rw [hp] at k ⊢; rw [g1 _ k]; simp only [h4, decide_false, cfa, obs, kn _ h2]; generalize (zlt x u).any (zev m) = t1; generalize (u.Target && !inB x.Target 0 ((c.zA.length : Int) - 1)) = t2; generalize (u.Mask && !inB x.Mask 1 7) = t3; generalize (u.Pointer && !zjc c.Storage x.Pointer) = t4; generalize (u.Source && !zjc c.Storage x.Source) = t5; generalize (u.Place && !zg8 c.Storage x.Place (szE x.zD)) = t6; generalize (u.From && !zg8 c.Storage x.From (szE x.Second)) = t7; generalize (u.zO && !inB x.zO 0 4) = t8; cases t1 <;> cases t2 <;> cases t3 <;> cases t4 <;> cases t5 <;> cases t6 <;> cases t7 <;> cases t8 <;> rfl
     · simp [e1, e2, zei]
   · simp [e1, zei]
theorem zm8 {n : Nat} {c : zF} (h : Wft En n Ty.zF c) : c.Storage.Bytes.size ≤ n ∧ c.Storage.Tags.length ≤ n ∧ c.zA.length ≤ n ∧ c.zQ.length ≤ n ∧ ∀ x ∈ c.zA, Wft En n Ty.zC x := by
 have h1 := h (.sc (.string c.Storage.Bytes)) (by show _ ∈ zi3 c; simp [zi3])
 have h2 := h (.lst Ty.bool c.Storage.Tags) (by show _ ∈ zi3 c; simp [zi3])
 have h3 := h (.lst Ty.zC c.zA) (by show _ ∈ zi3 c; simp [zi3])
 have h4 := h (.lst Ty.zP c.zQ) (by show _ ∈ zi3 c; simp [zi3])
 cases h1 with
 | str h1 =>
  cases h2 with
  | lst h2 _ =>
   cases h3 with
   | lst h3 h3' =>
    cases h4 with
    | lst h4 _ => exact ⟨h1, h2, h3, h4, h3'⟩
theorem zye {n : Nat} {z : Int} (h : Wfc En n (.sc (.int .i64 z))) : -9223372036854775808 ≤ z ∧ z ≤ 9223372036854775807 := by
 cases h with
 | int h1 h2 =>
  have e1 : IntKind.i64.min = -9223372036854775808 := by decide
  have e2 : IntKind.i64.max = 9223372036854775807 := by decide
  rw [e1] at h1; rw [e2] at h2; exact ⟨h1, h2⟩
theorem z5u {n : Nat} {x : zC} (h : Wft En n Ty.zC x) : (-9223372036854775808 ≤ x.Place.Offset ∧ x.Place.Offset ≤ 9223372036854775807) ∧ (-9223372036854775808 ≤ x.From.Offset ∧ x.From.Offset ≤ 9223372036854775807) :=
 ⟨zye (h _ (by show _ ∈ zg0 x; simp [zg0])), zye (h _ (by show _ ∈ zg0 x; simp [zg0]))⟩
def zmq (m : zI) (c : zF) (x : zC) : Int := if inB x.Op 0 26 = true then zta m c x ((zdx x).getD ⟨false, false, false, false, false, false, false, false, false, false, false, false, false, false, 0, 0⟩) else 4
theorem zxo (N : Nat) (hN : 20 < N) {m : zI} (hm : 2 ≤ m.Registers ∧ m.Registers ≤ 8) {c : zF} (hs : StoOk c.Storage) (hlen : c.zA.length < 1000000000) {n : Nat} {x : zC} (hx : Wft En n Ty.zC x) :
 zb7 N m c x = some (zmq m c x) ∧ zcx m c x = some (zmq m c x) := by
 obtain ⟨w1, w2⟩ := z5u hx
 unfold zmq
 by_cases hop : inB x.Op 0 26 = true
 · obtain ⟨f, u, hf, hu, ag, h4, h5, h6⟩ := zvi x hop; have ok : zdc x.zD u.zD = 0 → zdc x.Second u.Second = 0 → InsOk c x u := fun e1 e2 => {
    sto := hs, len := hlen, po := w1, fo := w2,
    pt := fun hp => (by
     have := h6 hp; unfold zj0; split
     · rename_i h7; rw [ifp h7] at this; exact zk7 e2 this
     · rename_i h7; rw [ifn h7] at this; exact zk7 e1 this),
    ft := fun hp => zk7 e2 (h5 hp) }
   rw [ifp hop, hu]; exact ⟨z5v N hN hm hop hf ag ok, z5h hm hop hu ag ok⟩
 · rw [ifn hop]; have e : inB x.Op 0 26 = false := by simpa using hop
   constructor
   · unfold zb7; rw [zn3, e]; rfl
   · unfold zcx; rw [zjx, e]; rfl
def znt (c : zF) (t : zP) : Bool := (inB t.From 0 t.To && (decide (t.To ≤ (c.zA.length : Int)) && (inB t.Exception 0 999 && inB t.Handler 0 ((c.zA.length : Int) - 1))))
theorem z4o (c : zF) (hlen : c.zA.length < 1000000000) (t : zP) : zf1 c t = some (cond (znt c t) 0 3) := by
 unfold zf1 znt
 rw [w6e]
 simp only [zn3, zo6, zjb, obs, Bool.and_assoc]
 generalize (inB t.From 0 t.To && (decide (t.To ≤ (c.zA.length : Int)) && (inB t.Exception 0 999 && inB t.Handler 0 ((c.zA.length : Int) - 1)))) = b
 cases b <;> rfl
theorem z35 (c : zF) (t : zP) : ((decide (t.From < 0) || decide (t.From > t.To)) || (decide (t.To > (c.zA.length : Int)))) = !(inB t.From 0 t.To && decide (t.To ≤ (c.zA.length : Int))) := by
 unfold inB
 by_cases h1 : t.From < 0
 · simp [h1, show ¬ (0 ≤ t.From) by omega]
 · by_cases h2 : t.From > t.To
   · simp [h1, h2, show ¬ (t.From ≤ t.To) by omega]
   · by_cases h3 : t.To > (c.zA.length : Int)
     · simp [h1, h2, h3, show ¬ (t.To ≤ (c.zA.length : Int)) by omega]
     · simp [h1, h2, h3, show (0 ≤ t.From) by omega, show (t.From ≤ t.To) by omega, show (t.To ≤ (c.zA.length : Int)) by omega]
def gI (m : zI) (c : zF) (i : Nat) : Option (Int × Int) := (c.zA[i]?).bind fun x => if zmq m c x = 0 then none else some ((i : Int), zmq m c x)
def gT (c : zF) (i : Nat) : Option (Int × Int) := (c.zQ[i]?).bind fun t => if znt c t = true then none else some ((i : Int), 3)
def zmx (m : zI) (c : zF) : Int × Int :=
 match (List.range c.zA.length).findSome? (gI m c) with
 | some r => r
 | none => match (List.range c.zQ.length).findSome? (gT c) with
  | some r => r
  | none => ((c.zA.length : Int), 0)
theorem z20 (N : Nat) (hN : 1048600 < N) {m : zI} (hm : 2 ≤ m.Registers ∧ m.Registers ≤ 8) {c : zF} (hs : StoOk c.Storage) (hc : Wft En 1048576 Ty.zF c) :
 ((zaa (zl.r0 N) N (c.zA, (c.zA.length : Int), 0, m, c)).bind fun z10 =>
 zbd z10 (fun z => some z) (fun y9 => (zaa (zl.r2 N) N (y9.2.2.2.2.zQ, (y9.2.2.2.2.zQ.length : Int), 0, y9.2.2.2.2)).bind fun z12 => zbd z12 (fun z =>
 some z) (fun y11 => some ((y11.2.2.2.zA.length : Int), 0)))) = some (zmx m c) := by
 obtain ⟨w1, w2, w3, w4, w5⟩ := zm8 hc
 have l1 := zdq (f := zl.r0 N) (fun i => (c.zA, (c.zA.length : Int), (i : Int), m, c)) (gI m c) c.zA.length
  (fun i hi => by
   have hx := lge hi; have hb := (zxo N (by omega) hm hs (by omega) (w5 _ (List.getElem_mem hi))).1; simp only [zl.r0, zl.b0, zay, hx, obs, dct (show (i : Int) < (c.zA.length : Int) by omega), ctr, eD, eP, eS, eM, eC, eX, eN, gI, hb]; rw [w6e]
   by_cases h0 : zmq m c c.zA[i] = 0 <;> simp [h0, zei])
  (by simp only [zl.r0, zl.b0, dcf (show ¬ (c.zA.length : Int) < (c.zA.length : Int) by omega), cfa]) (N := N) (by omega)
 have l2 := zdq (f := zl.r2 N) (fun i => (c.zQ, (c.zQ.length : Int), (i : Int), c)) (gT c) c.zQ.length
  (fun i hi => by
   have hx := lge hi; simp only [zl.r2, zl.b2, zay, hx, obs, dct (show (i : Int) < (c.zQ.length : Int) by omega), ctr, gT, z4o c (by omega)]; rw [w6e]; cases znt c c.zQ[i] <;> simp)
  (by simp only [zl.r2, zl.b2, dcf (show ¬ (c.zQ.length : Int) < (c.zQ.length : Int) by omega), cfa]) (N := N) (by omega)
 simp only [nc0] at l1 l2
 rw [l1]
 unfold zmx
 simp only [obs]
 cases (List.range c.zA.length).findSome? (gI m c) with
 | some r => rfl
 | none =>
  simp only [zbd]; rw [l2]; simp only [obs]; cases (List.range c.zQ.length).findSome? (gT c) <;> rfl
theorem zwi (N : Nat) (hN : 1048600 < N) {m : zI} (hm : 2 ≤ m.Registers ∧ m.Registers ≤ 8) {c : zF} (hs : StoOk c.Storage) (hc : Wft En 1048576 Ty.zF c) :
 ((zaa (zx.r1 N) N (0, m, c)).bind fun z6 =>
 zbd z6 (fun z => some z) (fun y5 => (zaa (zx.r3 N) N (0, y5.2.2)).bind fun z8 => zbd z8 (fun z => some z) (fun y7 =>
 some ((y7.2.zA.length : Int), 0)))) = some (zmx m c) := by
 obtain ⟨w1, w2, w3, w4, w5⟩ := zm8 hc
 have l1 := zdq (f := zx.r1 N) (fun i => ((i : Int), m, c)) (gI m c) c.zA.length
  (fun i hi => by
   have hx := lge hi; have hb := (zxo N (by omega) hm hs (by omega) (w5 _ (List.getElem_mem hi))).2; simp only [zx.r1, zx.b1, zay, hx, obs, dct (show (i : Int) < (c.zA.length : Int) by omega), ctr, eD, eP, eS, eM, eC, eX, eN, gI, hb]; rw [w6e]
   by_cases h0 : zmq m c c.zA[i] = 0 <;> simp [h0, zei])
  (by simp only [zx.r1, zx.b1, dcf (show ¬ (c.zA.length : Int) < (c.zA.length : Int) by omega), cfa]) (N := N) (by omega)
 have l2 := zdq (f := zx.r3 N) (fun i => ((i : Int), c)) (gT c) c.zQ.length
  (fun i hi => by
   have hx := lge hi; simp only [zx.r3, zx.b3, zay, hx, obs, dct (show (i : Int) < (c.zQ.length : Int) by omega), ctr, gT, orB, zjx, z35]; rw [w6e (n := (i : Int) + 1), w6e (n := (c.zA.length : Int) - 1)]; have bl : ∀ a b d e : Bool, ((!(a && b) || !d) || !e) = !(a && (b && (d && e))) := fun a b d e => by cases a <;> cases b <;> cases d <;> cases e <;> rfl
   simp only [zjx, obs, orB, bl, ← znt.eq_def]; cases znt c c.zQ[i] <;> simp)
  (by simp only [zx.r3, zx.b3, dcf (show ¬ (c.zQ.length : Int) < (c.zQ.length : Int) by omega), cfa]) (N := N) (by omega)
 simp only [nc0] at l1 l2
 rw [l1]
 unfold zmx
 simp only [obs]
 cases (List.range c.zA.length).findSome? (gI m c) with
 | some r => rfl
 | none =>
  simp only [zbd]; rw [l2]; simp only [obs]; cases (List.range c.zQ.length).findSome? (gT c) <;> rfl
theorem z6b (n lo hi : Int) : zdj n lo hi = some (inB n lo hi) := by
 unfold zdj inB
 cases decide (lo ≤ n) <;> rfl
theorem zm7 {b : ByteArray} {i : Int} (h0 : 0 ≤ i) (h1 : i < (b.size : Int)) : ∃ x, znk b i = some x := by
 unfold znk
 rw [ifp h0]
 exact ⟨_, getElem?_pos b i.toNat (by omega)⟩
theorem zqw (N : Nat) (b : ByteArray) (h : b.size < N) (hb : b.size < 1000) : ∃ x, zbl N b = some x := by
 unfold zbl
 obtain ⟨s', h1, _⟩ := zfb (f := zbl.r0 N) (fun i s => ∃ a : Int, s = (b, a, (b.size : Int), (i : Int))) b.size
  (fun i s hi hs => by
   obtain ⟨a, rfl⟩ := hs; obtain ⟨x, hx⟩ := zm7 (b := b) (i := (i : Int)) (by omega) (by omega); simp only [zbl.r0, zbl.b0, dct (show (i : Int) < (b.size : Int) by omega), ctr, hx, obs]; rw [w6e (n := (i : Int) + 1)]; exact ⟨_, rfl, _, rfl⟩)
  (fun s hs => by
   obtain ⟨a, rfl⟩ := hs; simp only [zbl.r0, zbl.b0, dcf (show ¬ (b.size : Int) < (b.size : Int) by omega), cfa]; exact ⟨_, rfl, _, rfl⟩) h (s := (b, 0, (b.size : Int), 0)) ⟨0, rfl⟩
 rw [h1]
 exact ⟨_, rfl⟩
theorem zwj (N : Nat) (b : ByteArray) (hb : b.size = 16) (k n : Nat) (hn : k + n ≤ 16) (hN : 20 < N) : ∃ x, zc1 N b (k : Int) (n : Int) = some x := by
 unfold zc1
 obtain ⟨s', h1, _⟩ := zfb (f := zc1.r0 N) (fun i s => ∃ a : Int, s = (b, (k : Int), (n : Int), a, (i : Int))) n
  (fun i s hi hs => by
   obtain ⟨a, rfl⟩ := hs; obtain ⟨x, hx⟩ := zm7 (b := b) (i := (k : Int) + (i : Int)) (by omega) (by omega); simp only [zc1.r0, zc1.b0, dct (show (i : Int) < (n : Int) by omega), ctr]; rw [w6e (n := (k : Int) + (i : Int)), hx, w6e (n := (i : Int) + 1)]; exact ⟨_, rfl, _, rfl⟩)
  (fun s hs => by
   obtain ⟨a, rfl⟩ := hs; simp only [zc1.r0, zc1.b0, dcf (show ¬ (n : Int) < (n : Int) by omega), cfa]; exact ⟨_, rfl, _, rfl⟩) (N := N) (by omega) (s := (b, (k : Int), (n : Int), 0, 0)) ⟨0, rfl⟩
 rw [h1]
 exact ⟨_, rfl⟩
theorem z2e (p : Pointer) : ∃ e, zeq p = some e := by
 unfold zeq
 simp only [z6b, obs, zjb]
 generalize inB p.Kind 0 2 = a
 generalize inB p.Address.yC 0 1099511627775 = b
 generalize inB p.Address.Offset 0 16777215 = c
 generalize inB p.Authority 0 1023 = d
 generalize (p.Authority != 0 && p.Kind != 1) = e
 cases a <;> cases b <;> cases c <;> cases d <;> cases e <;> exact ⟨_, rfl⟩
theorem z2o (p : Pointer) : ∃ e, zfz p = some e := by
 unfold zfz
 simp only [zjx, obs, zjb, orB]
 generalize inB p.Kind 0 2 = a
 generalize inB p.Address.yC 0 1099511627775 = b
 generalize inB p.Address.Offset 0 16777215 = c
 generalize inB p.Authority 0 1023 = d
 generalize (p.Kind != 1 && p.Authority != 0) = e
 cases a <;> cases b <;> cases c <;> cases d <;> cases e <;> exact ⟨_, rfl⟩
theorem zli (b : ByteArray) (i j : Nat) (h : j ≤ b.size) (hij : i ≤ j) : (b.extract i j).size = j - i := by
 rw [ByteArray.size_extract]
 omega
theorem zze (N : Nat) (hN : 20 < N) (b : ByteArray) (hb : b.size = 16) : ∃ r, zfx N b = some r := by
 obtain ⟨x1, h1⟩ := zm7 (b := b) (i := 1) (by omega) (by omega)
 obtain ⟨x0, h0⟩ := zm7 (b := b) (i := 0) (by omega) (by omega)
 have z1 : (b.extract (2 : Int).toNat (4 : Int).toNat).size = 2 := zli b 2 4 (by omega) (by omega)
 have z2 : (b.extract (4 : Int).toNat (10 : Int).toNat).size = 6 := zli b 4 10 (by omega) (by omega)
 have z3 : (b.extract (10 : Int).toNat b.size).size = 6 := (zli b 10 b.size (by omega) (by omega)).trans (by omega)
 obtain ⟨n1, e1⟩ := zqw N _ (by omega : (b.extract (2 : Int).toNat (4 : Int).toNat).size < N) (by omega)
 obtain ⟨n2, e2⟩ := zqw N _ (by omega : (b.extract (4 : Int).toNat (10 : Int).toNat).size < N) (by omega)
 obtain ⟨n3, e3⟩ := zqw N _ (by omega : (b.extract (10 : Int).toNat b.size).size < N) (by omega)
 unfold zfx
 rw [show ((b.size : Int) != 16) = false by rw [hb]; rfl]
 simp only [cfa, h1, h0, obs]
 cases ((x1.toNat : Int) != 0) with
 | true => exact ⟨_, rfl⟩
 | false =>
  simp only [cfa]; rw [ifp, ifp, e1]; simp only [obs]; rw [ifp, ifp, e2]; simp only [obs]; rw [ifp, e3]; simp only [obs]; obtain ⟨e, he⟩ := z2e (⟨(w6 (x0.toNat : Int)), (⟨n2, n3⟩ : Address), n1⟩ : Pointer); rw [he]; simp only [obs]; cases (e != 0) <;> exact ⟨_, rfl⟩
theorem zzq (N : Nat) (hN : 20 < N) (b : ByteArray) (hb : b.size = 16) : ∃ r, zlu N b = some r := by
 obtain ⟨x1, h1⟩ := zm7 (b := b) (i := 1) (by omega) (by omega)
 obtain ⟨x0, h0⟩ := zm7 (b := b) (i := 0) (by omega) (by omega)
 obtain ⟨n1, e1⟩ := zwj N b hb 2 2 (by omega) hN
 obtain ⟨n2, e2⟩ := zwj N b hb 4 6 (by omega) hN
 obtain ⟨n3, e3⟩ := zwj N b hb 10 6 (by omega) hN
 have e1' : zc1 N b 2 2 = some n1 := e1
 have e2' : zc1 N b 4 6 = some n2 := e2
 have e3' : zc1 N b 10 6 = some n3 := e3
 unfold zlu
 rw [show ((b.size : Int) != 16) = false by rw [hb]; rfl]
 simp only [cfa, h1, h0, obs]
 cases ((x1.toNat : Int) != 0) with
 | true => exact ⟨_, rfl⟩
 | false =>
  simp only [cfa, e1', e2', e3', obs]; obtain ⟨e, he⟩ := z2o (⟨(w6 (x0.toNat : Int)), (⟨n2, n3⟩ : Address), n1⟩ : Pointer); rw [he]; simp only [obs]; cases (e != 0) <;> exact ⟨_, rfl⟩
theorem zv5 (N : Nat) (hN : 2000 < N) (s : Storage) : ∃ i1 e1 e2, zak N s = some (i1, e1) ∧ zkx N s = some e2 ∧
 ((e1 = e2 ∧ e1 ≠ 0) ∨ (StoOk s ∧ s.Tags.length ≤ 64 ∧ (e1 = 0 ∨ (e1 = 22 ∧ true ∈ s.Tags)) ∧ (e2 = 0 ∨ (e2 = 22 ∧ true ∈ s.Tags)))) := by
 unfold zak zkx zcq
 try simp only [eS]
 by_cases h1 : (s.Bytes.size : Int) > 1024
 · rw [dct h1]; exact ⟨_, _, _, rfl, rfl, .inl ⟨rfl, by decide⟩⟩
 · rw [dcf h1]; have hm : (s.Bytes.size : Int).tmod 16 = (s.Bytes.size : Int) % 16 := tme; have hd : (s.Bytes.size : Int).tdiv 16 = (s.Bytes.size : Int) / 16 := tde
   by_cases h2 : (s.Bytes.size : Int) % 16 = 0
   · rw [hm, hd, w6e]
     by_cases h3 : (s.Tags.length : Int) = (s.Bytes.size : Int) / 16
     · rw [show (((s.Bytes.size : Int) % 16) != 0) = false by rw [h2]; rfl, show ((s.Tags.length : Int) != (s.Bytes.size : Int) / 16) = false by rw [← h3]; exact bsf _]; simp only [cfa]; have ok : StoOk s := ⟨by omega, by omega⟩; have hw : ∀ i : Nat, i < s.Tags.length → w6 ((i : Int) * 16) = (i : Int) * 16 ∧ w6 ((i : Int) * 16 + 16) = (i : Int) * 16 + 16 := fun i hi => ⟨w6e, w6e⟩; have hx : ∀ i : Nat, i < s.Tags.length → (s.Bytes.extract ((i : Int) * 16).toNat ((i : Int) * 16 + 16).toNat).size = 16 := fun i hi => by
        rw [zli _ _ _ (by omega) (by omega)]; omega
       have l1 := zoo (f := zak.r1 N) (fun i t => t = (s.Tags, (s.Tags.length : Int), (i : Int), s)) (fun r => r.2 = 22 ∧ true ∈ s.Tags) s.Tags.length
        (fun i t hi ht => by
         subst ht; obtain ⟨w1, w2⟩ := hw i hi; have hx1 := lge hi; simp only [zak.r1, zak.b1, zay, hx1, obs, dct (show (i : Int) < (s.Tags.length : Int) by omega), ctr]; rw [w6e (n := (i : Int) + 1)]; cases hb : s.Tags[i] with
         | false => exact .inl ⟨_, rfl, rfl⟩
         | true =>
          simp only [bnt, cfa, w1, w2]; rw [ifp, ifp]; obtain ⟨r, hr⟩ := zze N (by omega) _ (hx i hi); rw [hr]; simp only [obs]; cases (r.2 != 0) with
          | true => exact .inr ⟨_, rfl, rfl, by rw [← hb]; exact List.getElem_mem hi⟩
          | false => exact .inl ⟨_, rfl, rfl⟩)
        (fun t ht => by
         subst ht; exact ⟨_, by simp only [zak.r1, zak.b1, dcf (show ¬ (s.Tags.length : Int) < (s.Tags.length : Int) by omega), cfa], rfl⟩) (N := N) (by omega) (s := (s.Tags, (s.Tags.length : Int), 0, s)) rfl
       have l2 := zoo (f := zcq.r0 N) (fun i t => t = ((s.Bytes.size : Int) / 16, (i : Int), s)) (fun r => r.2 = 22 ∧ true ∈ s.Tags) s.Tags.length
        (fun i t hi ht => by
         subst ht; obtain ⟨w1, w2⟩ := hw i hi; have hx1 := lge hi; simp only [zcq.r0, zcq.b0, zay, hx1, obs, dct (show (i : Int) < (s.Bytes.size : Int) / 16 by omega), ctr]; rw [w6e (n := (i : Int) + 1)]; cases hb : s.Tags[i] with
         | false => exact .inl ⟨_, rfl, rfl⟩
         | true =>
          simp only [ctr, zla, w1, w2]; rw [ifp, ifp]; simp only [obs]; obtain ⟨r, hr⟩ := zzq N (by omega) _ (hx i hi); rw [hr]; simp only [obs]; cases (r.2 != 0) with
          | true => exact .inr ⟨_, rfl, rfl, by rw [← hb]; exact List.getElem_mem hi⟩
          | false => exact .inl ⟨_, rfl, rfl⟩)
        (fun t ht => by
         subst ht; exact ⟨_, by simp only [zcq.r0, zcq.b0, dcf (show ¬ (s.Tags.length : Int) < (s.Bytes.size : Int) / 16 by omega), cfa], rfl⟩) (N := N) (by omega) (s := ((s.Bytes.size : Int) / 16, 0, s)) rfl
       have r1 : ∃ i1 e1, ((zaa (zak.r1 N) N (s.Tags, (s.Tags.length : Int), 0, s)).bind fun z2 => zbd z2 (fun z => some z) (fun y1 => some ((y1.2.2.2.Tags.length : Int), (0 : Int)))) = some (i1, e1) ∧ (e1 = 0 ∨ (e1 = 22 ∧ true ∈ s.Tags)) := by
        rcases l1 with ⟨t, g1, _⟩ | ⟨r, g1, g2⟩
        · rw [g1]; exact ⟨_, _, rfl, .inl rfl⟩
        · rw [g1]; exact ⟨r.1, r.2, rfl, .inr g2⟩
       have r2 : ∃ e2, ((((zaa (zcq.r0 N) N ((s.Bytes.size : Int) / 16, 0, s)).bind fun z2 => zbd z2 (fun z => some z) (fun y1 => some (y1.1, (0 : Int)))).bind fun r1 => some r1.2) = some e2) ∧ (e2 = 0 ∨ (e2 = 22 ∧ true ∈ s.Tags)) := by
        rcases l2 with ⟨t, g1, _⟩ | ⟨r, g1, g2⟩
        · rw [g1]; exact ⟨_, rfl, .inl rfl⟩
        · rw [g1]; exact ⟨r.2, rfl, .inr g2⟩
       obtain ⟨i1, e1, g1, g2⟩ := r1; obtain ⟨e2, g3, g4⟩ := r2; exact ⟨i1, e1, e2, g1, g3, .inr ⟨ok, by omega, g2, g4⟩⟩
     · rw [show (((s.Bytes.size : Int) % 16) != 0) = false by rw [h2]; rfl, show ((s.Tags.length : Int) != (s.Bytes.size : Int) / 16) = true by rw [zei]; exact dct h3]; exact ⟨_, _, _, rfl, rfl, .inl ⟨rfl, by decide⟩⟩
   · rw [hm, show (((s.Bytes.size : Int) % 16) != 0) = true by rw [zei]; exact dct h2]; exact ⟨_, _, _, rfl, rfl, .inl ⟨rfl, by decide⟩⟩
theorem z4p (N : Nat) (l : List Bool) (h : l.length < N) (hl : l.length < 1000000000) : zed N l true = some (l.contains true) := by
 unfold zed zbb
 have := zdq (f := zbb.r0 N) (fun i => (l, true, (l.length : Int), (i : Int))) (fun i => (l[i]?).bind fun x => if x = true then some (i : Int) else none) l.length
  (fun i hi => by
   have hx := lge hi; simp only [zbb.r0, zbb.b0, zay, hx, obs, dct (show (i : Int) < (l.length : Int) by omega), ctr]; rw [w6e]; cases hb : l[i] <;> simp)
  (by simp only [zbb.r0, zbb.b0, dcf (show ¬ (l.length : Int) < (l.length : Int) by omega), cfa]) h
 simp only [nc0] at this
 rw [this]
 simp only [obs]
 cases hfs : (List.range l.length).findSome? (fun i : Nat => (l[i]?).bind fun x => if x = true then some (i : Int) else none) with
 | some r =>
  simp only [zbd, obs]; obtain ⟨i, hi, hr⟩ := eof hfs; rw [Option.bind_eq_some_iff] at hr; obtain ⟨x, hx, hr⟩ := hr; split at hr
  · rename_i hb; cases hr; have : l.contains true = true := by rw [List.contains_iff_mem, ← hb]; exact lmg hx
    rw [this]; simp
  · cases hr
 | none =>
  simp only [zbd, obs]; rw [List.findSome?_eq_none_iff] at hfs; have : l.contains true = false := by
   rw [Bool.eq_false_iff]; intro hc; rw [List.contains_iff_mem] at hc; obtain ⟨i, hi⟩ := List.getElem?_of_mem hc; have := hfs i (by simp; exact (gei hi).1); rw [hi] at this; simp at this
  rw [this]; rfl
theorem zyl (N : Nat) (s : Storage) (h : s.Tags.length ≤ 64) (hN : 2000 < N) : ∃ l, zbs N s = some l ∧ (decide ((l.length : Int) > 0)) = s.Tags.contains true := by
 unfold zbs
 obtain ⟨s', h1, l, h2, h3, h4⟩ := zfb (f := zbs.r0 N) (fun i t => ∃ l : List Int, t = (l, (i : Int), s) ∧ l.length ≤ i ∧ (decide ((l.length : Int) > 0)) = (s.Tags.take i).contains true) s.Tags.length
  (fun i t hi ht => by
   obtain ⟨l, rfl, h3, h4⟩ := ht; have hx := lge hi; have rm : Nat.ble ((l.length + ([(w6 ((i : Int) * 16))] : List Int).length) * 8) zao = true := Nat.ble_eq_true_of_le (by unfold zao; simp; omega); simp only [zbs.r0, zbs.b0, zay, hx, obs, dct (show (i : Int) < (s.Tags.length : Int) by omega), ctr, rm]; rw [w6e (n := (i : Int) + 1)]; have tk : s.Tags.take (i + 1) = s.Tags.take i ++ [s.Tags[i]] := by rw [List.take_add_one, hx]; rfl
   cases hb : s.Tags[i] with
   | true => exact ⟨_, rfl, _, rfl, by simp; omega, by rw [tk, hb]; simp⟩
   | false => exact ⟨_, rfl, _, rfl, by omega, by rw [tk, hb, h4]; simp⟩)
  (fun t ht => by
   obtain ⟨l, rfl, h3, h4⟩ := ht; simp only [zbs.r0, zbs.b0, dcf (show ¬ (s.Tags.length : Int) < (s.Tags.length : Int) by omega), cfa]; exact ⟨_, rfl, l, rfl, h3, h4⟩) (N := N) (by omega) (s := ([], 0, s)) ⟨[], rfl, by simp, by simp⟩
 rw [h1, h2]
 exact ⟨l, rfl, by rw [h4, List.take_length]⟩
theorem z2t {c : zF} (hc : Wft En 1048576 Ty.zF c) : zhk c = some c := by
 obtain ⟨w1, w2, w3, w4, w5⟩ := zm8 hc
 unfold zhk zhv zif
 rw [show Nat.ble (c.Storage.Tags.length * 1) zao = true from Nat.ble_eq_true_of_le (by unfold zao; omega), show Nat.ble (c.zA.length * 224) zao = true from Nat.ble_eq_true_of_le (by unfold zao; omega), show Nat.ble (c.zQ.length * 32) zao = true from Nat.ble_eq_true_of_le (by unfold zao; omega)]
 rfl
theorem z1v (N : Nat) (hN : 1048600 < N) (m : zI) {c : zF} (hc : Wft En 1048576 Ty.zF c) : ∃ r, zl N m c = some r ∧ zx N m c = some r := by
 obtain ⟨e, he1, he2, he3⟩ := zt6 m
 obtain ⟨i1, e1, e2, hs1, hs2, hs⟩ := zv5 N (by omega) c.Storage
 obtain ⟨w1, w2, w3, w4, w5⟩ := zm8 hc
 have f3 : ∀ a b d : Int, zar N [a, b, d] = some (zf4 [a, b, d]) := fun a b d => ztb N _ (by simp; omega) (by simp)
 unfold zl zx
 try simp only [eS, eM, eC]
 rw [he1, he2, hs1, hs2]
 simp only [obs]
 by_cases h0 : e = 0
 · subst h0; have hm := he3 rfl; simp only [bsf, cfa]; rcases hs with ⟨rfl, hs⟩ | ⟨ok, htl, hs3, hs4⟩
   · rw [show (e1 != 0) = true by rw [zei]; exact dct hs]; exact ⟨_, rfl, rfl⟩
   · obtain ⟨l, hl1, hl2⟩ := zyl N c.Storage htl (by omega); rw [z4p N _ (by omega) (by omega), hl1]; simp only [obs, zo6, f3, orB, hl2]
     by_cases ht : c.Storage.Tags.contains true = true
     · rw [ht]; refine ⟨(0, 22), ?_, ?_⟩
       · rcases hs3 with rfl | ⟨rfl, _⟩
         · simp [zf4]
         · rfl
       · rcases hs4 with rfl | ⟨rfl, _⟩
         · rfl
         · rfl
     · have ht' : c.Storage.Tags.contains true = false := by simpa using ht
       have hn : ¬ true ∈ c.Storage.Tags := fun hh => ht (List.contains_iff_mem.2 hh); obtain rfl : e1 = 0 := hs3.resolve_right fun hh => hn hh.2; obtain rfl : e2 = 0 := hs4.resolve_right fun hh => hn hh.2; rw [ht']; have hl1 := z20 N hN hm ok hc; have hl2 := zwi N hN hm ok hc
       by_cases hz : (c.zA.length : Int) = 0
       · refine ⟨(0, 1), ?_, ?_⟩
         · simp [zf4, hz]
         · simp [hz]
       · cases hbig : (decide ((c.zA.length : Int) > 240) || decide ((c.zQ.length : Int) > 40)) with
         | true =>
          refine ⟨(0, 2), ?_, ?_⟩
          · simp only [bsf, cfa, ctr, obs, zc3, dcf hz, zf4, if_true]; rfl
          · simp only [bsf, cfa, ctr, obs, zc3, dcf hz]
         | false =>
          refine ⟨zmx m c, ?_, ?_⟩
          · rw [← hl1]; simp only [bsf, cfa, obs, zc3, dcf hz, zf4, if_true]
          · rw [← hl2]; simp only [bsf, cfa, obs, zc3, dcf hz]
 · rw [show (e != 0) = true by rw [zei]; exact dct h0]; exact ⟨_, rfl, rfl⟩
theorem z1o (N : Nat) (hN : 1048600 < N) {c : zF} (hc : Wft En 1048576 Ty.zF c) : ∃ b, zdr N c = some b := by
 obtain ⟨w1, w2, w3, w4, w5⟩ := zm8 hc
 unfold zdr
 have ft : ∀ s, ∃ b, zf0 s = some b := fun s => by
  unfold zf0; cases decide ((s.Bytes.size : Int) ≤ 1072) <;> exact ⟨_, rfl⟩
 have e1 : ∀ i : Nat, i ≤ c.zA.length → (cond (decide ((i : Int) < (c.zA.length : Int))) (some (decide ((i : Int) < 244))) (some false)) = some (decide ((i : Int) < (c.zA.length : Int)) && decide ((i : Int) < 244)) := fun i _ => zjb _ _
 have l1 := zoo (f := zdr.r0 N) (fun i t => t = ((i : Int), c)) (fun r => True) (min c.zA.length 244)
  (fun i t hi ht => by
   subst ht; have hlt : i < c.zA.length := by omega
   have hx := lge hlt; simp only [zdr.r0, zdr.b0, zjb, obs, dct (show (i : Int) < (c.zA.length : Int) by omega), dct (show (i : Int) < 244 by omega), Bool.and_self, ctr, zay, hx, orB]; rw [w6e (n := (i : Int) + 1)]; cases (decide ((c.zA[i].Text.size : Int) > 300) || decide ((c.zA[i].Other.size : Int) > 300)) with
   | true => exact .inr ⟨_, rfl, trivial⟩
   | false => exact .inl ⟨_, rfl, rfl⟩)
  (fun t ht => by
   subst ht; have e : (decide (((min c.zA.length 244 : Nat) : Int) < (c.zA.length : Int)) && decide (((min c.zA.length 244 : Nat) : Int) < 244)) = false := by
    by_cases h : c.zA.length < 244
    · rw [dcf (show ¬ ((min c.zA.length 244 : Nat) : Int) < (c.zA.length : Int) by omega)]; rfl
    · rw [dcf (show ¬ ((min c.zA.length 244 : Nat) : Int) < 244 by omega)]; simp
   simp only [zdr.r0, zdr.b0, zjb, obs, e, cfa]; exact ⟨_, rfl, rfl⟩) (N := N) (by omega) (s := (0, c)) rfl
 rcases l1 with ⟨t, g1, _⟩ | ⟨r, g1, _⟩
 · rw [g1]; simp only [obs, zbd]; obtain ⟨b, hb⟩ := ft t.2.Storage; rw [hb]; simp only [obs, zjb]; exact ⟨_, rfl⟩
 · rw [g1]; exact ⟨_, rfl⟩
theorem z4d {m : zI} {c : zF} {n : Int} (h : zmx m c = (n, 0)) : ∀ x ∈ c.zA, zmq m c x = 0 := by
 intro x hx
 refine cbc fun h0 => ?_
 unfold zmx at h
 obtain ⟨i, hi⟩ := List.getElem?_of_mem hx
 cases hf : (List.range c.zA.length).findSome? (gI m c) with
 | none =>
  rw [List.findSome?_eq_none_iff] at hf; have := hf i (by simp; exact (gei hi).1); unfold gI at this; rw [hi] at this; simp [h0] at this
 | some r =>
  rw [hf] at h; simp only at h; subst h; obtain ⟨j, _, hj⟩ := eof hf; unfold gI at hj; rw [Option.bind_eq_some_iff] at hj; obtain ⟨y, _, hy⟩ := hj
  by_cases h1 : zmq m c y = 0
  · simp [h1] at hy
  · rw [ifn h1] at hy; simp only [Option.some.injEq, Prod.mk.injEq] at hy; exact h1 hy.2
theorem zup {α σ : Type} {f : σ → Option (Round Int σ)} (l : List α) (p : α → Bool) (S : Nat → σ) (hstep : ∀ i x, l[i]? = some x → f (S i) = some (cond (p x) (.result (i : Int)) (.again (S (i + 1)))))
 (hl : f (S l.length) = some (.leave (S l.length))) {N : Nat} (hN : l.length < N) : zaa f N (S 0) = some (match l.findIdx? p with | some i => .inl (i : Int) | none => .inr (S l.length)) := by
 have := zdq (f := f) S (fun i => (l[i]?).bind fun x => if p x = true then some (i : Int) else none) l.length (fun i hi => by
  have hx := lge hi; rw [hstep i _ hx]; simp only [hx, obs]; cases hb : p l[i] <;> simp) hl hN
 rw [this]
 congr 1
 have key : (List.range l.length).findSome? (fun i : Nat => (l[i]?).bind fun x => if p x = true then some (i : Int) else none) = (l.findIdx? p).map (fun i => (i : Int)) := by
  cases hf : l.findIdx? p with
  | none =>
   rw [List.findIdx?_eq_none_iff] at hf; rw [List.findSome?_eq_none_iff.2]
   · rfl
   · intro i hi; have hi' : i < l.length := by simpa using hi
     have h9 := hf _ (List.getElem_mem hi'); rw [lge hi', obs, ifn (by simp [h9])]
  | some k =>
   rw [List.findIdx?_eq_some_iff_getElem] at hf; obtain ⟨hk, h1, h2⟩ := hf; show _ = some (k : Int); have : (List.range l.length).findSome? (fun i : Nat => (l[i]?).bind fun x => if p x = true then some (i : Int) else none) = some (k : Int) := by
    rw [List.findSome?_eq_some_iff]; refine ⟨List.range k, k, (List.range' (k + 1) (l.length - (k + 1))), ?_, ?_, ?_⟩
    · apply List.ext_getElem
      · simp; omega
      · intro i h3 h4; rw [List.getElem_append]; split
        · simp
        · rename_i h5; have h5' : k ≤ i := by simpa using h5
          by_cases e : i = k
          · subst e; simp
          · have : i - k ≠ 0 := by omega
            rw [List.getElem_cons]; simp [this]; omega
    · rw [lge hk]; simp [h1]
    · intro x hx; have hx' : x < k := by simpa using hx
      rw [lge (by omega)]; have := h2 x hx'; simp [this]
   rw [this]
 rw [key]
 cases l.findIdx? p <;> rfl
theorem zsj {α : Type} (l : List α) (p : α → Bool) : (l.findIdx? p).isSome = l.any p := by
 cases h : l.findIdx? p with
 | none =>
  rw [List.findIdx?_eq_none_iff] at h
  symm
  simp only [Option.isSome_none, List.any_eq_false]; intro x hx; simp [h x hx]
 | some k =>
  rw [List.findIdx?_eq_some_iff_getElem] at h; obtain ⟨hk, h1, h2⟩ := h
  symm
  simp only [Option.isSome_some, List.any_eq_true]; exact ⟨_, List.getElem_mem hk, h1⟩
theorem ztg {α β σ : Type} {f : σ → Option (Stp σ)} (l : List α) (g : α → Option β) (S : Nat → List β → σ) (hstep : ∀ i x acc, l[i]? = some x → acc.length ≤ i → f (S i acc) = some (.again (S (i + 1) (acc ++ (g x).toList))))
 (hl : ∀ acc, f (S l.length acc) = some (.leave (S l.length acc))) {N : Nat} (hN : l.length < N) : zd f N (S 0 []) = some (S l.length (l.filterMap g)) := by
 have e0 : ∀ i, ((l.take i).filterMap g).length ≤ i := fun i => Nat.le_trans (List.length_filterMap_le _ _) (by simp; omega)
 have := zex (f := f) (fun i => S i ((l.take i).filterMap g)) l.length (fun i hi => by
  have hx := lge hi; rw [hstep i _ _ hx (e0 i), List.take_add_one, hx, List.filterMap_append]
  congr 3) (hl _) hN
 simpa using this
theorem zvw {α σ : Type} {f : σ → Option (Stp σ)} (l : List α) (p : α → Bool) (S : List α → Nat → Nat → σ)
 (hstep : ∀ s i j x, s[j]? = some x → i < j → s.length = l.length → x ∈ l → f (S s i j) = some (.again (cond (p x) (S s i (j + 1)) (S (s.set i x) (i + 1) (j + 1)))))
 (hl : ∀ s i, s.length = l.length → i ≤ l.length → f (S s i l.length) = some (.leave (S s i l.length))) {k : Nat} (hk : l.findIdx? p = some k) {N : Nat} (hN : l.length < N) :
 ∃ s i, zd f N (S l k (k + 1)) = some (S s i l.length) ∧ s.length = l.length ∧ i ≤ l.length ∧ s.take i = l.filter (fun x => !p x) := by
 rw [List.findIdx?_eq_some_iff_getElem] at hk
 obtain ⟨hkl, h1, h2⟩ := hk
 have first : l.take k = (l.take (k + 1)).filter (fun x => !p x) := by
  rw [List.take_add_one, lge hkl, List.filter_append]; simp only [Option.toList_some, List.filter_cons, h1, bnt, Bool.false_eq_true, if_false, List.filter_nil, List.append_nil]
  symm
  rw [List.filter_eq_self]; intro x hx; obtain ⟨j, hj, rfl⟩ := List.mem_take_iff_getElem.1 hx; have := h2 j (by omega); simpa using this
 let I : Nat → σ → Prop := fun t q => ∃ s i, q = S s i (k + 1 + t) ∧ s.length = l.length ∧ i < k + 1 + t ∧ (∀ j, k + 1 + t ≤ j → s[j]? = l[j]?) ∧ s.take i = (l.take (k + 1 + t)).filter (fun x => !p x)
 obtain ⟨q, hq, hI⟩ := zfb (f := f) I (l.length - (k + 1)) (by
  rintro t q ht ⟨s, i, rfl, hs, hi, hsame, htake⟩
  have hlt : k + 1 + t < l.length := by omega
  have hx := lge hlt; have hsx : s[k + 1 + t]? = some l[k + 1 + t] := by rw [hsame _ (Nat.le_refl _), hx]
  refine ⟨_, hstep s i _ _ hsx hi hs (List.getElem_mem hlt), ?_⟩; cases hp : p l[k + 1 + t] with
  | true =>
   refine ⟨s, i, rfl, hs, by omega, fun j hj => hsame j (by omega), ?_⟩; rw [htake, ← Nat.add_assoc, List.take_add_one, hx, List.filter_append]; simp [hp]
  | false =>
   refine ⟨s.set i l[k + 1 + t], i + 1, rfl, by simpa using hs, by omega, fun j hj => ?_, ?_⟩
   · rw [List.getElem?_set_ne (by omega)]; exact hsame j (by omega)
   · rw [List.take_add_one, List.getElem?_set_self (by omega), List.take_set_of_le (Nat.le_refl _), htake, ← Nat.add_assoc, List.take_add_one, hx, List.filter_append]; simp [hp])
  (by
   rintro q ⟨s, i, rfl, hs, hi, hsame, htake⟩
   have e : k + 1 + (l.length - (k + 1)) = l.length := by omega
   rw [e] at hi htake ⊢; exact ⟨_, hl s i hs (by omega), s, i, by rw [e], hs, by omega, fun j hj => hsame j hj, by rw [e]; exact htake⟩)
  (N := N) (by omega) (s := S l k (k + 1)) ⟨l, k, rfl, rfl, by omega, fun j _ => rfl, first⟩
 obtain ⟨s, i, rfl, hs, hi, hsame, htake⟩ := hI
 have e : k + 1 + (l.length - (k + 1)) = l.length := by omega
 rw [e] at hq hi htake
 refine ⟨s, i, hq, hs, by omega, ?_⟩
 rw [htake, List.take_length]
theorem zmb {α : Type} {l : List α} {p : α → Bool} (h : l.findIdx? p = none) : l.filter (fun x => !p x) = l := by
 rw [List.findIdx?_eq_none_iff] at h
 rw [List.filter_eq_self]
 intro x hx
 simp [h x hx]
def zje (a b : zB) : Bool := a.Register == b.Register && (a.zD.Kind == b.zD.Kind && (a.zD.Length == b.zD.Length && (a.zD.Scale == b.zD.Scale && a.Offset == b.Offset)))
theorem zmm {a b : zB} : zje a b = true ↔ a = b := by
 obtain ⟨r, ⟨k, l, s⟩, o⟩ := a
 obtain ⟨r', ⟨k', l', s'⟩, o'⟩ := b
 simp only [zje, Bool.and_eq_true, beq_iff_eq, zB.mk.injEq, DataType.mk.injEq, and_assoc]
theorem zrh (a b : zB) : zc2 [(a.Register == b.Register), (a.zD.Kind == b.zD.Kind), (a.zD.Length == b.zD.Length), (a.zD.Scale == b.zD.Scale), (a.Offset == b.Offset)] = zje a b := by
 simp only [zc2, zje, List.all_cons, List.all_nil, List.foldr_cons, List.foldr_nil, Bool.and_true, id]
theorem zz8 (a b : zB) : zje a b = zje b a := by
 rw [Bool.eq_iff_iff, zmm, zmm]
 exact ⟨Eq.symm, Eq.symm⟩
def ze6 (l : List zB) (x : zB) : Bool := l.any (zje x)
theorem zgj {l : List zB} {x : zB} : ze6 l x = true ↔ x ∈ l := by
 unfold ze6
 rw [List.any_eq_true]
 constructor
 · rintro ⟨y, hy, h⟩
   rw [zmm] at h; subst h; exact hy
 · intro h; exact ⟨x, h, zmm.2 rfl⟩
theorem zr8 (N : Nat) (l : List zB) (x : zB) (h : l.length < N) (hl : l.length < 1000000000) : za2 N l x = some (ze6 l x) := by
 unfold za2 zal
 have := zup (f := zal.r0 N) l (zje x) (fun i => (l, (l.length : Int), (i : Int), x)) (fun i y hy => by
  have hi := (gei hy).1; simp only [zal.r0, zal.b0, zay, hy, obs, dct (show (i : Int) < (l.length : Int) by omega), ctr, zrh]; rw [w6e]; cases zje x y <;> simp)
  (by simp only [zal.r0, zal.b0, dcf (show ¬ (l.length : Int) < (l.length : Int) by omega), cfa]) h
 simp only [nc0] at this
 rw [this]
 have e := zsj l (zje x)
 unfold ze6
 cases hf : l.findIdx? (zje x) with
 | none => rw [hf] at e; rw [← e]; simp [zbd]
 | some k => rw [hf] at e; rw [← e]; simp [zbd]
theorem zqi (s : List zB) (i : Nat) (n : Nat) (hs : s.length = n) (hi : i ≤ n) (z : zB) :
 (if 0 ≤ (i : Int) ∧ (i : Int) ≤ (s.length : Int) then (if 0 ≤ (i : Int) ∧ (i : Int) ≤ ((s.take (i : Int).toNat ++ List.replicate (s.length - (i : Int).toNat) z).length : Int) then
  (if 0 ≤ (0 : Int) ∧ (0 : Int) ≤ (i : Int) then (some (((s.take (i : Int).toNat ++ List.replicate (s.length - (i : Int).toNat) z).drop ((0 : Int).toNat)).take ((i : Int).toNat - (0 : Int).toNat))) else none) else none) else none) = some (s.take i) := by
 have h1 : (s.take i ++ List.replicate (s.length - i) z).length = n := by simp; omega
 rw [ifp, ifp (by rw [itn, h1]; omega), ifp]
 congr 1
 simp only [itn, Int.toNat_zero, dr0, Nat.sub_zero]
 rw [List.take_append_of_le_length (by simp; omega), List.take_take, Nat.min_self]
theorem zr1 (l : List zB) (h : l.length ≤ 1000000) : zj8 40 l = some l := by
 unfold zj8
 rw [show Nat.ble (l.length * 40) zao = true from Nat.ble_eq_true_of_le (by show l.length * 40 ≤ 2 ^ 46; omega)]
 rfl
theorem zis {n : Nat} (h : n ≤ 1000000000) : Nat.ble (n * 40) zao = true := Nat.ble_eq_true_of_le (by show n * 40 ≤ 2 ^ 46; omega)
theorem zos {n : Nat} (h : n ≤ 1000000) : Nat.ble (n * 8) zao = true := Nat.ble_eq_true_of_le (by show n * 8 ≤ 2 ^ 46; omega)
theorem zxr {n : Nat} (h : n ≤ 1000000) : Nat.ble (n * 1) zao = true := Nat.ble_eq_true_of_le (by show n * 1 ≤ 2 ^ 46; omega)
theorem z3q {n : Nat} (h : n ≤ 1000000) : Nat.ble (n * 24) zao = true := Nat.ble_eq_true_of_le (by show n * 24 ≤ 2 ^ 46; omega)
theorem z4y (N : Nat) (l : List zB) (r : Int) (p : zB → Bool) (hp : ∀ x ∈ l, zdf x r = some (p x)) (h : l.length < N) (hl : l.length ≤ 1000000) : zi N l r = some (l.filter fun f => !(p f)) := by
 unfold zi zr
 have := zup (f := zr.r0 N) l p (fun i => (l, (l.length : Int), (i : Int), r)) (fun i y hy => by
  have hi := (gei hy).1; have hc := hp y (lmg hy); simp only [zr.r0, zr.b0, hc, zay, hy, obs, dct (show (i : Int) < (l.length : Int) by omega), ctr]; rw [w6e]; cases p y <;> simp)
  (by simp only [zr.r0, zr.b0, dcf (show ¬ (l.length : Int) < (l.length : Int) by omega), cfa]) h
 simp only [nc0] at this
 rw [this]
 cases hf : l.findIdx? p with
 | none => simp [zbd, zmb hf]
 | some k =>
  have hk : k < l.length := by
   rw [List.findIdx?_eq_some_iff_getElem] at hf; exact hf.1
  obtain ⟨s, i, h1, h2, h3, h4⟩ := zvw (f := zi.r0 N) l p (fun s i j => (s, (i : Int), (j : Int), r)) (fun s i j x hx hij hs hm => by
   have hj := (gei hx).1; have hxi : ∃ y, s[i]? = some y := ⟨_, lge (by omega)⟩; obtain ⟨y, hy⟩ := hxi; have hc := hp x hm; simp only [zi.r0, zi.b0, hc, dct (show (j : Int) < (s.length : Int) by omega), ctr, ifp (show 0 ≤ (j : Int) by omega), ifp (show (j : Int) < (s.length : Int) by omega),
    ifp (show 0 ≤ (i : Int) by omega), ifp (show (i : Int) < (s.length : Int) by omega), itn, hx, hy, obs]
   rw [w6e (n := (i : Int) + 1), w6e (n := (j : Int) + 1)]; cases p x <;> simp)
   (fun s i hs hi => by simp only [zi.r0, zi.b0, hs, dcf (show ¬ (l.length : Int) < (l.length : Int) by omega), cfa]) hf h
  have hne : ((k : Int) == -1) = false := by rw [zc3]; simp
  simp only [zbd, obs, hne, cfa]; rw [w6e]; have h1 : zd (zi.r0 N) N (l, (k : Int), (k : Int) + 1, r) = some (s, (i : Int), (l.length : Int), r) := by
   have := h1; simpa using this
  rw [h1]; simp only [obs]; rw [zqi s i l.length h2 h3, h4]
theorem z4w (N : Nat) (l : List zB) (p : zB → Bool) (hp : ∀ x ∈ l, zem x = some (p x)) (h : l.length < N) (hl : l.length ≤ 1000000) : zg N l = some (l.filter fun f => !(p f)) := by
 unfold zg zp
 have := zup (f := zp.r0 N) l p (fun i => (l, (l.length : Int), (i : Int))) (fun i y hy => by
  have hi := (gei hy).1; have hc := hp y (lmg hy); simp only [zp.r0, zp.b0, hc, zay, hy, obs, dct (show (i : Int) < (l.length : Int) by omega), ctr]; rw [w6e]; cases p y <;> simp)
  (by simp only [zp.r0, zp.b0, dcf (show ¬ (l.length : Int) < (l.length : Int) by omega), cfa]) h
 simp only [nc0] at this
 rw [this]
 cases hf : l.findIdx? p with
 | none => simp [zbd, zmb hf]
 | some k =>
  have hk : k < l.length := by
   rw [List.findIdx?_eq_some_iff_getElem] at hf; exact hf.1
  obtain ⟨s, i, h1, h2, h3, h4⟩ := zvw (f := zg.r0 N) l p (fun s i j => (s, (i : Int), (j : Int))) (fun s i j x hx hij hs hm => by
   have hj := (gei hx).1; have hxi : ∃ y, s[i]? = some y := ⟨_, lge (by omega)⟩; obtain ⟨y, hy⟩ := hxi; have hc := hp x hm; simp only [zg.r0, zg.b0, hc, dct (show (j : Int) < (s.length : Int) by omega), ctr, ifp (show 0 ≤ (j : Int) by omega), ifp (show (j : Int) < (s.length : Int) by omega),
    ifp (show 0 ≤ (i : Int) by omega), ifp (show (i : Int) < (s.length : Int) by omega), itn, hx, hy, obs]
   rw [w6e (n := (i : Int) + 1), w6e (n := (j : Int) + 1)]; cases p x <;> simp)
   (fun s i hs hi => by simp only [zg.r0, zg.b0, hs, dcf (show ¬ (l.length : Int) < (l.length : Int) by omega), cfa]) hf h
  have hne : ((k : Int) == -1) = false := by rw [zc3]; simp
  simp only [zbd, obs, hne, cfa]; rw [w6e]; have h1 : zd (zg.r0 N) N (l, (k : Int), (k : Int) + 1) = some (s, (i : Int), (l.length : Int)) := by
   have := h1; simpa using this
  rw [h1]; simp only [obs]; rw [zqi s i l.length h2 h3, h4]
theorem z4x (N : Nat) (l : List zB) (a b : Int) (p : zB → Bool) (hp : ∀ x ∈ l, zde N x a b = some (p x)) (h : l.length < N) (hl : l.length ≤ 1000000) : zh N l a b = some (l.filter fun f => !(p f)) := by
 unfold zh zq
 have := zup (f := zq.r0 N) l p (fun i => (l, (l.length : Int), (i : Int), a, b)) (fun i y hy => by
  have hi := (gei hy).1; have hc := hp y (lmg hy); simp only [zq.r0, zq.b0, hc, zay, hy, obs, dct (show (i : Int) < (l.length : Int) by omega), ctr]; rw [w6e]; cases p y <;> simp)
  (by simp only [zq.r0, zq.b0, dcf (show ¬ (l.length : Int) < (l.length : Int) by omega), cfa]) h
 simp only [nc0] at this
 rw [this]
 cases hf : l.findIdx? p with
 | none => simp [zbd, zmb hf]
 | some k =>
  have hk : k < l.length := by
   rw [List.findIdx?_eq_some_iff_getElem] at hf; exact hf.1
  obtain ⟨s, i, h1, h2, h3, h4⟩ := zvw (f := zh.r0 N) l p (fun s i j => (s, (i : Int), (j : Int), a, b)) (fun s i j x hx hij hs hm => by
   have hj := (gei hx).1; have hxi : ∃ y, s[i]? = some y := ⟨_, lge (by omega)⟩; obtain ⟨y, hy⟩ := hxi; have hc := hp x hm; simp only [zh.r0, zh.b0, hc, dct (show (j : Int) < (s.length : Int) by omega), ctr, ifp (show 0 ≤ (j : Int) by omega), ifp (show (j : Int) < (s.length : Int) by omega),
    ifp (show 0 ≤ (i : Int) by omega), ifp (show (i : Int) < (s.length : Int) by omega), itn, hx, hy, obs]
   rw [w6e (n := (i : Int) + 1), w6e (n := (j : Int) + 1)]; cases p x <;> simp)
   (fun s i hs hi => by simp only [zh.r0, zh.b0, hs, dcf (show ¬ (l.length : Int) < (l.length : Int) by omega), cfa]) hf h
  have hne : ((k : Int) == -1) = false := by rw [zc3]; simp
  simp only [zbd, obs, hne, cfa]; rw [w6e]; have h1 : zd (zh.r0 N) N (l, (k : Int), (k : Int) + 1, a, b) = some (s, (i : Int), (l.length : Int), a, b) := by
   have := h1; simpa using this
  rw [h1]; simp only [obs]; rw [zqi s i l.length h2 h3, h4]
theorem z4z (N : Nat) (l : List zB) (t : List zB) (p : zB → Bool) (hp : ∀ x ∈ l, zc5 N x t = some (p x)) (h : l.length < N) (hl : l.length ≤ 1000000) : zj N l t = some (l.filter fun f => !(p f)) := by
 unfold zj zt
 have := zup (f := zt.r0 N) l p (fun i => (l, (l.length : Int), (i : Int), t)) (fun i y hy => by
  have hi := (gei hy).1; have hc := hp y (lmg hy); simp only [zt.r0, zt.b0, hc, zay, hy, obs, dct (show (i : Int) < (l.length : Int) by omega), ctr]; rw [w6e]; cases p y <;> simp)
  (by simp only [zt.r0, zt.b0, dcf (show ¬ (l.length : Int) < (l.length : Int) by omega), cfa]) h
 simp only [nc0] at this
 rw [this]
 cases hf : l.findIdx? p with
 | none => simp [zbd, zmb hf]
 | some k =>
  have hk : k < l.length := by
   rw [List.findIdx?_eq_some_iff_getElem] at hf; exact hf.1
  obtain ⟨s, i, h1, h2, h3, h4⟩ := zvw (f := zj.r0 N) l p (fun s i j => (s, (i : Int), (j : Int), t)) (fun s i j x hx hij hs hm => by
   have hj := (gei hx).1; have hxi : ∃ y, s[i]? = some y := ⟨_, lge (by omega)⟩; obtain ⟨y, hy⟩ := hxi; have hc := hp x hm; simp only [zj.r0, zj.b0, hc, dct (show (j : Int) < (s.length : Int) by omega), ctr, ifp (show 0 ≤ (j : Int) by omega), ifp (show (j : Int) < (s.length : Int) by omega),
    ifp (show 0 ≤ (i : Int) by omega), ifp (show (i : Int) < (s.length : Int) by omega), itn, hx, hy, obs]
   rw [w6e (n := (i : Int) + 1), w6e (n := (j : Int) + 1)]; cases p x <;> simp)
   (fun s i hs hi => by simp only [zj.r0, zj.b0, hs, dcf (show ¬ (l.length : Int) < (l.length : Int) by omega), cfa]) hf h
  have hne : ((k : Int) == -1) = false := by rw [zc3]; simp
  simp only [zbd, obs, hne, cfa]; rw [w6e]; have h1 : zd (zj.r0 N) N (l, (k : Int), (k : Int) + 1, t) = some (s, (i : Int), (l.length : Int), t) := by
   have := h1; simpa using this
  rw [h1]; simp only [obs]; rw [zqi s i l.length h2 h3, h4]
theorem zmu (N : Nat) (l : List zB) (r : Int) (h : l.length < N) (hl : l.length ≤ 1000000) : zco N l r = some (l.filter fun f => !(f.Register == r)) := by
 unfold zco
 rw [zr1 l hl, obs, z4y N l r (fun f => f.Register == r) (fun x _ => rfl) h hl]
 rfl
theorem z3v (N : Nat) (l : List zB) (h : l.length < N) (hl : l.length ≤ 1000000) : zgv N l = some (l.filter fun f => f.Offset == -1) := by
 unfold zgv
 rw [zr1 l hl, obs, z4w N l (fun f => f.Offset != -1) (fun x _ => rfl) h hl]
 simp only [obs]
 congr 2
 funext f
 cases he : (f.Offset == -1) <;> simp [bne, he]
theorem z0o (N : Nat) (l t : List zB) (h : l.length < N) (hl : l.length ≤ 1000000) (h' : t.length < N) (hl' : t.length < 1000000000) : zfv N l t = some (l.filter fun f => ze6 t f) := by
 unfold zfv
 rw [zr1 l hl, obs, z4z N l t (fun f => !ze6 t f) (fun x _ => by unfold zc5; rw [zr8 N t x h' hl']; rfl) h hl]
 simp only [obs, Bool.not_not]
theorem zyh (N : Nat) (hN : 10 < N) {t : DataType} (h : zb8 t = 0) : ze7 N t = some (szE t) := by
 unfold ze7 zdp
 rw [zuv N hN, h]
 simp [zyo h]
def apB (a b : Int) (x : zB) : Bool := (x.Offset != -1 && decide (x.Offset < w6 (a + b))) && decide (a < w6 (x.Offset + szE x.zD))
theorem zv3 (N : Nat) (hN : 10 < N) (l : List zB) (a b : Int) (ht : ∀ x ∈ l, zb8 x.zD = 0) (h : l.length < N) (hl : l.length ≤ 1000000) : zeo N l a b = some (l.filter fun f => !apB a b f) := by
 unfold zeo
 rw [zr1 l hl, obs, z4x N l a b (apB a b) (fun x hx => ?_) h hl]
 · rfl
 · unfold zde apB; rw [zyh N hN (ht x hx)]; cases (x.Offset != -1) <;> cases decide (x.Offset < w6 (a + b)) <;> simp
theorem z61 {α β σ : Type} {f : σ → Option (Stp σ)} (l : List α) (g : α → List β) (M : Nat) (hM : ∀ x ∈ l, (g x).length ≤ M) (S : Nat → List β → σ) (a0 : List β)
 (hstep : ∀ i x acc, l[i]? = some x → acc.length ≤ a0.length + i * M → f (S i acc) = some (.again (S (i + 1) (acc ++ g x))))
 (hl : ∀ acc, f (S l.length acc) = some (.leave (S l.length acc))) {N : Nat} (hN : l.length < N) : zd f N (S 0 a0) = some (S l.length (a0 ++ l.flatMap g)) := by
 have e0 : ∀ i, ((l.take i).flatMap g).length ≤ i * M := by
  intro i
  induction i with
  | zero => simp
  | succ i ih =>
   rw [List.take_add_one, List.flatMap_append, lna, Nat.succ_mul]; refine Nat.add_le_add ih ?_; cases hx : l[i]? with
   | none => simp
   | some x => simpa using hM x (lmg hx)
 have := zex (f := f) (fun i => S i (a0 ++ (l.take i).flatMap g)) l.length (fun i hi => by
  have hx := lge hi; rw [hstep i _ _ hx (by rw [lna]; have := e0 i; omega), List.take_add_one, hx, List.flatMap_append]; simp) (hl _) hN
 simpa using this
def zhy (a r : Int) (x : zB) : Option zB := if x.Register = a then some ⟨r, x.zD, x.Offset⟩ else none
theorem zv4 (N : Nat) (l : List zB) (a r : Int) (h : l.length < N) (hl : l.length ≤ 100000) : za3 N l a r = some (l.filterMap (zhy a r)) := by
 unfold za3
 have := ztg (f := za3.r0 N) l (zhy a r) (fun i acc => (a, r, acc, l, (l.length : Int), (i : Int))) (fun i x acc hx hacc => by
  have hi := (gei hx).1; simp only [za3.r0, za3.b0, zay, hx, obs, dct (show (i : Int) < (l.length : Int) by omega), ctr, lnc, ln0, zis (show acc.length + (0 + 1) ≤ 1000000000 by omega)]; rw [w6e, zc3]; unfold zhy
  by_cases e : x.Register = a <;> simp [e])
  (fun acc => by simp only [za3.r0, za3.b0, dcf (show ¬ (l.length : Int) < (l.length : Int) by omega), cfa]) h
 simp only [nc0] at this
 rw [this]
 rfl
def zun (a b : DataType) : Bool := a.Kind == b.Kind && (a.Length == b.Length && a.Scale == b.Scale)
theorem zv2 {a b : DataType} : zun a b = true ↔ a = b := by
 obtain ⟨k, l, s⟩ := a
 obtain ⟨k', l', s'⟩ := b
 simp only [zun, Bool.and_eq_true, beq_iff_eq, DataType.mk.injEq]
theorem z19 (a b : DataType) : zc2 [(a.Kind == b.Kind), (a.Length == b.Length), (a.Scale == b.Scale)] = zun a b := by
 simp only [zc2, zun, Bool.and_true]
def woL (r : Int) (l : List zB) : List zB := l.filter fun f => !(f.Register == r)
def zlg (x : zC) (l : List zB) (g : zB) : List zB := if zun g.zD x.zD && g.Offset == x.Place.Offset then l.filterMap (zhy g.Register x.R) else []
def zp5 (x : zC) (l : List zB) : List zB :=
 (woL x.R l ++ [⟨x.R, x.zD, -1⟩]) ++ (if x.Place.Based then [] else [⟨x.R, x.zD, x.Place.Offset⟩] ++ l.flatMap (zlg x l))
theorem z0l (N : Nat) (x : zC) (l : List zB) (h : l.length < N) (hl : l.length ≤ 5000) : zba N x l = some (zp5 x l) := by
 unfold zba
 rw [zmu N l x.R h (by omega)]
 have hw : (l.filter fun f => !(f.Register == x.R)).length ≤ l.length := List.length_filter_le _ _
 simp only [obs, lna, lnc, ln0]
 rw [zis (by omega), zis (by omega)]
 simp only [ctr]
 unfold zp5 woL
 cases hb : x.Place.Based with
 | true => simp
 | false =>
  simp only [cfa]; have := z61 (f := zba.r0 N) l (zlg x l) 5000 (fun g _ => by
   unfold zlg; split
   · exact Nat.le_trans (List.length_filterMap_le _ _) hl
   · simp) (fun i acc => (l, acc, l, (l.length : Int), (i : Int), x)) (((l.filter fun f => !(f.Register == x.R)) ++ [⟨x.R, x.zD, -1⟩]) ++ [⟨x.R, x.zD, x.Place.Offset⟩]) (fun i y acc hy hacc => by
   have hi := (gei hy).1; simp only [zba.r0, zba.b0, zay, hy, obs, dct (show (i : Int) < (l.length : Int) by omega), ctr, z19]; rw [zjb, obs, zv4 N l y.Register x.R h (by omega), w6e]; have hla : (l.filterMap (zhy y.Register x.R)).length ≤ l.length := List.length_filterMap_le _ _; have hi2 : i * 5000 ≤ 5000 * 5000 := Nat.mul_le_mul_right 5000 (by omega); simp only [lna, lnc, ln0] at hacc; unfold zlg; cases hc : (zun y.zD x.zD && y.Offset == x.Place.Offset) with
   | true => simp only [ctr, obs, if_true, zis (show acc.length + (l.filterMap (zhy y.Register x.R)).length ≤ 1000000000 by omega)]; rfl
   | false => simp)
   (fun acc => by simp only [zba.r0, zba.b0, dcf (show ¬ (l.length : Int) < (l.length : Int) by omega), cfa]) h
  simp only [nc0] at this; rw [this]; simp
def zso (x : zC) (l : List zB) : List zB :=
 if x.Place.Based then l.filter fun f => f.Offset == -1
 else (l.filter fun f => !apB x.Place.Offset (szE x.zD) f) ++ (if x.Op == 1 && ze6 l ⟨x.R, x.zD, -1⟩ then [⟨x.R, x.zD, x.Place.Offset⟩] else [])
theorem zzb (N : Nat) (hN : 10 < N) (x : zC) (l : List zB) (htx : zb8 x.zD = 0) (ht : ∀ x ∈ l, zb8 x.zD = 0) (h : l.length < N) (hl : l.length ≤ 5000) : zfh N x l = some (zso x l) := by
 unfold zfh zso
 rw [z3v N l h (by omega), zyh N hN htx]
 cases hb : x.Place.Based with
 | true => simp
 | false =>
  simp only [cfa, obs]; rw [zv3 N hN l _ _ ht h (by omega), zr8 N l _ h (by omega)]; have hw : (l.filter fun f => !apB x.Place.Offset (szE x.zD) f).length ≤ l.length := List.length_filter_le _ _; simp only [obs, zjb, lnc, ln0, zis (show (l.filter fun f => !apB x.Place.Offset (szE x.zD) f).length + (0 + 1) ≤ 1000000000 by omega)]; cases (x.Op == 1 && ze6 l ⟨x.R, x.zD, -1⟩) <;> simp
structure InsX (m : zI) (c : zF) (x : zC) : Prop where
 op : 0 ≤ x.Op ∧ x.Op ≤ 26
 r : x.Op = 0 ∨ x.Op = 1 ∨ x.Op = 2 ∨ x.Op = 3 ∨ x.Op = 4 ∨ x.Op = 21 → 0 ≤ x.R ∧ x.R < m.Registers
 a : x.Op = 3 → 0 ≤ x.A ∧ x.A < m.Registers
 ty : x.Op = 0 ∨ x.Op = 1 ∨ x.Op = 4 ∨ x.Op = 9 ∨ x.Op = 10 → zb8 x.zD = 0
 kd : x.Op = 0 ∨ x.Op = 1 ∨ x.Op = 4 → x.zD.Kind ≠ 0 ∧ x.zD.Kind ≠ 4
 pl : x.Op = 0 ∨ x.Op = 1 ∨ x.Op = 9 ∨ x.Op = 10 → x.Place.Based = false → 0 ≤ x.Place.Offset ∧ x.Place.Offset + szE x.zD ≤ (c.Storage.Bytes.size : Int)
 pt : x.Op = 14 ∨ x.Op = 15 ∨ x.Op = 16 → 0 ≤ x.Pointer ∧ x.Pointer < (c.Storage.Bytes.size : Int)
 tg : x.Op = 6 ∨ x.Op = 7 ∨ x.Op = 8 ∨ x.Op = 18 → 0 ≤ x.Target ∧ x.Target < (c.zA.length : Int)
theorem zov {t : DataType} (h : zdc t 1 = 0) : zb8 t = 0 ∧ t.Kind ≠ 0 ∧ t.Kind ≠ 4 := by
 unfold zdc at h
 rw [ifn (by decide)] at h
 by_cases h0 : zb8 t = 0
 · rw [ifp h0] at h; split at h
   · cases h
   · rename_i h1; refine ⟨h0, ?_⟩; have h2 : inB t.Kind 1 3 = true := by
      refine cbc fun h2 => h1 (.inl ⟨rfl, fun h3 => h2 (zes.2 h3)⟩)
     have := zes.1 h2; omega
 · rw [ifn h0] at h; exact absurd h h0
theorem z6x {m : zI} {c : zF} {x : zC} (h : zmq m c x = 0) : InsX m c x := by
 unfold zmq at h
 by_cases hop : inB x.Op 0 26 = true
 · obtain ⟨f, u, hf, hu, ag, _⟩ := zvi x hop; rw [ifp hop, hu] at h; have h' : zta m c x u = 0 := h; unfold zta at h'; cases he : zkf x u with
   | true => rw [he] at h'; cases h'
   | false =>
    rw [he] at h'; simp only [cfa] at h'; cases hl : zmk m x with
    | true => rw [hl] at h'; cases h'
    | false =>
     rw [hl] at h'; simp only [cfa] at h'
     by_cases h1 : zdc x.zD u.zD = 0
     · by_cases h2 : zdc x.Second u.Second = 0
       · rw [ifn, ifn] at h'; cases hr : zks m c x u with
         | true => rw [hr] at h'; simp at h'
         | false =>
          unfold zks at hr; simp only [Bool.or_eq_false_iff] at hr; obtain ⟨r1, r2, r3, r4, r5, r6, r7, r8⟩ := hr; rw [List.any_eq_false] at r1; have reg : ∀ i, i ∈ zlt x u → 0 ≤ i ∧ i < m.Registers := fun i hi => by
           have := r1 i hi; unfold zev at this; have h4 : inB i 0 (m.Registers - 1) = true := by simpa using this
           have := zes.1 h4; omega
          have andF : ∀ {p q : Bool}, (p && !q) = false → p = true → q = true := fun {p q} h hp => by subst hp; simpa using h
          have hu0 : ∀ k, x.Op = k → ∀ w, zdx ⟨k, x.R, x.A, x.B, x.zO, x.Place, x.From, x.zD, x.Second, x.Half, x.zN, x.Number, x.Text, x.Other, x.Mask, x.Target, x.Pointer, x.Source⟩ = some w → u = w := by
           rintro k rfl w hw
           have : zdx x = some w := hw; rw [hu] at this; exact Option.some.inj this
          have place : u.Place = true → (x.Op ≠ 4) → x.Place.Based = false → zb8 x.zD = 0 → 0 ≤ x.Place.Offset ∧ x.Place.Offset + szE x.zD ≤ (c.Storage.Bytes.size : Int) := fun hp h4 hb ht => by
           have := andF r6 hp; unfold zg8 at this; rw [hb] at this; have hpl : zj0 x = x.zD := by unfold zj0; rw [ifn h4]
           rw [hpl] at this; have := zes.1 (by simpa using this); omega
          have pnt : u.Pointer = true → 0 ≤ x.Pointer ∧ x.Pointer < (c.Storage.Bytes.size : Int) := fun hp => by
           have := andF r4 hp; unfold zjc at this; simp only [Bool.and_eq_true, decide_eq_true_eq] at this; omega
          have op4 : x.Op = 4 → u.R = true ∧ u.zD = 1 := fun e => by
           cases hi : x.zN with
           | true => have := hu0 4 e _ (by rw [hi]; rfl); subst this; exact ⟨rfl, rfl⟩
           | false => have := hu0 4 e _ (by rw [hi]; rfl); subst this; exact ⟨rfl, rfl⟩
          have hR : u.R = true → 0 ≤ x.R ∧ x.R < m.Registers := fun hx => reg _ (by unfold zlt; rw [hx]; simp); have hA : u.A = true → 0 ≤ x.A ∧ x.A < m.Registers := fun hx => reg _ (by unfold zlt; rw [hx]; simp); have tyy : x.Op = 0 ∨ x.Op = 1 ∨ x.Op = 4 ∨ x.Op = 9 ∨ x.Op = 10 → zb8 x.zD = 0 := by
           rintro (e | e | e | e | e)
           · have := hu0 0 e _ rfl; subst this; exact (zov h1).1
           · have := hu0 1 e _ rfl; subst this; exact (zov h1).1
           · rw [(op4 e).2] at h1; exact (zov h1).1
           · have := hu0 9 e _ rfl; subst this; exact zk7 h1 (by decide)
           · have := hu0 10 e _ rfl; subst this; exact zk7 h1 (by decide)
          exact {
           op := zes.1 hop
           r := by
            rintro (e | e | e | e | e | e)
            · have := hu0 0 e _ rfl; subst this; exact hR rfl
            · have := hu0 1 e _ rfl; subst this; exact hR rfl
            · have := hu0 2 e _ rfl; subst this; exact hR rfl
            · have := hu0 3 e _ rfl; subst this; exact hR rfl
            · exact hR (op4 e).1
            · have := hu0 21 e _ rfl; subst this; exact hR rfl
           a := fun e => by have := hu0 3 e _ rfl; subst this; exact hA rfl
           ty := tyy
           kd := by
            rintro (e | e | e)
            · have := hu0 0 e _ rfl; subst this; exact (zov h1).2
            · have := hu0 1 e _ rfl; subst this; exact (zov h1).2
            · rw [(op4 e).2] at h1; exact (zov h1).2
           pl := by
            rintro (e | e | e | e) hb
            · have ht := tyy (by omega); have := hu0 0 e _ rfl; subst this; exact place rfl (by omega) hb ht
            · have ht := tyy (by omega); have := hu0 1 e _ rfl; subst this; exact place rfl (by omega) hb ht
            · have ht := tyy (by omega); have := hu0 9 e _ rfl; subst this; exact place rfl (by omega) hb ht
            · have ht := tyy (by omega); have := hu0 10 e _ rfl; subst this; exact place rfl (by omega) hb ht
           pt := by
            rintro (e | e | e)
            · have := hu0 14 e _ rfl; subst this; exact pnt rfl
            · have := hu0 15 e _ rfl; subst this; exact pnt rfl
            · have := hu0 16 e _ rfl; subst this; exact pnt rfl
           tg := by
            have tgt : u.Target = true → 0 ≤ x.Target ∧ x.Target < (c.zA.length : Int) := fun hx => by have := zes.1 (andF r2 hx); omega
            rintro (e | e | e | e)
            · have := hu0 6 e _ rfl; subst this; exact tgt rfl
            · have := hu0 7 e _ rfl; subst this; exact tgt rfl
            · have := hu0 8 e _ rfl; subst this; exact tgt rfl
            · have := hu0 18 e _ rfl; subst this; exact tgt rfl }
       · rw [ifn, ifp h2] at h'; exact absurd h' h2
     · rw [ifp h1] at h'; exact absurd h' h1
 · rw [ifn hop] at h; cases h
structure FctV (m : zI) (c : zF) (f : zB) : Prop where
 r : 0 ≤ f.Register ∧ f.Register < m.Registers
 ty : zb8 f.zD = 0
 kd : f.zD.Kind ≠ 0 ∧ f.zD.Kind ≠ 4
 of : f.Offset = -1 ∨ (0 ≤ f.Offset ∧ f.Offset + szE f.zD ≤ (c.Storage.Bytes.size : Int))
theorem zza {t : DataType} (h : zb8 t = 0) : 0 ≤ t.Scale ∧ t.Scale ≤ 15 := by
 unfold zb8 at h
 split at h
 · split at h
   · split at h
     · omega
     · cases h
   · cases h
 · split at h
   · split at h
     · rename_i h1; split at h
       · rename_i h2; have := zes.1 h1; have := zes.1 h2; omega
       · cases h
     · cases h
   · split at h
     · split at h
       · split at h
         · rename_i h2; have := zes.1 h2; omega
         · cases h
       · cases h
     · split at h
       · split at h
         · split at h
           · omega
           · cases h
         · cases h
       · cases h
theorem z54 {m : zI} {c : zF} (hm : m.Registers ≤ 8) (hs : c.Storage.Bytes.size ≤ 1024) {f : zB} (h : FctV m c f) : Proofs.Tryz.okF f = true := by
 rw [Proofs.Tryz.okF_iff]
 have h1 := h.r
 have h3 := h.of
 have h4 := zuo h.ty
 have h2 := zza h.ty
 rcases zjt h.ty with ⟨q0, q1, q2⟩ | ⟨q0 | q0, q1, q2⟩ | ⟨q0, q1 | q1⟩ | ⟨q0, q1⟩ <;> refine ⟨?_, ?_, ?_, ?_, ?_⟩ <;> omega
theorem zp1 {l : List zB} (h : ∀ f ∈ l, Proofs.Tryz.okF f = true) (hl : l.length ≤ 1000000000) : zlo Proofs.Tryz.ltF Proofs.Tryz.okF l = some (ordD Proofs.Tryz.ltF l) := by
 unfold zlo
 rw [List.all_eq_true.2 h, zis hl]
 rfl
def zh5 (x : zC) (l : List zB) : List zB :=
 if x.Op = 0 then ordD Proofs.Tryz.ltF (zp5 x l)
 else if x.Op = 4 then ordD Proofs.Tryz.ltF (woL x.R l ++ [⟨x.R, x.zD, -1⟩])
 else if x.Op = 2 ∨ x.Op = 21 then woL x.R l
 else if x.Op = 3 then ordD Proofs.Tryz.ltF (woL x.R l ++ l.filterMap (zhy x.A x.R))
 else if x.Op = 1 ∨ x.Op = 9 ∨ x.Op = 10 then ordD Proofs.Tryz.ltF (zso x l)
 else if x.Op = 14 ∨ x.Op = 15 ∨ x.Op = 16 then l.filter fun f => !apB x.Pointer 16 f
 else l
theorem zrr {l : List zB} {a r : Int} {f : zB} : f ∈ l.filterMap (zhy a r) ↔ ∃ g ∈ l, g.Register = a ∧ f = ⟨r, g.zD, g.Offset⟩ := by
 rw [List.mem_filterMap]
 constructor
 · rintro ⟨g, hg, h⟩
   unfold zhy at h; split at h
   · rename_i e; cases h; exact ⟨g, hg, e, rfl⟩
   · cases h
 · rintro ⟨g, hg, e, rfl⟩
   exact ⟨g, hg, by unfold zhy; rw [ifp e]⟩
theorem zk6 {l : List zB} {r : Int} {f : zB} : f ∈ woL r l ↔ f ∈ l ∧ f.Register ≠ r := by
 unfold woL
 rw [List.mem_filter]
 simp
theorem z2w {x : zC} {l : List zB} {f : zB} : f ∈ zp5 x l ↔ (f ∈ l ∧ f.Register ≠ x.R) ∨ f = ⟨x.R, x.zD, -1⟩ ∨ (x.Place.Based = false ∧ (f = ⟨x.R, x.zD, x.Place.Offset⟩ ∨ ∃ h ∈ l, h.zD = x.zD ∧ h.Offset = x.Place.Offset ∧ ∃ g ∈ l, g.Register = h.Register ∧ f = ⟨x.R, g.zD, g.Offset⟩)) := by
 unfold zp5
 rw [List.mem_append, List.mem_append, zk6, List.mem_singleton, or_assoc]
 cases hb : x.Place.Based with
 | true => simp
 | false =>
  simp only [Bool.false_eq_true, if_false, List.mem_append, List.mem_singleton, List.mem_flatMap, true_and]; have : (∃ a, a ∈ l ∧ f ∈ zlg x l a) ↔ ∃ h ∈ l, h.zD = x.zD ∧ h.Offset = x.Place.Offset ∧ ∃ g ∈ l, g.Register = h.Register ∧ f = ⟨x.R, g.zD, g.Offset⟩ := by
   constructor
   · rintro ⟨h, hh, hf⟩
     unfold zlg at hf; split at hf
     · rename_i e; rw [Bool.and_eq_true, zv2, beq_iff_eq] at e; exact ⟨h, hh, e.1, e.2, zrr.1 hf⟩
     · simp at hf
   · rintro ⟨h, hh, e1, e2, hf⟩
     refine ⟨h, hh, ?_⟩; unfold zlg; rw [ifp (by rw [Bool.and_eq_true, zv2, beq_iff_eq]; exact ⟨e1, e2⟩)]; exact zrr.2 hf
  rw [this]
theorem z3s {x : zC} {l : List zB} {f : zB} : f ∈ zso x l ↔ (x.Place.Based = true ∧ f ∈ l ∧ f.Offset = -1) ∨ (x.Place.Based = false ∧ ((f ∈ l ∧ apB x.Place.Offset (szE x.zD) f = false) ∨ (x.Op = 1 ∧ (⟨x.R, x.zD, -1⟩ : zB) ∈ l ∧ f = ⟨x.R, x.zD, x.Place.Offset⟩))) := by
 unfold zso
 cases hb : x.Place.Based with
 | true => simp [List.mem_filter]
 | false =>
  simp only [Bool.false_eq_true, if_false, List.mem_append, List.mem_filter, false_and, false_or, true_and, Bool.not_eq_true']; have : (f ∈ (if x.Op == 1 && ze6 l ⟨x.R, x.zD, -1⟩ then [(⟨x.R, x.zD, x.Place.Offset⟩ : zB)] else [])) ↔ (x.Op = 1 ∧ (⟨x.R, x.zD, -1⟩ : zB) ∈ l ∧ f = ⟨x.R, x.zD, x.Place.Offset⟩) := by
   split
   · rename_i e; rw [Bool.and_eq_true, beq_iff_eq, zgj] at e; simp [e.1, e.2]
   · rename_i e; rw [Bool.and_eq_true, beq_iff_eq, zgj] at e; simp only [List.not_mem_nil, false_iff]
     rintro ⟨a, b, _⟩
     exact e ⟨a, b⟩
  rw [this]
def Beh (x : zC) (l : List zB) (f : zB) : Prop :=
 if x.Op = 0 then (f ∈ l ∧ f.Register ≠ x.R) ∨ f = ⟨x.R, x.zD, -1⟩ ∨ (x.Place.Based = false ∧ (f = ⟨x.R, x.zD, x.Place.Offset⟩ ∨ ∃ h ∈ l, h.zD = x.zD ∧ h.Offset = x.Place.Offset ∧ ∃ g ∈ l, g.Register = h.Register ∧ f = ⟨x.R, g.zD, g.Offset⟩))
 else if x.Op = 4 then (f ∈ l ∧ f.Register ≠ x.R) ∨ f = ⟨x.R, x.zD, -1⟩
 else if x.Op = 2 ∨ x.Op = 21 then f ∈ l ∧ f.Register ≠ x.R
 else if x.Op = 3 then (f ∈ l ∧ f.Register ≠ x.R) ∨ ∃ g ∈ l, g.Register = x.A ∧ f = ⟨x.R, g.zD, g.Offset⟩
 else if x.Op = 1 ∨ x.Op = 9 ∨ x.Op = 10 then (x.Place.Based = true ∧ f ∈ l ∧ f.Offset = -1) ∨ (x.Place.Based = false ∧ ((f ∈ l ∧ apB x.Place.Offset (szE x.zD) f = false) ∨ (x.Op = 1 ∧ (⟨x.R, x.zD, -1⟩ : zB) ∈ l ∧ f = ⟨x.R, x.zD, x.Place.Offset⟩)))
 else if x.Op = 14 ∨ x.Op = 15 ∨ x.Op = 16 then f ∈ l ∧ apB x.Pointer 16 f = false
 else f ∈ l
theorem zk0 {l : List zB} {f : zB} : f ∈ ordD Proofs.Tryz.ltF l ↔ f ∈ l := Proofs.Tryz.mem_ordD _ Proofs.Tryz.ltF_eq f l
theorem zy2 {x : zC} {l : List zB} {f : zB} : f ∈ zh5 x l ↔ Beh x l f := by
 unfold zh5 Beh
 split
 · rw [zk0, z2w]
 · split
   · rw [zk0, List.mem_append, zk6, List.mem_singleton]
   · split
     · rw [zk6]
     · split
       · rw [zk0, List.mem_append, zk6, zrr]
       · split
         · rw [zk0, z3s]
         · split
           · simp [List.mem_filter]
           · rfl
def zez (l : List zB) : Prop := l.Pairwise fun a b => Proofs.Tryz.ltF a b = true
theorem zmw (l : List zB) : zez (ordD Proofs.Tryz.ltF l) := Proofs.Tryz.sorted_ordD _ Proofs.Tryz.ltF_swo.2.1 Proofs.Tryz.ltF_eq l
theorem z0e {x : zC} {l : List zB} (h : zez l) : zez (zh5 x l) := by
 unfold zh5
 split
 · exact zmw _
 · split
   · exact zmw _
   · split
     · exact List.Pairwise.filter _ h
     · split
       · exact zmw _
       · split
         · exact zmw _
         · split
           · exact List.Pairwise.filter _ h
           · exact h
variable {m : zI} {c : zF}
theorem z1z {x : zC} (hx : InsX m c x) {l : List zB} (hl : ∀ f ∈ l, FctV m c f) {f : zB} (h : Beh x l f) : FctV m c f := by
 have about : ∀ g ∈ l, (0 ≤ x.R ∧ x.R < m.Registers) → FctV m c ⟨x.R, g.zD, g.Offset⟩ := fun g hg hr => ⟨hr, (hl g hg).ty, (hl g hg).kd, (hl g hg).of⟩
 unfold Beh at h
 split at h
 · rename_i e; rcases h with ⟨h, _⟩ | rfl | ⟨hb, rfl | ⟨_, _, _, _, g, hg, _, rfl⟩⟩
   · exact hl _ h
   · exact ⟨hx.r (.inl e), hx.ty (.inl e), hx.kd (.inl e), .inl rfl⟩
   · exact ⟨hx.r (.inl e), hx.ty (.inl e), hx.kd (.inl e), .inr (hx.pl (.inl e) hb)⟩
   · exact about g hg (hx.r (.inl e))
 · split at h
   · rename_i e; rcases h with ⟨h, _⟩ | rfl
     · exact hl _ h
     · exact ⟨hx.r (by omega), hx.ty (by omega), hx.kd (by omega), .inl rfl⟩
   · split at h
     · exact hl _ h.1
     · split at h
       · rename_i e; rcases h with ⟨h, _⟩ | ⟨g, hg, _, rfl⟩
         · exact hl _ h
         · exact about g hg (hx.r (by omega))
       · split at h
         · rename_i e; rcases h with ⟨_, h, _⟩ | ⟨hb, ⟨h, _⟩ | ⟨e1, _, rfl⟩⟩
           · exact hl _ h
           · exact hl _ h
           · exact ⟨hx.r (by omega), hx.ty (by omega), hx.kd (by omega), .inr (hx.pl (by omega) hb)⟩
         · split at h
           · exact hl _ h.1
           · exact hl _ h
theorem z0p (N : Nat) (hN : 10 < N) (hm : m.Registers ≤ 8) (hs : c.Storage.Bytes.size ≤ 1024) {x : zC} (hx : InsX m c x) {l : List zB} (hf : ∀ f ∈ l, FctV m c f) (h : l.length < N) (hl : l.length ≤ 5000) :
 zfw N x l = some (zh5 x l) := by
 have ok : ∀ f ∈ zh5 x l, Proofs.Tryz.okF f = true := fun f hf' => z54 hm hs (z1z hx hf (zy2.1 hf'))
 have ht : ∀ f ∈ l, zb8 f.zD = 0 := fun f h => (hf f h).ty
 unfold zfw
 simp only [zc3]
 by_cases e0 : x.Op = 0
 · have o2 : zh5 x l = ordD Proofs.Tryz.ltF (zp5 x l) := by unfold zh5; rw [ifp e0]
   rw [dct e0, ctr, z0l N x l h hl, obs, zp1 (fun f hf' => ok f (by rw [o2, zk0]; exact hf')) ?_, o2]
   · rfl
   · unfold zp5 woL; have h1 : (l.filter fun f => !(f.Register == x.R)).length ≤ l.length := List.length_filter_le _ _; have h2 : (l.flatMap (zlg x l)).length ≤ 5000 * 5000 := by
      have : ∀ k : List zB, k.length ≤ 5000 → (k.flatMap (zlg x l)).length ≤ k.length * 5000 := by
       intro k
       induction k with
       | nil => intro _; simp
       | cons g k ih =>
        intro hk; have hk' : k.length + 1 ≤ 5000 := by simpa using hk
        have := ih (by omega); have h3 : (zlg x l g).length ≤ 5000 := by
         unfold zlg; split
         · exact Nat.le_trans (List.length_filterMap_le _ _) hl
         · simp
        rw [List.flatMap_cons, lna, lnc, Nat.succ_mul]; omega
      exact Nat.le_trans (this l hl) (Nat.mul_le_mul_right 5000 hl)
     simp only [lna, lnc, ln0]; split
     · simp; omega
     · simp only [lna, lnc, ln0]; omega
 · rw [dcf e0, cfa]
   by_cases e4 : x.Op = 4
   · have o2 : zh5 x l = ordD Proofs.Tryz.ltF (woL x.R l ++ [⟨x.R, x.zD, -1⟩]) := by unfold zh5; rw [ifn e0, ifp e4]
     have h1 : (woL x.R l).length ≤ l.length := List.length_filter_le _ _; rw [dct e4, ctr, zmu N l x.R h (by omega), obs]; change cond (Nat.ble (((woL x.R l).length + 1) * 40) zao) ((zlo Proofs.Tryz.ltF Proofs.Tryz.okF (woL x.R l ++ [⟨x.R, x.zD, -1⟩])).bind fun r4 => some r4) none = _; rw [zis (by omega), ctr, zp1 (fun f hf' => ok f (by rw [o2, zk0]; exact hf')) (by simp; omega), o2]; rfl
   · rw [dcf e4, cfa]
     by_cases e2 : x.Op = 2 ∨ x.Op = 21
     · have o2 : zh5 x l = woL x.R l := by unfold zh5; rw [ifn e0, ifn e4, ifp e2]
       rw [show cond (decide (x.Op = 2)) (some (decide (x.Op = 2))) (some (decide (x.Op = 21))) = some true by rcases e2 with e | e <;> simp [e], obs, ctr, zmu N l x.R h (by omega), o2]; rfl
     · rw [show cond (decide (x.Op = 2)) (some (decide (x.Op = 2))) (some (decide (x.Op = 21))) = some false by rw [not_or] at e2; simp [e2.1, e2.2], obs, cfa]
       by_cases e3 : x.Op = 3
       · have o2 : zh5 x l = ordD Proofs.Tryz.ltF (woL x.R l ++ l.filterMap (zhy x.A x.R)) := by unfold zh5; rw [ifn e0, ifn e4, ifn e2, ifp e3]
         have h1 : (woL x.R l).length ≤ l.length := List.length_filter_le _ _; have h2 : (l.filterMap (zhy x.A x.R)).length ≤ l.length := List.length_filterMap_le _ _; rw [dct e3, ctr, zmu N l x.R h (by omega), obs, zv4 N l x.A x.R h (by omega), obs]; change cond (Nat.ble (((woL x.R l).length + (l.filterMap (zhy x.A x.R)).length) * 40) zao) ((zlo Proofs.Tryz.ltF Proofs.Tryz.okF (woL x.R l ++ l.filterMap (zhy x.A x.R))).bind fun r9 => some r9) none = _; rw [zis (by omega), ctr, zp1 (fun f hf' => ok f (by rw [o2, zk0]; exact hf')) (by rw [lna]; omega), o2]; rfl
       · rw [dcf e3, cfa]
         by_cases e1 : x.Op = 1 ∨ x.Op = 9 ∨ x.Op = 10
         · have o2 : zh5 x l = ordD Proofs.Tryz.ltF (zso x l) := by unfold zh5; rw [ifn e0, ifn e4, ifn e2, ifn e3, ifp e1]
           rw [show cond (decide (x.Op = 1)) (some (decide (x.Op = 1))) (cond (decide (x.Op = 9)) (some (decide (x.Op = 9))) (some (decide (x.Op = 10)))) = some true by rcases e1 with e | e | e <;> simp [e], obs, ctr,
            zzb N hN x l (hx.ty (by omega)) ht h hl, obs, zp1 (fun f hf' => ok f (by rw [o2, zk0]; exact hf')) ?_, o2]
           · rfl
           · unfold zso; split
             · exact Nat.le_trans (List.length_filter_le _ _) (by omega)
             · rw [lna]; have h1 : (l.filter fun f => !apB x.Place.Offset (szE x.zD) f).length ≤ l.length := List.length_filter_le _ _; split <;> simp <;> omega
         · rw [show cond (decide (x.Op = 1)) (some (decide (x.Op = 1))) (cond (decide (x.Op = 9)) (some (decide (x.Op = 9))) (some (decide (x.Op = 10)))) = some false by rw [not_or, not_or] at e1; simp [e1.1, e1.2.1, e1.2.2], obs, cfa]
           by_cases e5 : x.Op = 14 ∨ x.Op = 15 ∨ x.Op = 16
           · have o2 : zh5 x l = l.filter fun f => !apB x.Pointer 16 f := by unfold zh5; rw [ifn e0, ifn e4, ifn e2, ifn e3, ifn e1, ifp e5]
             rw [show cond (decide (x.Op = 14)) (some (decide (x.Op = 14))) (cond (decide (x.Op = 15)) (some (decide (x.Op = 15))) (some (decide (x.Op = 16)))) = some true by rcases e5 with e | e | e <;> simp [e], obs, ctr,
              zv3 N hN l _ _ ht h (by omega), o2]
             rfl
           · have o2 : zh5 x l = l := by unfold zh5; rw [ifn e0, ifn e4, ifn e2, ifn e3, ifn e1, ifn e5]
             rw [show cond (decide (x.Op = 14)) (some (decide (x.Op = 14))) (cond (decide (x.Op = 15)) (some (decide (x.Op = 15))) (some (decide (x.Op = 16)))) = some false by rw [not_or, not_or] at e5; simp [e5.1, e5.2.1, e5.2.2], obs, cfa, o2]
theorem z67 {α R σ : Type} {f : σ → Option (Round R σ)} (l : List α) (p : α → Bool) (v : R) (S : Nat → σ) (hstep : ∀ i x, l[i]? = some x → f (S i) = some (cond (p x) (.result v) (.again (S (i + 1)))))
 (hl : f (S l.length) = some (.leave (S l.length))) {N : Nat} (hN : l.length < N) : zaa f N (S 0) = some (if l.any p = true then .inl v else .inr (S l.length)) := by
 have := zdq (f := f) S (fun i => (l[i]?).bind fun x => if p x = true then some v else none) l.length (fun i hi => by
  have hx := lge hi; rw [hstep i _ hx]; simp only [hx, obs]; cases hb : p l[i] <;> simp) hl hN
 rw [this]
 congr 1
 rw [zl0]
 cases hf : l.findSome? (fun x => if p x = true then some v else none) with
 | none =>
  rw [List.findSome?_eq_none_iff] at hf; have hno : ¬ l.any p = true := by
   rw [List.any_eq_true]
   rintro ⟨x, hx, h⟩
   have := hf x hx; rw [ifp h] at this; cases this
  rw [ifn hno]
 | some r =>
  obtain ⟨x, hx, h⟩ := eof hf; split at h
  · rename_i e; cases h; rw [ifp (List.any_eq_true.2 ⟨x, hx, e⟩)]
  · cases h
theorem z3o {α β σ : Type} {f : σ → Option (Stp σ)} (l : List α) (g : β → α → β) (I : Nat → β → Prop) (S : Nat → β → σ) (a0 : β) (h0 : I 0 a0)
 (hstep : ∀ i x acc, l[i]? = some x → I i acc → f (S i acc) = some (.again (S (i + 1) (g acc x))) ∧ I (i + 1) (g acc x))
 (hl : ∀ acc, f (S l.length acc) = some (.leave (S l.length acc))) {N : Nat} (hN : l.length < N) : zd f N (S 0 a0) = some (S l.length (l.foldl g a0)) ∧ I l.length (l.foldl g a0) := by
 have e0 : ∀ i, i ≤ l.length → I i ((l.take i).foldl g a0) := by
  intro i
  induction i with
  | zero => intro _; simpa using h0
  | succ i ih =>
   intro hi; have hx := lge (show i < l.length by omega); rw [List.take_add_one, hx, List.foldl_append]; exact (hstep i _ _ hx (ih (by omega))).2
 have := zex (f := f) (fun i => S i ((l.take i).foldl g a0)) l.length (fun i hi => by
  have hx := lge hi; rw [(hstep i _ _ hx (e0 i (by omega))).1, List.take_add_one, hx, List.foldl_append]; rfl) (hl _) hN
 have h1 := e0 l.length (Nat.le_refl _)
 rw [List.take_length] at h1
 exact ⟨by simpa using this, h1⟩
theorem ztz (N : Nat) (l : List zB) (x : zB) (h : l.length < N) (hl : l.length < 1000000000) : zcd N l x = some (ze6 l x) := by
 unfold zcd
 have := z67 (f := zcd.r0 N) l (zje x) true (fun i => (l, (i : Int), x)) (fun i y hy => by
  have hi := (gei hy).1; simp only [zcd.r0, zcd.b0, zay, hy, obs, dct (show (i : Int) < (l.length : Int) by omega), ctr, zrh]; rw [w6e, zz8]; cases zje x y <;> simp)
  (by simp only [zcd.r0, zcd.b0, dcf (show ¬ (l.length : Int) < (l.length : Int) by omega), cfa]) h
 simp only [nc0] at this
 rw [this]
 unfold ze6
 cases hb : l.any (zje x) <;> simp [zbd]
theorem z37 (N : Nat) (hN : 5 < N) (a b : zB) : zbr N a b = some (Proofs.Tryz.ltF a b) := by
 unfold zbr
 have := zdq (f := zbr.r0 N) (fun i => (([a.Register, a.Offset, a.zD.Kind, a.zD.Length, a.zD.Scale] : List Int), ([b.Register, b.Offset, b.zD.Kind, b.zD.Length, b.zD.Scale] : List Int), (i : Int)))
  (fun i => if ([a.Register, a.Offset, a.zD.Kind, a.zD.Length, a.zD.Scale] : List Int).getD i 0 = ([b.Register, b.Offset, b.zD.Kind, b.zD.Length, b.zD.Scale] : List Int).getD i 0 then none else some (decide (([a.Register, a.Offset, a.zD.Kind, a.zD.Length, a.zD.Scale] : List Int).getD i 0 < ([b.Register, b.Offset, b.zD.Kind, b.zD.Length, b.zD.Scale] : List Int).getD i 0))) 5 (fun i hi => by
   simp only [zbr.r0, zbr.b0]
   match i, hi with
   | 0, _ => simp [zei]; by_cases e : a.Register = b.Register <;> simp [e, w6e]
   | 1, _ => simp [zei]; by_cases e : a.Offset = b.Offset <;> simp [e, w6e]
   | 2, _ => simp [zei]; by_cases e : a.zD.Kind = b.zD.Kind <;> simp [e, w6e]
   | 3, _ => simp [zei]; by_cases e : a.zD.Length = b.zD.Length <;> simp [e, w6e]
   | 4, _ => simp [zei]; by_cases e : a.zD.Scale = b.zD.Scale <;> simp [e, w6e]) (by simp [zbr.r0, zbr.b0]) hN
 simp only [nc0] at this
 rw [this]
 simp only [obs]
 have e5 : List.range 5 = [0, 1, 2, 3, 4] := by decide
 rw [e5]
 unfold Proofs.Tryz.ltF
 by_cases h1 : a.Register = b.Register
 · by_cases h2 : a.Offset = b.Offset
   · by_cases h3 : a.zD.Kind = b.zD.Kind
     · by_cases h4 : a.zD.Length = b.zD.Length
       · by_cases h5 : a.zD.Scale = b.zD.Scale <;> simp [List.findSome?, h1, h2, h3, h4, h5, zbd]
       · simp [List.findSome?, h1, h2, h3, h4, zbd]
     · simp [List.findSome?, h1, h2, h3, zbd]
   · simp [List.findSome?, h1, h2, zbd]
 · simp [List.findSome?, h1, zbd]
def zhj (f : zB) : List zB → List zB
 | [] => [f]
 | y :: l => cond (Proofs.Tryz.ltF f y) (f :: y :: l) (y :: zhj f l)
def zi8 (l : List zB) (f : zB) : List zB := cond (ze6 l f) l (zhj f l)
theorem zs8 {f g : zB} : ∀ {l : List zB}, g ∈ zhj f l ↔ g = f ∨ g ∈ l
 | [] => by simp [zhj]
 | y :: l => by
  rw [zhj]; cases Proofs.Tryz.ltF f y with
  | true => simp
  | false => simp only [cfa, List.mem_cons, zs8 (l := l)]; constructor <;> (rintro (h | h | h) <;> simp [h])
theorem zm4 {l : List zB} {f g : zB} : g ∈ zi8 l f ↔ g = f ∨ g ∈ l := by
 unfold zi8
 cases h : ze6 l f with
 | true =>
  have := zgj.1 h; simp only [ctr]; constructor
  · exact .inr
  · rintro (rfl | h)
    · exact this
    · exact h
 | false => rw [cfa, zs8]
theorem zs9 {f : zB} : ∀ {l : List zB}, (zhj f l).length = l.length + 1
 | [] => rfl
 | y :: l => by
  rw [zhj]; cases Proofs.Tryz.ltF f y with
  | true => rfl
  | false => simp only [cfa, lnc, zs9 (l := l)]
theorem zlx {l : List zB} {f : zB} : (zi8 l f).length ≤ l.length + 1 := by
 unfold zi8
 cases ze6 l f with
 | true => simp
 | false => rw [cfa, zs9]; exact Nat.le_refl _
theorem zsh {f : zB} : ∀ {l : List zB}, zez l → f ∉ l → zez (zhj f l)
 | [], _, _ => by simp [zhj, zez]
 | y :: l, h, hf => by
  obtain ⟨h1, h2⟩ := List.pairwise_cons.1 h; rw [zhj]; cases hlt : Proofs.Tryz.ltF f y with
  | true =>
   refine List.pairwise_cons.2 ⟨fun z hz => ?_, h⟩; rcases List.mem_cons.1 hz with rfl | hz
   · exact hlt
   · exact Proofs.Tryz.ltF_swo.2.1 _ _ _ hlt (h1 z hz)
  | false =>
   have hyf : Proofs.Tryz.ltF y f = true := by
    cases hyf : Proofs.Tryz.ltF y f with
    | true => rfl
    | false => exact absurd (Proofs.Tryz.ltF_eq _ _ hlt hyf) (fun e => hf (by rw [e]; simp))
   refine List.pairwise_cons.2 ⟨fun z hz => ?_, zsh h2 (fun h => hf (by simp [h]))⟩; rcases zs8.1 hz with rfl | hz
   · exact hyf
   · exact h1 z hz
theorem zjy {l : List zB} {f : zB} (h : zez l) : zez (zi8 l f) := by
 unfold zi8
 cases hb : ze6 l f with
 | true => exact h
 | false => exact zsh h (fun hf => by rw [zgj.2 hf] at hb; cases hb)
theorem zoz (N : Nat) (hN : 5 < N) (l : List zB) (f : zB) (h : l.length < N) (hl : l.length ≤ 100000) : zcb N l f = some (zi8 l f) := by
 unfold zcb zi8
 rw [ztz N l f h (by omega), obs]
 cases ze6 l f with
 | true => rfl
 | false =>
  simp only [cfa]; have spl : ∀ k : List zB, zhj f k = cond (k.any (Proofs.Tryz.ltF f)) (zhj f k) (k ++ [f]) := by
   intro k
   induction k with
   | nil => rfl
   | cons y k ih =>
    rw [List.any_cons]; cases hlt : Proofs.Tryz.ltF f y with
    | true => simp
    | false =>
     simp only [Bool.false_or, zhj, hlt, cfa]; rw [ih]; cases k.any (Proofs.Tryz.ltF f) <;> simp
  have snoc : ∀ (k : List zB) y, k.any (Proofs.Tryz.ltF f) = true → zhj f (k ++ [y]) = zhj f k ++ [y] := by
   intro k y
   induction k with
   | nil => intro h; simp at h
   | cons z k ih =>
    intro h; rw [List.cons_append, zhj, zhj]; cases hlt : Proofs.Tryz.ltF f z with
    | true => simp
    | false =>
     rw [List.any_cons, hlt, Bool.false_or] at h; simp only [cfa, ih h, List.cons_append]
  have snoc2 : ∀ (k : List zB) y, k.any (Proofs.Tryz.ltF f) = false → Proofs.Tryz.ltF f y = true → zhj f (k ++ [y]) = k ++ [f] ++ [y] := by
   intro k y
   induction k with
   | nil => intro _ h; simp [zhj, h]
   | cons z k ih =>
    intro h hy; rw [List.any_cons, Bool.or_eq_false_iff] at h; rw [List.cons_append, zhj, h.1, cfa, ih h.2 hy]; simp
  have := zex (f := zcb.r0 N) (fun i => (l, cond ((l.take i).any (Proofs.Tryz.ltF f)) (zhj f (l.take i)) (l.take i), (l.take i).any (Proofs.Tryz.ltF f), (i : Int), f)) l.length (fun i hi => by
   have hx := lge hi; have htl : (l.take i).length = i := by simp; omega
   have hlen : (cond ((l.take i).any (Proofs.Tryz.ltF f)) (zhj f (l.take i)) (l.take i)).length ≤ i + 1 := by
    cases (l.take i).any (Proofs.Tryz.ltF f) with
    | true => rw [ctr, zs9, htl]; exact Nat.le_refl _
    | false => rw [cfa, htl]; omega
   simp only [zcb.r0, zcb.b0, zay, hx, obs, dct (show (i : Int) < (l.length : Int) by omega), ctr, z37 N hN, lna, lnc, ln0]; rw [w6e, zis (by omega), zis (by omega)]; rw [List.take_add_one, hx, Option.toList_some, List.any_append, List.any_cons, List.any_nil, Bool.or_false]; generalize l[i] = y; cases ha : (l.take i).any (Proofs.Tryz.ltF f) with
   | true => simp [snoc _ _ ha]
   | false =>
    cases hb : Proofs.Tryz.ltF f y with
    | true => simp [snoc2 _ _ ha hb]
    | false => simp)
   (by simp only [zcb.r0, zcb.b0, dcf (show ¬ (l.length : Int) < (l.length : Int) by omega), cfa]) h
  simp only [nc0, List.take_zero, List.any_nil, cfa, List.take_length] at this; rw [this]; simp only [obs]; rw [spl l]; cases ha : l.any (Proofs.Tryz.ltF f) with
  | true => simp
  | false => simp [zis (show l.length + 1 ≤ 1000000000 by omega)]
theorem zzp (N : Nat) (l : List zB) (r : Int) (h : l.length < N) (hl : l.length ≤ 100000) : zby N l r = some (woL r l) := by
 unfold zby
 have := ztg (f := zby.r0 N) l (fun f => if f.Register = r then none else some f) (fun i acc => (l, r, acc, (i : Int))) (fun i x acc hx hacc => by
  have hi := (gei hx).1; simp only [zby.r0, zby.b0, zay, hx, obs, dct (show (i : Int) < (l.length : Int) by omega), ctr, lnc, ln0, zis (show acc.length + (0 + 1) ≤ 1000000000 by omega)]; rw [w6e, zei]
  by_cases e : x.Register = r <;> simp [e])
  (fun acc => by simp only [zby.r0, zby.b0, dcf (show ¬ (l.length : Int) < (l.length : Int) by omega), cfa]) h
 simp only [nc0] at this
 rw [this]
 simp only [obs]
 congr 1
 unfold woL
 rw [← List.filterMap_eq_filter]
 congr 1
 funext f
 by_cases e : f.Register = r <;> simp [Option.guard, e]
theorem z2j (N : Nat) (l : List zB) (h : l.length < N) (hl : l.length ≤ 100000) : zbz N l = some (l.filter fun f => f.Offset == -1) := by
 unfold zbz
 have := ztg (f := zbz.r0 N) l (fun f => if f.Offset = -1 then some f else none) (fun i acc => (l, acc, (i : Int))) (fun i x acc hx hacc => by
  have hi := (gei hx).1; simp only [zbz.r0, zbz.b0, zay, hx, obs, dct (show (i : Int) < (l.length : Int) by omega), ctr, lnc, ln0, zis (show acc.length + (0 + 1) ≤ 1000000000 by omega)]; rw [w6e, zc3]
  by_cases e : x.Offset = -1 <;> simp [e])
  (fun acc => by simp only [zbz.r0, zbz.b0, dcf (show ¬ (l.length : Int) < (l.length : Int) by omega), cfa]) h
 simp only [nc0] at this
 rw [this]
 simp only [obs]
 congr 1
 rw [← List.filterMap_eq_filter]
 congr 1
 funext f
 by_cases e : f.Offset = -1 <;> simp [Option.guard, e]
theorem zwk (N : Nat) (l : List zB) (a b : Int) (ht : ∀ x ∈ l, zb8 x.zD = 0) (h : l.length < N) (hl : l.length ≤ 100000) : zcc N l a b = some (l.filter fun f => !apB a b f) := by
 unfold zcc
 have := ztg (f := zcc.r0 N) l (fun f => if apB a b f = true then none else some f) (fun i acc => (l, a, b, acc, (i : Int))) (fun i x acc hx hacc => by
  have hi := (gei hx).1; simp only [zcc.r0, zcc.b0, zay, hx, obs, dct (show (i : Int) < (l.length : Int) by omega), ctr, lnc, ln0, zis (show acc.length + (0 + 1) ≤ 1000000000 by omega), zoy (ht x (lmg hx))]; rw [w6e (n := (i : Int) + 1), zc3, orB, obs, orB, obs]; have e : (decide (x.Offset = -1) || decide (w6 (x.Offset + szE x.zD) ≤ a) || decide (w6 (a + b) ≤ x.Offset)) = !apB a b x := by
   unfold apB; rw [zei]
   by_cases e1 : x.Offset = -1 <;> by_cases e2 : w6 (x.Offset + szE x.zD) ≤ a <;> by_cases e3 : w6 (a + b) ≤ x.Offset <;> simp [e1, e2, e3, Int.not_le.1] <;> omega
  rw [e]; cases apB a b x <;> simp)
  (fun acc => by simp only [zcc.r0, zcc.b0, dcf (show ¬ (l.length : Int) < (l.length : Int) by omega), cfa]) h
 simp only [nc0] at this
 rw [this]
 simp only [obs]
 congr 1
 rw [← List.filterMap_eq_filter]
 congr 1
 funext f
 cases e : apB a b f <;> simp [Option.guard, e]
variable {m : zI} {c : zF}
theorem zs2 {α : Type} (q : α → Option zB) : ∀ (l : List α) (a : List zB) {f : zB}, f ∈ l.foldl (fun acc x => match q x with | some g => zi8 acc g | none => acc) a ↔ f ∈ a ∨ ∃ x ∈ l, q x = some f
 | [], a, f => by simp
 | x :: l, a, f => by
  rw [List.foldl_cons, zs2 q l]; cases hq : q x with
  | none =>
   constructor
   · rintro (h | ⟨y, hy, h⟩)
     · exact .inl h
     · exact .inr ⟨y, by simp [hy], h⟩
   · rintro (h | ⟨y, hy, h⟩)
     · exact .inl h
     · rcases List.mem_cons.1 hy with rfl | hy
       · rw [hq] at h; cases h
       · exact .inr ⟨y, hy, h⟩
  | some g =>
   simp only [zm4]; constructor
   · rintro ((rfl | h) | ⟨y, hy, h⟩)
     · exact .inr ⟨x, by simp, hq⟩
     · exact .inl h
     · exact .inr ⟨y, by simp [hy], h⟩
   · rintro (h | ⟨y, hy, h⟩)
     · exact .inl (.inr h)
     · rcases List.mem_cons.1 hy with rfl | hy
       · rw [hq] at h; cases h; exact .inl (.inl rfl)
       · exact .inr ⟨y, hy, h⟩
theorem zoi {α : Type} (q : α → Option zB) : ∀ (l : List α) {a : List zB}, zez a → zez (l.foldl (fun acc x => match q x with | some g => zi8 acc g | none => acc) a)
 | [], a, h => h
 | x :: l, a, h => by
  rw [List.foldl_cons]; refine zoi q l ?_; cases q x with
  | none => exact h
  | some g => exact zjy h
theorem zs3 {α : Type} (q : α → Option zB) : ∀ (l : List α) (a : List zB), (l.foldl (fun acc x => match q x with | some g => zi8 acc g | none => acc) a).length ≤ a.length + l.length
 | [], a => by simp
 | x :: l, a => by
  rw [List.foldl_cons]; refine Nat.le_trans (zs3 q l _) ?_; cases q x with
  | none => simp only [lnc]; omega
  | some g => have := zlx (l := a) (f := g); simp only [lnc]; omega
def zux (x : zC) (l : List zB) (g : zB) : Option zB := cond (ze6 l ⟨g.Register, x.zD, x.Place.Offset⟩) (some ⟨x.R, g.zD, g.Offset⟩) none
theorem z4c (N : Nat) (hN : 20000 < N) (x : zC) (l a : List zB) (h : l.length ≤ 5000) (ha : a.length ≤ 6000) :
 zd (zas.r1 N) N (l, a, 0, x) = some (l, l.foldl (fun acc y => match zux x l y with | some g => zi8 acc g | none => acc) a, (l.length : Int), x) := by
 have := (z3o (f := zas.r1 N) l (fun acc y => match zux x l y with | some g => zi8 acc g | none => acc) (fun i acc => acc.length ≤ 6000 + i) (fun i acc => (l, acc, (i : Int), x)) a (by omega) (fun i y acc hy hacc => by
  have hi := (gei hy).1; simp only [zas.r1, zas.b1, zay, hy, obs, dct (show (i : Int) < (l.length : Int) by omega), ctr, ztz N l _ (show l.length < N by omega) (by omega), zoz N (by omega) acc _ (show acc.length < N by omega) (by omega)]; rw [w6e]; unfold zux; cases ze6 l ⟨y.Register, x.zD, x.Place.Offset⟩ with
  | true => exact ⟨rfl, by have := zlx (l := acc) (f := ⟨x.R, y.zD, y.Offset⟩); simp only [ctr]; omega⟩
  | false => exact ⟨rfl, by simp only [cfa]; omega⟩)
  (fun acc => by simp only [zas.r1, zas.b1, dcf (show ¬ (l.length : Int) < (l.length : Int) by omega), cfa]) (show l.length < N by omega)).1
 simpa using this
def zuw (x : zC) (g : zB) : Option zB := cond (decide (g.Register = x.A)) (some ⟨x.R, g.zD, g.Offset⟩) none
theorem z4b (N : Nat) (hN : 20000 < N) (x : zC) (l a : List zB) (h : l.length ≤ 5000) (ha : a.length ≤ 6000) :
 zd (zas.r3 N) N (l, a, 0, x) = some (l, l.foldl (fun acc y => match zuw x y with | some g => zi8 acc g | none => acc) a, (l.length : Int), x) := by
 have := (z3o (f := zas.r3 N) l (fun acc y => match zuw x y with | some g => zi8 acc g | none => acc) (fun i acc => acc.length ≤ 6000 + i) (fun i acc => (l, acc, (i : Int), x)) a (by omega) (fun i y acc hy hacc => by
  have hi := (gei hy).1; simp only [zas.r3, zas.b3, zay, hy, obs, dct (show (i : Int) < (l.length : Int) by omega), ctr, zoz N (by omega) acc _ (show acc.length < N by omega) (by omega), zc3]; rw [w6e]; unfold zuw
  by_cases e : y.Register = x.A
  · rw [dct e]; exact ⟨rfl, by have := zlx (l := acc) (f := ⟨x.R, y.zD, y.Offset⟩); simp only [ctr]; omega⟩
  · rw [dcf e]; exact ⟨rfl, by simp only [cfa]; omega⟩)
  (fun acc => by simp only [zas.r3, zas.b3, dcf (show ¬ (l.length : Int) < (l.length : Int) by omega), cfa]) (show l.length < N by omega)).1
 simpa using this
theorem z09 (N : Nat) (hN : 20000 < N) {x : zC} (hx : InsX m c x) {l : List zB} (hf : ∀ f ∈ l, FctV m c f) (hl : l.length ≤ 5000) :
 ∃ ys, zas N x l = some ys ∧ (∀ f, f ∈ ys ↔ Beh x l f) ∧ (zez l → zez ys) ∧ ys.length ≤ 20000 := by
 have ht : ∀ f ∈ l, zb8 f.zD = 0 := fun f h => (hf f h).ty
 have hw : (woL x.R l).length ≤ l.length := List.length_filter_le _ _
 have sw : zez l → zez (woL x.R l) := fun h => List.Pairwise.filter _ h
 unfold zas
 rw [zzp N l x.R (by omega) (by omega), z2j N l (by omega) (by omega)]
 simp only [obs, zc3]
 by_cases e0 : x.Op = 0
 · rw [dct e0, ctr, zoz N (by omega) _ _ (by omega) (by omega), obs]; have hl2 : (zi8 (woL x.R l) ⟨x.R, x.zD, -1⟩).length ≤ l.length + 1 := Nat.le_trans zlx (by omega); cases hb : x.Place.Based with
   | true =>
    refine ⟨_, rfl, fun f => ?_, fun h => zjy (sw h), by omega⟩; unfold Beh; rw [ifp e0, zm4, zk6, hb]; simp [or_comm]
   | false =>
    rw [cfa, zoz N (by omega) _ _ (by omega) (by omega), obs]; have hl3 : (zi8 (zi8 (woL x.R l) ⟨x.R, x.zD, -1⟩) ⟨x.R, x.zD, x.Place.Offset⟩).length ≤ l.length + 2 := Nat.le_trans zlx (by omega); rw [z4c N hN x l _ hl (by omega)]; refine ⟨_, rfl, fun f => ?_, fun h => zoi _ _ (zjy (zjy (sw h))), Nat.le_trans (zs3 _ _ _) (by omega)⟩; unfold Beh; rw [ifp e0, zs2, zm4, zm4, zk6, hb]; have : (∃ y ∈ l, zux x l y = some f) ↔ ∃ h ∈ l, h.zD = x.zD ∧ h.Offset = x.Place.Offset ∧ ∃ g ∈ l, g.Register = h.Register ∧ f = ⟨x.R, g.zD, g.Offset⟩ := by
     constructor
     · rintro ⟨y, hy, h⟩
       unfold zux at h; cases hh : ze6 l ⟨y.Register, x.zD, x.Place.Offset⟩ with
       | true =>
        rw [hh] at h; cases h; exact ⟨_, zgj.1 hh, rfl, rfl, y, hy, rfl, rfl⟩
       | false => rw [hh] at h; cases h
     · rintro ⟨h, hh, e1, e2, g, hg, e3, rfl⟩
       refine ⟨g, hg, ?_⟩; unfold zux; have : ze6 l ⟨g.Register, x.zD, x.Place.Offset⟩ = true := by rw [zgj, e3, ← e1, ← e2]; exact hh
       rw [this]; rfl
    rw [this]; constructor
    · rintro ((h | h | h) | h)
      · exact .inr (.inr ⟨rfl, .inl h⟩)
      · exact .inr (.inl h)
      · exact .inl h
      · exact .inr (.inr ⟨rfl, .inr h⟩)
    · rintro (h | h | ⟨_, h | h⟩)
      · exact .inl (.inr (.inr h))
      · exact .inl (.inr (.inl h))
      · exact .inl (.inl h)
      · exact .inr h
 · rw [dcf e0, cfa]
   by_cases e4 : x.Op = 4
   · rw [dct e4, ctr, zoz N (by omega) _ _ (by omega) (by omega), obs]; refine ⟨_, rfl, fun f => ?_, fun h => zjy (sw h), Nat.le_trans zlx (by omega)⟩; unfold Beh; rw [ifn e0, ifp e4, zm4, zk6, or_comm]
   · rw [dcf e4, cfa]
     by_cases e2 : x.Op = 2 ∨ x.Op = 21
     · rw [show cond (decide (x.Op = 2)) (some (decide (x.Op = 2))) (some (decide (x.Op = 21))) = some true by rcases e2 with e | e <;> simp [e], obs, ctr]; refine ⟨_, rfl, fun f => ?_, sw, by omega⟩; unfold Beh; rw [ifn e0, ifn e4, ifp e2, zk6]
     · rw [show cond (decide (x.Op = 2)) (some (decide (x.Op = 2))) (some (decide (x.Op = 21))) = some false by rw [not_or] at e2; simp [e2.1, e2.2], obs, cfa]
       by_cases e3 : x.Op = 3
       · rw [dct e3, ctr]
         by_cases ea : x.A = x.R
         · rw [dct ea, ctr]; refine ⟨_, rfl, fun f => ?_, id, by omega⟩; unfold Beh; rw [ifn e0, ifn e4, ifn e2, ifp e3, ea]; constructor
           · intro h
             by_cases er : f.Register = x.R
             · exact .inr ⟨f, h, er, by obtain ⟨r, t, o⟩ := f; subst er; rfl⟩
             · exact .inl ⟨h, er⟩
           · rintro (h | ⟨g, hg, er, rfl⟩)
             · exact h.1
             · obtain ⟨r, t, o⟩ := g; subst er; exact hg
         · rw [dcf ea, cfa, z4b N hN x l _ hl (by omega)]; refine ⟨_, rfl, fun f => ?_, fun h => zoi _ _ (sw h), Nat.le_trans (zs3 _ _ _) (by omega)⟩; unfold Beh; rw [ifn e0, ifn e4, ifn e2, ifp e3, zs2, zk6]; have : (∃ y ∈ l, zuw x y = some f) ↔ ∃ g ∈ l, g.Register = x.A ∧ f = ⟨x.R, g.zD, g.Offset⟩ := by
            constructor
            · rintro ⟨y, hy, h⟩
              unfold zuw at h
              by_cases e : y.Register = x.A
              · rw [dct e] at h; cases h; exact ⟨y, hy, e, rfl⟩
              · rw [dcf e] at h; cases h
            · rintro ⟨g, hg, e, rfl⟩
              exact ⟨g, hg, by unfold zuw; rw [dct e]; rfl⟩
           rw [this]
       · rw [dcf e3, cfa]
         by_cases e1 : x.Op = 1 ∨ x.Op = 9 ∨ x.Op = 10
         · rw [show cond (decide (x.Op = 1)) (some (decide (x.Op = 1))) (cond (decide (x.Op = 9)) (some (decide (x.Op = 9))) (some (decide (x.Op = 10)))) = some true by rcases e1 with e | e | e <;> simp [e], obs, ctr]; cases hb : x.Place.Based with
           | true =>
            refine ⟨_, rfl, fun f => ?_, fun h => List.Pairwise.filter _ h, Nat.le_trans (List.length_filter_le _ _) (by omega)⟩; unfold Beh; rw [ifn e0, ifn e4, ifn e2, ifn e3, ifp e1, hb]; simp [List.mem_filter]
           | false =>
            have hla : (l.filter fun f => !apB x.Place.Offset (szE x.zD) f).length ≤ l.length := List.length_filter_le _ _; rw [cfa, zoy (hx.ty (by omega)), obs, zwk N l _ _ ht (by omega) (by omega), obs, ztz N l _ (by omega) (by omega)]; simp only [obs, zjb]; rw [zoz N (by omega) _ _ (by omega) (by omega)]; cases hc : (decide (x.Op = 1) && ze6 l ⟨x.R, x.zD, -1⟩) with
            | true =>
             refine ⟨_, rfl, fun f => ?_, fun h => zjy (List.Pairwise.filter _ h), Nat.le_trans zlx (by omega)⟩; rw [Bool.and_eq_true, decide_eq_true_eq, zgj] at hc; unfold Beh; rw [ifn e0, ifn e4, ifn e2, ifn e3, ifp e1, hb, zm4]; simp [List.mem_filter, hc.1, hc.2, or_comm]
            | false =>
             refine ⟨_, rfl, fun f => ?_, fun h => List.Pairwise.filter _ h, Nat.le_trans (List.length_filter_le _ _) (by omega)⟩; unfold Beh; rw [ifn e0, ifn e4, ifn e2, ifn e3, ifp e1, hb]; have hno : ¬ (x.Op = 1 ∧ (⟨x.R, x.zD, -1⟩ : zB) ∈ l) := by
              rintro ⟨a, b⟩
              rw [dct a, zgj.2 b] at hc; cases hc
             simp only [List.mem_filter, Bool.not_eq_true', Bool.false_eq_true, false_and, false_or, true_and]; constructor
             · exact .inl
             · rintro (h | ⟨a, b, _⟩)
               · exact h
               · exact absurd ⟨a, b⟩ hno
         · rw [show cond (decide (x.Op = 1)) (some (decide (x.Op = 1))) (cond (decide (x.Op = 9)) (some (decide (x.Op = 9))) (some (decide (x.Op = 10)))) = some false by rw [not_or, not_or] at e1; simp [e1.1, e1.2.1, e1.2.2], obs, cfa]
           by_cases e5 : x.Op = 14 ∨ x.Op = 15 ∨ x.Op = 16
           · rw [show cond (decide (x.Op = 14)) (some (decide (x.Op = 14))) (cond (decide (x.Op = 15)) (some (decide (x.Op = 15))) (some (decide (x.Op = 16)))) = some true by rcases e5 with e | e | e <;> simp [e], obs, ctr,
              zwk N l _ _ ht (by omega) (by omega)]
             refine ⟨_, rfl, fun f => ?_, fun h => List.Pairwise.filter _ h, Nat.le_trans (List.length_filter_le _ _) (by omega)⟩; unfold Beh; rw [ifn e0, ifn e4, ifn e2, ifn e3, ifn e1, ifp e5]; simp [List.mem_filter]
           · rw [show cond (decide (x.Op = 14)) (some (decide (x.Op = 14))) (cond (decide (x.Op = 15)) (some (decide (x.Op = 15))) (some (decide (x.Op = 16)))) = some false by rw [not_or, not_or] at e5; simp [e5.1, e5.2.1, e5.2.2], obs, cfa]; refine ⟨_, rfl, fun f => ?_, id, by omega⟩; unfold Beh; rw [ifn e0, ifn e4, ifn e2, ifn e3, ifn e1, ifn e5]
theorem zjo {n : Nat} (f : Nat → Bool) {k : Nat} (v : Bool) : ((List.range n).map f).set k v = (List.range n).map fun i => if i = k then v else f i := by
 apply List.ext_getElem?
 intro i
 rw [List.getElem?_set, List.getElem?_map, List.getElem?_map, lnm, List.length_range]
 by_cases hi : i < n
 · rw [List.getElem?_range hi]
   by_cases e : k = i
   · subst e; simp [hi]
   · simp [e, Ne.symm e]
 · rw [List.getElem?_eq_none (by simpa using hi)]
   by_cases e : k = i
   · subst e; simp [hi]
   · simp [e]
theorem zcg {n : Nat} (f : Nat → Bool) {k : Nat} (h : k < n) : ((List.range n).map f)[k]? = some (f k) := by
 rw [List.getElem?_map, List.getElem?_range h]
 rfl
theorem zne (n : Nat) : List.replicate n false = (List.range n).map fun _ => false := by
 apply List.ext_getElem
 · simp
 · intro i h1 h2; simp
def zqg (c : zF) (k : Nat) : Bool := decide (k = 0) || c.zQ.any fun t => decide (t.Handler = (k : Int))
def zu1 (c : zF) (k : Nat) : Bool := match k with | 0 => false | j + 1 => (c.zA[j]?).any fun x => decide (x.Op = 18)
theorem zrk (c : zF) (j : Nat) : zu1 c (j + 1) = (c.zA[j]?).any fun x => decide (x.Op = 18) := rfl
def zhc (c : zF) (k : Nat) : Bool := zqg c k || zu1 c k
def zb4 (c : zF) : List Bool := (List.range c.zA.length).map (zhc c)
structure CdV (m : zI) (c : zF) : Prop where
 m1 : 2 ≤ m.Registers
 m2 : m.Registers ≤ 8
 sz : c.Storage.Bytes.size ≤ 1024
 len : c.zA.length ≤ 240
 pos : 0 < c.zA.length
 traps : c.zQ.length ≤ 1048576
 ins : ∀ x ∈ c.zA, InsX m c x
 trap : ∀ t ∈ c.zQ, 0 ≤ t.Handler ∧ t.Handler < (c.zA.length : Int)
variable {m : zI} {c : zF}
theorem z3u (N : Nat) (hN : 1048600 < N) (hc : CdV m c) : zd (zy.r0 N) N (((List.range c.zA.length).map fun k => decide (k = 0)), c.zQ, (c.zQ.length : Int), 0, c) = some ((List.range c.zA.length).map (zqg c), c.zQ, (c.zQ.length : Int), (c.zQ.length : Int), c) := by
 have ht := hc.traps
 have := zex (f := zy.r0 N) (fun i => ((List.range c.zA.length).map (fun k : Nat => decide (k = 0) || (c.zQ.take i).any fun t => decide (t.Handler = (k : Int))), c.zQ, (c.zQ.length : Int), (i : Int), c)) c.zQ.length (fun i hi => by
  have hx := lge hi; obtain ⟨h0, h1⟩ := hc.trap _ (lmg hx); generalize c.zQ[i] = x at hx h0 h1; simp only [zy.r0, zy.b0, zay, hx, obs, dct (show (i : Int) < (c.zQ.length : Int) by omega), ctr, ifp h0]; rw [ifp (by simpa using h1), zcg _ (by omega), w6e, obs, zjo, List.take_add_one, hx]
  congr 3
  apply List.map_congr_left; intro k _; simp only [List.any_append, Option.toList_some, List.any_cons, List.any_nil, Bool.or_false]
  by_cases e : k = x.Handler.toNat
  · subst e; have : x.Handler = ((x.Handler.toNat : Nat) : Int) := by omega
    simp [← this]
  · have : ¬ x.Handler = (k : Int) := by omega
    simp [e, this])
  (by simp only [zy.r0, zy.b0, dcf (show ¬ (c.zQ.length : Int) < (c.zQ.length : Int) by omega), cfa]) (show c.zQ.length < N by omega)
 rw [show zqg c = (fun k : Nat => decide (k = 0) || c.zQ.any fun t => decide (t.Handler = (k : Int))) from rfl]
 simpa using this
theorem z38 (N : Nat) (hN : 1048600 < N) (hc : CdV m c) : zd (zaj.r0 N) N (((List.range c.zA.length).map fun k => decide (k = 0)), 0, c) = some ((List.range c.zA.length).map (zqg c), (c.zQ.length : Int), c) := by
 have ht := hc.traps
 have := zex (f := zaj.r0 N) (fun i => ((List.range c.zA.length).map (fun k : Nat => decide (k = 0) || (c.zQ.take i).any fun t => decide (t.Handler = (k : Int))), (i : Int), c)) c.zQ.length (fun i hi => by
  have hx := lge hi; obtain ⟨h0, h1⟩ := hc.trap _ (lmg hx); generalize c.zQ[i] = x at hx h0 h1; simp only [zaj.r0, zaj.b0, zay, hx, obs, dct (show (i : Int) < (c.zQ.length : Int) by omega), ctr, ifp h0]; rw [ifp (by simpa using h1), zcg _ (by omega), w6e, obs, zjo, List.take_add_one, hx]
  congr 3
  apply List.map_congr_left; intro k _; simp only [List.any_append, Option.toList_some, List.any_cons, List.any_nil, Bool.or_false]
  by_cases e : k = x.Handler.toNat
  · subst e; have : x.Handler = ((x.Handler.toNat : Nat) : Int) := by omega
    simp [← this]
  · have : ¬ x.Handler = (k : Int) := by omega
    simp [e, this])
  (by simp only [zaj.r0, zaj.b0, dcf (show ¬ (c.zQ.length : Int) < (c.zQ.length : Int) by omega), cfa]) (show c.zQ.length < N by omega)
 rw [show zqg c = (fun k : Nat => decide (k = 0) || c.zQ.any fun t => decide (t.Handler = (k : Int))) from rfl]
 simpa using this
def zjf (c : zF) : List Int := (List.range c.zA.length).filterMap fun i => (c.zA[i]?).bind fun x => if x.Op = 18 ∧ i + 1 < c.zA.length then some ((i : Int) + 1) else none
theorem z2d (N : Nat) (hN : 1000 < N) (hc : CdV m c) : zan N c = some (zjf c) := by
 unfold zan
 have hl := hc.len
 have := ztg (f := zan.r0 N) (List.range c.zA.length) (fun i => (c.zA[i]?).bind fun x => if x.Op = 18 ∧ i + 1 < c.zA.length then some ((i : Int) + 1) else none) (fun i acc => (acc, c.zA, (c.zA.length : Int), (i : Int), c)) (fun i j acc hj hacc => by
  obtain ⟨hi, rfl⟩ := gei hj; have hi : i < c.zA.length := by simpa using hi
  have hx := lge hi; simp only [List.getElem_range]; generalize c.zA[i] = x at hx; simp only [zan.r0, zan.b0, zay, hx, obs, dct (show (i : Int) < (c.zA.length : Int) by omega), ctr, zc3, lnc, ln0, zos (show acc.length + (0 + 1) ≤ 1000000 by omega)]; rw [w6e, zjb, obs]
  by_cases e1 : x.Op = 18 <;> by_cases e2 : i + 1 < c.zA.length
  · simp [e1, e2, show ((i : Int) + 1 < (c.zA.length : Int)) by omega]
  · simp [e1, e2, show ¬ ((i : Int) + 1 < (c.zA.length : Int)) by omega]
  · simp [e1]
  · simp [e1])
  (fun acc => by simp only [zan.r0, zan.b0, List.length_range, dcf (show ¬ (c.zA.length : Int) < (c.zA.length : Int) by omega), cfa]) (show (List.range c.zA.length).length < N by simp; omega)
 simp only [nc0] at this
 rw [this]
 rfl
theorem zth {z : Int} : z ∈ zjf c ↔ ∃ k : Nat, z = (k : Int) ∧ k < c.zA.length ∧ zu1 c k = true := by
 unfold zjf
 rw [List.mem_filterMap]
 constructor
 · rintro ⟨i, hi, h⟩
   have hi : i < c.zA.length := by simpa using hi
   rw [lge hi, obs] at h; split at h
   · rename_i e; cases h; refine ⟨i + 1, rfl, e.2, ?_⟩; rw [zrk, lge hi]; simp [e.1]
   · cases h
 · rintro ⟨k, rfl, hk, h⟩
   cases k with
   | zero => cases h
   | succ j =>
    have hj : j < c.zA.length := by omega
    refine ⟨j, by simpa using hj, ?_⟩; rw [zrk, lge hj] at h; rw [lge hj]; have h18 : c.zA[j].Op = 18 := by simpa using h
    rw [obs, ifp ⟨h18, hk⟩]; rfl
theorem zzc (N : Nat) (hN : 1048600 < N) (hc : CdV m c) : zy N c = some (zb4 c) := by
 unfold zy
 have hl := hc.len
 have hp := hc.pos
 rw [ifp, ifp, itn, zxr (by omega), ctr, ifp, ifp (by simp; omega), Int.toNat_zero, zne, zcg _ hp, obs, zjo]
 have e : ((List.range c.zA.length).map fun i => if i = 0 then true else false) = (List.range c.zA.length).map fun k => decide (k = 0) := by
  apply List.map_congr_left; intro k _
  by_cases h : k = 0 <;> simp [h]
 rw [e, z3u N hN hc]
 simp only [obs]
 rw [z2d N (by omega) hc]
 simp only [obs]
 have hcl : (zjf c).length ≤ c.zA.length := by
  unfold zjf; exact Nat.le_trans (List.length_filterMap_le _ _) (by simp)
 have := zex (f := zy.r2 N) (fun i => ((List.range c.zA.length).map (fun k : Nat => zqg c k || ((zjf c).take i).any fun t => decide (t = (k : Int))), zjf c, ((zjf c).length : Int), (i : Int))) (zjf c).length (fun i hi => by
  have hx := lge hi; obtain ⟨k0, hk0, hk1, _⟩ := zth.1 (lmg hx); generalize (zjf c)[i] = x at hx hk0; subst hk0; simp only [zy.r2, zy.b2, zay, hx, obs, dct (show (i : Int) < ((zjf c).length : Int) by omega), ctr, ifp (show 0 ≤ (k0 : Int) by omega)]; rw [ifp (by simp; omega), itn, zcg _ hk1, w6e, obs, zjo, List.take_add_one, hx]
  congr 3
  apply List.map_congr_left; intro k _; simp only [List.any_append, Option.toList_some, List.any_cons, List.any_nil, Bool.or_false]
  by_cases e : k = k0
  · subst e; simp
  · have : ¬ ((k0 : Int) = (k : Int)) := by omega
    simp [e, this])
  (by simp only [zy.r2, zy.b2, dcf (show ¬ ((zjf c).length : Int) < ((zjf c).length : Int) by omega), cfa]) (show (zjf c).length < N by omega)
 simp only [nc0, List.take_zero, List.any_nil, Bool.or_false, List.take_length] at this
 rw [this]
 simp only [obs]
 congr 1
 apply List.map_congr_left
 intro k hk
 have hk : k < c.zA.length := by simpa using hk
 unfold zhc
 congr 1
 rw [Bool.eq_iff_iff, List.any_eq_true]
 constructor
 · rintro ⟨z, hz, h⟩
   have h := of_decide_eq_true h; subst h; obtain ⟨k', e, _, h⟩ := zth.1 hz; obtain rfl : k = k' := by omega
   exact h
 · intro h; exact ⟨(k : Int), zth.2 ⟨k, rfl, hk, h⟩, by simp⟩
theorem zt0 (N : Nat) (hN : 1048600 < N) (hc : CdV m c) : zaj N c = some (zb4 c) := by
 unfold zaj
 have hl := hc.len
 have hp := hc.pos
 rw [ifp, ifp, itn, zxr (by omega), ctr, ifp, ifp (by simp; omega), Int.toNat_zero, zne, zcg _ hp, obs, zjo]
 have e : ((List.range c.zA.length).map fun i => if i = 0 then true else false) = (List.range c.zA.length).map fun k => decide (k = 0) := by
  apply List.map_congr_left; intro k _
  by_cases h : k = 0 <;> simp [h]
 rw [e, z38 N hN hc]
 simp only [obs]
 have := zex (f := zaj.r2 N) (fun i => ((List.range c.zA.length).map (fun k : Nat => zqg c k || (decide (k ≤ i) && zu1 c k)), (i : Int), c)) (c.zA.length - 1) (fun i hi => by
  have hi' : i < c.zA.length := by omega
  have hx := lge hi'; have e1 : ((i : Int) + 1).toNat = i + 1 := by omega
  simp only [zaj.r2, zaj.b2]; rw [w6e, lnm, List.length_range, dct (show (i : Int) + 1 < (c.zA.length : Int) by omega), ctr, ifp, ifp, e1, zcg _ (by omega), obs, zay, hx, obs, orB, obs, ifp, ifp, obs, zjo]; have e2 : (i : Int) + 1 = ((i + 1 : Nat) : Int) := by omega
  rw [e2]
  congr 3
  apply List.map_congr_left; intro k _
  by_cases e : k = i + 1
  · subst e; rw [ifp rfl]; simp only [dcf (show ¬ i + 1 ≤ i by omega), Bool.false_and, Bool.or_false, dct (Nat.le_refl (i + 1)), Bool.true_and]
    congr 1
    rw [zrk, hx, zc3]; rfl
  · rw [ifn e]; have : decide (k ≤ i) = decide (k ≤ i + 1) := by
     by_cases h : k ≤ i
     · rw [dct h, dct (by omega)]
     · rw [dcf h, dcf (by omega)]
    rw [this])
  (by
   simp only [zaj.r2, zaj.b2]; rw [w6e, lnm, List.length_range, dcf (by omega), cfa]) (show c.zA.length - 1 < N by omega)
 have e0 : ((List.range c.zA.length).map (fun k : Nat => zqg c k || (decide (k ≤ 0) && zu1 c k))) = (List.range c.zA.length).map (zqg c) := by
  apply List.map_congr_left; intro k _; cases k with
  | zero => simp [zu1]
  | succ j => simp
 simp only [nc0, e0] at this
 rw [this]
 simp only [obs]
 congr 1
 apply List.map_congr_left
 intro k hk
 have hk : k < c.zA.length := by simpa using hk
 unfold zhc
 rw [dct (by omega), Bool.true_and]
def znm (o : Int) : Bool := decide (o ≠ 8) && (decide (o ≠ 18) && (decide (o ≠ 19) && (decide (o ≠ 20) && decide (o ≠ 26))))
def zkc (o : Int) : Bool := decide (o = 6) || (decide (o = 7) || (decide (o = 8) || decide (o = 18)))
def zaw (c : zF) (i : Nat) : List Int := match c.zA[i]? with
 | none => []
 | some x => (if i + 1 < c.zA.length ∧ znm x.Op = true then [(i : Int) + 1] else []) ++ (if zkc x.Op = true then [x.Target] else [])
theorem z2b (o : Int) : zch o = some (zkc o) := by
 unfold zch zkc
 simp only [zc3, orB, obs, Bool.or_assoc]
theorem zx6 (o : Int) : zfy o = some (zkc o) := by
 unfold zfy zkc
 simp only [zc3, orB, obs, Bool.or_assoc]
theorem zyg (hl : c.zA.length ≤ 1000000) {i : Nat} (hi : i < c.zA.length) : zcv c (i : Int) = some (zaw c i) := by
 unfold zcv zaw
 have hx := lge hi
 rw [zay, hx, obs]
 simp only
 generalize c.zA[i] = x
 have q : (cond (x.Op == 8) (some (x.Op == 8)) (cond (x.Op == 18) (some (x.Op == 18)) (cond (x.Op == 19) (some (x.Op == 19)) (cond (x.Op == 20) (some (x.Op == 20)) (some (x.Op == 26)))))) = some (!znm x.Op) := by
  unfold znm; simp only [zc3]
  by_cases h1 : x.Op = 8
  · simp [h1]
  · by_cases h2 : x.Op = 18
    · simp [h2]
    · by_cases h3 : x.Op = 19
      · simp [h3]
      · by_cases h4 : x.Op = 20
        · simp [h4]
        · by_cases h5 : x.Op = 26 <;> simp [h1, h2, h3, h4, h5]
 rw [q, obs, z2b, w6e]
 simp only [obs, lnc, ln0, zos (show 0 + 1 ≤ 1000000 by omega), zos (show 0 + 1 + (0 + 1) ≤ 1000000 by omega), ctr]
 cases hg : znm x.Op with
 | false => simp; cases zkc x.Op <;> simp
 | true =>
  by_cases h : i + 1 < c.zA.length
  · rw [dct (show (i : Int) + 1 < (c.zA.length : Int) by omega)]; simp [h]; cases zkc x.Op <;> simp
  · rw [dcf (show ¬ (i : Int) + 1 < (c.zA.length : Int) by omega)]; simp [h]; cases zkc x.Op <;> simp
theorem zym (hl : c.zA.length ≤ 1000000) {i : Nat} (hi : i < c.zA.length) : zd5 c (i : Int) = some (zaw c i) := by
 unfold zd5 zaw
 have hx := lge hi
 rw [zay, hx, obs]
 simp only
 generalize c.zA[i] = x
 rw [w6e]
 simp only [zjb, obs, zei, zx6, lnc, ln0, zos (show 0 + 1 ≤ 1000000 by omega), zos (show 0 + 1 + (0 + 1) ≤ 1000000 by omega), ctr]
 have e : (decide ((i : Int) + 1 < (c.zA.length : Int)) && decide (x.Op ≠ 8) && decide (x.Op ≠ 18) && decide (x.Op ≠ 19) && decide (x.Op ≠ 20) && decide (x.Op ≠ 26)) = (decide (i + 1 < c.zA.length) && znm x.Op) := by
  unfold znm; simp only [Bool.and_assoc]
  congr 1
  by_cases h : i + 1 < c.zA.length
  · rw [dct h, dct (by omega)]
  · rw [dcf h, dcf (by omega)]
 rw [e]
 by_cases h : i + 1 < c.zA.length <;> cases hg : znm x.Op <;> cases hj : zkc x.Op <;> simp [h]
theorem zjv (hc : CdV m c) {i : Nat} {z : Int} (h : z ∈ zaw c i) : ∃ k : Nat, z = (k : Int) ∧ k < c.zA.length := by
 unfold zaw at h
 cases hx : c.zA[i]? with
 | none => rw [hx] at h; simp at h
 | some x =>
  rw [hx] at h; simp only [List.mem_append] at h; rcases h with h | h
  · split at h
    · rename_i e; have : z = (i : Int) + 1 := by simpa using h
      exact ⟨i + 1, by omega, e.1⟩
    · simp at h
  · split at h
    · rename_i e; have hz : z = x.Target := by simpa using h
      unfold zkc at e; simp only [Bool.or_eq_true, decide_eq_true_eq] at e; have := (hc.ins x (lmg hx)).tg (by omega); exact ⟨x.Target.toNat, by omega, by omega⟩
    · simp at h
variable {m : zI} {c : zF}
theorem z5i {m : zI} {c : zF} {n : Int} (h : zmx m c = (n, 0)) : (∀ x ∈ c.zA, zmq m c x = 0) ∧ (∀ t ∈ c.zQ, znt c t = true) ∧ n = (c.zA.length : Int) := by
 have h1 := z4d h
 refine ⟨h1, ?_⟩
 unfold zmx at h
 cases hf : (List.range c.zA.length).findSome? (gI m c) with
 | some r =>
  exfalso
  obtain ⟨j, _, hj⟩ := eof hf; unfold gI at hj; rw [Option.bind_eq_some_iff] at hj; obtain ⟨y, hy1, hy⟩ := hj; rw [ifp (h1 y (lmg hy1))] at hy; cases hy
 | none =>
  rw [hf] at h; cases hg : (List.range c.zQ.length).findSome? (gT c) with
  | some r =>
   exfalso
   rw [hg] at h; obtain ⟨j, _, hj⟩ := eof hg; unfold gT at hj; rw [Option.bind_eq_some_iff] at hj; obtain ⟨y, hy1, hy⟩ := hj; split at hy
   · cases hy
   · cases hy; have h3 : (3 : Int) = 0 := congrArg Prod.snd h; exact absurd h3 (by decide)
  | none =>
   rw [hg] at h; refine ⟨fun t ht => ?_, (congrArg Prod.fst h).symm⟩; rw [List.findSome?_eq_none_iff] at hg; obtain ⟨i, hi⟩ := List.getElem?_of_mem ht; have := hg i (by simp; exact (gei hi).1); unfold gT at this; rw [hi, obs] at this; split at this
   · assumption
   · cases this
theorem z56 (N : Nat) (hN : 1048600 < N) {m : zI} {c : zF} (hc : Wft En 1048576 Ty.zF c) {n : Int} (h : zx N m c = some (n, 0)) : CdV m c ∧ n = (c.zA.length : Int) := by
 obtain ⟨e, _, he2, he3⟩ := zt6 m
 obtain ⟨i1, e1, e2, _, hs2, hs⟩ := zv5 N (by omega) c.Storage
 obtain ⟨w1, w2, w3, w4, w5⟩ := zm8 hc
 unfold zx at h
 try simp only [eS, eM, eC] at h
 rw [he2, hs2] at h
 simp only [obs] at h
 by_cases h0 : e = 0
 · subst h0; have hm := he3 rfl; simp only [bsf, cfa] at h
   by_cases h2 : e2 = 0
   · rcases hs with ⟨rfl, hs⟩ | ⟨ok, htl, _, _⟩
     · exact absurd h2 hs
     · subst h2; obtain ⟨l, hl1, hl2⟩ := zyl N c.Storage htl (by omega); rw [hl1] at h; simp only [bsf, cfa, obs, orB] at h; cases hd : decide ((l.length : Int) > 0) with
       | true => rw [hd] at h; cases h
       | false =>
        rw [hd] at h hl2; simp only [cfa] at h
        by_cases hz : (c.zA.length : Int) = 0
        · rw [hz] at h; cases h
        · rw [zc3, dcf hz] at h; simp only [cfa] at h; cases hb : (decide ((c.zA.length : Int) > 240) || decide ((c.zQ.length : Int) > 40)) with
          | true => rw [hb] at h; cases h
          | false =>
           rw [hb] at h; simp only [cfa] at h; have := zwi N hN hm ok hc; rw [this] at h; simp only [Bool.or_eq_false_iff, decide_eq_false_iff_not] at hb; obtain ⟨r1, r2, r3⟩ := z5i (Option.some.inj h); have hand : ∀ t ∈ c.zQ, 0 ≤ t.Handler ∧ t.Handler < (c.zA.length : Int) := fun t ht => by
            have h5 := r2 t ht; unfold znt at h5; simp only [Bool.and_eq_true] at h5; have h6 := zes.1 h5.2.2.2; omega
           exact ⟨⟨hm.1, hm.2, ok.le, by omega, by omega, by omega, fun x hx => z6x (r1 x hx), hand⟩, r3⟩
   · rw [zei, dct h2] at h; simp only [ctr, Option.some.injEq, Prod.mk.injEq] at h; exact absurd h.2 h2
 · rw [zei, dct h0] at h; simp only [ctr, Option.some.injEq, Prod.mk.injEq] at h; exact absurd h.2 h0
variable {m : zI} {c : zF}
theorem zpm {i : Nat} : (zaw c i).length ≤ 2 := by
 unfold zaw
 cases c.zA[i]? with
 | none => simp
 | some x =>
  simp only [lna]; split <;> split <;> simp
variable {F : List (List zB)}
variable {m : zI} {c : zF} {F : List (List zB)}
theorem z44 : zkb 2000000 = some true := by kernel_rfl
variable {m : zI} {c : zF}
theorem zp8 {α : Type} {f : α → Option (Stp α)} (I J : α → Prop) (μ : α → Nat) (h : ∀ s, I s → (∃ s', f s = some (.again s') ∧ I s' ∧ μ s' < μ s) ∨ (∃ s', f s = some (.leave s') ∧ J s')) :
 ∀ (N : Nat) (s : α), I s → μ s < N → ∃ s', zd f N s = some s' ∧ J s'
 | 0, s, _, hN => by omega
 | N + 1, s, hI, hN => by
  rcases h s hI with ⟨s', h1, h2, h3⟩ | ⟨s', h1, h2⟩
  · obtain ⟨s2, h4, h5⟩ := zp8 I J μ h N s' h2 (by omega); exact ⟨s2, by rw [zd, h1]; exact h4, h5⟩
  · exact ⟨s', by rw [zd, h1]; rfl, h2⟩
def cnt (p : Nat → Bool) : Nat → Nat
 | 0 => 0
 | n + 1 => cnt p n + cond (p n) 0 1
def upd (p : Nat → Bool) (x : Nat) (k : Nat) : Bool := if k = x then true else p k
theorem zuh (p : Nat → Bool) : ∀ n, cnt p n ≤ n
 | 0 => Nat.le_refl _
 | n + 1 => by have := zuh p n; simp only [cnt]; cases p n <;> simp <;> omega
theorem zu2 (p : Nat → Bool) (x : Nat) : ∀ n, cnt (upd p x) n + cond (decide (x < n) && !p x) 1 0 = cnt p n
 | 0 => by simp [cnt]
 | n + 1 => by
  have ih := zu2 p x n; simp only [cnt]
  by_cases e : n = x
  · subst e; rw [dcf (Nat.lt_irrefl n)] at ih; simp only [Bool.false_and, cfa, Nat.add_zero] at ih; rw [dct (Nat.lt_succ_self n), ih]; have : upd p n n = true := by simp [upd]
    rw [this]; cases p n <;> simp
  · have h1 : upd p x n = p n := by simp [upd, e]
    have h2 : decide (x < n + 1) = decide (x < n) := by
     by_cases h : x < n
     · rw [dct h, dct (by omega)]
     · rw [dcf h, dcf (by omega)]
    rw [h1, h2]; omega
theorem zow {n : Nat} (p : Nat → Bool) (x : Nat) : ((List.range n).map p).set x true = (List.range n).map (upd p x) := zjo p true
inductive Rch (c : zF) : Nat → Prop
 | ent {k : Nat} (h : k < c.zA.length) (he : zhc c k = true) : Rch c k
 | step {i k : Nat} (h : Rch c i) (hs : (k : Int) ∈ zaw c i) : Rch c k
theorem Rch.lt (hc : CdV m c) {k : Nat} (h : Rch c k) : k < c.zA.length := by
 cases h with
 | ent h _ => exact h
 | step _ hs =>
  obtain ⟨k', e, hk⟩ := zjv hc hs; omega
theorem zm5 {n : Nat} {p q : Nat → Bool} (h : ∀ k, k < n → p k = q k) : (List.range n).map p = (List.range n).map q := List.map_congr_left fun k hk => h k (by simpa using hk)
theorem z1a (hc : CdV m c) {p : Nat → Bool} (h1 : ∀ k, k < c.zA.length → p k = true → Rch c k) (h2 : ∀ k, k < c.zA.length → zhc c k = true → p k = true)
 (h3 : ∀ i, i < c.zA.length → p i = true → ∀ k : Nat, (k : Int) ∈ zaw c i → p k = true) : ∀ k, Rch c k → p k = true := by
 intro k h
 induction h with
 | ent h he => exact h2 _ h he
 | step h hs ih => exact h3 _ (h.lt hc) ih _ hs
theorem zzt (hc : CdV m c) {p q : Nat → Bool} (h1 : ∀ k, k < c.zA.length → p k = true → Rch c k) (h2 : ∀ k, Rch c k → p k = true) (g1 : ∀ k, k < c.zA.length → q k = true → Rch c k) (g2 : ∀ k, Rch c k → q k = true) :
 ∀ k, k < c.zA.length → p k = q k := fun k hk => by
 rw [Bool.eq_iff_iff]
 exact ⟨fun h => g2 k (h1 k hk h), fun h => h2 k (g1 k hk h)⟩
def ztd (c : zF) : List Int := (List.range c.zA.length).filterMap fun i => if zhc c i = true then some (i : Int) else none
theorem z0k (N : Nat) (hN : 1000 < N) (hc : CdV m c) (s : List Bool) : zd (zw.r0 N) N (s, [], zb4 c, (c.zA.length : Int), 0, c) = some (s, ztd c, zb4 c, (c.zA.length : Int), (c.zA.length : Int), c) := by
 have hl := hc.len
 have := ztg (f := zw.r0 N) (List.range c.zA.length) (fun i => if zhc c i = true then some (i : Int) else none) (fun i acc => (s, acc, zb4 c, (c.zA.length : Int), (i : Int), c)) (fun i j acc hj hacc => by
  obtain ⟨hi, rfl⟩ := gei hj; have hi : i < c.zA.length := by simpa using hi
  have hent : (zb4 c)[i]? = some (zhc c i) := zcg _ hi; simp only [List.getElem_range]; simp only [zw.r0, zw.b0, zay, hent, obs, dct (show (i : Int) < (c.zA.length : Int) by omega), ctr, lnc, ln0, zos (show acc.length + (0 + 1) ≤ 1000000 by omega)]; rw [w6e]; cases zhc c i <;> simp)
  (fun acc => by simp only [zw.r0, zw.b0, List.length_range, dcf (show ¬ (c.zA.length : Int) < (c.zA.length : Int) by omega), cfa]) (show (List.range c.zA.length).length < N by simp; omega)
 simp only [nc0, List.length_range] at this
 exact this
theorem zxc {z : Int} : z ∈ ztd c ↔ ∃ k : Nat, z = (k : Int) ∧ k < c.zA.length ∧ zhc c k = true := by
 unfold ztd
 rw [List.mem_filterMap]
 constructor
 · rintro ⟨i, hi, h⟩
   split at h
   · rename_i e; cases h; exact ⟨i, rfl, by simpa using hi, e⟩
   · cases h
 · rintro ⟨k, rfl, hk, he⟩
   exact ⟨k, by simpa using hk, by rw [ifp he]⟩
structure QR (c : zF) (p : Nat → Bool) (l : List Int) : Prop where
 r : ∀ k, k < c.zA.length → p k = true → Rch c k
 w : ∀ z ∈ l, ∃ k : Nat, z = (k : Int) ∧ Rch c k
 e : ∀ k, k < c.zA.length → zhc c k = true → p k = true ∨ (k : Int) ∈ l
 s : ∀ i, i < c.zA.length → p i = true → ∀ k : Nat, (k : Int) ∈ zaw c i → p k = true ∨ (k : Int) ∈ l
theorem z2a (N : Nat) (hN : 1048600 < N) (hc : CdV m c) : ∃ p : Nat → Bool, zw N c (zb4 c) = some ((List.range c.zA.length).map p) ∧ (∀ k, k < c.zA.length → p k = true → Rch c k) ∧ ∀ k, Rch c k → p k = true := by
 have hl := hc.len
 have hle : (zb4 c).length = c.zA.length := by simp [zb4]
 unfold zw
 rw [hle, ifp, ifp, itn, zxr (by omega), ctr, z0k N (by omega) hc]
 simp only [obs]
 have hol : (ztd c).length ≤ c.zA.length := Nat.le_trans (List.length_filterMap_le _ _) (by simp)
 obtain ⟨s, hs, p, rfl, hq⟩ := zp8 (f := zw.r2 N) (fun s => ∃ p o, s = ((List.range c.zA.length).map p, o, c) ∧ QR c p o ∧ o.length + 3 * cnt p c.zA.length ≤ 4 * c.zA.length)
  (fun s => ∃ p, s = ((List.range c.zA.length).map p, [], c) ∧ QR c p []) (fun s => match s with | (b, o, _) => o.length + 3 * cnt (fun k => (b[k]?).getD false) c.zA.length) (by
  rintro s ⟨p, o, rfl, hq, hm⟩
  have hcp : cnt (fun k => (((List.range c.zA.length).map p)[k]?).getD false) c.zA.length = cnt p c.zA.length := by
   have : ∀ j, j ≤ c.zA.length → cnt (fun k => (((List.range c.zA.length).map p)[k]?).getD false) j = cnt p j := by
    intro j
    induction j with
    | zero => intro _; rfl
    | succ j ih =>
     intro hj; simp only [cnt]; rw [ih (by omega), zcg p (show j < c.zA.length by omega)]; rfl
   exact this _ (Nat.le_refl _)
  cases o with
  | nil => exact .inr ⟨_, by simp [zw.r2, zw.b2], p, rfl, hq⟩
  | cons z o =>
   left; obtain ⟨x, rfl, hx⟩ := hq.w z (by simp); have hxl := hx.lt hc; have hol2 : o.length + 1 ≤ 4 * c.zA.length := by simp only [lnc] at hm; omega
   simp only [zw.r2, zw.b2, lnc]; rw [dct (by omega), ctr, ifp, ifp]; simp only [Int.toNat_zero, List.getElem?_cons_zero, obs]; rw [ifp, ifp, ifp (by simp; omega), itn, zcg p hxl, obs]; cases hp : p x with
   | true =>
    refine ⟨_, rfl, ⟨p, o, rfl, ⟨hq.r, fun z hz => hq.w z (by simp [hz]), fun k hk he => ?_, fun i hi hpi k hk => ?_⟩, by simp only [lnc] at hm; omega⟩, ?_⟩
    · rcases hq.e k hk he with h | h
      · exact .inl h
      · rcases List.mem_cons.1 h with h | h
        · obtain rfl : k = x := by omega
          exact .inl hp
        · exact .inr h
    · rcases hq.s i hi hpi k hk with h | h
      · exact .inl h
      · rcases List.mem_cons.1 h with h | h
        · obtain rfl : k = x := by omega
          exact .inl hp
        · exact .inr h
    · simp
   | false =>
    have hsl := zpm (c := c) (i := x); have hcu := zu2 p x c.zA.length; rw [dct hxl, hp] at hcu; simp only [Bool.not_false, Bool.and_true, ctr] at hcu; have hone : (1 : Int).toNat = 1 := rfl; rw [zyg (by omega) hxl]; simp only [Bool.not_false, ctr, obs, hone, List.drop_succ_cons, dr0]; rw [ifp, ifp (by simp; omega), zos (by omega), ctr, zow]; refine ⟨_, rfl, ⟨upd p x, o ++ zaw c x, rfl, ⟨fun k hk hpk => ?_, fun z hz => ?_, fun k hk he => ?_, fun i hi hpi k hk => ?_⟩, ?_⟩, ?_⟩
    · unfold upd at hpk; split at hpk
      · rename_i e; subst e; exact hx
      · exact hq.r k hk hpk
    · rcases List.mem_append.1 hz with hz | hz
      · exact hq.w z (by simp [hz])
      · obtain ⟨k, rfl, _⟩ := zjv hc hz; exact ⟨k, rfl, .step hx hz⟩
    · unfold upd; split
      · exact .inl rfl
      · rename_i e; rcases hq.e k hk he with h | h
        · exact .inl h
        · rcases List.mem_cons.1 h with h | h
          · omega
          · exact .inr (by simp [h])
    · unfold upd at hpi ⊢; split at hpi
      · rename_i e; subst e; exact .inr (by simp [hk])
      · split
        · exact .inl rfl
        · rename_i e; rcases hq.s i hi hpi k hk with h | h
          · exact .inl h
          · rcases List.mem_cons.1 h with h | h
            · omega
            · exact .inr (by simp [h])
    · simp only [lnc] at hm; rw [lna]; omega
    · have : cnt (fun k => (((List.range c.zA.length).map (upd p x))[k]?).getD false) c.zA.length = cnt (upd p x) c.zA.length := by
       have : ∀ j, j ≤ c.zA.length → cnt (fun k => (((List.range c.zA.length).map (upd p x))[k]?).getD false) j = cnt (upd p x) j := by
        intro j
        induction j with
        | zero => intro _; rfl
        | succ j ih =>
         intro hj; simp only [cnt]; rw [ih (by omega), zcg (upd p x) (show j < c.zA.length by omega)]; rfl
       exact this _ (Nat.le_refl _)
      simp only [this, hcp, lna, lnc]; omega) N (List.replicate c.zA.length false, ztd c, c) ⟨fun _ => false, ztd c, by rw [zne], ⟨fun k _ h => by simp at h, fun z hz => by
   obtain ⟨k, e, hk, he⟩ := zxc.1 hz; exact ⟨k, e, .ent hk he⟩, fun k hk he => .inr (zxc.2 ⟨k, rfl, hk, he⟩), fun i _ h => by simp at h⟩, by have := zuh (fun _ => false) c.zA.length; omega⟩ (by
    show (ztd c).length + 3 * cnt _ _ < N; have := zuh (fun k => ((List.replicate c.zA.length false)[k]?).getD false) c.zA.length; omega)
 rw [hs]
 refine ⟨p, rfl, hq.r, z1a hc hq.r (fun k hk he => ?_) fun i hi hp k hk => ?_⟩
 · rcases hq.e k hk he with h | h
   · exact h
   · simp at h
 · rcases hq.s i hi hp k hk with h | h
   · exact h
   · simp at h
variable {m : zI} {c : zF}
theorem zrl {p q : Nat → Bool} : ∀ n, (∀ k, k < n → p k = q k) → cnt p n = cnt q n
 | 0, _ => rfl
 | n + 1, h => by simp only [cnt]; rw [zrl n (fun k hk => h k (by omega)), h n (by omega)]
structure PS (c : zF) (p0 p : Nat → Bool) (b : Bool) : Prop where
 sub : ∀ k, p0 k = true → p k = true
 r : ∀ k, k < c.zA.length → p k = true → Rch c k
 f : b = false → ∀ k, k < c.zA.length → p k = p0 k
 t : b = true → cnt p c.zA.length < cnt p0 c.zA.length
theorem PS.mark {p0 p : Nat → Bool} {b : Bool} (h : PS c p0 p b) {k : Nat} (hk : k < c.zA.length) (hr : Rch c k) : PS c p0 (upd p k) (b || !p k) := by
 have hcu := zu2 p k c.zA.length
 rw [dct hk] at hcu
 refine ⟨fun j hj => ?_, fun j hj hp => ?_, fun hb j hj => ?_, fun hb => ?_⟩
 · unfold upd; split
   · rfl
   · exact h.sub j hj
 · unfold upd at hp; split at hp
   · rename_i e; subst e; exact hr
   · exact h.r j hj hp
 · rw [Bool.or_eq_false_iff, Bool.not_eq_false'] at hb; unfold upd; split
   · rename_i e; subst e; rw [← h.f hb.1 j hj, hb.2]
   · exact h.f hb.1 j hj
 · cases b with
   | true => have := h.t rfl; omega
   | false =>
    have e := zrl c.zA.length (h.f rfl); have hp : p k = false := by simpa using hb
    rw [hp] at hcu; simp at hcu; omega
theorem z02 (N : Nat) (hN : 1000 < N) (hc : CdV m c) {p0 p : Nat → Bool} {b : Bool} (h : PS c p0 p b) {i : Nat} (hi : i < c.zA.length) :
 ∃ p' b' j, zd (zm.r4 N) N ((List.range c.zA.length).map p, b, (i : Int), zaw c i, 0, c) = some ((List.range c.zA.length).map p', b', (i : Int), zaw c i, j, c) ∧ PS c p0 p' b' ∧ (b' = false → b = false) ∧
  (p i = true → ∀ k : Nat, (k : Int) ∈ zaw c i → p' k = true) := by
 have hl := hc.len
 have hsl := zpm (c := c) (i := i)
 cases hp : p i with
 | false =>
  have := zex (f := zm.r4 N) (fun j => ((List.range c.zA.length).map p, b, (i : Int), zaw c i, (j : Int), c)) 0 (fun j hj => by omega) (by
   simp only [zm.r4, zm.b4]; rw [ifp, ifp (by simp; omega), itn, zcg p hi, hp]; cases decide (((0 : Nat) : Int) < ((zaw c i).length : Int)) <;> rfl) (show 0 < N by omega)
  exact ⟨p, b, _, this, h, id, fun h => by cases h⟩
 | true =>
  obtain ⟨s, hs, hI⟩ := zfb (f := zm.r4 N) (fun j s => ∃ p' b', s = ((List.range c.zA.length).map p', b', (i : Int), zaw c i, (j : Int), c) ∧ PS c p0 p' b' ∧ (b' = false → b = false) ∧ p' i = true ∧ ∀ t k, t < j → (zaw c i)[t]? = some ((k : Nat) : Int) → p' k = true) (zaw c i).length (by
   rintro j s hj ⟨p', b', rfl, h', hb', hpi, hall⟩
   have hx := lge hj; obtain ⟨k0, hk0, hk1⟩ := zjv hc (List.getElem_mem hj); have hmem : ((k0 : Nat) : Int) ∈ zaw c i := by rw [← hk0]; exact List.getElem_mem hj
   rw [hk0] at hx; have hrk : Rch c k0 := .step (h'.r i hi hpi) hmem; refine ⟨_, ?_, upd p' k0, b' || !p' k0, rfl, h'.mark hk1 hrk, fun hb => hb' (by rw [Bool.or_eq_false_iff] at hb; exact hb.1), ?_, fun t k ht htk => ?_⟩
   · simp only [zm.r4, zm.b4]; rw [dct (show (j : Int) < ((zaw c i).length : Int) by omega), ctr, ifp, ifp (by simp; omega), itn, zcg p' hi, hpi]; simp only [obs, ctr]; rw [ifp, ifp, itn, hx]; simp only [obs]; rw [ifp, ifp (by simp; omega), itn, zcg p' hk1]; simp only [obs]; rw [orB, obs, ifp, ifp, ifp, ifp (by simp; omega), zow, w6e]; rfl
   · unfold upd; split <;> first | rfl | exact hpi
   · unfold upd; split
     · rfl
     · rename_i e
       by_cases htj : t = j
       · subst htj; rw [hx] at htk; have : (k0 : Int) = (k : Int) := Option.some.inj htk; omega
       · exact hall t k (by omega) htk)
   (by
    rintro s ⟨p', b', rfl, h', hb', hpi, hall⟩
    refine ⟨_, ?_, p', b', rfl, h', hb', hpi, hall⟩; simp only [zm.r4, zm.b4]; rw [dcf (Int.lt_irrefl _)]; rfl) (N := N) (by omega) (s := ((List.range c.zA.length).map p, b, (i : Int), zaw c i, 0, c)) ⟨p, b, rfl, h, id, hp, fun t k ht => by omega⟩
  obtain ⟨p', b', rfl, h', hb', _, hall⟩ := hI; refine ⟨p', b', _, hs, h', hb', fun _ k hk => ?_⟩; obtain ⟨t, ht⟩ := List.getElem?_of_mem hk; exact hall t k (gei ht).1 ht
theorem z03 (N : Nat) (hN : 1000 < N) (hc : CdV m c) {p0 : Nat → Bool} (h0 : ∀ k, k < c.zA.length → p0 k = true → Rch c k) :
 ∃ p b, zd (zm.r2 N) N ((List.range c.zA.length).map p0, false, 0, c) = some ((List.range c.zA.length).map p, b, (c.zA.length : Int), c) ∧ PS c p0 p b ∧
  (b = false → ∀ i, i < c.zA.length → p0 i = true → ∀ k : Nat, (k : Int) ∈ zaw c i → p0 k = true) := by
 have hl := hc.len
 obtain ⟨s, hs, p, b, rfl, h1, h2⟩ := zfb (f := zm.r2 N) (fun i s => ∃ p b, s = ((List.range c.zA.length).map p, b, (i : Int), c) ∧ PS c p0 p b ∧ (b = false → ∀ i', i' < i → p0 i' = true → ∀ k : Nat, (k : Int) ∈ zaw c i' → p0 k = true)) c.zA.length (by
  rintro i s hi ⟨p, b, rfl, h1, h2⟩
  obtain ⟨p', b', j, e1, e2, e3, e4⟩ := z02 N hN hc h1 hi; refine ⟨_, ?_, p', b', rfl, e2, fun hb i' hi' hp k hk => ?_⟩
  · simp only [zm.r2, zm.b2]; rw [dct (by simp; omega), ctr, zym (by omega) hi, obs, e1, obs]; simp only; rw [w6e]; rfl
  · by_cases e : i' = i
    · subst e; have hkl := zjv hc hk; obtain ⟨k', hk', hkl⟩ := hkl; obtain rfl : k = k' := by omega
      have hpi : p i' = true := h1.sub i' hp; rw [← e2.f hb k hkl]; exact e4 hpi k hk
    · exact h2 (e3 hb) i' (by omega) hp k hk)
  (by
   rintro s ⟨p, b, rfl, h1, h2⟩
   refine ⟨_, ?_, p, b, rfl, h1, h2⟩; simp only [zm.r2, zm.b2]; rw [dcf (by simp)]; rfl) (N := N) (by omega) (s := ((List.range c.zA.length).map p0, false, 0, c)) ⟨p0, false, rfl, ⟨fun _ h => h, h0, fun _ _ _ => rfl, fun h => by cases h⟩, fun _ i' hi' => by omega⟩
 exact ⟨p, b, hs, h1, h2⟩
theorem z2k (N : Nat) (hN : 1048600 < N) (hc : CdV m c) : ∃ p : Nat → Bool, zm N c = some ((List.range c.zA.length).map p) ∧ (∀ k, k < c.zA.length → p k = true → Rch c k) ∧ ∀ k, Rch c k → p k = true := by
 have hl := hc.len
 unfold zm
 rw [zt0 N hN hc, obs]
 obtain ⟨s, hs, p, rfl, q1, q2, q3⟩ := zp8 (f := zm.r0 N) (fun s => ∃ p b, s = ((List.range c.zA.length).map p, b, c) ∧ (∀ k, k < c.zA.length → p k = true → Rch c k) ∧ (∀ k, k < c.zA.length → zhc c k = true → p k = true) ∧
  (b = false → ∀ i, i < c.zA.length → p i = true → ∀ k : Nat, (k : Int) ∈ zaw c i → p k = true))
  (fun s => ∃ p, s = ((List.range c.zA.length).map p, false, c) ∧ (∀ k, k < c.zA.length → p k = true → Rch c k) ∧ (∀ k, k < c.zA.length → zhc c k = true → p k = true) ∧ (∀ i, i < c.zA.length → p i = true → ∀ k : Nat, (k : Int) ∈ zaw c i → p k = true))
  (fun s => match s with | (l, b, _) => cond b (cnt (fun k => (l[k]?).getD false) c.zA.length + 1) 0) (by
  have hcp : ∀ p : Nat → Bool, cnt (fun k => (((List.range c.zA.length).map p)[k]?).getD false) c.zA.length = cnt p c.zA.length := fun p => zrl _ fun k hk => by rw [zcg p hk]; rfl
  rintro s ⟨p, b, rfl, h1, h2, h3⟩
  cases b with
  | false => exact .inr ⟨_, rfl, p, rfl, h1, h2, h3 rfl⟩
  | true =>
   obtain ⟨p', b', e1, e2, e3⟩ := z03 N (by omega) hc h1; refine .inl ⟨((List.range c.zA.length).map p', b', c), by simp only [zm.r0, zm.b0, ctr, e1, obs], ⟨p', b', rfl, e2.r, fun k hk he => e2.sub k (h2 k hk he), fun hb i hi hp k hk => ?_⟩, ?_⟩
   · obtain ⟨k', hk', hkl⟩ := zjv hc hk; obtain rfl : k = k' := by omega
     rw [e2.f hb k hkl]; exact e3 hb i hi (by rw [← e2.f hb i hi]; exact hp) k hk
   · simp only [hcp]; cases b' with
     | true => have := e2.t rfl; simp only [ctr]; omega
     | false => simp only [ctr, cfa]; omega) N (zb4 c, true, c) ⟨zhc c, true, rfl, fun k hk he => .ent hk he, fun k _ h => h, fun h => by cases h⟩ (by
   have := zuh (fun k => ((zb4 c)[k]?).getD false) c.zA.length; show cnt _ _ + 1 < N; omega)
 rw [hs]
 exact ⟨p, rfl, q1, z1a hc q1 q2 q3⟩
variable {m : zI} {c : zF}
def zfc {α : Type} (G : Nat → α) (x : Nat) (v : α) (k : Nat) : α := if k = x then v else G k
theorem zp4 {α : Type} {n : Nat} (f : Nat → α) {k : Nat} (v : α) : ((List.range n).map f).set k v = (List.range n).map (zfc f k v) := by
 apply List.ext_getElem?
 intro i
 rw [List.getElem?_set, List.getElem?_map, List.getElem?_map, lnm, List.length_range]
 unfold zfc
 by_cases hi : i < n
 · rw [List.getElem?_range hi]
   by_cases e : k = i
   · subst e; simp [hi]
   · simp [e, Ne.symm e]
 · rw [List.getElem?_eq_none (by simpa using hi)]
   by_cases e : k = i
   · subst e; simp [hi]
   · simp [e]
theorem zo4 {α : Type} {n : Nat} (f : Nat → α) {k : Nat} (h : k < n) : ((List.range n).map f)[k]? = some (f k) := by
 rw [List.getElem?_map, List.getElem?_range h]
 rfl
theorem zs4 {α : Type} : ∀ (l u : List α), l.Nodup → (∀ x ∈ l, x ∈ u) → l.length ≤ u.length
 | [], _, _, _ => Nat.zero_le _
 | x :: l, u, hn, hs => by
  obtain ⟨h1, h2⟩ := List.nodup_cons.1 hn; obtain ⟨a, b, rfl⟩ := List.append_of_mem (hs x (by simp)); have := zs4 l (a ++ b) h2 (fun y hy => by
   have hy2 := hs y (by simp [hy]); rcases List.mem_append.1 hy2 with h | h
   · exact List.mem_append.2 (.inl h)
   · rcases List.mem_cons.1 h with rfl | h
     · exact absurd hy h1
     · exact List.mem_append.2 (.inr h))
  simp only [lna, lnc] at this ⊢; omega
def zna (c : zF) : List zB := (List.range 8).flatMap fun r : Nat => c.zA.flatMap fun x => [⟨(r : Int), x.zD, -1⟩, ⟨(r : Int), x.zD, x.Place.Offset⟩]
theorem flat_len {α β : Type} (f : α → List β) (k : Nat) (h : ∀ x, (f x).length = k) : ∀ l : List α, (l.flatMap f).length = l.length * k
 | [] => by simp
 | x :: l => by rw [List.flatMap_cons, lna, h, flat_len f k h l, lnc, Nat.succ_mul]; omega
theorem zyf (hc : CdV m c) : (zna c).length ≤ 3840 := by
 unfold zna
 rw [flat_len _ (c.zA.length * 2) (fun r => flat_len _ 2 (fun x => rfl) _)]
 have := hc.len
 simp only [List.length_range]
 omega
theorem zum {f : zB} : f ∈ zna c ↔ (0 ≤ f.Register ∧ f.Register < 8) ∧ ∃ x ∈ c.zA, f.zD = x.zD ∧ (f.Offset = -1 ∨ f.Offset = x.Place.Offset) := by
 unfold zna
 rw [List.mem_flatMap]
 constructor
 · rintro ⟨r, hr, h⟩
   have hr : r < 8 := by simpa using hr
   rw [List.mem_flatMap] at h; obtain ⟨x, hx, h⟩ := h; rcases List.mem_cons.1 h with rfl | h
   · exact ⟨⟨by simp, by show (r : Int) < 8; omega⟩, x, hx, rfl, .inl rfl⟩
   · obtain rfl : f = ⟨(r : Int), x.zD, x.Place.Offset⟩ := by simpa using h
     exact ⟨⟨by simp, by show (r : Int) < 8; omega⟩, x, hx, rfl, .inr rfl⟩
 · rintro ⟨⟨h1, h2⟩, x, hx, ht, ho⟩
   refine ⟨f.Register.toNat, by simp; omega, ?_⟩; rw [List.mem_flatMap]; refine ⟨x, hx, ?_⟩; have hr : ((f.Register.toNat : Nat) : Int) = f.Register := by omega
   rw [hr]; obtain ⟨r, t, o⟩ := f; simp only at ht ho; subst ht; rcases ho with rfl | rfl
   · simp
   · simp
theorem z43 (hc : CdV m c) {x : zC} (hx : x ∈ c.zA) {l : List zB} (hl : ∀ f ∈ l, f ∈ zna c) {f : zB} (h : Beh x l f) : f ∈ zna c := by
 have hi := hc.ins x hx
 have hm := hc.m2
 have mk : ∀ {o : Int}, (0 ≤ x.R ∧ x.R < m.Registers) → (o = -1 ∨ o = x.Place.Offset) → (⟨x.R, x.zD, o⟩ : zB) ∈ zna c := fun hr ho => zum.2 ⟨⟨hr.1, by show x.R < 8; omega⟩, x, hx, rfl, ho⟩
 have about : ∀ g ∈ l, (0 ≤ x.R ∧ x.R < m.Registers) → (⟨x.R, g.zD, g.Offset⟩ : zB) ∈ zna c := fun g hg hr => by
  obtain ⟨_, y, hy, h1, h2⟩ := zum.1 (hl g hg); exact zum.2 ⟨⟨hr.1, by show x.R < 8; omega⟩, y, hy, h1, h2⟩
 unfold Beh at h
 split at h
 · rename_i e; rcases h with ⟨h, _⟩ | rfl | ⟨hb, rfl | ⟨_, _, _, _, g, hg, _, rfl⟩⟩
   · exact hl _ h
   · exact mk (hi.r (.inl e)) (.inl rfl)
   · exact mk (hi.r (.inl e)) (.inr rfl)
   · exact about g hg (hi.r (.inl e))
 · split at h
   · rcases h with ⟨h, _⟩ | rfl
     · exact hl _ h
     · exact mk (hi.r (by omega)) (.inl rfl)
   · split at h
     · exact hl _ h.1
     · split at h
       · rcases h with ⟨h, _⟩ | ⟨g, hg, _, rfl⟩
         · exact hl _ h
         · exact about g hg (hi.r (by omega))
       · split at h
         · rcases h with ⟨_, h, _⟩ | ⟨hb, ⟨h, _⟩ | ⟨e1, _, rfl⟩⟩
           · exact hl _ h
           · exact hl _ h
           · exact mk (hi.r (by omega)) (.inr rfl)
         · split at h
           · exact hl _ h.1
           · exact hl _ h
theorem z3b {x : zC} {l l' : List zB} (hs : ∀ f ∈ l, f ∈ l') {f : zB} (h : Beh x l f) : Beh x l' f := by
 unfold Beh at h ⊢
 split
 · rename_i e; rw [ifp e] at h; rcases h with ⟨h, h'⟩ | h | ⟨hb, h | ⟨a, ha, h1, h2, g, hg, h3, h4⟩⟩
   · exact .inl ⟨hs _ h, h'⟩
   · exact .inr (.inl h)
   · exact .inr (.inr ⟨hb, .inl h⟩)
   · exact .inr (.inr ⟨hb, .inr ⟨a, hs _ ha, h1, h2, g, hs _ hg, h3, h4⟩⟩)
 · rename_i e; rw [ifn e] at h; split
   · rename_i e; rw [ifp e] at h; rcases h with ⟨h, h'⟩ | h
     · exact .inl ⟨hs _ h, h'⟩
     · exact .inr h
   · rename_i e; rw [ifn e] at h; split
     · rename_i e; rw [ifp e] at h; exact ⟨hs _ h.1, h.2⟩
     · rename_i e; rw [ifn e] at h; split
       · rename_i e; rw [ifp e] at h; rcases h with ⟨h, h'⟩ | ⟨g, hg, h1, h2⟩
         · exact .inl ⟨hs _ h, h'⟩
         · exact .inr ⟨g, hs _ hg, h1, h2⟩
       · rename_i e; rw [ifn e] at h; split
         · rename_i e; rw [ifp e] at h; rcases h with ⟨hb, h, h'⟩ | ⟨hb, ⟨h, h'⟩ | ⟨h1, h2, h3⟩⟩
           · exact .inl ⟨hb, hs _ h, h'⟩
           · exact .inr ⟨hb, .inl ⟨hs _ h, h'⟩⟩
           · exact .inr ⟨hb, .inr ⟨h1, hs _ h2, h3⟩⟩
         · rename_i e; rw [ifn e] at h; split
           · rename_i e; rw [ifp e] at h; exact ⟨hs _ h.1, h.2⟩
           · rename_i e; rw [ifn e] at h; exact hs _ h
def fxB (c : zF) (R : Nat → Bool) (k : Nat) : Bool := zhc c k || !R k
def Nok (c : zF) (R : Nat → Bool) (D : Nat → Bool) (G : Nat → List zB) (i : Nat) : Prop :=
 ∀ x, c.zA[i]? = some x → ∀ k : Nat, (k : Int) ∈ zaw c i → fxB c R k = false → D k = true ∧ ∀ f ∈ G k, Beh x (G i) f
structure Cl (c : zF) (R : Nat → Bool) (D : Nat → Bool) (G : Nat → List zB) : Prop where
 fx : ∀ k, k < c.zA.length → fxB c R k = true → D k = true ∧ G k = []
 st : ∀ i, i < c.zA.length → D i = true → Nok c R D G i
structure Inv (m : zI) (c : zF) (R : Nat → Bool) (D : Nat → Bool) (G : Nat → List zB) : Prop where
 so : ∀ k, zez (G k)
 ok : ∀ k, ∀ f ∈ G k, FctV m c f
 un : ∀ k, ∀ f ∈ G k, f ∈ zna c
 no : ∀ k, D k = false → G k = []
 fx : ∀ k, k < c.zA.length → fxB c R k = true → D k = true ∧ G k = []
 ab : ∀ D' G', Cl c R D' G' → ∀ k, k < c.zA.length → D k = true → D' k = true ∧ ∀ f ∈ G' k, f ∈ G k
theorem zq1 {l : List zB} (h : zez l) : l.Nodup := by
 unfold List.Nodup
 refine List.Pairwise.imp ?_ h
 intro a b hab e
 subst e
 rw [Proofs.Tryz.ltF_swo.1] at hab
 cases hab
theorem zo5 (hc : CdV m c) {R D : Nat → Bool} {G : Nat → List zB} (h : Inv m c R D G) (k : Nat) : (G k).length ≤ 3840 := Nat.le_trans (zs4 _ _ (zq1 (h.so k)) (h.un k)) (zyf hc)
theorem zz0 (hc : CdV m c) {R D D' : Nat → Bool} {G G' : Nat → List zB} (h : Inv m c R D G) (h2 : Cl c R D G) (g : Inv m c R D' G') (g2 : Cl c R D' G') : ∀ k, k < c.zA.length → D k = D' k ∧ G k = G' k := by
 intro k hk
 have e : D k = D' k := by
  rw [Bool.eq_iff_iff]; exact ⟨fun hd => (h.ab D' G' g2 k hk hd).1, fun hd => (g.ab D G h2 k hk hd).1⟩
 refine ⟨e, ?_⟩
 cases hd : D k with
 | false => rw [h.no k hd, g.no k (by rw [← e]; exact hd)]
 | true =>
  have hd' : D' k = true := by rw [← e]; exact hd
  exact Proofs.Tryz.strict_unique _ Proofs.Tryz.ltF_swo.1 Proofs.Tryz.ltF_swo.2.1 _ _ (h.so k) (g.so k) fun f => ⟨fun hf => (g.ab D G h2 k hk hd').2 f hf, fun hf => (h.ab D' G' g2 k hk hd).2 f hf⟩
def mea (D : Nat → Bool) (G : Nat → List zB) : Nat → Nat
 | 0 => 0
 | n + 1 => mea D G n + cond (D n) (G n).length 3841
theorem zwz {D : Nat → Bool} {G : Nat → List zB} (h : ∀ k, (G k).length ≤ 3840) : ∀ n, mea D G n ≤ n * 3841
 | 0 => Nat.le_refl _
 | n + 1 => by
  have := zwz (D := D) h n; have := h n; simp only [mea, Nat.succ_mul]; cases D n <;> simp <;> omega
theorem zyq (D : Nat → Bool) (G : Nat → List zB) (x : Nat) (v : List zB) : ∀ n, mea (upd D x) (zfc G x v) n + cond (decide (x < n)) (cond (D x) (G x).length 3841) 0 = mea D G n + cond (decide (x < n)) v.length 0
 | 0 => by simp [mea]
 | n + 1 => by
  have ih := zyq D G x v n; simp only [mea]
  by_cases e : n = x
  · subst e; rw [dcf (Nat.lt_irrefl n)] at ih; simp only [cfa, Nat.add_zero] at ih; rw [dct (Nat.lt_succ_self n), ih]; have h1 : upd D n n = true := by simp [upd]
    have h2 : zfc G n v n = v := by simp [zfc]
    rw [h1, h2]; simp only [ctr]; omega
  · have h1 : upd D x n = D n := by simp [upd, e]
    have h2 : zfc G x v n = G n := by simp [zfc, e]
    have h3 : decide (x < n + 1) = decide (x < n) := by
     by_cases h : x < n
     · rw [dct h, dct (by omega)]
     · rw [dcf h, dcf (by omega)]
    rw [h1, h2, h3]; omega
theorem zvg {D D' : Nat → Bool} {G G' : Nat → List zB} : ∀ n, (∀ k, k < n → D k = D' k ∧ G k = G' k) → mea D G n = mea D' G' n
 | 0, _ => rfl
 | n + 1, h => by simp only [mea]; rw [zvg n (fun k hk => h k (by omega)), (h n (by omega)).1, (h n (by omega)).2]
def nxt (D : Nat → Bool) (G : Nat → List zB) (r : List zB) (k : Nat) : List zB := cond (D k) ((G k).filter fun f => ze6 r f) r
theorem z2x (hc : CdV m c) {R D : Nat → Bool} {G : Nat → List zB} (h : Inv m c R D G) {r : List zB} {k : Nat} (hk : k < c.zA.length) (hf : fxB c R k = false) (hs : zez r) (ho : ∀ f ∈ r, FctV m c f) (hu : ∀ f ∈ r, f ∈ zna c)
 (hr : ∀ D' G', Cl c R D' G' → D' k = true ∧ ∀ f ∈ G' k, f ∈ r) : Inv m c R (upd D k) (zfc G k (nxt D G r k)) := by
 have mem : ∀ f ∈ nxt D G r k, f ∈ r ∧ (D k = true → f ∈ G k) := fun f hf => by
  unfold nxt at hf; cases hd : D k with
  | true => rw [hd, ctr, List.mem_filter, zgj] at hf; exact ⟨hf.2, fun _ => hf.1⟩
  | false => rw [hd, cfa] at hf; exact ⟨hf, fun h => by cases h⟩
 refine ⟨fun j => ?_, fun j f hf' => ?_, fun j f hf' => ?_, fun j hj => ?_, fun j hj hfx => ?_, fun D' G' hcl j hj hd => ?_⟩
 · unfold zfc; split
   · unfold nxt; cases D k with
     | true => exact List.Pairwise.filter _ (h.so k)
     | false => exact hs
   · exact h.so j
 · unfold zfc at hf'; split at hf'
   · exact ho f (mem f hf').1
   · exact h.ok j f hf'
 · unfold zfc at hf'; split at hf'
   · exact hu f (mem f hf').1
   · exact h.un j f hf'
 · unfold upd at hj; split at hj
   · cases hj
   · rename_i e; unfold zfc; rw [ifn e]; exact h.no j hj
 · have e : j ≠ k := fun e => by subst e; rw [hf] at hfx; cases hfx
   unfold upd zfc; rw [ifn e, ifn e]; exact h.fx j hj hfx
 · unfold zfc; unfold upd at hd; split at hd
   · rename_i e; subst e; obtain ⟨q1, q2⟩ := hr D' G' hcl; refine ⟨q1, fun f hf' => ?_⟩; rw [ifp rfl]; unfold nxt; cases hd2 : D j with
     | true => rw [ctr, List.mem_filter, zgj]; exact ⟨(h.ab D' G' hcl j hj hd2).2 f hf', q2 f hf'⟩
     | false => exact q2 f hf'
   · rename_i e; rw [ifn e]; exact h.ab D' G' hcl j hj hd
variable {m : zI} {c : zF} {R : Nat → Bool}
def zi9 (c : zF) (R D : Nat → Bool) (G : Nat → List zB) (r : List zB) (k : Nat) : Bool := !fxB c R k && (!D k || decide ((nxt D G r k).length < (G k).length))
theorem z5r (D : Nat → Bool) (G : Nat → List zB) (r : List zB) (k : Nat) (hd : D k = true) : (nxt D G r k).length ≤ (G k).length := by
 unfold nxt
 rw [hd, ctr]
 exact List.length_filter_le _ _
theorem z1r {D : Nat → Bool} {G : Nat → List zB} {r : List zB} {k : Nat} (he : zi9 c R D G r k = false) (hf : fxB c R k = false) : D k = true ∧ ∀ f ∈ G k, f ∈ r := by
 unfold zi9 at he
 rw [hf, Bool.not_false, Bool.true_and, Bool.or_eq_false_iff, Bool.not_eq_false'] at he
 refine ⟨he.1, fun f hf' => ?_⟩
 have h2 := of_decide_eq_false he.2
 have h3 : (G k).filter (fun f => ze6 r f) = G k := by
  have hl : ((G k).filter fun f => ze6 r f).length = (G k).length := by
   have h4 : nxt D G r k = (G k).filter fun f => ze6 r f := by unfold nxt; rw [he.1]; rfl
   rw [h4] at h2; have := List.length_filter_le (fun f => ze6 r f) (G k); omega
  rw [List.filter_eq_self]; exact List.length_filter_eq_length_iff.1 hl
 rw [← h3] at hf'
 exact zgj.1 (List.mem_filter.1 hf').2
theorem zyx (hc : CdV m c) {D : Nat → Bool} {G : Nat → List zB} {r : List zB} (hr : r.length ≤ 3840) {k : Nat} (hk : k < c.zA.length) (he : zi9 c R D G r k = true) :
 mea (upd D k) (zfc G k (nxt D G r k)) c.zA.length < mea D G c.zA.length := by
 have h := zyq D G k (nxt D G r k) c.zA.length
 rw [dct hk] at h
 simp only [ctr] at h
 unfold zi9 at he
 rw [Bool.and_eq_true, Bool.or_eq_true] at he
 cases hd : D k with
 | false =>
  rw [hd] at h; have : nxt D G r k = r := by unfold nxt; rw [hd]; rfl
  rw [this] at h ⊢; simp only [cfa] at h; omega
 | true =>
  rw [hd] at h he; have := of_decide_eq_true (he.2.resolve_left (by decide)); simp only [ctr] at h; omega
theorem z4m {D : Nat → Bool} {G : Nat → List zB} {r : List zB} {k i : Nat} (hne : i ≠ k) (h : Nok c R D G i) : Nok c R (upd D k) (zfc G k (nxt D G r k)) i := by
 intro x hx q hq hf
 obtain ⟨h1, h2⟩ := h x hx q hq hf
 have e : zfc G k (nxt D G r k) i = G i := by unfold zfc; rw [ifn hne]
 rw [e]
 refine ⟨by unfold upd; split <;> first | rfl | exact h1, fun f hf' => ?_⟩
 unfold zfc at hf'
 split at hf'
 · rename_i eq; subst eq; unfold nxt at hf'; rw [h1, ctr] at hf'; exact h2 f (List.mem_filter.1 hf').1
 · exact h2 f hf'
structure Giv (m : zI) (c : zF) (R : Nat → Bool) (i : Nat) (x : zC) (gi r : List zB) : Prop where
 at_ : c.zA[i]? = some x
 mem : ∀ f, f ∈ r ↔ Beh x gi f
 so : zez r
 ok : ∀ f ∈ r, FctV m c f
 un : ∀ f ∈ r, f ∈ zna c
 ab : ∀ D' G', Cl c R D' G' → D' i = true ∧ ∀ f ∈ G' i, f ∈ gi
theorem zr0 (hc : CdV m c) {i : Nat} {x : zC} {gi r : List zB} (h : Giv m c R i x gi r) : r.length ≤ 3840 := Nat.le_trans (zs4 _ _ (zq1 h.so) h.un) (zyf hc)
theorem z1m (hc : CdV m c) {D : Nat → Bool} {G : Nat → List zB} (h : Inv m c R D G) {i : Nat} (hi : i < c.zA.length) (hd : D i = true) {r : List zB} (hm : ∀ f, f ∈ r ↔ Beh c.zA[i] (G i) f) (hs : zez r) : Giv m c R i c.zA[i] (G i) r :=
 ⟨lge hi, hm, hs, fun f hf => z1z (hc.ins _ (List.getElem_mem hi)) (h.ok i) ((hm f).1 hf), fun f hf => z43 hc (List.getElem_mem hi) (h.un i) ((hm f).1 hf), fun D' G' hcl => h.ab D' G' hcl i hi hd⟩
theorem z21 {i : Nat} (hi : i < c.zA.length) {x : zC} {gi r : List zB} (h : Giv m c R i x gi r) {k : Nat} (hk : (k : Int) ∈ zaw c i) (hf : fxB c R k = false) : ∀ D' G', Cl c R D' G' → D' k = true ∧ ∀ f ∈ G' k, f ∈ r := by
 intro D' G' hcl
 obtain ⟨h1, h2⟩ := h.ab D' G' hcl
 obtain ⟨h3, h4⟩ := hcl.st i hi h1 x h.at_ k hk hf
 exact ⟨h3, fun f hf' => (h.mem f).2 (z3b h2 (h4 f hf'))⟩
theorem zyr (hc : CdV m c) {D : Nat → Bool} {G : Nat → List zB} (h : Inv m c R D G) {i : Nat} (hi : i < c.zA.length) {x : zC} {gi r : List zB} (g : Giv m c R i x gi r) {k : Nat} (hkl : k < c.zA.length) (hk : (k : Int) ∈ zaw c i) (he : zi9 c R D G r k = true) :
 Inv m c R (upd D k) (zfc G k (nxt D G r k)) := by
 have hf : fxB c R k = false := by
  unfold zi9 at he; rw [Bool.and_eq_true, Bool.not_eq_true'] at he; exact he.1
 exact z2x hc h hkl hf g.so g.ok g.un (z21 hi g hk hf)
theorem zws {D : Nat → Bool} {G : Nat → List zB} {r : List zB} {k : Nat} : (upd D k) k = true ∧ ∀ f ∈ zfc G k (nxt D G r k) k, f ∈ r := by
 refine ⟨by simp [upd], fun f hf => ?_⟩
 unfold zfc at hf
 rw [ifp rfl] at hf
 unfold nxt at hf
 cases hd : D k with
 | true => rw [hd, ctr, List.mem_filter, zgj] at hf; exact hf.2
 | false => rw [hd, cfa] at hf; exact hf
theorem zp3 {D : Nat → Bool} {G : Nat → List zB} {r : List zB} {k q : Nat} (hd : D q = true) : (upd D k) q = true ∧ ∀ f ∈ zfc G k (nxt D G r k) q, f ∈ G q := by
 refine ⟨by unfold upd; split <;> first | rfl | exact hd, fun f hf => ?_⟩
 unfold zfc at hf
 split at hf
 · rename_i e; subst e; unfold nxt at hf; rw [hd, ctr] at hf; exact (List.mem_filter.1 hf).1
 · exact hf
structure QS (m : zI) (c : zF) (R : Nat → Bool) (i : Nat) (gi r : List zB) (M0 j : Nat) (D : Nat → Bool) (G : Nat → List zB) (o : List Int) : Prop where
 inv : Inv m c R D G
 mem : ∀ z ∈ o, ∃ k : Nat, z = (k : Int) ∧ k < c.zA.length ∧ D k = true
 di : D i = true
 gi : (i : Int) ∈ o ∨ G i = gi
 a : ∀ i', i' < c.zA.length → i' ≠ i → D i' = true → (i' : Int) ∈ o ∨ Nok c R D G i'
 b : ∀ t, t < j → ∀ k : Nat, (zaw c i)[t]? = some (k : Int) → fxB c R k = false → D k = true ∧ ∀ f ∈ G k, f ∈ r
 le : o.length + mea D G c.zA.length ≤ M0
theorem z4g (hc : CdV m c) {i : Nat} (hi : i < c.zA.length) {x : zC} {gi r : List zB} (g : Giv m c R i x gi r) {M0 j : Nat} {D : Nat → Bool} {G : Nat → List zB} {o : List Int} (h : QS m c R i gi r M0 j D G o) {k : Nat} (hj : (zaw c i)[j]? = some (k : Int)) (hkl : k < c.zA.length) :
 (zi9 c R D G r k = true → QS m c R i gi r M0 (j + 1) (upd D k) (zfc G k (nxt D G r k)) (o ++ [(k : Int)])) ∧ (zi9 c R D G r k = false → QS m c R i gi r M0 (j + 1) D G o) := by
 constructor
 · intro he; refine ⟨zyr hc h.inv hi g hkl (lmg hj) he, fun z hz => ?_, (zp3 (G := G) (r := r) h.di).1, ?_, fun i' hi' hne hd => ?_, fun t ht q hq hf => ?_, ?_⟩
   · rcases List.mem_append.1 hz with hz | hz
     · obtain ⟨q, e, hq, hd⟩ := h.mem z hz; exact ⟨q, e, hq, (zp3 (G := G) (r := r) hd).1⟩
     · obtain rfl : z = (k : Int) := by simpa using hz
       exact ⟨k, rfl, hkl, by simp [upd]⟩
   · by_cases e : i = k
     · subst e; exact .inl (by simp)
     · rcases h.gi with hg | hg
       · exact .inl (by simp [hg])
       · exact .inr (by unfold zfc; rw [ifn e]; exact hg)
   · by_cases e : i' = k
     · subst e; exact .inl (by simp)
     · unfold upd at hd; rw [ifn e] at hd; rcases h.a i' hi' hne hd with ha | ha
       · exact .inl (by simp [ha])
       · exact .inr (z4m e ha)
   · by_cases e : t = j
     · subst e; rw [hj] at hq; obtain rfl : k = q := by have := Option.some.inj hq; omega
       exact zws
     · obtain ⟨h1, h2⟩ := h.b t (by omega) q hq hf; obtain ⟨h3, h4⟩ := zp3 (G := G) (r := r) (k := k) h1; exact ⟨h3, fun f hf' => h2 f (h4 f hf')⟩
   · have := zyx hc (zr0 hc g) hkl he; have := h.le; simp only [lna, lns]; omega
 · intro he; refine ⟨h.inv, h.mem, h.di, h.gi, h.a, fun t ht q hq hf => ?_, h.le⟩
   by_cases e : t = j
   · subst e; rw [hj] at hq; obtain rfl : k = q := by have := Option.some.inj hq; omega
     exact z1r he hf
   · exact h.b t (by omega) q hq hf
theorem z0m (N : Nat) (hN : 1048600 < N) (hc : CdV m c) {i : Nat} (hi : i < c.zA.length) {x : zC} {gi r : List zB} (g : Giv m c R i x gi r) {M0 : Nat} (hM : M0 ≤ 1000000) {D : Nat → Bool} {G : Nat → List zB} {o : List Int} (h : QS m c R i gi r M0 0 D G o) :
 ∃ D' G' o', zd (ze.r4 N) N (zb4 c, (List.range c.zA.length).map R, (List.range c.zA.length).map G, (List.range c.zA.length).map D, r, zaw c i, ((zaw c i).length : Int), 0, o, c) =
  some (zb4 c, (List.range c.zA.length).map R, (List.range c.zA.length).map G', (List.range c.zA.length).map D', r, zaw c i, ((zaw c i).length : Int), ((zaw c i).length : Int), o', c) ∧ QS m c R i gi r M0 (zaw c i).length D' G' o' := by
 have hl := hc.len
 have hsl := zpm (c := c) (i := i)
 have hrl := zr0 hc g
 obtain ⟨s, hs, D', G', o', rfl, hq⟩ := zfb (f := ze.r4 N) (fun j s => ∃ D G o, s = (zb4 c, (List.range c.zA.length).map R, (List.range c.zA.length).map G, (List.range c.zA.length).map D, r, zaw c i, ((zaw c i).length : Int), (j : Int), o, c) ∧ QS m c R i gi r M0 j D G o) (zaw c i).length (by
  rintro j s hj ⟨D, G, o, rfl, h⟩
  have hx := lge hj; obtain ⟨k, hk0, hkl⟩ := zjv hc (List.getElem_mem hj); rw [hk0] at hx; obtain ⟨q1, q2⟩ := z4g hc hi g h hx hkl; have hent : (zb4 c)[k]? = some (zhc c k) := zcg _ hkl; have hR : ((List.range c.zA.length).map R)[k]? = some (R k) := zcg _ hkl; have hD : ((List.range c.zA.length).map D)[k]? = some (D k) := zcg _ hkl; have hG : ((List.range c.zA.length).map G)[k]? = some (G k) := zo4 _ hkl; have hgl := zo5 hc h.inv k; have hol : o.length + 1 ≤ 1000000 ∨ zi9 c R D G r k = false := by
   cases he : zi9 c R D G r k with
   | false => exact .inr rfl
   | true =>
    have := (q1 he).le; simp only [lna, lns] at this; exact .inl (by omega)
  have hstep : ze.r4 N (zb4 c, (List.range c.zA.length).map R, (List.range c.zA.length).map G, (List.range c.zA.length).map D, r, zaw c i, ((zaw c i).length : Int), (j : Int), o, c) =
   some (.again (if zi9 c R D G r k = true then (zb4 c, (List.range c.zA.length).map R, (List.range c.zA.length).map (zfc G k (nxt D G r k)), (List.range c.zA.length).map (upd D k), r, zaw c i, ((zaw c i).length : Int), ((j + 1 : Nat) : Int), o ++ [(k : Int)], c)
    else (zb4 c, (List.range c.zA.length).map R, (List.range c.zA.length).map G, (List.range c.zA.length).map D, r, zaw c i, ((zaw c i).length : Int), ((j + 1 : Nat) : Int), o, c))) := by
   simp only [ze.r4, ze.b4, zay, hx, hent, hR, hD, hG, obs, dct (show (j : Int) < ((zaw c i).length : Int) by omega), ctr, itn, lnm, List.length_range, ifp (show 0 ≤ (k : Int) by omega), ifp (show (k : Int) < (c.zA.length : Int) by omega), orB]; rw [w6e, zow, zp4 G]; have hj1 : (j : Int) + 1 = ((j + 1 : Nat) : Int) := by omega
   rw [hj1]; have hfx : (zhc c k || !R k) = fxB c R k := rfl; rw [hfx]; unfold zi9 at hol ⊢; cases hf : fxB c R k with
   | true => simp
   | false =>
    rw [hf] at hol; cases hd : D k with
    | true =>
     have hn : nxt D G r k = (G k).filter fun f => ze6 r f := by unfold nxt; rw [hd]; rfl
     rw [hd] at hol; simp only [cfa, ctr, Bool.not_false, bnt, Bool.true_and, Bool.false_or]; rw [z0o N (G k) r (by omega) (by omega) (by omega) (by omega), obs, ← hn, zp4 G]
     by_cases hlt : (nxt D G r k).length < (G k).length
     · rw [dct (show ((nxt D G r k).length : Int) < ((G k).length : Int) by omega), dct hlt]; have : o.length + 1 ≤ 1000000 := by
        rcases hol with h | h
        · exact h
        · rw [dct hlt] at h; simp at h
       simp [zos this]
     · rw [dcf (show ¬ ((nxt D G r k).length : Int) < ((G k).length : Int) by omega), dcf hlt]; simp
    | false =>
     have hn : nxt D G r k = r := by unfold nxt; rw [hd]; rfl
     rw [hd] at hol; have : o.length + 1 ≤ 1000000 := by
      rcases hol with h | h
      · exact h
      · simp at h
     rw [hn]; simp [zos this]
  cases he : zi9 c R D G r k with
  | true => rw [he, ifp rfl] at hstep; exact ⟨_, hstep, _, _, _, rfl, q1 he⟩
  | false => rw [he, ifn (by decide)] at hstep; exact ⟨_, hstep, _, _, _, rfl, q2 he⟩)
  (by
   rintro s ⟨D, G, o, rfl, h⟩
   refine ⟨_, ?_, D, G, o, rfl, h⟩; simp only [ze.r4, ze.b4]; rw [dcf (Int.lt_irrefl _)]; rfl) (N := N) (by omega) (s := (zb4 c, (List.range c.zA.length).map R, (List.range c.zA.length).map G, (List.range c.zA.length).map D, r, zaw c i, ((zaw c i).length : Int), 0, o, c)) ⟨D, G, o, rfl, h⟩
 exact ⟨D', G', o', hs, hq⟩
variable {m : zI} {c : zF} {R : Nat → Bool}
theorem zp9 {α : Type} {f : α → Option (Stp α)} (I : Nat → α → Prop) (J : α → Prop) (h : ∀ n s, I n s → (∃ s' n', f s = some (.again s') ∧ I n' s' ∧ n' < n) ∨ (∃ s', f s = some (.leave s') ∧ J s')) :
 ∀ (N : Nat) (n : Nat) (s : α), I n s → n < N → ∃ s', zd f N s = some s' ∧ J s'
 | 0, n, s, _, hN => by omega
 | N + 1, n, s, hI, hN => by
  rcases h n s hI with ⟨s', n', h1, h2, h3⟩ | ⟨s', h1, h2⟩
  · obtain ⟨s2, h4, h5⟩ := zp9 I J h N n' s' h2 (by omega); exact ⟨s2, by rw [zd, h1]; exact h4, h5⟩
  · exact ⟨s', by rw [zd, h1]; rfl, h2⟩
theorem zvb {α : Type} (n : Nat) (v : α) : List.replicate n v = (List.range n).map fun _ => v := by
 apply List.ext_getElem
 · simp
 · intro i h1 h2; simp
theorem zvh : Inv m c R (fxB c R) (fun _ => []) where
 so k := List.Pairwise.nil
 ok k f hf := by simp at hf
 un k f hf := by simp at hf
 no k _ := rfl
 fx k hk hf := ⟨hf, rfl⟩
 ab D' G' hcl k hk hd := by
  obtain ⟨h1, h2⟩ := hcl.fx k hk hd; exact ⟨h1, fun f hf => by rw [h2] at hf; exact hf⟩
theorem z0n (N : Nat) (hN : 1048600 < N) (hc : CdV m c) : ∃ o, zd (ze.r0 N) N (zb4 c, (List.range c.zA.length).map R, (List.range c.zA.length).map (fun _ => ([] : List zB)), (List.range c.zA.length).map (fun _ => false), [], (c.zA.length : Int), 0, c) =
 some (zb4 c, (List.range c.zA.length).map R, (List.range c.zA.length).map (fun _ => ([] : List zB)), (List.range c.zA.length).map (fxB c R), o, (c.zA.length : Int), (c.zA.length : Int), c) ∧
 (∀ z ∈ o, ∃ k : Nat, z = (k : Int) ∧ k < c.zA.length ∧ fxB c R k = true) ∧ (∀ k, k < c.zA.length → fxB c R k = true → (k : Int) ∈ o) ∧ o.length ≤ c.zA.length := by
 have hl := hc.len
 obtain ⟨s, hs, o, rfl, h1, h2, h3⟩ := zfb (f := ze.r0 N) (fun i s => ∃ o, s = (zb4 c, (List.range c.zA.length).map R, (List.range c.zA.length).map (fun _ => ([] : List zB)), (List.range c.zA.length).map (fun k => decide (k < i) && fxB c R k), o, (c.zA.length : Int), (i : Int), c) ∧
  (∀ z ∈ o, ∃ k : Nat, z = (k : Int) ∧ k < c.zA.length ∧ fxB c R k = true) ∧ (∀ k, k < i → fxB c R k = true → (k : Int) ∈ o) ∧ o.length ≤ i) c.zA.length (by
  rintro i s hi ⟨o, rfl, h1, h2, h3⟩
  have hent : (zb4 c)[i]? = some (zhc c i) := zcg _ hi; have hR : ((List.range c.zA.length).map R)[i]? = some (R i) := zcg _ hi; have hD : ((List.range c.zA.length).map (fun k => decide (k < i) && fxB c R k))[i]? = some (decide (i < i) && fxB c R i) := zcg _ hi; simp only [ze.r0, ze.b0, zay, hent, hR, hD, obs, dct (show (i : Int) < (c.zA.length : Int) by omega), ctr, orB, itn, lnm, List.length_range, ifp (show 0 ≤ (i : Int) by omega), ifp (show (i : Int) < (c.zA.length : Int) by omega), lnc, ln0, zos (show o.length + (0 + 1) ≤ 1000000 by omega)]; rw [w6e, show (zhc c i || !R i) = fxB c R i from rfl, zow]; have hj1 : (i : Int) + 1 = ((i + 1 : Nat) : Int) := by omega
  rw [hj1]; cases hf : fxB c R i with
  | true =>
   refine ⟨_, rfl, o ++ [(i : Int)], ?_, fun z hz => ?_, fun k hk hfk => ?_, by simp; omega⟩
   · congr 4
     apply zm5; intro k _; unfold upd; split
     · rename_i e; subst e; rw [dct (Nat.lt_succ_self k), hf]; rfl
     · rename_i e; show (decide (k < i) && fxB c R k) = (decide (k < i + 1) && fxB c R k)
       congr 1
       by_cases h : k < i
       · rw [dct h, dct (by omega)]
       · rw [dcf h, dcf (by omega)]
   · rcases List.mem_append.1 hz with hz | hz
     · exact h1 z hz
     · obtain rfl : z = (i : Int) := by simpa using hz
       exact ⟨i, rfl, hi, hf⟩
   · by_cases e : k = i
     · subst e; simp
     · exact List.mem_append.2 (.inl (h2 k (by omega) hfk))
  | false =>
   refine ⟨_, rfl, o, ?_, h1, fun k hk hfk => ?_, by omega⟩
   · congr 4
     apply zm5; intro k _
     by_cases e : k = i
     · subst e; rw [hf]; simp
     · congr 1
       by_cases h : k < i
       · rw [dct h, dct (by omega)]
       · rw [dcf h, dcf (by omega)]
   · by_cases e : k = i
     · subst e; rw [hf] at hfk; cases hfk
     · exact h2 k (by omega) hfk)
  (by
   rintro s ⟨o, rfl, h1, h2, h3⟩
   refine ⟨_, ?_, o, rfl, h1, h2, h3⟩; simp only [ze.r0, ze.b0]; rw [dcf (Int.lt_irrefl _)]; rfl) (N := N) (by omega) (s := (zb4 c, (List.range c.zA.length).map R, (List.range c.zA.length).map (fun _ => ([] : List zB)), (List.range c.zA.length).map (fun _ => false), [], (c.zA.length : Int), 0, c)) ⟨[], by
    have e : (fun k => decide (k < 0) && fxB c R k) = fun _ => false := by funext k; simp
    rw [e]; rfl, fun z hz => by simp at hz, fun k hk => by omega, Nat.le_refl _⟩
 refine ⟨o, ?_, h1, h2, h3⟩
 rw [hs]
 congr 5
 apply zm5
 intro k hk
 rw [dct hk]
 rfl
theorem z2c (N : Nat) (hN : 1048600 < N) (hc : CdV m c) (hR : ∀ k, k < c.zA.length → R k = true → Rch c k) (he : zw N c (zb4 c) = some ((List.range c.zA.length).map R)) :
 ∃ D G, ze N c = some ((List.range c.zA.length).map G) ∧ Inv m c R D G ∧ Cl c R D G := by
 have hl := hc.len
 unfold ze
 rw [zzc N hN hc, obs, he, obs, ifp, ifp, itn, z3q (by omega), ctr, ifp, ifp, zxr (by omega), ctr, lnr, zvb, zne]
 obtain ⟨o, e0, o1, o2, o3⟩ := z0n (R := R) N hN hc
 rw [e0]
 simp only [obs]
 have hm0 := zwz (D := fxB c R) (G := fun _ => []) (fun k => by simp) c.zA.length
 obtain ⟨s, hs, D, G, rfl, h1, h2⟩ := zp9 (f := ze.r2 N) (fun n s => ∃ D G o, s = (zb4 c, (List.range c.zA.length).map R, (List.range c.zA.length).map G, (List.range c.zA.length).map D, o, c) ∧ Inv m c R D G ∧ (∀ z ∈ o, ∃ k : Nat, z = (k : Int) ∧ k < c.zA.length ∧ D k = true) ∧
  (∀ i, i < c.zA.length → D i = true → (i : Int) ∈ o ∨ Nok c R D G i) ∧ n = o.length + mea D G c.zA.length ∧ n ≤ 1000000)
  (fun s => ∃ D G, s = (zb4 c, (List.range c.zA.length).map R, (List.range c.zA.length).map G, (List.range c.zA.length).map D, [], c) ∧ Inv m c R D G ∧ ∀ i, i < c.zA.length → D i = true → Nok c R D G i) (by
  rintro n s ⟨D, G, o, rfl, h1, h2, h3, hn, hn2⟩
  cases o with
  | nil => exact .inr ⟨_, by simp [ze.r2, ze.b2], D, G, rfl, h1, fun i hi hd => (h3 i hi hd).resolve_left (by simp)⟩
  | cons z o =>
   left; obtain ⟨i, rfl, hi, hd⟩ := h2 z (by simp); have hx := lge hi; have hG : ((List.range c.zA.length).map G)[i]? = some (G i) := zo4 _ hi; have hgl := zo5 hc h1 i; have hb := z0p N (by omega) hc.m2 hc.sz (hc.ins _ (List.getElem_mem hi)) (h1.ok i) (show (G i).length < N by omega) (by omega); have g : Giv m c R i c.zA[i] (G i) (zh5 c.zA[i] (G i)) := z1m hc h1 hi hd (fun f => zy2) (z0e (h1.so i)); simp only [lnc] at hn; obtain ⟨D', G', o', e1, q⟩ := z0m N hN hc hi g (M0 := o.length + mea D G c.zA.length) (by omega) (D := D) (G := G) (o := o) ⟨h1, fun z hz => h2 z (by simp [hz]), hd, .inr rfl, fun i' hi' hne hd' => by
    rcases h3 i' hi' hd' with h | h
    · rcases List.mem_cons.1 h with h | h
      · omega
      · exact .inl h
    · exact .inr h, fun t ht => by omega, Nat.le_refl _⟩
   refine ⟨_, o'.length + mea D' G' c.zA.length, ?_, ⟨D', G', o', rfl, q.inv, q.mem, fun i' hi' hd' => ?_, rfl, ?_⟩, ?_⟩
   · simp only [ze.r2, ze.b2, lnc]; rw [dct (by omega), ctr, ifp, ifp]; simp only [Int.toNat_zero, List.getElem?_cons_zero, obs, zay, hx, itn, hG, lnm, List.length_range]; rw [ifp, ifp, ifp]; simp only [hb, obs, zyg (show c.zA.length ≤ 1000000 by omega) hi, show (1 : Int).toNat = 1 from rfl, List.drop_succ_cons, dr0, e1]
   · by_cases e : i' = i
     · subst e; rcases q.gi with hg | hg
       · exact .inl hg
       · right; intro x hx' k hk hf; rw [hx] at hx'; cases hx'; obtain ⟨t, ht⟩ := List.getElem?_of_mem hk; obtain ⟨b1, b2⟩ := q.b t (gei ht).1 k ht hf; exact ⟨b1, fun f hf' => by rw [hg]; exact (g.mem f).1 (b2 f hf')⟩
     · exact q.a i' hi' e hd'
   · have := q.le; omega
   · have := q.le; omega) N (o.length + mea (fxB c R) (fun _ => []) c.zA.length) (zb4 c, (List.range c.zA.length).map R, (List.range c.zA.length).map (fun _ => ([] : List zB)), (List.range c.zA.length).map (fxB c R), o, c)
   ⟨fxB c R, fun _ => [], o, rfl, zvh, o1, fun i hi hd => .inl (o2 i hi hd), rfl, by omega⟩ (by omega)
 rw [hs]
 exact ⟨D, G, rfl, h1, ⟨h1.fx, h2⟩⟩
end
end Go.Proofs.YtblgefddnnlniaaGreatDoor.M
