/- The plain law of HardwareSteps: part 0. -/
import Derived.Test.YtppbpnknfigboaaGreatDoorF2
import Derived.Test.YtppbpnknfigboaaGreatDoorA3
import Derived.Lib.Strings
namespace Go.Proofs.YtppbpnknfigboaaGreatDoor.M
open Go Go.Amx
set_option linter.unusedVariables false
set_option linter.unusedSimpArgs false
set_option maxRecDepth 100000
noncomputable section
theorem obs {α β : Type} (a : α) (f : α → Option β) : (some a).bind f = f a := rfl
theorem dct {p : Prop} [Decidable p] (h : p) : decide p = true := decide_eq_true h
theorem dcf {p : Prop} [Decidable p] (h : ¬ p) : decide p = false := decide_eq_false h
theorem lna {α : Type} {a b : List α} : (a ++ b).length = a.length + b.length := List.length_append
theorem lns {α : Type} {a : α} : [a].length = 1 := List.length_singleton
theorem lge {α : Type} {l : List α} {i : Nat} (h : i < l.length) : l[i]? = some l[i] := List.getElem?_eq_getElem h
theorem itn (n : Nat) : Int.toNat (n : Int) = n := Int.toNat_natCast n
theorem ctr {α : Sort _} (a b : α) : cond true a b = a := rfl
theorem cfa {α : Sort _} (a b : α) : cond false a b = b := rfl
theorem ifp {c : Prop} {h : Decidable c} (hc : c := by omega) {α : Sort _} {t e : α} : ite c t e = t := if_pos hc
theorem ifn {c : Prop} {h : Decidable c} (hc : ¬c := by omega) {α : Sort _} {t e : α} : ite c t e = e := if_neg hc
theorem bsf {α : Type _} [BEq α] [LawfulBEq α] (a : α) : (a != a) = false := bne_self_eq_false a
theorem tde {a b : Int} (h : 0 ≤ a := by omega) : a.tdiv b = a / b := Int.tdiv_eq_ediv_of_nonneg h
theorem tme {a b : Int} (h : 0 ≤ a := by omega) : a.tmod b = a % b := Int.tmod_eq_emod_of_nonneg h
theorem lnt {α : Type _} {i : Nat} {l : List α} : (l.take i).length = min i l.length := List.length_take
theorem lnr {α : Type _} {n : Nat} {a : α} : (List.replicate n a).length = n := List.length_replicate
theorem gdd {α : Type _} {l : List α} {i : Nat} {a : α} : l.getD i a = l[i]?.getD a := List.getD_eq_getElem?_getD
theorem cbc {p : Prop} (h : ¬p → False) : p := Classical.byContradiction h
theorem lnc {α : Type _} {a : α} {l : List α} : (a :: l).length = l.length + 1 := List.length_cons
theorem gei {α : Type _} {i : Nat} {a : α} {l : List α} (h : l[i]? = some a) : ∃ h : i < l.length, l[i] = a := List.getElem?_eq_some_iff.1 h
theorem eof {α β : Type _} {b : β} {f : α → Option β} {l : List α} (h : l.findSome? f = some b) : ∃ a, a ∈ l ∧ f a = some b := List.exists_of_findSome?_eq_some h
theorem ln0 {α : Type _} : ([] : List α).length = 0 := rfl
theorem lnm {α β : Type _} {l : List α} (f : α → β) : (l.map f).length = l.length := List.length_map f
theorem dr0 {α : Type _} {l : List α} : l.drop 0 = l := rfl
theorem bsa {a b : ByteArray} : (a ++ b).size = a.size + b.size := ByteArray.size_append
theorem bnt : (!true) = false := rfl
theorem mel {a b : Nat} (h : a < b) : a % b = a := Nat.mod_eq_of_lt h
theorem nc0 : ((0 : Nat) : Int) = 0 := Int.natCast_zero
theorem bst {α : Type _} [BEq α] [ReflBEq α] (a : α) : (a == a) = true := beq_self_eq_true a
theorem lmg {α : Type _} {l : List α} {i : Nat} {a : α} (h : l[i]? = some a) : a ∈ l := List.mem_of_getElem? h
theorem w6e {n : Int} (h1 : -9223372036854775808 ≤ n := by omega) (h2 : n ≤ 9223372036854775807 := by omega) : w6 n = n := zadk h1 h2
theorem zl8 (N : Nat) (l : List Int) (h : l.length < N) (hl : l.length < 1000000000) : zr N l = some (zcy l) := by
 unfold zr
 have := zb1 (f := zr.r0 N) (fun i => (l, (l.length : Int), (i : Int))) (fun i => (l[i]?).bind fun x => if x = 0 then none else some x) l.length
  (fun i hi => by
   have hx := lge hi; simp only [zr.r0, zr.b0, zan, hx, obs, dct (show (i : Int) < (l.length : Int) by omega), ctr]
   by_cases h0 : l[i] = 0
   · simp only [h0, bsf, cfa, if_true]; rw [w6e]; rfl
   · simp only [h0, if_false]; rw [show (l[i] != 0) = true by simpa using h0]; rfl)
  (by simp only [zr.r0, zr.b0, dcf (show ¬ (l.length : Int) < (l.length : Int) by omega), cfa]) h
 simp only [nc0] at this
 rw [this, zs2, ← zvx]
 simp only [obs]
 cases l.findSome? (fun x => if x = 0 then none else some x) <;> rfl
theorem zo2 (N : Nat) (l : List Int) (h : l.length < N) (hl : l.length < 1000000000) : zq N l = some (zcy l) := by
 unfold zq
 have := zb1 (f := zq.r0 N) (fun i => (l, (l.length : Int), (i : Int))) (fun i => (l[i]?).bind fun x => if x = 0 then none else some x) l.length
  (fun i hi => by
   have hx := lge hi; simp only [zq.r0, zq.b0, zan, hx, obs, dct (show (i : Int) < (l.length : Int) by omega), ctr]
   by_cases h0 : l[i] = 0
   · simp only [h0, bsf, cfa, if_true]; rw [w6e]; rfl
   · simp only [h0, if_false]; rw [show (l[i] != 0) = true by simpa using h0]; rfl)
  (by simp only [zq.r0, zq.b0, dcf (show ¬ (l.length : Int) < (l.length : Int) by omega), cfa]) h
 simp only [nc0] at this
 rw [this, zs2, ← zvx]
 simp only [obs]
 cases l.findSome? (fun x => if x = 0 then none else some x) <;> rfl
def inB (n lo hi : Int) : Bool := decide (lo ≤ n) && decide (n ≤ hi)
theorem zmn (n lo hi : Int) : zaa n lo hi = some (inB n lo hi) := by
 unfold zaa inB
 cases decide (lo ≤ n) <;> rfl
theorem z1n (n lo hi : Int) : zei n lo hi = some (inB n lo hi) := by
 unfold zei inB
 cases decide (lo ≤ n) <;> rfl
theorem zgy (n lo hi : Int) : zf n lo hi = some (inB n lo hi) := by
 unfold zf inB
 cases decide (lo ≤ n) <;> rfl
theorem zlj (b : Bool) (e : Int) : zae b e = some (cond b e 0) := by cases b <;> rfl
theorem zo3 (b : Bool) (e : Int) : zau b e = some (cond b e 0) := by cases b <;> rfl
theorem zhq (b : Bool) : za5 b = some (cond b 1 0) := by cases b <;> rfl
theorem zzi (m : zJ) : ∃ e, zf9 m = some e ∧ zi8 m = some e ∧ (e = 0 → 2 ≤ m.Registers ∧ m.Registers ≤ 8) := by
 refine ⟨cond (!inB m.Registers 2 8) 3 0, ?_, ?_, ?_⟩
 · simp only [zf9, zmn, zlj, obs]
 · simp only [zi8, zgy, obs]; cases inB m.Registers 2 8 <;> rfl
 · intro h; cases hb : inB m.Registers 2 8 with
   | false => rw [hb] at h; cases h
   | true => simpa [inB] using hb
def zdx (t : DataType) : Int :=
 if t.Kind = 0 then (if inB t.Length 1 256 then (if t.Scale = 0 then 0 else 3) else 18)
 else if t.Kind = 1 ∨ t.Kind = 2 then (if inB t.Length 1 15 then (if inB t.Scale 0 t.Length then 0 else 3) else 18)
 else if t.Kind = 3 then (if t.Length = 4 ∨ t.Length = 9 then (if inB t.Scale 0 t.Length then 0 else 3) else 18)
 else if t.Kind = 4 then (if t.Length = 0 then (if t.Scale = 0 then 0 else 3) else 18)
 else 4
theorem zaev (a b : Bool) (x y : Int) (hx : x ≠ 0) (hy : y ≠ 0) : zcy [cond a x 0, cond b y 0] = cond a x (cond b y 0) := by
 cases a <;> cases b <;> simp [zcy, hx, hy]
theorem zq1 (N : Nat) (hN : 10 < N) (t : DataType) : zbj N t = some (zdx t) := by
 have f2 : ∀ a b : Int, zq N [a, b] = some (zcy [a, b]) := fun a b => zo2 N _ (by simp; omega) (by simp)
 unfold zbj zdx
 simp only [z1n, zo3, f2, obs, zaev _ _ 18 3 (by decide) (by decide)]
 by_cases h0 : t.Kind = 0
 · simp only [h0, bst, ctr, if_true]; cases inB t.Length 1 256 <;> by_cases hs : t.Scale = 0 <;> simp [zar, hs]
 · simp only [beq_eq_false_iff_ne.2 h0, h0, cfa, if_false]
   by_cases h1 : t.Kind = 1
   · simp only [h1, bst, ctr, true_or, if_true, obs]; cases inB t.Length 1 15 <;> cases inB t.Scale 0 t.Length <;> simp
   · by_cases h2 : t.Kind = 2
     · simp only [h2, h1]; cases inB t.Length 1 15 <;> cases inB t.Scale 0 t.Length <;> simp
     · by_cases h3 : t.Kind = 3
       · simp only [h3]
         by_cases h4 : t.Length = 4 <;> by_cases h5 : t.Length = 9 <;> cases inB t.Scale 0 t.Length <;> simp [zar, h4, h5]
       · by_cases h4 : t.Kind = 4
         · simp only [h4]
           by_cases h5 : t.Length = 0 <;> by_cases h6 : t.Scale = 0 <;> simp [zar, h5, h6]
         · simp [zar, h1, h2, h3, h4]
theorem zto (k : Int) : zcs k = some (inB k 1 3) := by simp only [zcs, zgy, obs]
theorem zz6 (t : DataType) : zft t = some (zdx t) := by
 have w0' : w6 0 = 0 := by decide
 have w1 : w6 3 = 3 := by decide
 have hz : inB t.Scale 0 0 = decide (t.Scale = 0) := by
  unfold inB
  by_cases h : t.Scale = 0
  · simp [h]
  · simp only [h, decide_false]
    by_cases h1 : 0 ≤ t.Scale
    · simp [h1, show ¬ t.Scale ≤ 0 by omega]
    · simp [h1]
 unfold zft zdx
 simp only [zgy, zto, zhq, obs, hz]
 by_cases h0 : t.Kind = 0
 · have e : inB (0 : Int) 0 4 = true := by decide
   have e' : inB (0 : Int) 1 3 = false := by decide
   simp only [h0, e, e']; cases inB t.Length 1 256 <;> by_cases hs : t.Scale = 0 <;> simp [zar, hs, w0', w1]
 · by_cases h1 : t.Kind = 1
   · have e : inB (1 : Int) 0 4 = true := by decide
     have e' : inB (1 : Int) 1 3 = true := by decide
     simp only [h1, e, e']; cases inB t.Length 1 15 <;> cases inB t.Scale 0 t.Length <;> simp [w0', w1]
   · by_cases h2 : t.Kind = 2
     · have e : inB (2 : Int) 0 4 = true := by decide
       have e' : inB (2 : Int) 1 3 = true := by decide
       simp only [h2, e, e']; cases inB t.Length 1 15 <;> cases inB t.Scale 0 t.Length <;> simp [w0', w1]
     · by_cases h3 : t.Kind = 3
       · have e : inB (3 : Int) 0 4 = true := by decide
         have e' : inB (3 : Int) 1 3 = true := by decide
         simp only [h3, e, e']
         by_cases h4 : t.Length = 4 <;> by_cases h5 : t.Length = 9 <;> cases inB t.Scale 0 t.Length <;> simp [zar, h4, h5, w0', w1]
       · by_cases h4 : t.Kind = 4
         · have e : inB (4 : Int) 0 4 = true := by decide
           have e' : inB (4 : Int) 1 3 = false := by decide
           simp only [h4, e, e']
           by_cases h5 : t.Length = 0 <;> by_cases h6 : t.Scale = 0 <;> simp [zar, h5, h6, w0', w1]
         · have e : inB t.Kind 0 4 = false := by
            unfold inB
            by_cases hh : 0 ≤ t.Kind
            · simp only [hh, decide_true, Bool.true_and, decide_eq_false_iff_not]; omega
            · simp [hh]
           simp [zar, h0, h1, h2, h3, h4, e]
theorem za6 {n lo hi : Int} : inB n lo hi = true ↔ lo ≤ n ∧ n ≤ hi := by simp [inB]
theorem zn2 {t : DataType} (h : zdx t = 0) : (t.Kind = 0 ∧ 1 ≤ t.Length ∧ t.Length ≤ 256) ∨ ((t.Kind = 1 ∨ t.Kind = 2) ∧ 1 ≤ t.Length ∧ t.Length ≤ 15) ∨ (t.Kind = 3 ∧ (t.Length = 4 ∨ t.Length = 9)) ∨ (t.Kind = 4 ∧ t.Length = 0) := by
 unfold zdx at h
 split at h
 · rename_i h0; split at h
   · rename_i h1; exact .inl ⟨h0, (za6.1 h1).1, (za6.1 h1).2⟩
   · cases h
 · split at h
   · rename_i h0; split at h
     · rename_i h1; exact .inr (.inl ⟨h0, (za6.1 h1).1, (za6.1 h1).2⟩)
     · cases h
   · split at h
     · rename_i h0; split at h
       · rename_i h1; exact .inr (.inr (.inl ⟨h0, h1⟩))
       · cases h
     · split at h
       · rename_i h0; split at h
         · rename_i h1; exact .inr (.inr (.inr ⟨h0, h1⟩))
         · cases h
       · cases h
def szE (t : DataType) : Int := if t.Kind = 1 then t.Length / 2 + 1 else if t.Kind = 3 then (if t.Length = 9 then 4 else 2) else if t.Kind = 4 then 16 else t.Length
theorem zkm {t : DataType} (h : zdx t = 0) : 0 < szE t ∧ szE t ≤ 256 := by
 unfold szE
 rcases zn2 h with ⟨h0, h1, h2⟩ | ⟨h0 | h0, h1, h2⟩ | ⟨h0, h1 | h1⟩ | ⟨h0, h1⟩ <;> simp only [h0] <;> simp <;> omega
theorem zjr {t : DataType} (h : zdx t = 0) : za3 t = some (szE t) := by
 unfold za3 szE
 rcases zn2 h with ⟨h0, h1, h2⟩ | ⟨h0 | h0, h1, h2⟩ | ⟨h0, h1 | h1⟩ | ⟨h0, h1⟩ <;> simp only [h0, h1, zar, zhq] <;> simp
 · rw [tde, w6e (n := t.Length / 2), w6e]
 · decide
 · decide
theorem z0c {t : DataType} (h : zdx t = 0) : zgi t = some (szE t) := by
 unfold zgi szE
 rcases zn2 h with ⟨h0, h1, h2⟩ | ⟨h0 | h0, h1, h2⟩ | ⟨h0, h1 | h1⟩ | ⟨h0, h1⟩ <;> simp only [h0, h1, zar] <;> simp
 · rw [tde, w6e (n := t.Length / 2), w6e]
 · decide
 · decide
theorem z0e (N : Nat) (hN : 10 < N) {t : DataType} (h : zdx t = 0) : ze0 N t = some (szE t) := by
 unfold ze0 zks
 rw [zq1 N hN, h]
 simp [z0c h]
structure StoOk (s : Storage) : Prop where
 le : s.Bytes.size ≤ 1024
 quad : s.Bytes.size % 16 = 0
def ze3 (s : Storage) (a : Int) : Bool := decide (0 ≤ a) && (decide (a % 16 = 0) && decide (a < (s.Bytes.size : Int)))
theorem z5e (s : Storage) (a : Int) : zd9 s a = some (ze3 s a) := by
 unfold zd9 ze3
 by_cases h : 0 ≤ a
 · rw [tme h]; simp only [ge_iff_le, h, decide_true, ctr, obs, zar, Bool.true_and]; cases decide (a % 16 = 0) <;> rfl
 · simp [h]
theorem zz7 {s : Storage} (ok : StoOk s) (a : Int) : zd3 s a = some (ze3 s a) := by
 have h1 := ok.le
 have h2 := ok.quad
 unfold zd3 ze3
 rw [w6e, zgy]
 simp only [obs]
 by_cases h : 0 ≤ a
 · rw [tme h]; simp only [inB, h, decide_true, Bool.true_and, zar]
   by_cases h3 : a % 16 = 0
   · have e : decide (a ≤ (s.Bytes.size : Int) - 16) = decide (a < (s.Bytes.size : Int)) := by
      by_cases h4 : a < (s.Bytes.size : Int)
      · rw [dct h4]; exact dct (by omega)
      · rw [dcf h4]; exact dcf (by omega)
     simp only [h3, decide_true, Bool.true_and, e]; cases decide (a < (s.Bytes.size : Int)) <;> rfl
   · simp only [h3, decide_false, Bool.false_and]; cases decide (a ≤ (s.Bytes.size : Int) - 16) <;> rfl
 · simp [inB, h]
def zcn (s : Storage) (p : zN) (n : Int) : Bool := if p.Based then ze3 s p.Pointer && inB p.Offset 0 256 else inB p.Offset 0 ((s.Bytes.size : Int) - n)
theorem z3g {s : Storage} (ok : StoOk s) (N : Nat) (hN : 10 < N) (p : zN) {t : DataType} (h : zdx t = 0) : zdo N s p t = some (zcn s p (szE t)) := by
 obtain ⟨h1, h2⟩ := zkm h
 have h3 := ok.le
 unfold zdo zcn
 rw [z5e, z0e N hN h, zmn]
 simp only [obs]
 rw [w6e]
 simp only [zmn, obs]
 cases p.Based <;> cases ze3 s p.Pointer <;> simp
theorem z2j {s : Storage} (ok : StoOk s) {c : zG} (hc : c.Storage = s) (p : zN) (hp : -9223372036854775808 ≤ p.Offset ∧ p.Offset ≤ 9223372036854775807) {t : DataType} (h : zdx t = 0) : zez c p (szE t) = some (zcn s p (szE t)) := by
 obtain ⟨h1, h2⟩ := zkm h
 have h3 := ok.le
 unfold zez zcn zhf
 rw [hc]
 simp only [zz7 ok, zgy, obs]
 cases p.Based with
 | true => cases ze3 s p.Pointer <;> simp
 | false =>
  simp only [cfa]
  by_cases h4 : inB p.Offset 0 (s.Bytes.size : Int) = true
  · obtain ⟨h5, h6⟩ := za6.1 h4; rw [w6e]; simp only [h4, ctr, obs, Bool.false_eq_true, if_false]
    congr 1
    unfold inB; simp only [h5, decide_true, Bool.true_and, show (0 : Int) ≤ szE t by omega]
    by_cases h7 : szE t ≤ (s.Bytes.size : Int) - p.Offset
    · rw [dct h7]; exact (dct (by omega)).symm
    · rw [dcf h7]; exact (dcf (by omega)).symm
  · have e : inB p.Offset 0 (s.Bytes.size : Int) = false := by simpa using h4
    simp only [e, cfa, obs, Bool.false_eq_true, if_false]
    congr 1
    cases h5 : inB p.Offset 0 ((s.Bytes.size : Int) - szE t) with
    | false => rfl
    | true =>
     obtain ⟨h6, h7⟩ := za6.1 h5; exact absurd (za6.2 ⟨h6, by omega⟩) h4
def zlp (n : Number) : Int := cond (inB n.N (-999999999999999) 999999999999999 && inB n.Scale 0 15) 0 3
theorem zkz (n : Number) : zaq n = some (zlp n) := by
 unfold zaq zlp
 simp only [z1n, zo3, obs]
 cases inB n.N (-999999999999999) 999999999999999 <;> cases inB n.Scale 0 15 <;> rfl
theorem zpw (n : Number) : zbz n = some (zlp n) := by
 have w0 : w6 (3 * 0) = 0 := by decide
 have w1 : w6 (3 * 1) = 3 := by decide
 unfold zbz zlp
 simp only [zgy, zhq, obs]
 cases inB n.N (-999999999999999) 999999999999999 <;> cases inB n.Scale 0 15 <;> simp [w0, w1, zhq] <;> decide
def zabi (op : Int) (ins : Bool) : Option zP :=
 (idx z6r op).bind fun x1 => (cond (op == 4) (some ins) (some false)).bind fun g2 =>
  cond g2 (some (⟨(orI .i64 (orI .i64 (z5o .i64 x1.fields 4) 8) 64), x1.types⟩ : zP)) (some x1)
theorem zaew (x : zB) : zb0 x = zabi x.Op x.zL := rfl
def z5v (op : Int) (ins : Bool) : Option zM := zfx ⟨op, 0, 0, 0, 0, ⟨false, 0, 0⟩, ⟨false, 0, 0⟩, ⟨0, 0, 0⟩, ⟨0, 0, 0⟩, false, ins, ⟨0, 0⟩, ⟨#[]⟩, ⟨#[]⟩, 0, 0, 0, 0⟩
theorem z7g (x : zB) : zfx x = z5v x.Op x.zL := rfl
structure Agree (f : zP) (u : zM) : Prop where
 R : (zh .i64 f.fields 1 != 0) = u.R
 A : (zh .i64 f.fields 2 != 0) = u.A
 B : (zh .i64 f.fields 4 != 0) = u.B
 Place : (zh .i64 f.fields 8 != 0) = u.Place
 From : (zh .i64 f.fields 16 != 0) = u.From
 zF : (zh .i64 f.fields 32 != 0) = (u.zF != 0)
 Second : (zh .i64 f.fields 64 != 0) = (u.Second != 0)
 Half : (zh .i64 f.fields 128 != 0) = u.Half
 Number : (zh .i64 f.fields 256 != 0) = u.Number
 Text : (zh .i64 f.fields 512 != 0) = u.Text
 Other : (zh .i64 f.fields 1024 != 0) = u.Other
 Mask : (zh .i64 f.fields 2048 != 0) = u.Mask
 Target : (zh .i64 f.fields 4096 != 0) = u.Target
 Pointer : (zh .i64 f.fields 8192 != 0) = u.Pointer
 Source : (zh .i64 f.fields 16384 != 0) = u.Source
 Calc : (zh .i64 f.fields 32768 != 0) = u.zK
 class1 : u.zF = 0 ∨ u.zF = f.types
 class2 : u.Second = 0 ∨ u.Second = f.types
 cls : f.types = 0 ∨ f.types = 1 ∨ f.types = 2 ∨ f.types = 3
def z4e (f : zP) (u : zM) : Bool :=
 ((zh .i64 f.fields 1 != 0) == u.R) && (((zh .i64 f.fields 2 != 0) == u.A) && (((zh .i64 f.fields 4 != 0) == u.B) && (((zh .i64 f.fields 8 != 0) == u.Place) && (((zh .i64 f.fields 16 != 0) == u.From) &&
 (((zh .i64 f.fields 32 != 0) == (u.zF != 0)) && (((zh .i64 f.fields 64 != 0) == (u.Second != 0)) && (((zh .i64 f.fields 128 != 0) == u.Half) && (((zh .i64 f.fields 256 != 0) == u.Number) && (((zh .i64 f.fields 512 != 0) == u.Text) &&
 (((zh .i64 f.fields 1024 != 0) == u.Other) && (((zh .i64 f.fields 2048 != 0) == u.Mask) && (((zh .i64 f.fields 4096 != 0) == u.Target) && (((zh .i64 f.fields 8192 != 0) == u.Pointer) && (((zh .i64 f.fields 16384 != 0) == u.Source) &&
 (((zh .i64 f.fields 32768 != 0) == u.zK) && ((u.zF == 0 || u.zF == f.types) && ((u.Second == 0 || u.Second == f.types) && (f.types == 0 || (f.types == 1 || (f.types == 2 || f.types == 3))))))))))))))))))))
theorem zaa1 {f : zP} {u : zM} (h : z4e f u = true) : Agree f u := by
 simp only [z4e, Bool.and_eq_true, beq_iff_eq, Bool.or_eq_true] at h
 obtain ⟨h1, h2, h3, h4, h5, h6, h7, h8, h9, h10, h11, h12, h13, h14, h15, h16, h17, h18, h19⟩ := h
 exact ⟨h1, h2, h3, h4, h5, h6, h7, h8, h9, h10, h11, h12, h13, h14, h15, h16, h17, h18, h19⟩
def z6g (op : Int) (ins : Bool) : Bool := match zabi op ins, z5v op ins with
 | some f, some u => (z4e f u && ((!u.From || u.Second != 0) && (!u.Place || cond (op == 4) (u.Second != 0) (u.zF != 0)))) && (cond (op == 4) (u.R && u.A && u.zK && (u.Place == ins) && (u.Second != 0) == ins) (u.zK == false))
 | _, _ => false
theorem zaed : ((List.range 27).all fun k => z6g (k : Int) true && z6g (k : Int) false) = true := by kernel_rfl
theorem z08 (x : zB) (h : inB x.Op 0 26 = true) : ∃ f u, zb0 x = some f ∧ zfx x = some u ∧ Agree f u ∧ (x.Op = 4 → u.Place = x.zL) ∧ (u.From = true → u.Second ≠ 0) ∧ (u.Place = true → if x.Op = 4 then u.Second ≠ 0 else u.zF ≠ 0) := by
 obtain ⟨h1, h2⟩ := za6.1 h
 obtain ⟨k, hk⟩ : ∃ k : Nat, x.Op = (k : Int) := ⟨x.Op.toNat, by omega⟩
 have hlt : k < 27 := by omega
 have h3 := List.all_eq_true.1 zaed k (by simpa using hlt)
 have h4 : z6g x.Op x.zL = true := by
  rw [hk]; cases x.zL
  · exact ((Bool.and_eq_true _ _).mp h3).2
  · exact ((Bool.and_eq_true _ _).mp h3).1
 rw [zaew, z7g]
 unfold z6g at h4
 split at h4
 · rename_i f u hf hu; obtain ⟨h5, h6⟩ := (Bool.and_eq_true _ _).mp h4; simp only [Bool.and_eq_true] at h5; obtain ⟨h5, h8, h9⟩ := h5; refine ⟨f, u, hf, hu, zaa1 h5, fun h7 => ?_, fun h7 => ?_, fun h7 => ?_⟩
   · rw [h7] at h6; simp only [bst, ctr, Bool.and_eq_true, beq_iff_eq] at h6; exact h6.1.2
   · rw [h7] at h8; simpa using h8
   · rw [h7] at h9; split
     · rename_i h10; rw [h10] at h9; simpa using h9
     · rename_i h10; rw [zar, dcf h10] at h9; simpa using h9
 · cases h4
theorem ztd (a b : Int) : (a == b) = !(a != b) := by simp [bne]
def zm5 (x : zB) (u : zM) : Bool :=
 (!u.R && x.R != 0) || ((!u.A && x.A != 0) || ((!u.B && x.B != 0) || ((!u.zK && x.zK != 0) || ((!u.Place && !(!x.Place.Based && (x.Place.Pointer == 0 && x.Place.Offset == 0))) ||
 ((!u.From && !(!x.From.Based && (x.From.Pointer == 0 && x.From.Offset == 0))) || ((u.zF == 0 && !(x.zF.Kind == 0 && (x.zF.Length == 0 && x.zF.Scale == 0))) || ((u.Second == 0 && !(x.Second.Kind == 0 && (x.Second.Length == 0 && x.Second.Scale == 0))) ||
 ((!u.Half && x.Half) || ((x.Op != 4 && x.zL) || ((!u.Number && !(x.Number.N == 0 && x.Number.Scale == 0)) || ((!u.Text && !(x.Text.toList == [])) || ((!u.Other && !(x.Other.toList == [])) ||
 ((!u.Mask && x.Mask != 0) || ((!u.Target && x.Target != 0) || ((!u.Pointer && x.Pointer != 0) || ((!u.Source && x.Source != 0) || ((!x.Place.Based && x.Place.Pointer != 0) || (!x.From.Based && x.From.Pointer != 0))))))))))))))))))
theorem orB (a b : Bool) : (cond a (some true) (some b)) = some (a || b) := by cases a <;> rfl
theorem zme (a b : Bool) : (cond a (some b) (some false)) = some (a && b) := by cases a <;> rfl
theorem z94 (x : zB) (u : zM) : zi7 x u = some (zm5 x u) := by
 unfold zi7 zm5
 have e : (⟨#[]⟩ : ByteArray).toList = [] := by kernel_rfl
 simp only [zme, orB, obs, zf3, Bool.and_true, e, Bool.or_assoc, beq_false]
def zp2 (p : zN) (b : Bool) : zN := cond b (cond p.Based p ⟨p.Based, 0, p.Offset⟩) ⟨false, 0, 0⟩
theorem z8o (p : zN) (b : Bool) : zhv p b = some (zp2 p b) := by
 unfold zhv zp2
 cases b <;> cases p.Based <;> rfl
theorem zahc (k v fl : Int) : zci k v fl = some (cond (zh .i64 fl k != 0) v 0) := by
 unfold zci
 rw [ztd]
 cases (zh .i64 fl k != 0) <;> rfl
def z1p (x : zB) (u : zM) : zB :=
 ⟨x.Op, cond u.R x.R 0, cond u.A x.A 0, cond u.B x.B 0, cond u.zK x.zK 0, zp2 x.Place u.Place, zp2 x.From u.From, cond (u.zF != 0) x.zF ⟨0, 0, 0⟩, cond (u.Second != 0) x.Second ⟨0, 0, 0⟩,
  cond x.Half u.Half false, cond x.zL (x.Op == 4) false, cond u.Number x.Number ⟨0, 0⟩, cond u.Text x.Text ⟨#[]⟩, cond u.Other x.Other ⟨#[]⟩, cond u.Mask x.Mask 0, cond u.Target x.Target 0, cond u.Pointer x.Pointer 0, cond u.Source x.Source 0⟩
theorem zacr {x : zB} {f : zP} {u : zM} (hf : zb0 x = some f) (ag : Agree f u) : zju x = some (z1p x u) := by
 have b2 : ∀ a b : Bool, (cond a (some b) (some false)) = some (cond a b false) := fun a b => by cases a <;> rfl
 unfold zju z1p
 simp only [hf, zahc, z8o, b2, obs, ztd (zh .i64 f.fields 32), ztd (zh .i64 f.fields 64), ztd (zh .i64 f.fields 256), ztd (zh .i64 f.fields 512), ztd (zh .i64 f.fields 1024),
  ag.R, ag.A, ag.B, ag.Place, ag.From, ag.zF, ag.Second, ag.Half, ag.Number, ag.Text, ag.Other, ag.Mask, ag.Target, ag.Pointer, ag.Source, ag.Calc]
 cases (u.zF != 0) <;> cases (u.Second != 0) <;> cases u.Number <;> cases u.Text <;> cases u.Other <;> rfl
theorem zags (b : Bool) (n : Int) : (!(cond b n 0 == n)) = (!b && n != 0) := by
 cases b
 · by_cases h : n = 0
   · simp [h]
   · simp [h, zar, zb6, Ne.symm h]
 · simp
theorem bbeq (a b : ByteArray) : (a == b) = decide (a = b) := by
 cases a with | mk x =>
 cases b with | mk y =>
 show ByteArray.beq _ _ = _
 unfold ByteArray.beq
 by_cases h : x = y
 · simp [h]
 · simp [h]
theorem zagr (b : Bool) (t : ByteArray) : (!(cond b t (⟨#[]⟩ : ByteArray) == t)) = (!b && !(t.toList == [])) := by
 rw [bbeq]
 cases b
 · simp only [cfa, Bool.not_false, Bool.true_and]
   congr 1
   rw [Lib.toList_data]
   by_cases h : t = ⟨#[]⟩
   · subst h; rfl
   · rw [dcf (Ne.symm h)]
     symm
     rw [beq_eq_false_iff_ne]; intro hh; apply h; cases t with
     | mk d => simp at hh; rw [hh]
 · simp
theorem zagu (a b : Bool) : (!(cond a b false == a)) = (!b && a) := by cases a <;> cases b <;> rfl
theorem zagt (a : Bool) (op : Int) : (!(cond a (op == 4) false == a)) = (op != 4 && a) := by
 cases a
 · simp
 · simp [bne]
theorem zabc (p : zN) (b r : Bool) : (!((zp2 p b).Based == p.Based) || (!((zp2 p b).Pointer == p.Pointer) || (!((zp2 p b).Offset == p.Offset) || r))) =
 ((!b && !(!p.Based && (p.Pointer == 0 && p.Offset == 0))) || ((!p.Based && p.Pointer != 0) || r)) := by
 obtain ⟨ba, pt, of⟩ := p
 cases b <;> cases ba <;> by_cases h1 : pt = 0 <;> by_cases h2 : of = 0 <;> simp [zp2, zar, zb6, h1, h2, eq_comm (a := (0 : Int))]
theorem zabd (t : DataType) (b : Int) (r : Bool) : (!((cond (b != 0) t ⟨0, 0, 0⟩).Kind == t.Kind) || (!((cond (b != 0) t ⟨0, 0, 0⟩).Length == t.Length) || (!((cond (b != 0) t ⟨0, 0, 0⟩).Scale == t.Scale) || r))) =
 ((b == 0 && !(t.Kind == 0 && (t.Length == 0 && t.Scale == 0))) || r) := by
 obtain ⟨k, l, s⟩ := t
 by_cases h0 : b = 0 <;> by_cases h1 : k = 0 <;> by_cases h2 : l = 0 <;> by_cases h3 : s = 0 <;> simp [zar, zb6, h0, h1, h2, h3, eq_comm (a := (0 : Int))]
theorem zagq (t : Number) (b r : Bool) : (!((cond b t ⟨0, 0⟩).N == t.N) || (!((cond b t ⟨0, 0⟩).Scale == t.Scale) || r)) = ((!b && !(t.N == 0 && t.Scale == 0)) || r) := by
 obtain ⟨n, s⟩ := t
 cases b <;> by_cases h1 : n = 0 <;> by_cases h2 : s = 0 <;> simp [zar, zb6, h1, h2, eq_comm (a := (0 : Int))]
theorem z6o (x : zB) (u : zM) (r2 : zB) (h : r2 = z1p x u) :
 (!(zf3 [(r2.Op == x.Op), (r2.R == x.R), (r2.A == x.A), (r2.B == x.B), (r2.zK == x.zK), (r2.Place.Based == x.Place.Based), (r2.Place.Pointer == x.Place.Pointer), (r2.Place.Offset == x.Place.Offset), (r2.From.Based == x.From.Based), (r2.From.Pointer == x.From.Pointer), (r2.From.Offset == x.From.Offset), (r2.zF.Kind == x.zF.Kind), (r2.zF.Length == x.zF.Length), (r2.zF.Scale == x.zF.Scale), (r2.Second.Kind == x.Second.Kind), (r2.Second.Length == x.Second.Length), (r2.Second.Scale == x.Second.Scale), (r2.Half == x.Half), (r2.zL == x.zL), (r2.Number.N == x.Number.N), (r2.Number.Scale == x.Number.Scale), (r2.Text == x.Text), (r2.Other == x.Other), (r2.Mask == x.Mask), (r2.Target == x.Target), (r2.Pointer == x.Pointer), (r2.Source == x.Source)])) = zm5 x u := by
 subst h
 simp only [zf3, Bool.not_and, z1p]
 rw [zabc x.Place, zabc x.From, zabd x.zF, zabd x.Second, zagq x.Number]
 simp only [zags, zagr, zagu, zagt, bst, bnt, Bool.false_or, Bool.or_false, zm5, bne]
 ac_rfl
def zeb (t : DataType) (c : Int) : Int := if c = 0 then 0 else if zdx t = 0 then (if (c = 1 ∧ ¬ (1 ≤ t.Kind ∧ t.Kind ≤ 3)) ∨ (c = 2 ∧ t.Kind ≠ 0) ∨ (c = 3 ∧ t.Kind = 4) then 17 else 0) else zdx t
theorem zqk {t : DataType} {c : Int} (h : zeb t c = 0) (hc : c ≠ 0) : zdx t = 0 := by
 unfold zeb at h
 rw [ifn hc] at h
 by_cases h0 : zdx t = 0
 · exact h0
 · rw [ifn h0] at h; exact absurd h h0
theorem zzn (N : Nat) (hN : 10 < N) (t : DataType) (c : Int) (hc : c = 1 ∨ c = 2 ∨ c = 3) : zfr N t c = some (zeb t c) := by
 have f2 : ∀ a b : Int, zr N [a, b] = some (zcy [a, b]) := fun a b => zl8 N _ (by simp; omega) (by simp)
 unfold zfr zeb
 rw [zq1 N hN]
 simp only [zlj, f2, zme, orB, obs, zar, zb6]
 have hc0 : c ≠ 0 := by omega
 rw [ifn hc0]
 by_cases h : zdx t = 0
 · rw [ifp h, h]; simp only [zcy, if_true]; rcases zn2 h with ⟨h0, _⟩ | ⟨h0 | h0, _⟩ | ⟨h0, _⟩ | ⟨h0, _⟩ <;> rcases hc with rfl | rfl | rfl <;> simp [h0]
 · rw [ifn h]; simp only [zcy, h, if_false]
theorem zy8 (t : DataType) (c : Int) (hc : c = 0 ∨ c = 1 ∨ c = 2 ∨ c = 3) : zin t c = some (zeb t c) := by
 unfold zin zeb
 rw [zz6]
 simp only [zto, zme, orB, obs, zar, zb6]
 by_cases hc0 : c = 0
 · simp [hc0]
 · rw [ifn hc0]; simp only [hc0, decide_false, cfa]
   by_cases h : zdx t = 0
   · rw [ifp h, h]; rcases zn2 h with ⟨h0, _⟩ | ⟨h0 | h0, _⟩ | ⟨h0, _⟩ | ⟨h0, _⟩ <;> rcases hc with rfl | rfl | rfl | rfl <;> first | exact absurd rfl hc0 | simp [h0, inB]
   · rw [ifn h]; simp [h]
theorem zaag (N : Nat) (hN : 10 < N) {x : zB} {f : zP} {u : zM} (ag : Agree f u) : zhd N x f = some (zcy [zeb x.zF u.zF, zeb x.Second u.Second]) := by
 have w0 : ∀ t, zeb t 0 = 0 := fun t => by simp [zeb]
 have hcls : ∀ c, c ≠ 0 → (c = 0 ∨ c = f.types) → c = f.types ∧ (f.types = 1 ∨ f.types = 2 ∨ f.types = 3) := by
  intro c h0 h1; have := ag.cls; omega
 have eta : ∀ t : DataType, (⟨t.Kind, t.Length, t.Scale⟩ : DataType) = t := fun t => rfl
 unfold zhd
 rw [ag.zF, ag.Second]
 by_cases h1 : u.zF = 0
 · by_cases h2 : u.Second = 0
   · simp [h1, h2, w0, zcy]
   · obtain ⟨e2, c2⟩ := hcls _ h2 ag.class2; have ht := fun t => zzn N hN t f.types c2; have h0 : f.types ≠ 0 := by omega
     simp only [eta, ht, h1, e2, w0]
     by_cases h3 : zeb x.Second f.types = 0 <;> simp [h3, h0, zcy, zb6]
 · obtain ⟨e1, c1⟩ := hcls _ h1 ag.class1; have ht := fun t => zzn N hN t f.types c1; have h0 : f.types ≠ 0 := by omega
   by_cases h2 : u.Second = 0
   · simp only [eta, ht, h2, e1, w0]
     by_cases h3 : zeb x.zF f.types = 0 <;> simp [h3, h0, zcy, zb6]
   · obtain ⟨e2, c2⟩ := hcls _ h2 ag.class2; simp only [eta, ht, e2, e1]
     by_cases h3 : zeb x.zF f.types = 0 <;> by_cases h4 : zeb x.Second f.types = 0 <;> simp [h3, h4, h0, zcy, zb6]
def zn9 (x : zB) (u : zM) : List Int := cond u.R [x.R] [] ++ (cond u.A [x.A] [] ++ cond u.B [x.B] [])
theorem zacp (n : Nat) {x : zB} {f : zP} {u : zM} (hf : zb0 x = some f) (ag : Agree f u) : zy (n + 10) x = some (zn9 x u) := by
 have s0 : w6 (1 * 2 ^ (min ((0 : Int).toNat) 64)) = 1 := by decide
 have s1 : w6 (1 * 2 ^ (min ((1 : Int).toNat) 64)) = 2 := by decide
 have s2 : w6 (1 * 2 ^ (min ((2 : Int).toNat) 64)) = 4 := by decide
 have a0 : w6 (0 + 1) = 1 := by decide
 have a1 : w6 (1 + 1) = 2 := by decide
 have a2 : w6 (2 + 1) = 3 := by decide
 have rm : ∀ k : Nat, k ≤ 3 → Nat.ble (k * 8) zab = true := fun k hk => Nat.ble_eq_true_of_le (by unfold zab; omega)
 unfold zy
 rw [hf]
 simp only [obs]
 have i0 : ∀ l, zy.r0 (n + 10) (l, f.fields, [x.R, x.A, x.B], (([x.R, x.A, x.B] : List Int).length : Int), 0) = some (.again (cond u.R (l ++ [x.R]) l, f.fields, [x.R, x.A, x.B], (([x.R, x.A, x.B] : List Int).length : Int), 1)) ∨ l.length > 2 := by
  intro l
  by_cases hl : l.length > 2
  · exact .inr hl
  · left; simp only [zy.r0, zy.b0, s0, a0, ag.R]; have := rm (l.length + 1) (by omega); cases u.R <;> simp [this]
 have i1 : ∀ l, zy.r0 (n + 10) (l, f.fields, [x.R, x.A, x.B], (([x.R, x.A, x.B] : List Int).length : Int), 1) = some (.again (cond u.A (l ++ [x.A]) l, f.fields, [x.R, x.A, x.B], (([x.R, x.A, x.B] : List Int).length : Int), 2)) ∨ l.length > 2 := by
  intro l
  by_cases hl : l.length > 2
  · exact .inr hl
  · left; simp only [zy.r0, zy.b0, s1, a1, ag.A]; have := rm (l.length + 1) (by omega); cases u.A <;> simp [this]
 have i2 : ∀ l, zy.r0 (n + 10) (l, f.fields, [x.R, x.A, x.B], (([x.R, x.A, x.B] : List Int).length : Int), 2) = some (.again (cond u.B (l ++ [x.B]) l, f.fields, [x.R, x.A, x.B], (([x.R, x.A, x.B] : List Int).length : Int), 3)) ∨ l.length > 2 := by
  intro l
  by_cases hl : l.length > 2
  · exact .inr hl
  · left; simp only [zy.r0, zy.b0, s2, a2, ag.B]; have := rm (l.length + 1) (by omega); cases u.B <;> simp [this]
 have i3 : ∀ l, zy.r0 (n + 10) (l, f.fields, [x.R, x.A, x.B], (([x.R, x.A, x.B] : List Int).length : Int), 3) = some (.leave (l, f.fields, [x.R, x.A, x.B], (([x.R, x.A, x.B] : List Int).length : Int), 3)) := by
  intro l; simp [zy.r0, zy.b0]
 have l1 : (cond u.R ([] ++ [x.R]) ([] : List Int)).length ≤ 1 := by cases u.R <;> simp
 have l2 : (cond u.A (cond u.R ([] ++ [x.R]) ([] : List Int) ++ [x.A]) (cond u.R ([] ++ [x.R]) ([] : List Int))).length ≤ 2 := by cases u.R <;> cases u.A <;> simp
 show (zm (zy.r0 (n + 10)) (n + 10) _).bind _ = _
 simp only [zm]
 rw [(i0 []).resolve_right (by simp)]
 simp only [obs]
 rw [(i1 _).resolve_right (by omega)]
 simp only [obs]
 rw [(i2 _).resolve_right (by omega)]
 simp only [obs]
 rw [i3]
 simp only [obs, zn9]
 cases u.R <;> cases u.A <;> cases u.B <;> rfl
def zgd (m : zJ) (r : Int) : Bool := !inB r 0 (m.Registers - 1)
theorem z4z (N : Nat) (l : List Int) (h : l.length < N) (hl : l.length < 1000000000) (m : zJ) (hm : 2 ≤ m.Registers ∧ m.Registers ≤ 8) : zde N l m = some (l.any (zgd m)) := by
 unfold zde zai
 have c1 : ∀ r, zf7 r m = some (zgd m r) := fun r => by
  unfold zf7 zgd; rw [w6e, zmn]; rfl
 have := zb1 (f := zai.r0 N) (fun i => (l, (l.length : Int), (i : Int), m)) (fun i => (l[i]?).bind fun x => if zgd m x then some (i : Int) else none) l.length
  (fun i hi => by
   have hx := lge hi; simp only [zai.r0, zai.b0, zan, hx, obs, dct (show (i : Int) < (l.length : Int) by omega), ctr, c1]; rw [w6e]; cases hb : zgd m l[i] <;> simp)
  (by simp only [zai.r0, zai.b0, dcf (show ¬ (l.length : Int) < (l.length : Int) by omega), cfa]) h
 simp only [nc0] at this
 rw [this]
 simp only [obs]
 cases hfs : (List.range l.length).findSome? (fun i : Nat => (l[i]?).bind fun x => if zgd m x = true then some (i : Int) else none) with
 | some r =>
  simp only [zb9, obs]; obtain ⟨i, hi, hr⟩ := eof hfs; rw [Option.bind_eq_some_iff] at hr; obtain ⟨x, hx, hr⟩ := hr; split at hr
  · rename_i hb; cases hr; have : l.any (zgd m) = true := List.any_eq_true.2 ⟨x, lmg hx, hb⟩; rw [this]; simp
  · cases hr
 | none =>
  simp only [zb9, obs]; rw [List.findSome?_eq_none_iff] at hfs; have : l.any (zgd m) = false := by
   rw [List.any_eq_false]; intro x hx hb; obtain ⟨i, hi⟩ := List.getElem?_of_mem hx; have := hfs i (by simp; exact (gei hi).1); rw [hi] at this; simp [hb] at this
  rw [this]; rfl
theorem zab6 (m : zJ) (hm : 2 ≤ m.Registers ∧ m.Registers ≤ 8) {x : zB} {u : zM} (hu : zfx x = some u) : zfm m x = some (!(zn9 x u).any (zgd m)) := by
 have c1 : ∀ r, zfl m r = some (!zgd m r) := fun r => by
  unfold zfl zgd; rw [w6e, zgy]; simp
 unfold zfm
 rw [hu]
 have aux : ∀ b r, (cond b [r] []).any (zgd m) = (b && zgd m r) := fun b r => by cases b <;> simp
 simp only [c1, obs, zn9, List.any_append, aux]
 generalize zgd m x.R = p
 generalize zgd m x.A = q
 generalize zgd m x.B = r
 cases u.R <;> cases u.A <;> cases u.B <;> cases p <;> cases q <;> cases r <;> rfl
def zgw (x : zB) : DataType := if x.Op = 4 then x.Second else x.zF
def zni (m : zJ) (c : zG) (x : zB) (u : zM) : Bool :=
 (zn9 x u).any (zgd m) || ((u.Target && !inB x.Target 0 ((c.zC.length : Int) - 1)) || ((u.Mask && !inB x.Mask 1 7) || ((u.Pointer && !ze3 c.Storage x.Pointer) || ((u.Source && !ze3 c.Storage x.Source) ||
  ((u.Place && !zcn c.Storage x.Place (szE (zgw x))) || ((u.From && !zcn c.Storage x.From (szE x.Second)) || (u.zK && !inB x.zK 0 4)))))))
theorem eD (t : DataType) : (⟨t.Kind, t.Length, t.Scale⟩ : DataType) = t := rfl
theorem eP (t : zN) : (⟨t.Based, t.Pointer, t.Offset⟩ : zN) = t := rfl
theorem eS (t : Storage) : (⟨t.Bytes, t.Tags⟩ : Storage) = t := rfl
theorem eN (t : Number) : (⟨t.N, t.Scale⟩ : Number) = t := rfl
theorem eM (t : zJ) : (⟨t.Registers, t.yA, t.zX⟩ : zJ) = t := rfl
theorem eC (t : zG) : (⟨t.Storage, t.zC, t.zO⟩ : zG) = t := rfl
theorem eX (t : zB) : (⟨t.Op, t.R, t.A, t.B, t.zK, t.Place, t.From, t.zF, t.Second, t.Half, t.zL, t.Number, t.Text, t.Other, t.Mask, t.Target, t.Pointer, t.Source⟩ : zB) = t := rfl
theorem eF (t : zP) : (⟨t.fields, t.types⟩ : zP) = t := rfl
theorem nF (a b : Bool) : (cond a (some (!b)) (some false)) = some (a && !b) := by cases a <;> rfl
structure InsOk (c : zG) (x : zB) (u : zM) : Prop where
 sto : StoOk c.Storage
 len : c.zC.length < 1000000000
 pt : u.Place = true → zdx (zgw x) = 0
 ft : u.From = true → zdx x.Second = 0
 po : -9223372036854775808 ≤ x.Place.Offset ∧ x.Place.Offset ≤ 9223372036854775807
 fo : -9223372036854775808 ≤ x.From.Offset ∧ x.From.Offset ≤ 9223372036854775807
theorem z67 {a b : Bool} {o : Option Bool} (h : a = true → o = some b) : (cond a o (some false)) = some (a && b) := by
 cases a
 · rfl
 · exact h rfl
theorem zaai (N : Nat) (hN : 20 < N) {m : zJ} (hm : 2 ≤ m.Registers ∧ m.Registers ≤ 8) {c : zG} {x : zB} {f : zP} {u : zM} (hf : zb0 x = some f) (ag : Agree f u) (ok : InsOk c x u) :
 zhw N m c x = some (!zni m c x u) := by
 obtain ⟨n, rfl⟩ : ∃ n, N = n + 10 := ⟨N - 10, by omega⟩
 have hl : (zn9 x u).length ≤ 3 := by unfold zn9; cases u.R <;> cases u.A <;> cases u.B <;> simp
 have hlen := ok.len
 have g1 : ∀ p t, (u.Place = true → zdx t = 0) → (cond u.Place ((zdo (n + 10) c.Storage p t).bind fun r => some (!r)) (some false)) = some (u.Place && !zcn c.Storage p (szE t)) := fun p t h => z67 fun hp => by rw [z3g ok.sto _ (by omega) _ (h hp)]; rfl
 have g2 : ∀ p t, (u.From = true → zdx t = 0) → (cond u.From ((zdo (n + 10) c.Storage p t).bind fun r => some (!r)) (some false)) = some (u.From && !zcn c.Storage p (szE t)) := fun p t h => z67 fun hp => by rw [z3g ok.sto _ (by omega) _ (h hp)]; rfl
 unfold zhw
 simp only [eD, eP, eS, eM, eC, eX]
 rw [hf, zacp n hf ag]
 simp only [obs]
 rw [z4z _ _ (by omega) (by omega) m hm]
 simp only [obs]
 unfold zni
 cases hr : (zn9 x u).any (zgd m) with
 | true => rfl
 | false =>
  simp only [cfa, Bool.false_or, ag.Place, ag.From, ag.Target, ag.Mask, ag.Pointer, ag.Source, ag.Calc, zme, zar, obs]; rw [w6e]; simp only [zmn, z5e, nF, obs]
  by_cases h4 : x.Op = 4
  · have hp : zgw x = x.Second := ifp h4; have k := ok.pt; rw [hp] at k ⊢; rw [g2 _ _ ok.ft]; cases hup : u.Place with
    | true =>
     simp only [h4, decide_true, Bool.and_true, ctr, Bool.true_and]; have := g1 x.Place x.Second k; rw [hup] at this; simp only [ctr, Bool.true_and] at this; rw [this]; simp only [orB, obs, Bool.or_assoc, Bool.true_and]
    | false =>
     simp only [h4, decide_true, Bool.false_and, cfa, obs, orB, Bool.or_assoc, Bool.false_or]
  · have hp : zgw x = x.zF := ifn h4; have k := ok.pt; rw [hp] at k ⊢; rw [g1 _ _ k, g2 _ _ ok.ft]; simp only [h4, decide_false, Bool.and_false, cfa, obs, orB, Bool.or_assoc]
def zp8 (m : zJ) (x : zB) : Bool := (decide (x.Op = 7) && !m.yA) || (x.zL && !m.zX)
def zpm (x : zB) : Bool := decide ((x.Text.size : Int) > 256) || decide ((x.Other.size : Int) > 256)
theorem zaes (m : zJ) (x : zB) (h : x.zL = true → x.Op = 4) : zij m x = some (!zp8 m x) := by
 unfold zij zp8
 by_cases h7 : x.Op = 7
 · have h4 : x.zL = false := by
    cases hi : x.zL with
    | false => rfl
    | true => have := h hi; omega
   rw [h4]; simp only [h7, zb6]; cases m.yA <;> rfl
 · by_cases h4 : x.Op = 4
   · simp only [h4, zb6]; cases x.zL <;> cases m.zX <;> rfl
   · have h5 : x.zL = false := by
      cases hi : x.zL with
      | false => rfl
      | true => exact absurd (h hi) h4
     simp [h5, h7, h4, zb6]
theorem z92 (m : zJ) (x : zB) : zlg m x = some (zp8 m x) := by
 unfold zlg zp8
 simp only [zar]
 cases decide (x.Op = 7) <;> cases m.yA <;> cases x.zL <;> cases m.zX <;> rfl
def zyg (m : zJ) (c : zG) (x : zB) (u : zM) : Int :=
 cond (zm5 x u) 5 (cond (zp8 m x) 39 (if zeb x.zF u.zF ≠ 0 then zeb x.zF u.zF else if zeb x.Second u.Second ≠ 0 then zeb x.Second u.Second else
  cond (zni m c x u) 3 (if zlp x.Number ≠ 0 then zlp x.Number else cond (zpm x) 2 0)))
theorem zsr {x : zB} {u : zM} (h : zm5 x u = false) : (x.zL = true → x.Op = 4) ∧ (u.Number = false → zlp x.Number = 0) := by
 unfold zm5 at h
 simp only [Bool.or_eq_false_iff] at h
 obtain ⟨_, _, _, _, _, _, _, _, _, h10, h11, _⟩ := h
 constructor
 · intro hi; rw [hi] at h10; simpa using h10
 · intro hn; rw [hn] at h11; simp only [Bool.not_false, Bool.true_and, Bool.not_eq_eq_eq_not, bnt, Bool.and_eq_true, beq_iff_eq, Bool.not_eq_false'] at h11; obtain ⟨e1, e2⟩ : x.Number.N = 0 ∧ x.Number.Scale = 0 := by simpa using h11
   unfold zlp; rw [e1, e2]
   decide
theorem zaer (N : Nat) (hN : 20 < N) {m : zJ} (hm : 2 ≤ m.Registers ∧ m.Registers ≤ 8) {c : zG} {x : zB} {f : zP} {u : zM} (hop : inB x.Op 0 26 = true) (hf : zb0 x = some f) (ag : Agree f u)
 (ok : zeb x.zF u.zF = 0 → zeb x.Second u.Second = 0 → InsOk c x u) : zc0 N m c x = some (zyg m c x u) := by
 have f3 : ∀ a b d : Int, zr N [a, b, d] = some (zcy [a, b, d]) := fun a b d => zl8 N _ (by simp; omega) (by simp)
 unfold zc0 zyg
 simp only [eD, eP, eS, eM, eC, eX, eN, eF]
 rw [zmn, hop, hf, zacr hf ag]
 simp only [obs, bnt, cfa]
 rw [zaag N (by omega) ag]
 rw [z6o x u _ rfl]
 simp only [zlj, zkz, obs, f3, orB]
 cases he : zm5 x u with
 | true =>
  have hx : ∃ b, zij m x = some b := by
   unfold zij; cases (x.Op != 7) <;> cases m.yA <;> cases (x.Op != 4) <;> cases x.zL <;> cases m.zX <;> exact ⟨_, rfl⟩
  obtain ⟨b, hb⟩ := hx; rw [hb]; simp [zcy]
 | false =>
  obtain ⟨h1, h2⟩ := zsr he; rw [zaes m x h1]; simp only [obs, Bool.not_not, cfa]; cases zp8 m x with
  | true => simp [zcy]
  | false =>
   simp only [cfa]
   by_cases e1 : zeb x.zF u.zF = 0
   · by_cases e2 : zeb x.Second u.Second = 0
     · rw [zaai N hN hm hf ag (ok e1 e2)]; simp only [e1, e2, zcy, if_true, obs, Bool.not_not]; cases zni m c x u with
       | true => simp
       | false =>
        by_cases e3 : zlp x.Number = 0
        · cases hl : zpm x with
          | true => unfold zpm at hl; simp [e3, hl]
          | false => unfold zpm at hl; simp [e3, hl]
        · simp [e3]
     · simp [zcy, e1, e2, zb6]
   · simp [zcy, e1, zb6]
theorem zac0 {f : zP} {u : zM} (ag : Agree f u) : (u.zF = 0 ∨ u.zF = 1 ∨ u.zF = 2 ∨ u.zF = 3) ∧ (u.Second = 0 ∨ u.Second = 1 ∨ u.Second = 2 ∨ u.Second = 3) := by
 have h1 := ag.class1
 have h2 := ag.class2
 have h3 := ag.cls
 omega
theorem zad2 {m : zJ} (hm : 2 ≤ m.Registers ∧ m.Registers ≤ 8) {c : zG} {x : zB} {f : zP} {u : zM} (hop : inB x.Op 0 26 = true) (hu : zfx x = some u) (ag : Agree f u)
 (ok : zeb x.zF u.zF = 0 → zeb x.Second u.Second = 0 → InsOk c x u) : zd2 m c x = some (zyg m c x u) := by
 obtain ⟨c1, c2⟩ := zac0 ag
 unfold zd2 zyg
 simp only [eD, eP, eS, eM, eC, eX, eN, eF]
 rw [zgy, hop, hu]
 simp only [obs, bnt, cfa]
 rw [z94, z92, zy8 _ _ c1, zy8 _ _ c2, zab6 m hm hu]
 simp only [obs]
 cases he : zm5 x u with
 | true => rfl
 | false =>
  obtain ⟨h1, h2⟩ := zsr he; simp only [cfa]; cases zp8 m x with
  | true => rfl
  | false =>
   simp only [cfa]
   by_cases e1 : zeb x.zF u.zF = 0
   · by_cases e2 : zeb x.Second u.Second = 0
     · have o := ok e1 e2; have hlen := o.len; have hb : ∀ t, zdx t = 0 → za3 t = some (szE t) := fun t h => zjr h; have g1 : ∀ t, (u.Place = true → zdx t = 0) → (cond u.Place ((za3 t).bind fun r => (zez c x.Place r).bind fun r => some (!r)) (some false)) = some (u.Place && !zcn c.Storage x.Place (szE t)) := fun t h => z67 fun hp => by rw [zjr (h hp)]; simp only [obs]; rw [z2j o.sto rfl _ o.po (h hp)]; rfl
       have g2 : (cond u.From ((za3 x.Second).bind fun r => (zez c x.From r).bind fun r => some (!r)) (some false)) = some (u.From && !zcn c.Storage x.From (szE x.Second)) := z67 fun hp => by rw [zjr (o.ft hp)]; simp only [obs]; rw [z2j o.sto rfl _ o.fo (o.ft hp)]; rfl
       have k := o.pt; have kn : ∀ e : Int, (u.Number = false → e = 0) → (cond (u.Number && e != 0) (some e) (cond (zpm x) (some 2) (some 0))) = some (if e ≠ 0 then e else cond (zpm x) 2 0) := by
        intro e h
        by_cases h0 : e = 0
        · subst h0; cases u.Number <;> cases zpm x <;> rfl
        · cases hn : u.Number with
          | false => exact absurd (h hn) h0
          | true => simp [h0, zb6]
       simp only [e1, e2, bsf, cfa, ne_eq, not_true_eq_false, if_false, zar]; rw [w6e]; simp only [zgy, zz7 o.sto, zpw, nF, zme, orB, g2, obs, ← zpm.eq_def]; unfold zni
       by_cases h4 : x.Op = 4
       · have hp : zgw x = x.Second := ifp h4; rw [hp] at k ⊢; rw [g1 _ k]; simp only [h4, decide_true, ctr, obs, kn _ h2]; generalize (zn9 x u).any (zgd m) = t1; generalize (u.Target && !inB x.Target 0 ((c.zC.length : Int) - 1)) = t2; generalize (u.Mask && !inB x.Mask 1 7) = t3; generalize (u.Pointer && !ze3 c.Storage x.Pointer) = t4; generalize (u.Source && !ze3 c.Storage x.Source) = t5; generalize (u.Place && !zcn c.Storage x.Place (szE x.Second)) = t6; generalize (u.From && !zcn c.Storage x.From (szE x.Second)) = t7; generalize (u.zK && !inB x.zK 0 4) = t8; cases t1 <;> cases t2 <;> cases t3 <;> cases t4 <;> cases t5 <;> cases t6 <;> cases t7 <;> cases t8 <;> rfl
       · have hp : zgw x = x.zF := ifn h4; rw [hp] at k ⊢; rw [g1 _ k]; simp only [h4, decide_false, cfa, obs, kn _ h2]; generalize (zn9 x u).any (zgd m) = t1; generalize (u.Target && !inB x.Target 0 ((c.zC.length : Int) - 1)) = t2; generalize (u.Mask && !inB x.Mask 1 7) = t3; generalize (u.Pointer && !ze3 c.Storage x.Pointer) = t4; generalize (u.Source && !ze3 c.Storage x.Source) = t5; generalize (u.Place && !zcn c.Storage x.Place (szE x.zF)) = t6; generalize (u.From && !zcn c.Storage x.From (szE x.Second)) = t7; generalize (u.zK && !inB x.zK 0 4) = t8; cases t1 <;> cases t2 <;> cases t3 <;> cases t4 <;> cases t5 <;> cases t6 <;> cases t7 <;> cases t8 <;> rfl
     · simp [e1, e2, zb6]
   · simp [e1, zb6]
theorem znz {n : Nat} {c : zG} (h : Wft En n Ty.zG c) : c.Storage.Bytes.size ≤ n ∧ c.Storage.Tags.length ≤ n ∧ c.zC.length ≤ n ∧ c.zO.length ≤ n ∧ ∀ x ∈ c.zC, Wft En n Ty.zB x := by
 have h1 := h (.sc (.string c.Storage.Bytes)) (by show _ ∈ zll c; simp [zll])
 have h2 := h (.lst Ty.bool c.Storage.Tags) (by show _ ∈ zll c; simp [zll])
 have h3 := h (.lst Ty.zB c.zC) (by show _ ∈ zll c; simp [zll])
 have h4 := h (.lst Ty.zS c.zO) (by show _ ∈ zll c; simp [zll])
 cases h1 with
 | str h1 =>
  cases h2 with
  | lst h2 _ =>
   cases h3 with
   | lst h3 h3' =>
    cases h4 with
    | lst h4 _ => exact ⟨h1, h2, h3, h4, h3'⟩
theorem z45 {n : Nat} {z : Int} (h : Wfc En n (.sc (.int .i64 z))) : -9223372036854775808 ≤ z ∧ z ≤ 9223372036854775807 := by
 cases h with
 | int h1 h2 =>
  have e1 : IntKind.i64.min = -9223372036854775808 := by decide
  have e2 : IntKind.i64.max = 9223372036854775807 := by decide
  rw [e1] at h1; rw [e2] at h2; exact ⟨h1, h2⟩
theorem zaep {n : Nat} {x : zB} (h : Wft En n Ty.zB x) : (-9223372036854775808 ≤ x.Place.Offset ∧ x.Place.Offset ≤ 9223372036854775807) ∧ (-9223372036854775808 ≤ x.From.Offset ∧ x.From.Offset ≤ 9223372036854775807) :=
 ⟨z45 (h _ (by show _ ∈ zjc x; simp [zjc])), z45 (h _ (by show _ ∈ zjc x; simp [zjc]))⟩
def zo9 (m : zJ) (c : zG) (x : zB) : Int := if inB x.Op 0 26 = true then zyg m c x ((zfx x).getD ⟨false, false, false, false, false, false, false, false, false, false, false, false, false, false, 0, 0⟩) else 4
theorem z36 (N : Nat) (hN : 20 < N) {m : zJ} (hm : 2 ≤ m.Registers ∧ m.Registers ≤ 8) {c : zG} (hs : StoOk c.Storage) (hlen : c.zC.length < 1000000000) {n : Nat} {x : zB} (hx : Wft En n Ty.zB x) :
 zc0 N m c x = some (zo9 m c x) ∧ zd2 m c x = some (zo9 m c x) := by
 obtain ⟨w1, w2⟩ := zaep hx
 unfold zo9
 by_cases hop : inB x.Op 0 26 = true
 · obtain ⟨f, u, hf, hu, ag, h4, h5, h6⟩ := z08 x hop; have ok : zeb x.zF u.zF = 0 → zeb x.Second u.Second = 0 → InsOk c x u := fun e1 e2 => {
    sto := hs, len := hlen, po := w1, fo := w2,
    pt := fun hp => (by
     have := h6 hp; unfold zgw; split
     · rename_i h7; rw [ifp h7] at this; exact zqk e2 this
     · rename_i h7; rw [ifn h7] at this; exact zqk e1 this),
    ft := fun hp => zqk e2 (h5 hp) }
   rw [ifp hop, hu]; exact ⟨zaer N hN hm hop hf ag ok, zad2 hm hop hu ag ok⟩
 · rw [ifn hop]; have e : inB x.Op 0 26 = false := by simpa using hop
   constructor
   · unfold zc0; rw [zmn, e]; rfl
   · unfold zd2; rw [zgy, e]; rfl
def zqm (c : zG) (t : zS) : Bool := (inB t.From 0 t.To && (decide (t.To ≤ (c.zC.length : Int)) && (inB t.Exception 0 999 && inB t.Handler 0 ((c.zC.length : Int) - 1))))
theorem zacn (c : zG) (hlen : c.zC.length < 1000000000) (t : zS) : zhu c t = some (cond (zqm c t) 0 3) := by
 unfold zhu zqm
 rw [w6e]
 simp only [zmn, zlj, zme, obs, Bool.and_assoc]
 generalize (inB t.From 0 t.To && (decide (t.To ≤ (c.zC.length : Int)) && (inB t.Exception 0 999 && inB t.Handler 0 ((c.zC.length : Int) - 1)))) = b
 cases b <;> rfl
theorem zab3 (c : zG) (t : zS) : ((decide (t.From < 0) || decide (t.From > t.To)) || (decide (t.To > (c.zC.length : Int)))) = !(inB t.From 0 t.To && decide (t.To ≤ (c.zC.length : Int))) := by
 unfold inB
 by_cases h1 : t.From < 0
 · simp [h1, show ¬ (0 ≤ t.From) by omega]
 · by_cases h2 : t.From > t.To
   · simp [h1, h2, show ¬ (t.From ≤ t.To) by omega]
   · by_cases h3 : t.To > (c.zC.length : Int)
     · simp [h1, h2, h3, show ¬ (t.To ≤ (c.zC.length : Int)) by omega]
     · simp [h1, h2, h3, show (0 ≤ t.From) by omega, show (t.From ≤ t.To) by omega, show (t.To ≤ (c.zC.length : Int)) by omega]
def gI (m : zJ) (c : zG) (i : Nat) : Option (Int × Int) := (c.zC[i]?).bind fun x => if zo9 m c x = 0 then none else some ((i : Int), zo9 m c x)
def gT (c : zG) (i : Nat) : Option (Int × Int) := (c.zO[i]?).bind fun t => if zqm c t = true then none else some ((i : Int), 3)
def ztp (m : zJ) (c : zG) : Int × Int :=
 match (List.range c.zC.length).findSome? (gI m c) with
 | some r => r
 | none => match (List.range c.zO.length).findSome? (gT c) with
  | some r => r
  | none => ((c.zC.length : Int), 0)
theorem zaaj (N : Nat) (hN : 1048600 < N) {m : zJ} (hm : 2 ≤ m.Registers ∧ m.Registers ≤ 8) {c : zG} (hs : StoOk c.Storage) (hc : Wft En 1048576 Ty.zG c) :
 ((zl (zn.r0 N) N (c.zC, (c.zC.length : Int), 0, m, c)).bind fun z10 =>
 zb9 z10 (fun z => some z) (fun y9 => (zl (zn.r2 N) N (y9.2.2.2.2.zO, (y9.2.2.2.2.zO.length : Int), 0, y9.2.2.2.2)).bind fun z12 => zb9 z12 (fun z =>
 some z) (fun y11 => some ((y11.2.2.2.zC.length : Int), 0)))) = some (ztp m c) := by
 obtain ⟨w1, w2, w3, w4, w5⟩ := znz hc
 have l1 := zb1 (f := zn.r0 N) (fun i => (c.zC, (c.zC.length : Int), (i : Int), m, c)) (gI m c) c.zC.length
  (fun i hi => by
   have hx := lge hi; have hb := (z36 N (by omega) hm hs (by omega) (w5 _ (List.getElem_mem hi))).1; simp only [zn.r0, zn.b0, zan, hx, obs, dct (show (i : Int) < (c.zC.length : Int) by omega), ctr, eD, eP, eS, eM, eC, eX, eN, gI, hb]; rw [w6e]
   by_cases h0 : zo9 m c c.zC[i] = 0 <;> simp [h0, zb6])
  (by simp only [zn.r0, zn.b0, dcf (show ¬ (c.zC.length : Int) < (c.zC.length : Int) by omega), cfa]) (N := N) (by omega)
 have l2 := zb1 (f := zn.r2 N) (fun i => (c.zO, (c.zO.length : Int), (i : Int), c)) (gT c) c.zO.length
  (fun i hi => by
   have hx := lge hi; simp only [zn.r2, zn.b2, zan, hx, obs, dct (show (i : Int) < (c.zO.length : Int) by omega), ctr, gT, zacn c (by omega)]; rw [w6e]; cases zqm c c.zO[i] <;> simp)
  (by simp only [zn.r2, zn.b2, dcf (show ¬ (c.zO.length : Int) < (c.zO.length : Int) by omega), cfa]) (N := N) (by omega)
 simp only [nc0] at l1 l2
 rw [l1]
 unfold ztp
 simp only [obs]
 cases (List.range c.zC.length).findSome? (gI m c) with
 | some r => rfl
 | none =>
  simp only [zb9]; rw [l2]; simp only [obs]; cases (List.range c.zO.length).findSome? (gT c) <;> rfl
theorem z2l (N : Nat) (hN : 1048600 < N) {m : zJ} (hm : 2 ≤ m.Registers ∧ m.Registers ≤ 8) {c : zG} (hs : StoOk c.Storage) (hc : Wft En 1048576 Ty.zG c) :
 ((zl (zt.r1 N) N (0, m, c)).bind fun z6 =>
 zb9 z6 (fun z => some z) (fun y5 => (zl (zt.r3 N) N (0, y5.2.2)).bind fun z8 => zb9 z8 (fun z => some z) (fun y7 =>
 some ((y7.2.zC.length : Int), 0)))) = some (ztp m c) := by
 obtain ⟨w1, w2, w3, w4, w5⟩ := znz hc
 have l1 := zb1 (f := zt.r1 N) (fun i => ((i : Int), m, c)) (gI m c) c.zC.length
  (fun i hi => by
   have hx := lge hi; have hb := (z36 N (by omega) hm hs (by omega) (w5 _ (List.getElem_mem hi))).2; simp only [zt.r1, zt.b1, zan, hx, obs, dct (show (i : Int) < (c.zC.length : Int) by omega), ctr, eD, eP, eS, eM, eC, eX, eN, gI, hb]; rw [w6e]
   by_cases h0 : zo9 m c c.zC[i] = 0 <;> simp [h0, zb6])
  (by simp only [zt.r1, zt.b1, dcf (show ¬ (c.zC.length : Int) < (c.zC.length : Int) by omega), cfa]) (N := N) (by omega)
 have l2 := zb1 (f := zt.r3 N) (fun i => ((i : Int), c)) (gT c) c.zO.length
  (fun i hi => by
   have hx := lge hi; simp only [zt.r3, zt.b3, zan, hx, obs, dct (show (i : Int) < (c.zO.length : Int) by omega), ctr, gT, orB, zgy, zab3]; rw [w6e (n := (i : Int) + 1), w6e (n := (c.zC.length : Int) - 1)]; have bl : ∀ a b d e : Bool, ((!(a && b) || !d) || !e) = !(a && (b && (d && e))) := fun a b d e => by cases a <;> cases b <;> cases d <;> cases e <;> rfl
   simp only [zgy, obs, orB, bl, ← zqm.eq_def]; cases zqm c c.zO[i] <;> simp)
  (by simp only [zt.r3, zt.b3, dcf (show ¬ (c.zO.length : Int) < (c.zO.length : Int) by omega), cfa]) (N := N) (by omega)
 simp only [nc0] at l1 l2
 rw [l1]
 unfold ztp
 simp only [obs]
 cases (List.range c.zC.length).findSome? (gI m c) with
 | some r => rfl
 | none =>
  simp only [zb9]; rw [l2]; simp only [obs]; cases (List.range c.zO.length).findSome? (gT c) <;> rfl
theorem zafl (n lo hi : Int) : zgn n lo hi = some (inB n lo hi) := by
 unfold zgn inB
 cases decide (lo ≤ n) <;> rfl
theorem zcp (b : ByteArray) (i j : Nat) (h : j ≤ b.size) (hij : i ≤ j) : (b.extract i j).size = j - i := by
 rw [ByteArray.size_extract]
 omega
theorem zk0 {α : Type} {f : α → Option (Stp α)} (I : α → Prop) (m : α → Nat) (Q : α → Prop) (h : ∀ s, I s → (∃ s', f s = some (.again s') ∧ I s' ∧ m s' < m s) ∨ ∃ s', f s = some (.leave s') ∧ Q s') : ∀ {N : Nat} {s : α}, I s → m s < N → ∃ s', zm f N s = some s' ∧ Q s' := by
 intro N
 induction N with
 | zero => intro s _ h0; omega
 | succ N ih =>
  intro s hs hN; rcases h s hs with ⟨s1, h1, h2, h3⟩ | ⟨s', h1, h2⟩
  · obtain ⟨s', h4, h5⟩ := ih h2 (show m s1 < N by omega); exact ⟨s', by simp only [zm, h1, obs]; exact h4, h5⟩
  · exact ⟨s', by simp only [zm, h1, obs], h2⟩
theorem z8m {R α : Type} {f : α → Option (Round R α)} (I : α → Prop) (m : α → Nat) (J : R → Prop) (Q : α → Prop) (h : ∀ s, I s → (∃ s', f s = some (.again s') ∧ I s' ∧ m s' < m s) ∨ (∃ s', f s = some (.leave s') ∧ Q s') ∨ ∃ r, f s = some (.result r) ∧ J r) : ∀ {N : Nat} {s : α}, I s → m s < N → (∃ s', zl f N s = some (.inr s') ∧ Q s') ∨ ∃ r, zl f N s = some (.inl r) ∧ J r := by
 intro N
 induction N with
 | zero => intro s _ h0; omega
 | succ N ih =>
  intro s hs hN; rcases h s hs with ⟨s1, h1, h2, h3⟩ | ⟨s', h1, h2⟩ | ⟨r, h1, h2⟩
  · rcases ih h2 (show m s1 < N by omega) with ⟨s', h4, h5⟩ | ⟨r, h4, h5⟩
    · exact .inl ⟨s', by simp only [zl, h1, obs]; exact h4, h5⟩
    · exact .inr ⟨r, by simp only [zl, h1, obs]; exact h4, h5⟩
  · exact .inl ⟨s', by simp only [zl, h1, obs], h2⟩
  · exact .inr ⟨r, by simp only [zl, h1, obs], h2⟩
theorem zaa4 {n : Int} (h1 : 0 ≤ n) (h2 : n < 18446744073709551616) : IntKind.wrap .u64 n = n := by
 have e : (2 : Int) ^ (IntKind.u64.bits) = 18446744073709551616 := by decide
 unfold IntKind.wrap
 simp only [e, show IntKind.u64.signed = false from rfl, Bool.false_and]
 simp only [Bool.false_eq_true, if_false]
 omega
theorem zla {n : Int} (h1 : 0 ≤ n) (h2 : n < 256) : IntKind.wrap .u8 n = n := by
 have e : (2 : Int) ^ (IntKind.u8.bits) = 256 := by decide
 unfold IntKind.wrap
 simp only [e, show IntKind.u8.signed = false from rfl, Bool.false_and]
 simp only [Bool.false_eq_true, if_false]
 omega
theorem orU (x y : Nat) (hx : x < 2 ^ 64) (hy : y < 2 ^ 64) : orI .u64 (x : Int) (y : Int) = ((x ||| y : Nat) : Int) := by
 have h := Nat.or_lt_two_pow hx hy
 unfold orI
 have e : (BitVec.ofInt IntKind.u64.bits (x : Int) ||| BitVec.ofInt IntKind.u64.bits (y : Int)).toNat = (x ||| y) := by
  show (BitVec.ofInt 64 (x : Int) ||| BitVec.ofInt 64 (y : Int)).toNat = _; rw [BitVec.toNat_or, BitVec.ofInt_natCast, BitVec.ofInt_natCast, BitVec.toNat_ofNat, BitVec.toNat_ofNat, mel hx, mel hy]
 rw [e]
 exact zaa4 (by omega) (by omega)
theorem andU (x y : Nat) (hx : x < 2 ^ 64) (hy : y < 2 ^ 64) : zh .u64 (x : Int) (y : Int) = ((x &&& y : Nat) : Int) := by
 have h := Nat.and_lt_two_pow x hy
 unfold zh
 have e : (BitVec.ofInt IntKind.u64.bits (x : Int) &&& BitVec.ofInt IntKind.u64.bits (y : Int)).toNat = (x &&& y) := by
  show (BitVec.ofInt 64 (x : Int) &&& BitVec.ofInt 64 (y : Int)).toNat = _; rw [BitVec.toNat_and, BitVec.ofInt_natCast, BitVec.ofInt_natCast, BitVec.toNat_ofNat, BitVec.toNat_ofNat, mel hx, mel hy]
 rw [e]
 exact zaa4 (by omega) (by omega)
def wn (n : Nat) : zH := ⟨(n % 18446744073709551616 : Nat), (n / 18446744073709551616 % 18446744073709551616 : Nat), (n / 18446744073709551616 / 18446744073709551616 % 18446744073709551616 : Nat), (n / 18446744073709551616 / 18446744073709551616 / 18446744073709551616 % 18446744073709551616 : Nat)⟩
def zkf : Nat := 115792089237316195423570985008687907853269984665640564039457584007913129639936
theorem z7e {x y : zH} (h0 : x.e0 = y.e0) (h1 : x.e1 = y.e1) (h2 : x.e2 = y.e2) (h3 : x.e3 = y.e3) : x = y := by
 cases x; cases y; simp_all
theorem z02 {n : Nat} (h : n < 18446744073709551616) : zbp (n : Int) = some (wn n) := by
 unfold zbp wn
 congr 2 <;> omega
theorem zago (N : Nat) (a b w o : zH) : z7.r0 N (0, 0, a, b, w, o) = some (.again (((a.e0.toNat + b.e0.toNat + 0) / 2 ^ 64 : Nat), 1, a, b, w, ⟨((a.e0.toNat + b.e0.toNat + 0) % 2 ^ 64 : Nat), o.e1, o.e2, o.e3⟩)) := by kernel_rfl
theorem zagn (N c : Nat) (hc : ¬ c > 1) (a b w o : zH) : z7.r0 N (c, 1, a, b, w, o) = some (.again (((a.e1.toNat + b.e1.toNat + c) / 2 ^ 64 : Nat), 2, a, b, w, ⟨o.e0, ((a.e1.toNat + b.e1.toNat + c) % 2 ^ 64 : Nat), o.e2, o.e3⟩)) := by
 have : z7.r0 N (c, 1, a, b, w, o) = if c > 1 then none else some (.again (((a.e1.toNat + b.e1.toNat + c) / 2 ^ 64 : Nat), 2, a, b, w, ⟨o.e0, ((a.e1.toNat + b.e1.toNat + c) % 2 ^ 64 : Nat), o.e2, o.e3⟩)) := by kernel_rfl
 rw [this, ifn hc]
theorem zagm (N c : Nat) (hc : ¬ c > 1) (a b w o : zH) : z7.r0 N (c, 2, a, b, w, o) = some (.again (((a.e2.toNat + b.e2.toNat + c) / 2 ^ 64 : Nat), 3, a, b, w, ⟨o.e0, o.e1, ((a.e2.toNat + b.e2.toNat + c) % 2 ^ 64 : Nat), o.e3⟩)) := by
 have : z7.r0 N (c, 2, a, b, w, o) = if c > 1 then none else some (.again (((a.e2.toNat + b.e2.toNat + c) / 2 ^ 64 : Nat), 3, a, b, w, ⟨o.e0, o.e1, ((a.e2.toNat + b.e2.toNat + c) % 2 ^ 64 : Nat), o.e3⟩)) := by kernel_rfl
 rw [this, ifn hc]
theorem zagl (N c : Nat) (hc : ¬ c > 1) (a b w o : zH) : z7.r0 N (c, 3, a, b, w, o) = some (.again (((a.e3.toNat + b.e3.toNat + c) / 2 ^ 64 : Nat), 4, a, b, w, ⟨o.e0, o.e1, o.e2, ((a.e3.toNat + b.e3.toNat + c) % 2 ^ 64 : Nat)⟩)) := by
 have : z7.r0 N (c, 3, a, b, w, o) = if c > 1 then none else some (.again (((a.e3.toNat + b.e3.toNat + c) / 2 ^ 64 : Nat), 4, a, b, w, ⟨o.e0, o.e1, o.e2, ((a.e3.toNat + b.e3.toNat + c) % 2 ^ 64 : Nat)⟩)) := by kernel_rfl
 rw [this, ifn hc]
theorem zagk (N : Nat) (c : Int) (a b w o : zH) : z7.r0 N (c, 4, a, b, w, o) = some (.leave (c, 4, a, b, w, o)) := by kernel_rfl
theorem z7a (x y c : Nat) : (x % 18446744073709551616 + y % 18446744073709551616 + c) % 2 ^ 64 = (x + y + c) % 18446744073709551616 ∧ x / 18446744073709551616 + y / 18446744073709551616 + (x % 18446744073709551616 + y % 18446744073709551616 + c) / 2 ^ 64 = (x + y + c) / 18446744073709551616 ∧ (c ≤ 1 → ¬ (x % 18446744073709551616 + y % 18446744073709551616 + c) / 2 ^ 64 > 1) := by omega
theorem zwm (N : Nat) (hN : 10 < N) (a b : Nat) : z7 N (wn a) (wn b) = some (wn (a + b)) := by
 obtain ⟨n, rfl⟩ : ∃ n, N = n + 5 := ⟨N - 5, by omega⟩
 obtain ⟨l0, m0, c0⟩ := z7a a b 0
 have c0' := c0 (by omega)
 obtain ⟨l1, m1, c1⟩ := z7a (a / 18446744073709551616) (b / 18446744073709551616) ((a % 18446744073709551616 + b % 18446744073709551616 + 0) / 2 ^ 64)
 have c1' := c1 (by omega)
 rw [m0] at l1 m1
 obtain ⟨l2, m2, c2⟩ := z7a (a / 18446744073709551616 / 18446744073709551616) (b / 18446744073709551616 / 18446744073709551616) ((a / 18446744073709551616 % 18446744073709551616 + b / 18446744073709551616 % 18446744073709551616 + (a % 18446744073709551616 + b % 18446744073709551616 + 0) / 2 ^ 64) / 2 ^ 64)
 have c2' := c2 (by omega)
 rw [m1] at l2 m2
 obtain ⟨l3, _, _⟩ := z7a (a / 18446744073709551616 / 18446744073709551616 / 18446744073709551616) (b / 18446744073709551616 / 18446744073709551616 / 18446744073709551616) ((a / 18446744073709551616 / 18446744073709551616 % 18446744073709551616 + b / 18446744073709551616 / 18446744073709551616 % 18446744073709551616 + (a / 18446744073709551616 % 18446744073709551616 + b / 18446744073709551616 % 18446744073709551616 + (a % 18446744073709551616 + b % 18446744073709551616 + 0) / 2 ^ 64) / 2 ^ 64) / 2 ^ 64)
 rw [m2] at l3
 unfold z7
 simp only [zm, zago, obs]
 simp only [wn, itn]
 rw [zagn _ _ c0']
 simp only [obs, itn]
 rw [zagm _ _ c1']
 simp only [obs, itn]
 rw [zagl _ _ c2']
 simp only [obs, itn]
 rw [zagk, l0, l1, l2, l3]
 rfl
theorem zaek (N : Nat) (a b w o : zH) : zx.r0 N (0, 0, a, b, w, o) = some (.again (((if a.e0.toNat < b.e0.toNat + 0 then 1 else 0 : Nat) : Int), 1, a, b, w, ⟨((a.e0.toNat + 2 ^ 64 - b.e0.toNat - 0) % 2 ^ 64 : Nat), o.e1, o.e2, o.e3⟩)) := by kernel_rfl
theorem zaej (N c : Nat) (hc : ¬ c > 1) (a b w o : zH) : zx.r0 N (c, 1, a, b, w, o) = some (.again (((if a.e1.toNat < b.e1.toNat + c then 1 else 0 : Nat) : Int), 2, a, b, w, ⟨o.e0, ((a.e1.toNat + 2 ^ 64 - b.e1.toNat - c) % 2 ^ 64 : Nat), o.e2, o.e3⟩)) := by
 have : zx.r0 N (c, 1, a, b, w, o) = if c > 1 then none else some (.again (((if a.e1.toNat < b.e1.toNat + c then 1 else 0 : Nat) : Int), 2, a, b, w, ⟨o.e0, ((a.e1.toNat + 2 ^ 64 - b.e1.toNat - c) % 2 ^ 64 : Nat), o.e2, o.e3⟩)) := by kernel_rfl
 rw [this, ifn hc]
theorem zaei (N c : Nat) (hc : ¬ c > 1) (a b w o : zH) : zx.r0 N (c, 2, a, b, w, o) = some (.again (((if a.e2.toNat < b.e2.toNat + c then 1 else 0 : Nat) : Int), 3, a, b, w, ⟨o.e0, o.e1, ((a.e2.toNat + 2 ^ 64 - b.e2.toNat - c) % 2 ^ 64 : Nat), o.e3⟩)) := by
 have : zx.r0 N (c, 2, a, b, w, o) = if c > 1 then none else some (.again (((if a.e2.toNat < b.e2.toNat + c then 1 else 0 : Nat) : Int), 3, a, b, w, ⟨o.e0, o.e1, ((a.e2.toNat + 2 ^ 64 - b.e2.toNat - c) % 2 ^ 64 : Nat), o.e3⟩)) := by kernel_rfl
 rw [this, ifn hc]
theorem zaeh (N c : Nat) (hc : ¬ c > 1) (a b w o : zH) : zx.r0 N (c, 3, a, b, w, o) = some (.again (((if a.e3.toNat < b.e3.toNat + c then 1 else 0 : Nat) : Int), 4, a, b, w, ⟨o.e0, o.e1, o.e2, ((a.e3.toNat + 2 ^ 64 - b.e3.toNat - c) % 2 ^ 64 : Nat)⟩)) := by
 have : zx.r0 N (c, 3, a, b, w, o) = if c > 1 then none else some (.again (((if a.e3.toNat < b.e3.toNat + c then 1 else 0 : Nat) : Int), 4, a, b, w, ⟨o.e0, o.e1, o.e2, ((a.e3.toNat + 2 ^ 64 - b.e3.toNat - c) % 2 ^ 64 : Nat)⟩)) := by kernel_rfl
 rw [this, ifn hc]
theorem zaeg (N : Nat) (c : Int) (a b w o : zH) : zx.r0 N (c, 4, a, b, w, o) = some (.leave (c, 4, a, b, w, o)) := by kernel_rfl
theorem zzm (p : Prop) [Decidable p] : (if p then 1 else 0 : Nat) ≤ 1 := by split <;> omega
theorem z5y (x y c k : Nat) (hk : k = c) (hc : c ≤ 1) : ((x + y + c) % 18446744073709551616 + 2 ^ 64 - y % 18446744073709551616 - k) % 2 ^ 64 = x % 18446744073709551616 ∧ (if (x + y + c) % 18446744073709551616 < y % 18446744073709551616 + k then 1 else 0 : Nat) = (x % 18446744073709551616 + y % 18446744073709551616 + c) / 2 ^ 64 ∧ (x % 18446744073709551616 + y % 18446744073709551616 + c) / 2 ^ 64 ≤ 1 ∧ (x + y + c) / 18446744073709551616 = x / 18446744073709551616 + y / 18446744073709551616 + (x % 18446744073709551616 + y % 18446744073709551616 + c) / 2 ^ 64 := by
 subst hk
 refine ⟨by omega, ?_, by omega, by omega⟩
 split <;> omega
theorem zvp (N : Nat) (hN : 10 < N) (a b : Nat) : ∃ r, zx N (wn a) (wn b) = some r ∧ (b ≤ a → r = wn (a - b)) := by
 obtain ⟨n, rfl⟩ : ∃ n, N = n + 5 := ⟨N - 5, by omega⟩
 unfold zx
 simp only [zm, zaek, obs]
 have t1 : ¬ (if (wn a).e0.toNat < (wn b).e0.toNat + 0 then 1 else 0 : Nat) > 1 := by have := zzm ((wn a).e0.toNat < (wn b).e0.toNat + 0); omega
 rw [zaej _ _ t1]
 simp only [obs]
 have t2 := zzm ((wn a).e1.toNat < (wn b).e1.toNat + (if (wn a).e0.toNat < (wn b).e0.toNat + 0 then 1 else 0 : Nat))
 rw [zaei _ _ (by omega)]
 simp only [obs]
 have t3 := zzm ((wn a).e2.toNat < (wn b).e2.toNat + (if (wn a).e1.toNat < (wn b).e1.toNat + (if (wn a).e0.toNat < (wn b).e0.toNat + 0 then 1 else 0 : Nat) then 1 else 0 : Nat))
 rw [zaeh _ _ (by omega)]
 simp only [obs]
 rw [zaeg]
 refine ⟨_, rfl, fun hb => ?_⟩
 obtain ⟨d, rfl⟩ : ∃ d, a = d + b := ⟨a - b, by omega⟩
 clear t1 t2 t3
 rw [Nat.add_sub_cancel]
 obtain ⟨s0, u0, v0, w0⟩ := z5y d b 0 0 rfl (by omega)
 rw [Nat.add_zero (d + b)] at s0 u0 w0
 obtain ⟨s1, u1, v1, w1⟩ := z5y (d / 18446744073709551616) (b / 18446744073709551616) _ _ u0 v0
 rw [← w0] at s1 u1 w1
 obtain ⟨s2, u2, v2, w2⟩ := z5y (d / 18446744073709551616 / 18446744073709551616) (b / 18446744073709551616 / 18446744073709551616) _ _ u1 v1
 rw [← w1] at s2 u2 w2
 obtain ⟨s3, u3, v3, w3⟩ := z5y (d / 18446744073709551616 / 18446744073709551616 / 18446744073709551616) (b / 18446744073709551616 / 18446744073709551616 / 18446744073709551616) _ _ u2 v2
 rw [← w2] at s3
 refine z7e ?_ ?_ ?_ ?_
 · exact congrArg Int.ofNat s0
 · exact congrArg Int.ofNat s1
 · exact congrArg Int.ofNat s2
 · exact congrArg Int.ofNat s3
theorem zyd (N : Nat) (hN : 10 < N) {a b : Nat} (h : b ≤ a) : zx N (wn a) (wn b) = some (wn (a - b)) := by
 obtain ⟨r, h1, h2⟩ := zvp N hN a b
 rw [h1, h2 h]
def zie (a b : Nat) : Int := if a < b then -1 else if b < a then 1 else 0
theorem cmp3 (N : Nat) (a b : zH) : zk.r0 N (3, a, b) = cond (decide (a.e3 < b.e3)) (some (.result (-1))) (cond (decide (a.e3 > b.e3)) (some (.result 1)) (some (.again (2, a, b)))) := by kernel_rfl
theorem cmp2 (N : Nat) (a b : zH) : zk.r0 N (2, a, b) = cond (decide (a.e2 < b.e2)) (some (.result (-1))) (cond (decide (a.e2 > b.e2)) (some (.result 1)) (some (.again (1, a, b)))) := by kernel_rfl
theorem cmp1 (N : Nat) (a b : zH) : zk.r0 N (1, a, b) = cond (decide (a.e1 < b.e1)) (some (.result (-1))) (cond (decide (a.e1 > b.e1)) (some (.result 1)) (some (.again (0, a, b)))) := by kernel_rfl
theorem cmp0 (N : Nat) (a b : zH) : zk.r0 N (0, a, b) = cond (decide (a.e0 < b.e0)) (some (.result (-1))) (cond (decide (a.e0 > b.e0)) (some (.result 1)) (some (.again ((-1), a, b)))) := by kernel_rfl
theorem cmpE (N : Nat) (a b : zH) : zk.r0 N ((-1), a, b) = some (.leave ((-1), a, b)) := by kernel_rfl
def zo1 (x y R : Int) : Int := if x < y then -1 else if y < x then 1 else R
theorem z86 (n : Nat) (a b : zH) : zk (n + 5) a b = some (zo1 a.e3 b.e3 (zo1 a.e2 b.e2 (zo1 a.e1 b.e1 (zo1 a.e0 b.e0 0)))) := by
 unfold zk zo1
 simp only [zl, cmp3]
 by_cases h3 : a.e3 < b.e3
 · rw [ifp h3, dct h3]; rfl
 · rw [ifn h3, dcf h3]
   by_cases g3 : b.e3 < a.e3
   · rw [ifp g3, dct g3]; rfl
   · rw [ifn g3, dcf g3]; simp only [cfa, obs, cmp2]
     by_cases h2 : a.e2 < b.e2
     · rw [ifp h2, dct h2]; rfl
     · rw [ifn h2, dcf h2]
       by_cases g2 : b.e2 < a.e2
       · rw [ifp g2, dct g2]; rfl
       · rw [ifn g2, dcf g2]; simp only [cfa, obs, cmp1]
         by_cases h1 : a.e1 < b.e1
         · rw [ifp h1, dct h1]; rfl
         · rw [ifn h1, dcf h1]
           by_cases g1 : b.e1 < a.e1
           · rw [ifp g1, dct g1]; rfl
           · rw [ifn g1, dcf g1]; simp only [cfa, obs, cmp0]
             by_cases h0 : a.e0 < b.e0
             · rw [ifp h0, dct h0]; rfl
             · rw [ifn h0, dcf h0]
               by_cases g0 : b.e0 < a.e0
               · rw [ifp g0, dct g0]; rfl
               · rw [ifn g0, dcf g0]; simp only [cfa, obs, cmpE]; rfl
theorem zmm (N : Nat) (hN : 10 < N) {a b : Nat} (ha : a < zkf) (hb : b < zkf) : zk N (wn a) (wn b) = some (zie a b) := by
 obtain ⟨n, rfl⟩ : ∃ n, N = n + 5 := ⟨N - 5, by omega⟩
 unfold zkf at ha hb
 rw [z86]
 have k0 : ∀ x y : Nat, zo1 (x : Int) (y : Int) 0 = zie x y := fun x y => by
  unfold zo1 zie
  repeat' split
  all_goals first | rfl | (exfalso; omega)
 have top : a / 18446744073709551616 / 18446744073709551616 / 18446744073709551616 < 18446744073709551616 := by omega
 have top2 : b / 18446744073709551616 / 18446744073709551616 / 18446744073709551616 < 18446744073709551616 := by omega
 have s1 : ∀ (x y : Nat) (R : Int), zo1 ((x : Nat) : Int) ((y : Nat) : Int) R = if zie x y = 0 then R else zie x y := fun x y R => by
  unfold zo1 zie
  repeat' split
  all_goals first | rfl | (exfalso; omega) | contradiction
 have s2 : ∀ x y : Nat, zie x y = if zie (x / 18446744073709551616) (y / 18446744073709551616) = 0 then zie (x % 18446744073709551616) (y % 18446744073709551616) else zie (x / 18446744073709551616) (y / 18446744073709551616) := fun x y => by
  unfold zie
  repeat' split
  all_goals first | rfl | (exfalso; omega) | contradiction
 show some (zo1 (((a / 18446744073709551616 / 18446744073709551616 / 18446744073709551616 % 18446744073709551616 : Nat) : Int)) (((b / 18446744073709551616 / 18446744073709551616 / 18446744073709551616 % 18446744073709551616 : Nat) : Int)) (zo1 (((a / 18446744073709551616 / 18446744073709551616 % 18446744073709551616 : Nat) : Int)) (((b / 18446744073709551616 / 18446744073709551616 % 18446744073709551616 : Nat) : Int)) (zo1 (((a / 18446744073709551616 % 18446744073709551616 : Nat) : Int)) (((b / 18446744073709551616 % 18446744073709551616 : Nat) : Int)) (zo1 (((a % 18446744073709551616 : Nat) : Int)) (((b % 18446744073709551616 : Nat) : Int)) 0)))) = _
 rw [mel top, mel top2, s1, s1, s1, s1]
 have r3 := s2 (a / 18446744073709551616 / 18446744073709551616) (b / 18446744073709551616 / 18446744073709551616)
 have r2 := s2 (a / 18446744073709551616) (b / 18446744073709551616)
 have r1 := s2 a b
 clear s1 s2 top top2 ha hb k0
 generalize zie (a / 18446744073709551616 / 18446744073709551616 / 18446744073709551616) (b / 18446744073709551616 / 18446744073709551616 / 18446744073709551616) = o3 at *
 generalize zie (a / 18446744073709551616 / 18446744073709551616 % 18446744073709551616) (b / 18446744073709551616 / 18446744073709551616 % 18446744073709551616) = m2 at *
 generalize zie (a / 18446744073709551616 % 18446744073709551616) (b / 18446744073709551616 % 18446744073709551616) = m1 at *
 generalize zie (a % 18446744073709551616) (b % 18446744073709551616) = m0 at *
 rw [r1, r2, r3]
 congr 1
 by_cases h3 : o3 = 0
 · by_cases h2 : m2 = 0
   · by_cases h1 : m1 = 0
     · by_cases h0 : m0 = 0
       · simp only [h3, h2, h1, h0, if_true]
       · simp only [h3, h2, h1, h0, if_true, if_false]
     · simp only [h3, h2, h1, if_true, if_false]
   · simp only [h3, h2, if_true, if_false]
 · simp only [h3, if_true, if_false]
theorem zsv (m : Nat) : IntKind.wrap .u64 (m : Int) = ((m % 18446744073709551616 : Nat) : Int) := by
 have e : (2 : Int) ^ (IntKind.u64.bits) = 18446744073709551616 := by decide
 unfold IntKind.wrap
 simp only [e, show IntKind.u64.signed = false from rfl, Bool.false_and]
 simp only [Bool.false_eq_true, if_false]
 omega
theorem zua (p q : Nat) : (p : Int).fdiv (q : Int) = ((p / q : Nat) : Int) := by
 rw [Int.fdiv_eq_ediv_of_nonneg _ (by omega)]
 exact (Int.natCast_ediv p q).symm
theorem z3p (p : Nat) : (p : Int).fdiv (2 ^ (min (32 : Int).toNat 64)) = ((p / 4294967296 : Nat) : Int) := zua p 4294967296
theorem z68 (p : Nat) (h : p < 18446744073709551616) : zh .u64 (p : Int) 4294967295 = ((p % 4294967296 : Nat) : Int) := by
 rw [show (4294967295 : Int) = ((4294967295 : Nat) : Int) from rfl, andU p 4294967295 h (by decide)]
 rw [show (4294967295 : Nat) = 2 ^ 32 - 1 from rfl, Nat.and_two_pow_sub_one_eq_mod]
theorem z1o (p q : Nat) (hp : p < 18446744073709551616) (hq : q < 18446744073709551616) : zen (p : Int) (q : Int) = some (((p * q / 18446744073709551616 : Nat) : Int), ((p * q % 18446744073709551616 : Nat) : Int)) := by
 unfold zen
 simp only [z3p, z68 p hp, z68 q hq, ← Int.natCast_mul, zsv, ← Int.natCast_add, z3p]
 rw [z68 _ (Nat.mod_lt _ (by decide))]
 simp only [z3p, ← Int.natCast_mul, zsv, ← Int.natCast_add]
 have e1 := Nat.div_add_mod p 4294967296
 have e2 := Nat.div_add_mod q 4294967296
 have b1 : p / 4294967296 ≤ 4294967295 := by omega
 have b2 : q / 4294967296 ≤ 4294967295 := by omega
 have b3 : p % 4294967296 ≤ 4294967295 := by omega
 have b4 : q % 4294967296 ≤ 4294967295 := by omega
 have m : p * q = 18446744073709551616 * ((p / 4294967296) * (q / 4294967296)) + 4294967296 * ((p / 4294967296) * (q % 4294967296)) + (4294967296 * ((p % 4294967296) * (q / 4294967296)) + (p % 4294967296) * (q % 4294967296)) := by
  conv => lhs; rw [← e1, ← e2]
  rw [Nat.add_mul, Nat.mul_add, Nat.mul_add, Nat.mul_mul_mul_comm, Nat.mul_assoc 4294967296 (p / 4294967296) (q % 4294967296), Nat.mul_left_comm (p % 4294967296) 4294967296 (q / 4294967296)]
 have c1 := Nat.mul_le_mul b1 b2
 have c2 := Nat.mul_le_mul b1 b4
 have c3 := Nat.mul_le_mul b3 b2
 have c4 := Nat.mul_le_mul b3 b4
 rw [m]
 clear m e1 e2 b1 b2 b3 b4
 generalize (p / 4294967296) * (q / 4294967296) = A at *
 generalize (p / 4294967296) * (q % 4294967296) = B at *
 generalize (p % 4294967296) * (q / 4294967296) = C at *
 generalize (p % 4294967296) * (q % 4294967296) = D at *
 simp only [Option.some.injEq, Prod.mk.injEq, Int.natCast_inj]
 refine ⟨?_, trivial⟩
 omega
theorem zadq (N : Nat) (n c : Int) (a w o : zH) : zay.r0 N (n, c, 0, a, w, o) = (zen a.e0 n).bind fun r => some (.again (n, (IntKind.wrap .u64 (r.1 + (((r.2.toNat + c.toNat + 0) / 2 ^ 64 : Nat) : Int))), 1, a, w, ⟨((r.2.toNat + c.toNat + 0) % 2 ^ 64 : Nat), o.e1, o.e2, o.e3⟩)) := by kernel_rfl
theorem zadp (N : Nat) (n c : Int) (a w o : zH) : zay.r0 N (n, c, 1, a, w, o) = (zen a.e1 n).bind fun r => some (.again (n, (IntKind.wrap .u64 (r.1 + (((r.2.toNat + c.toNat + 0) / 2 ^ 64 : Nat) : Int))), 2, a, w, ⟨o.e0, ((r.2.toNat + c.toNat + 0) % 2 ^ 64 : Nat), o.e2, o.e3⟩)) := by kernel_rfl
theorem zado (N : Nat) (n c : Int) (a w o : zH) : zay.r0 N (n, c, 2, a, w, o) = (zen a.e2 n).bind fun r => some (.again (n, (IntKind.wrap .u64 (r.1 + (((r.2.toNat + c.toNat + 0) / 2 ^ 64 : Nat) : Int))), 3, a, w, ⟨o.e0, o.e1, ((r.2.toNat + c.toNat + 0) % 2 ^ 64 : Nat), o.e3⟩)) := by kernel_rfl
theorem zadn (N : Nat) (n c : Int) (a w o : zH) : zay.r0 N (n, c, 3, a, w, o) = (zen a.e3 n).bind fun r => some (.again (n, (IntKind.wrap .u64 (r.1 + (((r.2.toNat + c.toNat + 0) / 2 ^ 64 : Nat) : Int))), 4, a, w, ⟨o.e0, o.e1, o.e2, ((r.2.toNat + c.toNat + 0) % 2 ^ 64 : Nat)⟩)) := by kernel_rfl
theorem zadm (N : Nat) (n c : Int) (a w o : zH) : zay.r0 N (n, c, 4, a, w, o) = some (.leave (n, c, 4, a, w, o)) := by kernel_rfl
theorem z5t (x c n : Nat) (hn : n < 18446744073709551616) (hc : c ≤ n) : IntKind.wrap .u64 ((((x % 18446744073709551616) * n / 18446744073709551616 : Nat) : Int) + ((((x % 18446744073709551616) * n % 18446744073709551616 + c + 0) / 2 ^ 64 : Nat) : Int)) = ((((x % 18446744073709551616) * n + c) / 18446744073709551616 : Nat) : Int) ∧ ((x % 18446744073709551616) * n % 18446744073709551616 + c + 0) % 2 ^ 64 = (x * n + c) % 18446744073709551616 ∧ ((x % 18446744073709551616) * n + c) / 18446744073709551616 ≤ n ∧ x / 18446744073709551616 * n + ((x % 18446744073709551616) * n + c) / 18446744073709551616 = (x * n + c) / 18446744073709551616 := by
 have hp : (x % 18446744073709551616) * n ≤ 18446744073709551615 * n := Nat.mul_le_mul_right n (by omega)
 have e : x * n = (x % 18446744073709551616) * n + 18446744073709551616 * (x / 18446744073709551616 * n) := by
  have := Nat.mod_add_div x 18446744073709551616
  conv => lhs; rw [← this]
  rw [Nat.add_mul, Nat.mul_assoc]
 rw [e]
 generalize (x % 18446744073709551616) * n = p at *
 generalize x / 18446744073709551616 * n = q at *
 refine ⟨?_, by omega, by omega, by omega⟩
 rw [← Int.natCast_add, zsv]
 omega
theorem z23 (N : Nat) (hN : 10 < N) (a n : Nat) (hn : n < 18446744073709551616) : zay N (wn a) (n : Int) = some (wn (a * n)) := by
 obtain ⟨k, rfl⟩ : ∃ k, N = k + 5 := ⟨N - 5, by omega⟩
 have hB : ∀ x : Nat, x % 18446744073709551616 < 18446744073709551616 := fun x => Nat.mod_lt _ (by decide)
 obtain ⟨w1, w2, w3, w4⟩ := z5t a 0 n hn (Nat.zero_le _)
 rw [Nat.add_zero (a * n)] at w2 w4
 obtain ⟨x1, x2, x3, x4⟩ := z5t (a / 18446744073709551616) _ n hn w3
 rw [w4] at x2 x4
 obtain ⟨y1, y2, y3, y4⟩ := z5t (a / 18446744073709551616 / 18446744073709551616) _ n hn x3
 rw [x4] at y2 y4
 obtain ⟨z1, z2, z3, z4⟩ := z5t (a / 18446744073709551616 / 18446744073709551616 / 18446744073709551616) _ n hn y3
 rw [y4] at z2
 unfold zay
 simp only [zm, zadq]
 rw [show (wn a).e0 = ((a % 18446744073709551616 : Nat) : Int) from rfl, z1o _ _ (hB _) hn]
 simp only [obs, itn, zadp]
 rw [show (wn a).e1 = ((a / 18446744073709551616 % 18446744073709551616 : Nat) : Int) from rfl, z1o _ _ (hB _) hn]
 simp only [obs, itn, zado]
 rw [show (wn a).e2 = ((a / 18446744073709551616 / 18446744073709551616 % 18446744073709551616 : Nat) : Int) from rfl, z1o _ _ (hB _) hn]
 simp only [obs, itn, zadn]
 rw [show (wn a).e3 = ((a / 18446744073709551616 / 18446744073709551616 / 18446744073709551616 % 18446744073709551616 : Nat) : Int) from rfl, z1o _ _ (hB _) hn]
 simp only [obs, itn, zadm]
 rw [show Int.toNat 0 = 0 from rfl, w1, itn, x1, itn, y1, itn, w2, x2, y2, z2]
 rfl
theorem zt1 (N : Nat) (hN : 100 < N) (a k : Nat) (hk : k < 100) : zj N (wn a) (k : Int) = some (wn (a * 10 ^ k)) := by
 unfold zj
 have := zbm (f := zj.r0 N) (fun i => ((k : Int), (i : Int), wn (a * 10 ^ i), (⟨0, 0, 0, 0⟩ : zH))) k
  (fun i hi => by
   simp only [zj.r0, zj.b0, dct (show (i : Int) < (k : Int) by omega), ctr]; rw [show (10 : Int) = ((10 : Nat) : Int) from rfl, z23 N (by omega) _ 10 (by decide), w6e]; simp only [obs, Nat.mul_assoc, ← Nat.pow_succ, Int.natCast_add, Int.natCast_one])
  (by simp only [zj.r0, zj.b0, dcf (show ¬ (k : Int) < (k : Int) by omega), cfa]) (N := N) (by omega)
 simp only [Nat.pow_zero, Nat.mul_one, nc0] at this
 rw [this]
 rfl
theorem z42 (a j r : Nat) (hr : r < 64) : (a / 2 ^ (64 * j) % 2 ^ 64 / 2 ^ r) &&& 1 = a / 2 ^ (64 * j + r) % 2 := by
 rw [Nat.and_one_is_mod]
 have h : (a / 2 ^ (64 * j) % 2 ^ 64 / 2 ^ r).testBit 0 = (a / 2 ^ (64 * j) % 2 ^ 64).testBit (r + 0) := by rw [Nat.testBit_div_two_pow, Nat.add_comm]
 have h1 : Nat.testBit (a / 2 ^ (64 * j) % 2 ^ 64) (r + 0) = Nat.testBit (a / 2 ^ (64 * j + r)) 0 := by
  rw [Nat.testBit_mod_two_pow, Nat.testBit_div_two_pow, Nat.testBit_div_two_pow]; simp [hr, Nat.add_comm, Nat.add_left_comm]
 rw [Nat.testBit_zero] at h
 rw [h1, Nat.testBit_zero] at h
 have := Nat.mod_two_eq_zero_or_one (a / 2 ^ (64 * j) % 2 ^ 64 / 2 ^ r)
 have := Nat.mod_two_eq_zero_or_one (a / 2 ^ (64 * j + r))
 simp only [decide_eq_decide] at h
 omega
theorem zabq (Q i j : Nat) (h : Q % 2 ^ (i + 1) = 0) : (Q + 2 ^ i) / 2 ^ (64 * j) % 2 ^ 64 = if i / 64 = j then (Q / 2 ^ (64 * j) % 2 ^ 64) ||| 2 ^ (i % 64) else Q / 2 ^ (64 * j) % 2 ^ 64 := by
 have e : Q + 2 ^ i = Q ||| 2 ^ i := by
  have := Nat.two_pow_add_eq_or_of_lt (i := i + 1) (b := 2 ^ i) (Nat.pow_lt_pow_right (by decide) (by omega)) (Q / 2 ^ (i + 1)); have e2 : 2 ^ (i + 1) * (Q / 2 ^ (i + 1)) = Q := by
   have := Nat.div_add_mod Q (2 ^ (i + 1)); omega
  rw [e2] at this; exact this
 rw [e]
 refine Nat.eq_of_testBit_eq fun k => ?_
 split
 · rename_i hj; simp only [Nat.testBit_mod_two_pow, Nat.testBit_div_two_pow, Nat.testBit_or, Nat.testBit_two_pow]
   by_cases hk : k < 64
   · simp only [hk, decide_true, Bool.true_and]
     congr 1
     simp only [decide_eq_decide]; omega
   · simp only [hk, decide_false, Bool.false_and, Bool.false_or]; rw [dcf (by omega)]
 · rename_i hj; simp only [Nat.testBit_mod_two_pow, Nat.testBit_div_two_pow, Nat.testBit_or, Nat.testBit_two_pow]
   by_cases hk : k < 64
   · simp only [hk, decide_true, Bool.true_and]; rw [dcf (by omega), Bool.or_false]
   · simp only [hk, decide_false, Bool.false_and]
def z32 (a : zH) (s : Int) : Int := zh .u64 (((zav [a.e0, a.e1, a.e2, a.e3] ((w6 (s.tdiv 64)).toNat)) : Int).fdiv (2 ^ (min (s.tmod 64).toNat 64))) 1
def dsh (x : zH) (t : Int) : zH := ⟨orI .u64 x.e0 t, x.e1, x.e2, x.e3⟩
def dset (q : zH) (j : Nat) (v : Int) : zH := ⟨if j = 0 then v else q.e0, if j = 1 then v else q.e1, if j = 2 then v else q.e2, if j = 3 then v else q.e3⟩
theorem z1d (N : Nat) (s : Int) (a b q r : zH) : za0.r0 N (s, a, b, q, r) =
 cond (decide (s ≥ 0)) ((z7 N r r).bind fun x => if 0 ≤ w6 (s.tdiv 64) then (if w6 (s.tdiv 64) < 4 then (if (s.tmod 64) < 0 then none else (zk N (dsh x (z32 a s)) b).bind fun c =>
  cond (decide (c ≥ 0)) ((zx N (dsh x (z32 a s)) b).bind fun y => if 0 ≤ w6 (s.tdiv 64) then (if w6 (s.tdiv 64) < 4 then (if (s.tmod 64) < 0 then none else if 0 ≤ w6 (s.tdiv 64) then (if w6 (s.tdiv 64) < 4 then
   (some (.again (w6 (s - 1), a, b, dset q (w6 (s.tdiv 64)).toNat (orI .u64 (zav [q.e0, q.e1, q.e2, q.e3] ((w6 (s.tdiv 64)).toNat)) (IntKind.wrap .u64 (1 * 2 ^ (min (s.tmod 64).toNat 64)))), y))) else none) else none) else none) else none)
   (some (.again (w6 (s - 1), a, b, q, dsh x (z32 a s))))) else none) else none)
  (some (.leave (s, a, b, q, r))) := by kernel_rfl
theorem div2 (a : Nat) : a / 18446744073709551616 / 18446744073709551616 = a / 340282366920938463463374607431768211456 := Nat.div_div_eq_div_mul _ _ _
theorem div3 (a : Nat) : a / 18446744073709551616 / 18446744073709551616 / 18446744073709551616 = a / 6277101735386680763835789423207666416102355444464034512896 := by rw [div2]; exact Nat.div_div_eq_div_mul _ _ _
theorem limb (a j : Nat) (hj : j < 4) : zav [(wn a).e0, (wn a).e1, (wn a).e2, (wn a).e3] j = ((a / 2 ^ (64 * j) % 2 ^ 64 : Nat) : Int) := by
 match j, hj with
 | 0, _ => show ((a % 18446744073709551616 : Nat) : Int) = ((a / 1 % 18446744073709551616 : Nat) : Int); rw [Nat.div_one]
 | 1, _ => rfl
 | 2, _ => show ((a / 18446744073709551616 / 18446744073709551616 % 18446744073709551616 : Nat) : Int) = ((a / 340282366920938463463374607431768211456 % 18446744073709551616 : Nat) : Int); rw [div2]
 | 3, _ => show ((a / 18446744073709551616 / 18446744073709551616 / 18446744073709551616 % 18446744073709551616 : Nat) : Int) = ((a / 6277101735386680763835789423207666416102355444464034512896 % 18446744073709551616 : Nat) : Int); rw [div3]
theorem zacx (a i : Nat) (hi : i < 256) : z32 (wn a) (i : Int) = ((a / 2 ^ i % 2 : Nat) : Int) := by
 unfold z32
 have e1 : w6 ((i : Int).tdiv 64) = ((i / 64 : Nat) : Int) := by
  rw [tde, w6e]; omega
 have e2 : ((i : Int).tmod 64) = ((i % 64 : Nat) : Int) := by
  rw [tme]; omega
 rw [e1, e2, itn, itn, limb a _ (by omega), Nat.min_eq_left (by omega)]
 rw [show (2 : Int) ^ (i % 64) = ((2 ^ (i % 64) : Nat) : Int) by rw [Int.natCast_pow]; rfl, zua]
 have hb : a / 2 ^ (64 * (i / 64)) % 2 ^ 64 / 2 ^ (i % 64) < 2 ^ 64 := Nat.lt_of_le_of_lt (Nat.div_le_self _ _) (Nat.mod_lt _ (by decide))
 rw [show (1 : Int) = ((1 : Nat) : Int) from rfl, andU _ 1 hb (by decide), z42 a _ _ (by omega), show 64 * (i / 64) + i % 64 = i by omega]
theorem zaez (x t : Nat) (ht : t < 2) : dsh (wn (x + x)) (t : Int) = wn (2 * x + t) := by
 have h0 : (x + x) % 18446744073709551616 ||| t = (2 * x + t) % 18446744073709551616 := by
  have := Nat.two_pow_add_eq_or_of_lt (i := 1) (b := t) (by omega) ((x + x) % 18446744073709551616 / 2); have e : 2 ^ 1 * ((x + x) % 18446744073709551616 / 2) = (x + x) % 18446744073709551616 := by omega
  rw [e] at this; rw [← this]; omega
 unfold dsh
 simp only [wn]
 have h1 : (x + x) / 18446744073709551616 = (2 * x + t) / 18446744073709551616 := by omega
 rw [orU _ t (Nat.mod_lt _ (by decide)) (by omega), h0, h1]
theorem zacw (Q i : Nat) (hi : i < 256) (h : Q % 2 ^ (i + 1) = 0) :
 dset (wn Q) (w6 ((i : Int).tdiv 64)).toNat (orI .u64 (zav [(wn Q).e0, (wn Q).e1, (wn Q).e2, (wn Q).e3] ((w6 ((i : Int).tdiv 64)).toNat)) (IntKind.wrap .u64 (1 * 2 ^ (min ((i : Int).tmod 64).toNat 64)))) = wn (Q + 2 ^ i) := by
 have e1 : w6 ((i : Int).tdiv 64) = ((i / 64 : Nat) : Int) := by
  rw [tde, w6e]; omega
 have e2 : ((i : Int).tmod 64) = ((i % 64 : Nat) : Int) := by
  rw [tme]; omega
 have e3 : IntKind.wrap .u64 (1 * 2 ^ (i % 64)) = ((2 ^ (i % 64) : Nat) : Int) := by
  rw [Int.one_mul, show (2 : Int) ^ (i % 64) = ((2 ^ (i % 64) : Nat) : Int) by rw [Int.natCast_pow]; rfl, zsv, mel]; exact Nat.pow_lt_pow_right (a := 2) (n := 64) (m := i % 64) (by decide) (by omega)
 rw [e1, e2, itn, itn, limb Q _ (by omega), Nat.min_eq_left (by omega), e3]
 rw [orU (Q / 2 ^ (64 * (i / 64)) % 2 ^ 64) (2 ^ (i % 64)) (Nat.mod_lt _ (by decide)) (Nat.pow_lt_pow_right (a := 2) (n := 64) (m := i % 64) (by decide) (by omega))]
 have w := fun j => zabq Q i j h
 have w0 := w 0
 rw [show 2 ^ (64 * 0) = 1 from rfl, Nat.div_one, Nat.div_one] at w0
 have w1 := w 1
 have w2 := w 2
 have w3 := w 3
 have k1 : (2 : Nat) ^ (64 * 1) = 18446744073709551616 := by decide
 have k2 : (2 : Nat) ^ (64 * 2) = 340282366920938463463374607431768211456 := by decide
 have k3 : (2 : Nat) ^ (64 * 3) = 6277101735386680763835789423207666416102355444464034512896 := by decide
 have k0 : (2 : Nat) ^ 64 = 18446744073709551616 := by decide
 simp only [k1, k0] at w1
 simp only [k2, k0] at w2
 simp only [k3, k0] at w3
 simp only [k0] at w0
 unfold dset
 refine z7e ?_ ?_ ?_ ?_
 · simp only [wn]; rw [w0]
   by_cases hj : i / 64 = 0
   · rw [ifp hj, ifp hj, hj, show 64 * 0 = 0 from rfl, Nat.pow_zero, Nat.div_one, k0]
   · rw [ifn hj, ifn hj]
 · simp only [wn]; rw [w1]
   by_cases hj : i / 64 = 1
   · rw [ifp hj, ifp hj, hj]
   · rw [ifn hj, ifn hj]
 · simp only [wn, div2]; rw [w2]
   by_cases hj : i / 64 = 2
   · rw [ifp hj, ifp hj, hj]
   · rw [ifn hj, ifn hj]
 · simp only [wn, div3]; rw [w3]
   by_cases hj : i / 64 = 3
   · rw [ifp hj, ifp hj, hj]
   · rw [ifn hj, ifn hj]
theorem zsz (a b : Nat) : decide (zie a b ≥ 0) = decide (b ≤ a) := by
 unfold zie
 by_cases h : a < b
 · rw [ifp h, dcf (show ¬ b ≤ a by omega)]; rfl
 · rw [ifn h, dct (show b ≤ a by omega)]
   by_cases h2 : b < a
   · rw [ifp h2]; rfl
   · rw [ifn h2]; rfl
theorem z82 (N : Nat) (hN : 10 < N) (i : Nat) (hi : i < 256) (a d : Nat) (hd : 0 < d) (hd2 : d ≤ 57896044618658097711785492504343953926634992332820282019728792003956564819968) :
 za0.r0 N ((i : Int), wn a, wn d, wn (a / 2 ^ (i + 1) / d * 2 ^ (i + 1)), wn (a / 2 ^ (i + 1) % d)) = some (.again ((i : Int) - 1, wn a, wn d, wn (a / 2 ^ i / d * 2 ^ i), wn (a / 2 ^ i % d))) := by
 have e1 : w6 ((i : Int).tdiv 64) = ((i / 64 : Nat) : Int) := by
  rw [tde, w6e]; omega
 have e2 : ((i : Int).tmod 64) = ((i % 64 : Nat) : Int) := by
  rw [tme]; omega
 have c1 : 0 ≤ w6 ((i : Int).tdiv 64) := by rw [e1]; omega
 have c2 : w6 ((i : Int).tdiv 64) < 4 := by rw [e1]; omega
 have c3 : ¬ (i : Int).tmod 64 < 0 := by rw [e2]; omega
 have hp : a / 2 ^ i = 2 * (a / 2 ^ (i + 1)) + a / 2 ^ i % 2 := by
  rw [Nat.pow_succ, ← Nat.div_div_eq_div_mul]; omega
 have hbit : a / 2 ^ i % 2 < 2 := Nat.mod_lt _ (by decide)
 have hdm := Nat.div_add_mod (a / 2 ^ (i + 1)) d
 have hr := Nat.mod_lt (a / 2 ^ (i + 1)) hd
 rw [z1d, dct (show (i : Int) ≥ 0 by omega), ctr, zwm N hN, obs, ifp c1, ifp c2, ifn c3, zacx a i hi, zaez _ _ hbit]
 rw [zmm N hN (by unfold zkf; omega) (by unfold zkf; omega), obs, zsz]
 rw [w6e (n := (i : Int) - 1)]
 generalize hq : a / 2 ^ (i + 1) / d = q at *
 generalize hs : a / 2 ^ (i + 1) % d = r at *
 generalize hb : a / 2 ^ i % 2 = t at *
 have hp2 : a / 2 ^ i = d * (2 * q) + (2 * r + t) := by
  rw [hp, ← hdm, Nat.mul_left_comm]; omega
 by_cases h : d ≤ 2 * r + t
 · rw [dct h, ctr, zyd N hN h, obs, ifp c1, ifp c2, ifn c3, ifp c1, ifp c2]; rw [zacw _ i hi (Nat.mul_mod_left _ _)]; have hp3 : a / 2 ^ i = d * (2 * q + 1) + (2 * r + t - d) := by rw [hp2, Nat.mul_add d]; omega
   rw [hp3, Nat.mul_add_div hd, Nat.mul_add_mod, Nat.div_eq_of_lt (show 2 * r + t - d < d by omega), mel (show 2 * r + t - d < d by omega)]; have : q * 2 ^ (i + 1) + 2 ^ i = (2 * q + 1 + 0) * 2 ^ i := by
    rw [Nat.pow_succ, Nat.add_zero, Nat.add_mul, Nat.one_mul, Nat.mul_comm (2 ^ i) 2, ← Nat.mul_assoc, Nat.mul_comm q 2]
   rw [this]
 · rw [dcf h, cfa]; rw [hp2, Nat.mul_add_div hd, Nat.mul_add_mod, Nat.div_eq_of_lt (show 2 * r + t < d by omega), mel (show 2 * r + t < d by omega)]; have : q * 2 ^ (i + 1) = (2 * q + 0) * 2 ^ i := by
    rw [Nat.pow_succ, Nat.add_zero, Nat.mul_comm (2 ^ i) 2, ← Nat.mul_assoc, Nat.mul_comm q 2]
   rw [this]
theorem zzg (N : Nat) (hN : 300 < N) (a d : Nat) (ha : a < zkf) (hd : 0 < d) (hd2 : d ≤ 57896044618658097711785492504343953926634992332820282019728792003956564819968) :
 za0 N (wn a) (wn d) = some (wn (a / d), wn (a % d)) := by
 unfold za0
 have := zbm (f := za0.r0 N) (fun k => ((255 : Int) - (k : Int), wn a, wn d, wn (a / 2 ^ (256 - k) / d * 2 ^ (256 - k)), wn (a / 2 ^ (256 - k) % d))) 256
  (fun k hk => by
   have e := z82 N (by omega) (255 - k) (by omega) a d hd hd2; rw [show 255 - k + 1 = 256 - k by omega, show ((255 - k : Nat) : Int) = (255 : Int) - (k : Int) by omega] at e; rw [e, show 256 - (k + 1) = 255 - k by omega, show (255 : Int) - (k : Int) - 1 = (255 : Int) - ((k + 1 : Nat) : Int) by omega])
  (by rw [z1d]; rfl) (N := N) (by omega)
 have z : a / 2 ^ (256 - 0) = 0 := Nat.div_eq_of_lt (by unfold zkf at ha; exact Nat.lt_of_lt_of_le ha (by decide))
 simp only [z, Nat.zero_div, Nat.zero_mul, Nat.zero_mod] at this
 have z2 : a / 2 ^ (256 - 256) = a := Nat.div_one a
 simp only [z2] at this
 rw [show ((255 : Int) - ((0 : Nat) : Int)) = 255 from rfl, show wn 0 = (⟨0, 0, 0, 0⟩ : zH) from rfl] at this
 rw [this, obs, show a / d * 2 ^ (256 - 256) = a / d from Nat.mul_one _]
def zc6 (x : Number) : Prop := (-999999999999999 ≤ x.N ∧ x.N ≤ 999999999999999) ∧ 0 ≤ x.Scale ∧ x.Scale ≤ 15
theorem zkt {x : Number} : zlp x = 0 ↔ zc6 x := by
 unfold zlp zc6
 cases h : (inB x.N (-999999999999999) 999999999999999 && inB x.Scale 0 15) with
 | true =>
  rw [Bool.and_eq_true, za6, za6] at h; simp [h]
 | false =>
  simp only [cfa]; constructor
  · intro h2; cases h2
  · intro h2; rw [show (inB x.N (-999999999999999) 999999999999999) = true from za6.2 h2.1, show inB x.Scale 0 15 = true from za6.2 h2.2] at h; cases h
def ziy (t : DataType) : Prop := zdx t = 0 ∧ 1 ≤ t.Kind ∧ t.Kind ≤ 3
theorem zgo {t : DataType} (h : ziy t) : (1 ≤ t.Length ∧ t.Length ≤ 15) ∧ 0 ≤ t.Scale ∧ t.Scale ≤ t.Length := by
 obtain ⟨h0, h1, h2⟩ := h
 unfold zdx at h0
 rw [ifn] at h0
 by_cases hk : t.Kind = 3
 · rw [ifn, ifp hk] at h0; split at h0
   · split at h0
     · rename_i h3 h4; have := za6.1 h4; omega
     · cases h0
   · cases h0
 · rw [ifp] at h0; split at h0
   · split at h0
     · rename_i h3 h4; have := za6.1 h4; have := za6.1 h3; omega
     · cases h0
   · cases h0
theorem zca {k m : Nat} (h : k ≤ m) : 10 ^ k ≤ 10 ^ m := Nat.pow_le_pow_right (by decide) h
theorem zcg (k : Nat) : 0 < 10 ^ k := Nat.pow_pos (by decide)
theorem zp5 (N : Nat) (hN : 300 < N) {x : Number} (hx : zc6 x) (k : Nat) (hk : k < 100) : zct N x (k : Int) = some (wn (x.N.natAbs * 10 ^ k)) := by
 obtain ⟨⟨h1, h2⟩, _⟩ := hx
 unfold zct
 have e : (if w6 (0 - x.N) > x.N then w6 (0 - x.N) else x.N) = ((x.N.natAbs : Nat) : Int) := by
  rw [w6e]; split <;> omega
 rw [e, zsv, mel (by omega), z02 (by omega), obs, zt1 N (by omega) _ k hk]
 rfl
theorem zzh (N : Nat) (hN : 300 < N) {x : Number} (hx : zc6 x) : zct N x 0 = some (wn x.N.natAbs) := by
 have := zp5 N hN hx 0 (by decide)
 rw [Nat.pow_zero, Nat.mul_one] at this
 exact this
theorem zrg : zbp 1 = some (wn 1) := z02 (n := 1) (by decide)
theorem zvo (N : Nat) (hN : 300 < N) {k : Int} (h0 : 0 ≤ k) (h1 : k < 100) : zj N (wn 1) k = some (wn (10 ^ k.toNat)) := by
 have := zt1 N (by omega) 1 k.toNat (by omega)
 rw [Nat.one_mul, Int.toNat_of_nonneg h0] at this
 exact this
def ziq (b : Bool) (p q : Nat) (t : DataType) (half : Bool) : Value × Int :=
 if 10 ^ t.Length.toNat ≤ p * 10 ^ t.Scale.toNat / q + cond (half && decide (q ≤ p * 10 ^ t.Scale.toNat % q + p * 10 ^ t.Scale.toNat % q)) 1 0 then (⟨0, ⟨#[]⟩⟩, 19)
 else (⟨cond b (-((p * 10 ^ t.Scale.toNat / q + cond (half && decide (q ≤ p * 10 ^ t.Scale.toNat % q + p * 10 ^ t.Scale.toNat % q)) 1 0 : Nat) : Int)) ((p * 10 ^ t.Scale.toNat / q + cond (half && decide (q ≤ p * 10 ^ t.Scale.toNat % q + p * 10 ^ t.Scale.toNat % q)) 1 0 : Nat) : Int), ⟨#[]⟩⟩, 0)
theorem eW (a : zH) : (⟨a.e0, a.e1, a.e2, a.e3⟩ : zH) = a := rfl
theorem z5c (N : Nat) (hN : 300 < N) (b : Bool) (Q : Nat) (hQ : Q < zkf) {t : DataType} (ht : ziy t) :
 ((zbp 1).bind fun r11 => (zj N r11 t.Length).bind fun r12 => (zk N (wn Q) r12).bind fun r13 => cond (decide (r13 ≥ 0)) (some ((⟨0, (⟨#[]⟩ : ByteArray)⟩ : Value), (19 : Int)))
 (cond b (some ((⟨(w6 (0 - (w6 (zav [(wn Q).e0, (wn Q).e1, (wn Q).e2, (wn Q).e3] 0)))), (⟨#[]⟩ : ByteArray)⟩ : Value), (0 : Int)))
 (some ((⟨(w6 (zav [(wn Q).e0, (wn Q).e1, (wn Q).e2, (wn Q).e3] 0)), (⟨#[]⟩ : ByteArray)⟩ : Value), (0 : Int))))) =
 some (if 10 ^ t.Length.toNat ≤ Q then (⟨0, ⟨#[]⟩⟩, 19) else (⟨cond b (-(Q : Int)) (Q : Int), ⟨#[]⟩⟩, 0)) := by
 obtain ⟨⟨l1, l2⟩, l3, l4⟩ := zgo ht
 have hp : 10 ^ t.Length.toNat ≤ 10 ^ 15 := zca (by omega)
 rw [zrg, obs, zvo N hN (by omega) (by omega), obs, zmm N (by omega) hQ (by unfold zkf; omega), obs, zsz]
 by_cases h : 10 ^ t.Length.toNat ≤ Q
 · rw [dct h, ifp h]; rfl
 · rw [dcf h, ifn h, cfa]; have e : zav [(wn Q).e0, (wn Q).e1, (wn Q).e2, (wn Q).e3] 0 = (Q : Int) := by
    show ((Q % 18446744073709551616 : Nat) : Int) = Q; rw [mel (by omega)]
   rw [e, w6e (n := (Q : Int)), w6e]; cases b
   · rfl
   · simp only [ctr, Int.zero_sub]
theorem zs0 (N : Nat) (hN : 300 < N) (b : Bool) (p q : Nat) (hp : p ≤ 10 ^ 46) (hq : 0 < q) (hq2 : q ≤ 10 ^ 46) {t : DataType} (ht : ziy t) (half : Bool) : zd5 N ⟨b, wn p, wn q⟩ t half = some (ziq b p q t half) := by
 obtain ⟨⟨l1, l2⟩, l3, l4⟩ := zgo ht
 have hs : p * 10 ^ t.Scale.toNat ≤ 10 ^ 46 * 10 ^ 15 := Nat.mul_le_mul hp (zca (by omega))
 have hd : p * 10 ^ t.Scale.toNat / q ≤ 10 ^ 46 * 10 ^ 15 := Nat.le_trans (Nat.div_le_self _ _) hs
 have hm : p * 10 ^ t.Scale.toNat % q < q := Nat.mod_lt _ hq
 unfold zd5 ziq
 simp only [eW]
 have e1 := zt1 N (by omega) p t.Scale.toNat (by omega)
 rw [Int.toNat_of_nonneg l3] at e1
 rw [e1, obs, zzg N hN _ q (by unfold zkf; omega) hq (by omega)]
 simp only [obs]
 rw [zwm N (by omega), obs, zmm N (by omega) (by unfold zkf; omega) (by unfold zkf; omega)]
 simp only [obs, zsz]
 have k : (cond half (some (decide (q ≤ p * 10 ^ t.Scale.toNat % q + p * 10 ^ t.Scale.toNat % q))) (some false)) = some (half && decide (q ≤ p * 10 ^ t.Scale.toNat % q + p * 10 ^ t.Scale.toNat % q)) := by cases half <;> rfl
 rw [k, obs]
 cases hc : (half && decide (q ≤ p * 10 ^ t.Scale.toNat % q + p * 10 ^ t.Scale.toNat % q)) with
 | true =>
  simp only [ctr]; rw [zrg, obs, zwm N (by omega), obs, ← zrg]; exact z5c N hN b _ (by unfold zkf; omega) ht
 | false =>
  simp only [cfa, Nat.add_zero]; exact z5c N hN b _ (by unfold zkf; omega) ht
theorem zzc (b : Bool) (p q k : Nat) (hk : 0 < k) (hq : 0 < q) (t : DataType) (half : Bool) : ziq b (p * k) (q * k) t half = ziq b p q t half := by
 have e : p * k * 10 ^ t.Scale.toNat = p * 10 ^ t.Scale.toNat * k := Nat.mul_right_comm _ _ _
 have e2 : p * k * 10 ^ t.Scale.toNat / (q * k) = p * 10 ^ t.Scale.toNat / q := by rw [e, Nat.mul_div_mul_right _ _ hk]
 have e3 : decide (q * k ≤ p * k * 10 ^ t.Scale.toNat % (q * k) + p * k * 10 ^ t.Scale.toNat % (q * k)) = decide (q ≤ p * 10 ^ t.Scale.toNat % q + p * 10 ^ t.Scale.toNat % q) := by
  rw [e, Nat.mul_mod_mul_right, ← Nat.add_mul]; simp only [decide_eq_decide]; exact ⟨fun h => Nat.le_of_mul_le_mul_right h hk, fun h => Nat.mul_le_mul_right k h⟩
 unfold ziq
 rw [e2, e3]
theorem z0y (b b' : Bool) (p q : Nat) (hq : 0 < q) (t : DataType) (half : Bool) (h : p ≠ 0 → b = b') : ziq b p q t half = ziq b' p q t half := by
 by_cases hp : p = 0
 · subst hp; unfold ziq; simp only [Nat.zero_mul, Nat.zero_div, Nat.zero_mod, Nat.zero_add, dcf (show ¬ q ≤ 0 by omega), Bool.and_false, cfa]; cases b <;> cases b' <;> rfl
 · rw [h hp]
def z0a (p : Int) (q : Nat) (t : DataType) (half : Bool) : Value × Int := ziq (decide (p < 0)) p.natAbs q t half
theorem z2u (b : Bool) (p q : Nat) (hq : 0 < q) (t : DataType) (half : Bool) : ziq b p q t half = z0a (cond b (-(p : Int)) p) q t half := by
 unfold z0a
 have : (cond b (-(p : Int)) (p : Int)).natAbs = p := by cases b <;> simp
 rw [this]
 refine z0y _ _ _ _ hq _ _ fun h => ?_
 cases b
 · symm; simp
 · symm; simp; omega
theorem z8b {t : DataType} (ht : ziy t) : ze9 t = some true := by
 obtain ⟨_, h1, h2⟩ := ht
 unfold ze9
 rcases (by omega : t.Kind = 1 ∨ t.Kind = 2 ∨ t.Kind = 3) with h | h | h <;> rw [h] <;> rfl
def zmp (x : Number) (t : DataType) (half : Bool) : Value × Int := z0a x.N (10 ^ x.Scale.toNat) t half
theorem zacj (N : Nat) (hN : 300 < N) {x : Number} (hx : zc6 x) {t : DataType} (ht : ziy t) (half : Bool) : zhc N x t half = some (zmp x t half) := by
 have f3 : ∀ a b c : Int, zq N [a, b, c] = some (zcy [a, b, c]) := fun a b c => zo2 N _ (by simp; omega) (by simp)
 have hx' := hx
 obtain ⟨⟨h1, h2⟩, h3, h4⟩ := hx'
 have hp : 10 ^ x.Scale.toNat ≤ 10 ^ 15 := zca (by omega)
 unfold zhc zod
 simp only [eN, eD, eW]
 rw [zkz, zkt.2 hx]
 simp only [obs]
 rw [zq1 N (by omega), ht.1]
 simp only [obs]
 rw [z8b ht]
 simp only [obs, zo3, f3]
 rw [zzh N hN hx, zrg]
 simp only [obs]
 rw [zvo N hN h3 (by omega)]
 simp only [obs]
 rw [show zcy [0, 0, cond (!true) 17 0] = 0 from rfl]
 simp only [bsf, cfa]
 rw [zs0 N hN _ _ _ (by omega) (zcg _) (by omega) ht]
 simp only [obs]
 rfl
def zal (x : Number) (s : Int) : Int := x.N * 10 ^ (s - x.Scale).toNat
def zi (a b : Number) : Int := if b.Scale > a.Scale then b.Scale else a.Scale
theorem ziv (x : Number) (s : Int) : (zal x s).natAbs = x.N.natAbs * 10 ^ (s - x.Scale).toNat := by
 unfold zal
 rw [Int.natAbs_mul, Int.natAbs_pow]
 rfl
theorem zzd (k : Nat) : (0 : Int) < 10 ^ k := Int.pow_pos (by decide)
theorem zn6 (x : Number) (s : Int) : (zal x s < 0) ↔ x.N < 0 := by
 unfold zal
 have := zzd (s - x.Scale).toNat
 constructor
 · intro h; refine cbc fun h2 => ?_; have := Int.mul_nonneg (show 0 ≤ x.N by omega) (Int.le_of_lt this); omega
 · intro h; exact Int.mul_neg_of_neg_of_pos h this
theorem zw3 (x : Number) (s : Int) : zal x s = 0 ↔ x.N = 0 := by
 unfold zal
 have := zzd (s - x.Scale).toNat
 constructor
 · intro h; rcases Int.mul_eq_zero.1 h with h | h
   · exact h
   · omega
 · intro h; rw [h, Int.zero_mul]
theorem zt2 (N : Nat) (hN : 300 < N) {a b : Number} (ha : zc6 a) (hb : zc6 b) : zem N a b = some (wn (zal a (zi a b)).natAbs, wn (zal b (zi a b)).natAbs, zi a b) := by
 have ha' := ha
 have hb' := hb
 obtain ⟨_, a3, a4⟩ := ha'
 obtain ⟨_, b3, b4⟩ := hb'
 unfold zem
 have hs : (if b.Scale > a.Scale then b.Scale else a.Scale) = zi a b := rfl
 have h1 : a.Scale ≤ zi a b ∧ b.Scale ≤ zi a b ∧ zi a b ≤ 15 := by unfold zi; split <;> omega
 rw [hs, w6e, w6e]
 have e1 := zp5 N hN ha (zi a b - a.Scale).toNat (by omega)
 have e2 := zp5 N hN hb (zi a b - b.Scale).toNat (by omega)
 rw [Int.toNat_of_nonneg (by omega)] at e1 e2
 rw [e1, obs, e2, obs, ziv, ziv]
theorem zi1 {x : Number} (hx : zc6 x) {s : Int} (hs : s ≤ 15) : (zal x s).natAbs ≤ 10 ^ 30 := by
 obtain ⟨⟨h1, h2⟩, h3, h4⟩ := hx
 rw [ziv]
 have := Nat.mul_le_mul (show x.N.natAbs ≤ 10 ^ 15 by omega) (zca (k := (s - x.Scale).toNat) (m := 15) (by omega))
 exact Nat.le_trans this (by decide)
theorem zmh {a b : Number} (ha : zc6 a) (hb : zc6 b) : a.Scale ≤ zi a b ∧ b.Scale ≤ zi a b ∧ 0 ≤ zi a b ∧ zi a b ≤ 15 := by
 obtain ⟨_, a3, a4⟩ := ha
 obtain ⟨_, b3, b4⟩ := hb
 unfold zi; split <;> omega
def z0b (a b : Int) : Int := if a < b then -1 else if b < a then 1 else 0
theorem z4w (N : Nat) (hN : 300 < N) {a b : Number} (ha : zc6 a) (hb : zc6 b) : zhs N a b = some (z0b (zal a (zi a b)) (zal b (zi a b)), 0) := by
 have f2 : ∀ a b : Int, zq N [a, b] = some (zcy [a, b]) := fun a b => zo2 N _ (by simp; omega) (by simp)
 obtain ⟨s1, s2, s3, s4⟩ := zmh ha hb
 have la := zi1 ha s4
 have lb := zi1 hb s4
 have na := zn6 a (zi a b)
 have nb := zn6 b (zi a b)
 unfold zhs
 rw [zkz, zkz, zkt.2 ha, zkt.2 hb]
 simp only [obs, f2]
 rw [zt2 N hN ha hb]
 simp only [show zcy [0, 0] = 0 from rfl, bsf, cfa, obs]
 rw [zmm N (by omega) (by unfold zkf; omega) (by unfold zkf; omega), zmm N (by omega) (by unfold zkf; omega) (by unfold zkf; omega)]
 generalize zal a (zi a b) = A at *
 generalize zal b (zi a b) = B at *
 have k : ∀ x y, (cond (decide (a.N < 0)) x y : Option (Int × Int)) = if A < 0 then x else y := fun x y => by
  by_cases h : A < 0
  · rw [ifp h, dct (na.1 h), ctr]
  · rw [ifn h, dcf (fun h2 => h (na.2 h2)), cfa]
 have k2 : ∀ x y, (cond (decide (b.N < 0)) x y : Option (Int × Int)) = if B < 0 then x else y := fun x y => by
  by_cases h : B < 0
  · rw [ifp h, dct (nb.1 h), ctr]
  · rw [ifn h, dcf (fun h2 => h (nb.2 h2)), cfa]
 rw [show (cond (decide (a.N < 0)) (some (decide (b.N < 0))) (some false)) = some (decide (A < 0 ∧ B < 0)) by
  by_cases h : A < 0
  · rw [dct (na.1 h), ctr]
    by_cases h2 : B < 0
    · rw [dct (nb.1 h2), dct ⟨h, h2⟩]
    · rw [dcf (fun h3 => h2 (nb.2 h3)), dcf (fun h3 => h2 h3.2)]
  · rw [dcf (fun h2 => h (na.2 h2)), cfa, dcf (fun h3 => h h3.1)]]
 simp only [obs, k, k2]
 unfold zie z0b
 by_cases h1 : A < 0 ∧ B < 0
 · rw [dct h1]; simp only [ctr, Option.some.injEq, Prod.mk.injEq, and_true]
   repeat' split
   all_goals first | rfl | omega
 · rw [dcf h1]; simp only [cfa]
   repeat' split
   all_goals first | rfl | (exfalso; omega)
theorem z79 (N : Nat) (hN : 300 < N) {a b : Number} (ha : zc6 a) (hb : zc6 b) : ∃ s p, zkc N a b = some ⟨s, wn p, wn (10 ^ (zi a b).toNat)⟩ ∧ p ≤ 10 ^ 31 ∧ cond s (-(p : Int)) p = zal a (zi a b) + zal b (zi a b) := by
 obtain ⟨s1, s2, s3, s4⟩ := zmh ha hb
 have la := zi1 ha s4
 have lb := zi1 hb s4
 have na := zn6 a (zi a b)
 have nb := zn6 b (zi a b)
 unfold zkc
 rw [zt2 N hN ha hb]
 simp only [obs]
 rw [zwm N (by omega), zrg]
 simp only [obs]
 rw [zvo N hN s3 (by omega)]
 simp only [obs]
 obtain ⟨r, hr1, hr2⟩ := zvp N (by omega) (zal a (zi a b)).natAbs (zal b (zi a b)).natAbs
 rw [hr1]
 simp only [obs]
 rw [zmm N (by omega) (by unfold zkf; omega) (by unfold zkf; omega)]
 simp only [obs]
 generalize zal a (zi a b) = A at *
 generalize zal b (zi a b) = B at *
 rw [show decide (a.N < 0) = decide (A < 0) by simp only [decide_eq_decide]; exact na.symm, show decide (b.N < 0) = decide (B < 0) by simp only [decide_eq_decide]; exact nb.symm]
 by_cases hA : A < 0
 · by_cases hB : B < 0
   · rw [dct hA, dct hB]; refine ⟨true, _, rfl, by omega, ?_⟩; simp only [ctr]; omega
   · rw [dct hA, dcf hB]; unfold zie
     by_cases h : A.natAbs < B.natAbs
     · rw [ifp h, zyd N (by omega) (Nat.le_of_lt h)]; refine ⟨false, _, rfl, by omega, ?_⟩; simp only [cfa]; omega
     · rw [ifn h, hr2 (by omega)]; refine ⟨true, A.natAbs - B.natAbs, ?_, by omega, ?_⟩
       · split <;> rfl
       · simp only [ctr]; omega
 · by_cases hB : B < 0
   · rw [dcf hA, dct hB]; unfold zie
     by_cases h : A.natAbs < B.natAbs
     · rw [ifp h, zyd N (by omega) (Nat.le_of_lt h)]; refine ⟨true, _, rfl, by omega, ?_⟩; simp only [ctr]; omega
     · rw [ifn h, hr2 (by omega)]; refine ⟨false, A.natAbs - B.natAbs, ?_, by omega, ?_⟩
       · split <;> rfl
       · simp only [cfa]; omega
   · rw [dcf hA, dcf hB]; refine ⟨false, _, rfl, by omega, ?_⟩; simp only [cfa]; omega
def zhm (op : Int) (a b : Number) (t : DataType) (half : Bool) : Value × Int :=
 if (op = 3 ∨ op = 4) ∧ b.N = 0 then (⟨0, ⟨#[]⟩⟩, 20)
 else if op = 0 then z0a (zal a (zi a b) + zal b (zi a b)) (10 ^ (zi a b).toNat) t half
 else if op = 1 then z0a (zal a (zi a b) - zal b (zi a b)) (10 ^ (zi a b).toNat) t half
 else if op = 2 then ziq (decide (a.N < 0) != decide (b.N < 0)) (a.N.natAbs * b.N.natAbs) (10 ^ (a.Scale + b.Scale).toNat) t half
 else if op = 3 then ziq (decide (a.N < 0) != decide (b.N < 0)) (a.N.natAbs * 10 ^ b.Scale.toNat) (b.N.natAbs * 10 ^ a.Scale.toNat) t half
 else ziq (decide (a.N < 0)) ((zal a (zi a b)).natAbs % (zal b (zi a b)).natAbs) (10 ^ (zi a b).toNat) t half
theorem zack (N : Nat) (hN : 300 < N) {op : Int} (hop : 0 ≤ op ∧ op ≤ 4) {a b : Number} (ha : zc6 a) (hb : zc6 b) {t : DataType} (ht : ziy t) (half : Bool) : zco N op a b t half = some (zhm op a b t half) := by
 have f5 : ∀ a b c d e : Int, zq N [a, b, c, d, e] = some (zcy [a, b, c, d, e]) := fun a b c d e => zo2 N _ (by simp; omega) (by simp)
 obtain ⟨s1, s2, s3, s4⟩ := zmh ha hb
 have ha' := ha
 have hb' := hb
 obtain ⟨⟨a1, a2⟩, a3, a4⟩ := ha'
 obtain ⟨⟨b1, b2⟩, b3, b4⟩ := hb'
 have p15 : ∀ k : Int, k ≤ 15 → 10 ^ k.toNat ≤ 10 ^ 15 := fun k hk => zca (by omega)
 have q1 := p15 _ s4
 have q2 := p15 _ a4
 have q3 := p15 _ b4
 unfold zco zl7 zif zj3
 simp only [z1n, zo3, obs]
 rw [zkz, zkz, zkt.2 ha, zkt.2 hb, show inB op 0 4 = true from za6.2 hop]
 simp only [obs]
 rw [zq1 N (by omega), ht.1]
 simp only [obs]
 rw [z8b ht]
 simp only [obs, f5, show zcy [cond (!true) 4 0, 0, 0, 0, cond (!true) 17 0] = 0 from rfl, bsf, cfa]
 have g : ((cond (op == 3) (some true) (some (op == 4))).bind fun g1 => some g1) = some (decide (op = 3 ∨ op = 4)) := by
  rw [zar, zar]
  by_cases h : op = 3
  · rw [dct h, dct (Or.inl h)]; rfl
  · rw [dcf h]
    by_cases h2 : op = 4
    · rw [dct h2, dct (Or.inr h2)]; rfl
    · rw [dcf h2, dcf (by omega)]; rfl
 rw [g]
 simp only [obs]
 rw [show (cond (decide (op = 3 ∨ op = 4)) (some (b.N == 0)) (some false)) = some (decide ((op = 3 ∨ op = 4) ∧ b.N = 0)) by
  rw [zar]
  by_cases h : op = 3 ∨ op = 4
  · rw [dct h, ctr]; congr 1; simp [h]
  · rw [dcf h, cfa]; congr 1; simp [h]]
 simp only [obs]
 unfold zhm
 by_cases hz : (op = 3 ∨ op = 4) ∧ b.N = 0
 · rw [dct hz, ifp hz]; rfl
 · rw [dcf hz, ifn hz, cfa]; unfold zkr
   by_cases o0 : op = 0
   · obtain ⟨s, p, h1, h2, h3⟩ := z79 N hN ha hb; rw [ifp o0, o0, h1]; simp only [bst, ctr, obs]; rw [zs0 N hN _ _ _ (by omega) (zcg _) (by omega) ht, ← h3, z2u _ _ _ (zcg _)]; rfl
   · rw [ifn o0, zar, dcf o0, cfa]
     by_cases o1 : op = 1
     · have hb2 : zc6 ⟨-b.N, b.Scale⟩ := ⟨⟨by show -999999999999999 ≤ -b.N; omega, by show -b.N ≤ 999999999999999; omega⟩, b3, b4⟩; obtain ⟨s, p, h1, h2, h3⟩ := z79 N hN ha hb2; rw [ifp o1, zar, dct o1, ctr, w6e, Int.zero_sub, h1]; simp only [obs]; have e1 : zi a ⟨-b.N, b.Scale⟩ = zi a b := rfl; have e2 : zal ⟨-b.N, b.Scale⟩ (zi a b) = -zal b (zi a b) := by unfold zal; exact Int.neg_mul _ _
       rw [e1] at h3 ⊢; rw [e2] at h3; rw [zs0 N hN _ _ _ (by omega) (zcg _) (by omega) ht, Int.sub_eq_add_neg, ← h3, z2u _ _ _ (zcg _)]; rfl
     · rw [ifn o1, zar, dcf o1, cfa]
       by_cases o2 : op = 2
       · rw [ifp o2, zar, dct o2, ctr, zzh N hN ha, obs]; have e : (if w6 (0 - b.N) > b.N then w6 (0 - b.N) else b.N) = ((b.N.natAbs : Nat) : Int) := by
          rw [w6e]; split <;> omega
         rw [e, zsv, mel (by omega), z23 N (by omega) _ _ (by omega), obs, zrg, obs, w6e, zvo N hN (by omega) (by omega)]; simp only [obs]; have hm : a.N.natAbs * b.N.natAbs ≤ 10 ^ 15 * 10 ^ 15 := Nat.mul_le_mul (by omega) (by omega); have hm2 : 10 ^ (a.Scale + b.Scale).toNat ≤ 10 ^ 30 := zca (by omega); rw [zs0 N hN _ _ _ (by omega) (zcg _) (by omega) ht]; rfl
       · rw [ifn o2, zar, dcf o2, cfa]
         by_cases o3 : op = 3
         · have hb0 : b.N ≠ 0 := fun h => hz ⟨.inl o3, h⟩; have e1 := zp5 N hN ha b.Scale.toNat (by omega); have e2 := zp5 N hN hb a.Scale.toNat (by omega); rw [Int.toNat_of_nonneg (by omega)] at e1 e2; have hm : a.N.natAbs * 10 ^ b.Scale.toNat ≤ 10 ^ 15 * 10 ^ 15 := Nat.mul_le_mul (by omega) (by omega); have hm2 : b.N.natAbs * 10 ^ a.Scale.toNat ≤ 10 ^ 15 * 10 ^ 15 := Nat.mul_le_mul (by omega) (by omega); rw [ifp o3, zar, dct o3, ctr, e1, obs, e2, obs, obs]; rw [zs0 N hN _ _ _ (by omega) (Nat.mul_pos (by omega) (zcg _)) (by omega) ht]; rfl
         · have hb0 : b.N ≠ 0 := fun h => hz ⟨by omega, h⟩; have la := zi1 ha s4; have lb := zi1 hb s4; have hb1 : (zal b (zi a b)).natAbs ≠ 0 := fun h => hb0 ((zw3 b (zi a b)).1 (Int.natAbs_eq_zero.1 h)); have hm := Nat.mod_lt (zal a (zi a b)).natAbs (show 0 < (zal b (zi a b)).natAbs by omega); rw [ifn o3, zar, dcf o3, cfa, zt2 N hN ha hb, obs]; simp only []; rw [zzg N hN _ _ (by unfold zkf; omega) (by omega) (by omega), obs, zrg, obs]; rw [zvo N hN s3 (by omega)]; simp only [obs]; rw [zs0 N hN _ _ _ (by omega) (zcg _) (by omega) ht]; rfl
def dv : List Int → Nat
 | [] => 0
 | d :: l => d.toNat + 10 * dv l
def dok (l : List Int) : Prop := ∀ d ∈ l, 0 ≤ d ∧ d < 10
def znl (l : List Int) : Prop := l.getLast? ≠ some 0
def dg (n : Nat) : List Int := if n = 0 then [] else ((n % 10 : Nat) : Int) :: dg (n / 10)
termination_by n
decreasing_by omega
theorem zkw : dg 0 = [] := by rw [dg]; rfl
theorem zoj {n : Nat} (h : n ≠ 0) : dg n = ((n % 10 : Nat) : Int) :: dg (n / 10) := by rw [dg, ifn h]
theorem zyn (n : Nat) : dv (dg n) = n ∧ dok (dg n) ∧ znl (dg n) ∧ (dg n = [] ↔ n = 0) := by
 induction n using Nat.strongRecOn with
 | _ n ih =>
  by_cases h : n = 0
  · subst h; rw [zkw]; exact ⟨rfl, fun d hd => (List.not_mem_nil hd).elim, by unfold znl; simp, by simp⟩
  · obtain ⟨h1, h2, h3, h4⟩ := ih (n / 10) (by omega); rw [zoj h]; refine ⟨?_, ?_, ?_, by simp [h]⟩
    · simp only [dv, h1, itn]; omega
    · intro d hd; rcases List.mem_cons.1 hd with rfl | hd
      · omega
      · exact h2 d hd
    · unfold znl at h3 ⊢; cases hl : dg (n / 10) with
      | nil =>
       have := h4.1 hl; simp only [List.getLast?_singleton, ne_eq, Option.some.injEq]; omega
      | cons x l =>
       rw [hl] at h3; rw [List.getLast?_cons_cons]; exact h3
theorem zkk (n : Nat) : dv (dg n) = n := (zyn n).1
theorem zj6 (n : Nat) : dok (dg n) := (zyn n).2.1
theorem z5m (n : Nat) : znl (dg n) := (zyn n).2.2.1
theorem zzv : ∀ {l : List Int}, dok l → znl l → dg (dv l) = l
 | [], _, _ => zkw
 | d :: l, h, hc => by
  have hl : dok l := fun x hx => h x (List.mem_cons_of_mem _ hx); obtain ⟨h0, h1⟩ := h d List.mem_cons_self; cases l with
  | nil =>
   unfold znl at hc; simp only [List.getLast?_singleton, ne_eq, Option.some.injEq] at hc; have e : dv [d] = d.toNat := by simp [dv]
   rw [e, zoj (by omega), show d.toNat / 10 = 0 by omega, zkw, show ((d.toNat % 10 : Nat) : Int) = d by omega]
  | cons x l =>
   have hcl : znl (x :: l) := by
    unfold znl at hc ⊢; rw [List.getLast?_cons_cons] at hc; exact hc
   have ih := zzv hl hcl; have hn : dv (x :: l) ≠ 0 := fun h => by rw [h, zkw] at ih; cases ih
   have e : dv (d :: x :: l) = d.toNat + 10 * dv (x :: l) := rfl; rw [e, zoj (by omega), show (d.toNat + 10 * dv (x :: l)) / 10 = dv (x :: l) by omega, ih, show (((d.toNat + 10 * dv (x :: l)) % 10 : Nat) : Int) = d by omega]
theorem zr9 : ∀ (a b : List Int), dv (a ++ b) = dv a + 10 ^ a.length * dv b
 | [], b => by simp [dv]
 | d :: a, b => by
  simp only [List.cons_append, dv, zr9 a b, lnc, Nat.pow_succ]; rw [Nat.mul_add, Nat.add_assoc, Nat.mul_comm (10 ^ a.length) 10, Nat.mul_assoc]
theorem zrm : ∀ k : Nat, dv (List.replicate k (0 : Int)) = 0
 | 0 => rfl
 | k + 1 => by simp only [List.replicate_succ, dv, zrm k]; rfl
theorem zqc (k : Nat) : dok (List.replicate k (0 : Int)) := fun d hd => by
 obtain ⟨_, rfl⟩ := List.mem_replicate.1 hd
 omega
theorem zuc {a b : List Int} (ha : dok a) (hb : dok b) : dok (a ++ b) := fun d hd => (List.mem_append.1 hd).elim (ha d) (hb d)
theorem zzt : ∀ {l : List Int}, dok l → dv l < 10 ^ l.length
 | [], _ => by simp [dv]
 | d :: l, h => by
  have ih := zzt (l := l) fun x hx => h x (List.mem_cons_of_mem _ hx); obtain ⟨h0, h1⟩ := h d List.mem_cons_self; simp only [dv, lnc, Nat.pow_succ]; omega
theorem zho (n k : Nat) : (dg n).length ≤ k ↔ n < 10 ^ k := by
 induction k generalizing n with
 | zero =>
  by_cases h : n = 0
  · rw [h, zkw]; simp
  · rw [zoj h]; simp; omega
 | succ k ih =>
  by_cases h : n = 0
  · rw [h, zkw]; simp [zcg]
  · rw [zoj h, lnc, Nat.add_le_add_iff_right, ih (n / 10), Nat.pow_succ]; omega
theorem z30 (l : List Int) (i : Nat) (hi : i < l.length) : dv l = dv (l.take i) + 10 ^ i * (l[i].toNat + 10 * dv (l.drop (i + 1))) := by
 have h := List.take_append_drop i l
 have e : l.drop i = l[i] :: l.drop (i + 1) := List.drop_eq_getElem_cons hi
 conv => lhs; rw [← h, zr9, e]
 simp only [dv, lnt, Nat.min_eq_left (Nat.le_of_lt hi)]
theorem zyl {l : List Int} (h : dok l) (i : Nat) : dok (l.take i) := fun d hd => h d (List.mem_of_mem_take hd)
theorem zaas {l : List Int} (h : dok l) (i : Nat) : dok (l.drop i) := fun d hd => h d (List.mem_of_mem_drop hd)
theorem z81 {a b : List Int} (ha : dok a) (hb : dok b) (i : Nat) (hi : i < a.length) (hj : i < b.length) (h : a.drop (i + 1) = b.drop (i + 1)) (hlt : a[i] < b[i]) : dv a < dv b := by
 rw [z30 a i hi, z30 b i hj, h]
 have l1 := zzt (zyl ha i)
 rw [lnt, Nat.min_eq_left (Nat.le_of_lt hi)] at l1
 obtain ⟨x0, _⟩ := ha a[i] (List.getElem_mem hi)
 have : 10 ^ i * (a[i].toNat + 10 * dv (b.drop (i + 1))) + 10 ^ i ≤ 10 ^ i * (b[i].toNat + 10 * dv (b.drop (i + 1))) := by
  rw [← Nat.mul_succ]; exact Nat.mul_le_mul_left _ (by omega)
 omega
theorem zzu {a b : Nat} (h : (dg a).length < (dg b).length) : a < b := by
 have h1 := (zho a (dg a).length).1 (Nat.le_refl _)
 refine Nat.lt_of_lt_of_le h1 (cbc fun h2 => ?_)
 have := (zho b (dg a).length).2 (by omega)
 omega
def bl (b : ByteArray) : List UInt8 := b.data.toList
theorem zao (b : ByteArray) : (bl b).length = b.size := rfl
theorem zg9 {a b : ByteArray} (h : bl a = bl b) : a = b := by
 cases a; cases b
 unfold bl at h
 simp only at h
 congr 1
 exact Array.toList_inj.1 h
theorem zht (b : ByteArray) (i : Nat) : zg6 b (i : Int) = (bl b)[i]? := by
 unfold zg6 bl
 rw [ifp]
 show b[i]? = _
 by_cases h : i < b.size
 · rw [getElem?_pos b i h, lge (by simpa using h)]
   congr 1
 · rw [getElem?_neg b i h, List.getElem?_eq_none (by simpa using h)]
theorem zey (b : ByteArray) (i j : Nat) : bl (b.extract i j) = ((bl b).take j).drop i := by
 unfold bl
 rw [ByteArray.data_extract, Array.toList_extract, List.extract_eq_drop_take', List.drop_take]
theorem zdd (a b : ByteArray) : bl (a ++ b) = bl a ++ bl b := by
 unfold bl
 rw [ByteArray.data_append, Array.toList_append]
theorem zabk (l : List UInt8) : bl ⟨l.toArray⟩ = l := rfl
def beV (l : List UInt8) : Nat := l.foldl (fun n c => n * 256 + c.toNat) 0
theorem zrr (l : List UInt8) (x : UInt8) : beV (l ++ [x]) = beV l * 256 + x.toNat := by
 unfold beV; rw [List.foldl_append]; rfl
theorem zzz (l : List UInt8) : beV l < 256 ^ l.length := by
 have key : ∀ (l r : List UInt8), l = r.reverse → beV l < 256 ^ l.length := by
  intro l r
  induction r generalizing l with
  | nil => intro h; subst h; decide
  | cons x r ih =>
   intro h; rw [List.reverse_cons] at h; subst h; have := ih _ rfl; rw [zrr, lna, lns, Nat.pow_succ]; have := x.toNat_lt; omega
 exact key l l.reverse (by simp)
theorem zef {α : Type} (l : List α) (i : Nat) {x : α} (h : l[i]? = some x) : l.take (i + 1) = l.take i ++ [x] := by
 obtain ⟨h1, h2⟩ := gei h
 rw [List.take_succ_eq_append_getElem h1, h2]
theorem zew {α : Type} {l : List α} {i : Nat} (h : i < l.length) : ∃ x, l[i]? = some x := ⟨_, lge h⟩
theorem or8 (n : Int) (c : Nat) (h1 : -36028797018963968 ≤ n) (h2 : n < 36028797018963968) (hc : c < 256) : orI .i64 (n * 256) (c : Int) = n * 256 + c := by
 unfold orI
 have e : (BitVec.ofInt IntKind.i64.bits (n * 256) ||| BitVec.ofInt IntKind.i64.bits (c : Int)).toNat = ((n * 256) % 18446744073709551616).toNat + c := by
  show (BitVec.ofInt 64 (n * 256) ||| BitVec.ofInt 64 (c : Int)).toNat = _; rw [BitVec.toNat_or, BitVec.ofInt_natCast, BitVec.toNat_ofNat, BitVec.toNat_ofInt, mel (by omega)]; show ((n * 256) % 18446744073709551616).toNat ||| c = _; have := Nat.two_pow_add_eq_or_of_lt (i := 8) (b := c) hc (((n * 256) % 18446744073709551616).toNat / 256); rw [show 2 ^ 8 * (((n * 256) % 18446744073709551616).toNat / 256) = ((n * 256) % 18446744073709551616).toNat by omega] at this; exact this.symm
 rw [e]
 have k : (2 : Int) ^ (IntKind.i64.bits) = 18446744073709551616 := by decide
 have k' : (2 : Int) ^ (IntKind.i64.bits - 1) = 9223372036854775808 := by decide
 unfold IntKind.wrap
 simp only [k, k', show IntKind.i64.signed = true from rfl, Bool.true_and, decide_eq_true_eq, ge_iff_le]
 split <;> omega
theorem z1x (N : Nat) (hN : 20 < N) (b : ByteArray) (hb : b.size ≤ 6) : zb7 N b = some (beV (bl b) : Int) := by
 unfold zb7
 have := zbm (f := zb7.r0 N) (fun i => (b, ((beV ((bl b).take i) : Nat) : Int), (b.size : Int), (i : Int))) b.size
  (fun i hi => by
   obtain ⟨x, hx⟩ : ∃ x, (bl b)[i]? = some x := zew (by rw [zao]; exact hi); have hl := zzz ((bl b).take i); have hl2 : 256 ^ ((bl b).take i).length ≤ 256 ^ 6 := Nat.pow_le_pow_right (by decide) (by rw [lnt, zao]; omega); have hc := x.toNat_lt; simp only [zb7.r0, zb7.b0, dct (show (i : Int) < (b.size : Int) by omega), ctr, zht, hx, obs]; rw [show (2 : Int) ^ (min (8 : Int).toNat 64) = 256 from rfl, w6e (n := ((beV ((bl b).take i) : Nat) : Int) * 256), w6e (n := (x.toNat : Int)), w6e (n := (i : Int) + 1), or8 _ _ (by omega) (by omega) hc, zef _ _ hx, zrr]; simp only [Int.natCast_add, Int.natCast_mul, Int.natCast_one]; rfl)
  (by simp only [zb7.r0, zb7.b0, dcf (show ¬ (b.size : Int) < (b.size : Int) by omega), cfa]) (N := N) (by omega)
 simp only [List.take_zero, nc0] at this
 rw [show ((beV [] : Nat) : Int) = 0 from rfl] at this
 rw [this, ← zao, List.take_length]
 rfl
theorem zwh (N : Nat) (hN : 20 < N) (b : ByteArray) (k n : Nat) (hn : n ≤ 6) (hk : k + n ≤ b.size) (hb : b.size < 1000000) : zc7 N b (k : Int) (n : Int) = some (beV (((bl b).drop k).take n) : Int) := by
 unfold zc7
 have := zbm (f := zc7.r0 N) (fun i => (b, (k : Int), (n : Int), ((beV (((bl b).drop k).take i) : Nat) : Int), (i : Int))) n
  (fun i hi => by
   have hlen : i < ((bl b).drop k).length := by rw [List.length_drop, zao]; omega
   obtain ⟨x, hy⟩ : ∃ x, ((bl b).drop k)[i]? = some x := zew hlen; have hx : (bl b)[k + i]? = some x := by rw [← List.getElem?_drop]; exact hy
   have hl := zzz (((bl b).drop k).take i); have hl2 : 256 ^ (((bl b).drop k).take i).length ≤ 256 ^ 6 := Nat.pow_le_pow_right (by decide) (by rw [lnt]; omega); have hc := x.toNat_lt; simp only [zc7.r0, zc7.b0, dct (show (i : Int) < (n : Int) by omega), ctr]; rw [w6e (n := (k : Int) + (i : Int)), ← Int.natCast_add, zht, hx]; simp only [obs]; rw [w6e (n := ((beV (((bl b).drop k).take i) : Nat) : Int) * 256), w6e (n := (x.toNat : Int)), w6e (n := (i : Int) + 1), w6e, zef _ _ hy, zrr]; simp only [Int.natCast_add, Int.natCast_mul, Int.natCast_one]; rfl)
  (by simp only [zc7.r0, zc7.b0, dcf (show ¬ (n : Int) < (n : Int) by omega), cfa]) (N := N) (by omega)
 simp only [List.take_zero, nc0] at this
 rw [show ((beV [] : Nat) : Int) = 0 from rfl] at this
 rw [this]
 rfl
def zbl (v k : Nat) : List Int := (List.range k).map fun j => ((v / 256 ^ (k - 1 - j) % 256 : Nat) : Int)
theorem zyp (v k : Nat) : (zbl v k).length = k := by simp [zbl]
def zg0 (f : Nat → Int) (k i : Nat) : List Int := (List.range k).map fun j => if k - i ≤ j then f (k - 1 - j) else 0
theorem zrb (f : Nat → Int) (k i : Nat) : (zg0 f k i).length = k := by simp [zg0]
theorem zpy (f : Nat → Int) (k : Nat) : zg0 f k 0 = List.replicate k (0 : Int) := by
 unfold zg0
 refine List.ext_getElem? fun j => ?_
 rw [List.getElem?_map, List.getElem?_replicate]
 by_cases h : j < k
 · rw [lge (by simpa using h), ifp h]; simp only [List.getElem_range, Option.map_some]; rw [ifn]
 · rw [List.getElem?_eq_none (by simpa using h), ifn h]; rfl
theorem zp0 (f : Nat → Int) (k : Nat) : zg0 f k k = (List.range k).map fun j => f (k - 1 - j) := by
 unfold zg0
 refine List.map_congr_left fun j _ => ?_
 rw [ifp]
theorem zpz (f : Nat → Int) (k i : Nat) (h : i < k) : (zg0 f k i).set (k - 1 - i) (f i) = zg0 f k (i + 1) := by
 refine List.ext_getElem? fun j => ?_
 rw [List.getElem?_set]
 unfold zg0
 simp only [lnm, List.length_range, List.getElem?_map]
 by_cases hj : j < k
 · rw [lge (by simpa using hj)]; simp only [List.getElem_range, Option.map_some]
   by_cases he : k - 1 - i = j
   · rw [ifp he, ifp, ifp, show k - 1 - j = i by omega]
   · rw [ifn he]
     congr 1
     by_cases h2 : k - i ≤ j
     · rw [ifp h2, ifp]
     · rw [ifn h2, ifn]
 · rw [List.getElem?_eq_none (by simpa using hj)]
   by_cases he : k - 1 - i = j
   · omega
   · rw [ifn he]; rfl
def z0i (v k i : Nat) : List Int := zg0 (fun e => ((v / 256 ^ e % 256 : Nat) : Int)) k i
theorem z9a (v k : Nat) : z0i v k 0 = List.replicate k (0 : Int) := zpy _ k
theorem z9c (v k : Nat) : z0i v k k = zbl v k := zp0 _ k
theorem z9b (v k i : Nat) (h : i < k) : (z0i v k i).set (k - 1 - i) ((v / 256 ^ i % 256 : Nat) : Int) = z0i v k (i + 1) := zpz _ k i h
theorem zabp (m : Nat) : IntKind.wrap .u8 (m : Int) = ((m % 256 : Nat) : Int) := by
 have e : (2 : Int) ^ (IntKind.u8.bits) = 256 := by decide
 unfold IntKind.wrap
 simp only [e, show IntKind.u8.signed = false from rfl, Bool.false_and]
 simp only [Bool.false_eq_true, if_false]
 omega
theorem zadr (N : Nat) (hN : 20 < N) (v k : Nat) (hk : k ≤ 8) : zb3 N (v : Int) (k : Int) = some (zbl v k) := by
 unfold zb3
 have := zbm (f := zb3.r0 N) (fun i => ((v : Int), (k : Int), z0i v k i, (k : Int), (i : Int))) k
  (fun i hi => by
   have hl : (z0i v k i).length = k := zrb _ _ _; simp only [zb3.r0, zb3.b0, dct (show (i : Int) < (k : Int) by omega), ctr, hl]; rw [w6e (n := 8 * (i : Int)), w6e (n := (k : Int) - 1), w6e (n := (k : Int) - 1 - (i : Int)), ifn, ifp, ifp]; have e0 : ((k : Int) - 1 - (i : Int)).toNat = k - 1 - i := by omega
   rw [e0, lge (by omega), obs, w6e (n := (i : Int) + 1)]; have e1 : ((v : Int).fdiv (2 ^ (min (8 * (i : Int)).toNat 64))) = ((v / 256 ^ i : Nat) : Int) := by
    rw [show (8 * (i : Int)).toNat = 8 * i by omega, Nat.min_eq_left (by omega), show (2 : Int) ^ (8 * i) = ((256 ^ i : Nat) : Int) by
     rw [show (256 : Nat) = 2 ^ 8 from rfl, ← Nat.pow_mul, Int.natCast_pow]; rfl, zua]
   rw [e1, zabp, z9b v k i hi]; rfl)
  (by simp only [zb3.r0, zb3.b0, dcf (show ¬ (k : Int) < (k : Int) by omega), cfa]) (N := N) (by omega)
 rw [ifp, ifp]
 have hr : Nat.ble ((k : Int).toNat * 1) zab = true := by
  rw [Nat.ble_eq]; unfold zab; omega
 rw [hr, ctr, itn, lnr]
 simp only [z9a, nc0] at this
 rw [this, obs, z9c]
def zyr : Pointer := ⟨0, ⟨0, 0⟩, 0⟩
def zid (off : Int) : Pointer := ⟨0, ⟨1, off⟩, 0⟩
def znm (p : Pointer) : Int := cond (!inB p.Kind 0 2) 4 (cond (!inB p.Address.zY 0 1099511627775 || (!inB p.Address.Offset 0 16777215 || !inB p.Authority 0 1023)) 3 (cond (p.Authority != 0 && p.Kind != 1) 5 0))
theorem z0s (p : Pointer) : zeg p = some (znm p) := by
 unfold zeg znm
 simp only [zafl, obs, zme]
 generalize inB p.Kind 0 2 = a
 generalize inB p.Address.zY 0 1099511627775 = b
 generalize inB p.Address.Offset 0 16777215 = c
 generalize inB p.Authority 0 1023 = d
 generalize (p.Authority != 0 && p.Kind != 1) = e
 cases a <;> cases b <;> cases c <;> cases d <;> cases e <;> rfl
theorem z73 (p : Pointer) : zhr p = some (znm p) := by
 unfold zhr znm
 rw [Bool.and_comm (p.Authority != 0) (p.Kind != 1)]
 simp only [zgy, obs, zme, orB]
 generalize inB p.Kind 0 2 = a
 generalize inB p.Address.zY 0 1099511627775 = b
 generalize inB p.Address.Offset 0 16777215 = c
 generalize inB p.Authority 0 1023 = d
 generalize (p.Kind != 1 && p.Authority != 0) = e
 cases a <;> cases b <;> cases c <;> cases d <;> cases e <;> rfl
def zrd (l : List UInt8) : Pointer := ⟨((l.getD 0 0).toNat : Nat), ⟨(beV ((l.drop 4).take 6) : Nat), (beV ((l.drop 10).take 6) : Nat)⟩, (beV ((l.drop 2).take 2) : Nat)⟩
def zjk (l : List UInt8) : Pointer × Int := if (l.getD 1 0).toNat ≠ 0 then (zyr, 5) else if znm (zrd l) ≠ 0 then (zyr, znm (zrd l)) else (zrd l, 0)
theorem zq4 {l : List UInt8} {i : Nat} (h : i < l.length) : l[i]? = some (l.getD i 0) := by
 rw [gdd, lge h]; rfl
theorem z1w (N : Nat) (hN : 20 < N) (b : ByteArray) (hb : b.size = 16) : zfj N b = some (zjk (bl b)) := by
 have hl : (bl b).length = 16 := hb
 have i1 : zg6 b 1 = some ((bl b).getD 1 0) := by rw [show (1 : Int) = ((1 : Nat) : Int) from rfl, zht, zq4 (by omega)]
 have i0 : zg6 b 0 = some ((bl b).getD 0 0) := by rw [show (0 : Int) = ((0 : Nat) : Int) from rfl, zht, zq4 (by omega)]
 have z1 : (b.extract (2 : Int).toNat (4 : Int).toNat).size = 2 := zcp b 2 4 (by omega) (by omega)
 have z2 : (b.extract (4 : Int).toNat (10 : Int).toNat).size = 6 := zcp b 4 10 (by omega) (by omega)
 have z3 : (b.extract (10 : Int).toNat b.size).size = 6 := (zcp b 10 b.size (by omega) (by omega)).trans (by omega)
 have e1 := z1x N hN (b.extract (2 : Int).toNat (4 : Int).toNat) (by omega)
 have e2 := z1x N hN (b.extract (4 : Int).toNat (10 : Int).toNat) (by omega)
 have e3 := z1x N hN (b.extract (10 : Int).toNat b.size) (by omega)
 rw [zey, show (2 : Int).toNat = 2 from rfl, show (4 : Int).toNat = 4 from rfl, List.drop_take] at e1
 rw [zey, show (4 : Int).toNat = 4 from rfl, show (10 : Int).toNat = 10 from rfl, List.drop_take] at e2
 rw [zey, show (10 : Int).toNat = 10 from rfl, List.drop_take, hb] at e3
 unfold zfj
 rw [show ((b.size : Int) != 16) = false by rw [hb]; rfl]
 simp only [cfa, i1, i0, obs]
 by_cases h : ((bl b).getD 1 0).toNat = 0
 · rw [h, show ((((0 : Nat) : Int)) != 0) = false from rfl, cfa]; rw [ifp, ifp, show (2 : Int).toNat = 2 from rfl, show (4 : Int).toNat = 4 from rfl, e1]; simp only [obs]; rw [ifp, ifp, show (10 : Int).toNat = 10 from rfl, e2]; simp only [obs]; rw [ifp, hb, e3]; simp only [obs]; have hx := ((bl b).getD 0 0).toNat_lt; rw [w6e]; rw [show (⟨(((bl b).getD 0 0).toNat : Int), ⟨(beV (((bl b).drop 4).take (10 - 4)) : Int), (beV (((bl b).drop 10).take (16 - 10)) : Int)⟩, (beV (((bl b).drop 2).take (4 - 2)) : Int)⟩ : Pointer) = zrd (bl b) from rfl, z0s]; simp only [obs]; unfold zjk; rw [ifn]
   by_cases h2 : znm (zrd (bl b)) = 0
   · rw [h2]; rfl
   · rw [ifp h2, zb6, dct h2]; rfl
 · unfold zjk; rw [ifp h, zb6, dct (by omega)]; rfl
theorem z2k (N : Nat) (hN : 20 < N) (b : ByteArray) (hb : b.size = 16) : zl2 N b = some (zjk (bl b)) := by
 have hl : (bl b).length = 16 := hb
 have i1 : zg6 b 1 = some ((bl b).getD 1 0) := by rw [show (1 : Int) = ((1 : Nat) : Int) from rfl, zht, zq4 (by omega)]
 have i0 : zg6 b 0 = some ((bl b).getD 0 0) := by rw [show (0 : Int) = ((0 : Nat) : Int) from rfl, zht, zq4 (by omega)]
 have e1 : zc7 N b 2 2 = _ := zwh N hN b 2 2 (by omega) (by omega) (by omega)
 have e2 : zc7 N b 4 6 = _ := zwh N hN b 4 6 (by omega) (by omega) (by omega)
 have e3 : zc7 N b 10 6 = _ := zwh N hN b 10 6 (by omega) (by omega) (by omega)
 unfold zl2
 rw [show ((b.size : Int) != 16) = false by rw [hb]; rfl]
 simp only [cfa, i1, i0, obs]
 by_cases h : ((bl b).getD 1 0).toNat = 0
 · rw [h, show ((((0 : Nat) : Int)) != 0) = false from rfl, cfa]; rw [e1, e2, e3]; simp only [obs]; have hx := ((bl b).getD 0 0).toNat_lt; rw [w6e]; rw [show (⟨(((bl b).getD 0 0).toNat : Int), ⟨(beV (((bl b).drop 4).take 6) : Int), (beV (((bl b).drop 10).take 6) : Int)⟩, (beV (((bl b).drop 2).take 2) : Int)⟩ : Pointer) = zrd (bl b) from rfl, z73]; simp only [obs]; unfold zjk; rw [ifn]
   by_cases h2 : znm (zrd (bl b)) = 0
   · rw [h2]; rfl
   · rw [ifp h2, zb6, dct h2]; rfl
 · unfold zjk; rw [ifp h, zb6, dct (by omega)]; rfl
def zjo (s : Storage) (i : Nat) : List UInt8 := ((bl s.Bytes).drop (16 * i)).take 16
def gS (s : Storage) (i : Nat) : Option (Int × Int) := (s.Tags[i]?).bind fun t => if t = true ∧ (zjk (zjo s i)).2 ≠ 0 then some ((i : Int), 22) else none
def zjf (s : Storage) : Int × Int :=
 if s.Bytes.size > 1024 then (0, 2) else if s.Bytes.size % 16 ≠ 0 then (0, 18) else if s.Tags.length ≠ s.Bytes.size / 16 then (0, 6)
 else match (List.range s.Tags.length).findSome? (gS s) with | some r => r | none => ((s.Tags.length : Int), 0)
theorem zkq (s : Storage) (i : Nat) : bl (s.Bytes.extract (16 * i) (16 * i + 16)) = zjo s i := by
 rw [zey, List.drop_take, zjo, show 16 * i + 16 - 16 * i = 16 by omega]
theorem zk3 (N : Nat) (hN : 2000 < N) (s : Storage) : zp N s = some (zjf s) ∧ zdt N s = some (zjf s) := by
 unfold zp zdt zjf
 by_cases h1 : (s.Bytes.size : Int) > 1024
 · rw [dct h1, ifp]; exact ⟨rfl, rfl⟩
 · rw [dcf h1, ifn]; have hm : (s.Bytes.size : Int).tmod 16 = (s.Bytes.size : Int) % 16 := tme; have hd : (s.Bytes.size : Int).tdiv 16 = (s.Bytes.size : Int) / 16 := tde
   by_cases h2 : (s.Bytes.size : Int) % 16 = 0
   · rw [hm, hd, w6e, ifn]
     by_cases h3 : (s.Tags.length : Int) = (s.Bytes.size : Int) / 16
     · rw [show (((s.Bytes.size : Int) % 16) != 0) = false by rw [h2]; rfl, show ((s.Tags.length : Int) != (s.Bytes.size : Int) / 16) = false by rw [← h3]; exact bsf _, ifn]; simp only [cfa]; have hw : ∀ i : Nat, i < s.Tags.length → w6 ((i : Int) * 16) = (i : Int) * 16 ∧ w6 ((i : Int) * 16 + 16) = (i : Int) * 16 + 16 := fun i hi => ⟨w6e, w6e⟩; have hx : ∀ i : Nat, i < s.Tags.length → s.Bytes.extract ((i : Int) * 16).toNat ((i : Int) * 16 + 16).toNat = s.Bytes.extract (16 * i) (16 * i + 16) := fun i hi => by
        rw [show ((i : Int) * 16).toNat = 16 * i by omega, show ((i : Int) * 16 + 16).toNat = 16 * i + 16 by omega]
       have hz : ∀ i : Nat, i < s.Tags.length → (s.Bytes.extract (16 * i) (16 * i + 16)).size = 16 := fun i hi => by
        rw [zcp _ _ _ (by omega) (by omega)]; omega
       constructor
       · have l1 := zb1 (f := zp.r1 N) (fun i => (s.Tags, (s.Tags.length : Int), (i : Int), s)) (gS s) s.Tags.length
          (fun i hi => by
           obtain ⟨w1, w2⟩ := hw i hi; have hx1 := lge hi; simp only [zp.r1, zp.b1, zan, hx1, obs, dct (show (i : Int) < (s.Tags.length : Int) by omega), ctr, gS]; rw [w6e (n := (i : Int) + 1)]; cases hb : s.Tags[i] with
           | false => simp
           | true =>
            simp only [bnt, cfa, w1, w2]; rw [ifp, ifp, hx i hi, z1w N (by omega) _ (hz i hi), zkq]; simp only [obs]
            by_cases hq : (zjk (zjo s i)).2 = 0
            · rw [hq]; simp
            · rw [zb6, dct hq, ifp ⟨trivial, hq⟩]; rfl)
          (by simp only [zp.r1, zp.b1, dcf (show ¬ (s.Tags.length : Int) < (s.Tags.length : Int) by omega), cfa]) (N := N) (by omega)
         simp only [nc0] at l1; rw [l1]; simp only [obs]; cases (List.range s.Tags.length).findSome? (gS s) <;> rfl
       · have l1 := zb1 (f := zdt.r0 N) (fun i => ((s.Bytes.size : Int) / 16, (i : Int), s)) (gS s) s.Tags.length
          (fun i hi => by
           obtain ⟨w1, w2⟩ := hw i hi; have hx1 := lge hi; simp only [zdt.r0, zdt.b0, zan, hx1, obs, dct (show (i : Int) < (s.Bytes.size : Int) / 16 by omega), ctr, gS]; rw [w6e (n := (i : Int) + 1)]; cases hb : s.Tags[i] with
           | false => simp
           | true =>
            simp only [ctr, ziw, w1, w2]; rw [ifp, ifp]; simp only [obs]; rw [hx i hi, z2k N (by omega) _ (hz i hi), zkq]; simp only [obs]
            by_cases hq : (zjk (zjo s i)).2 = 0
            · rw [hq]; simp
            · rw [zb6, dct hq, ifp ⟨trivial, hq⟩]; rfl)
          (by simp only [zdt.r0, zdt.b0, dcf (show ¬ (s.Tags.length : Int) < (s.Bytes.size : Int) / 16 by omega), cfa]) (N := N) (by omega)
         simp only [nc0] at l1; rw [l1]; simp only [obs]; cases (List.range s.Tags.length).findSome? (gS s) with
         | some r => rfl
         | none => simp only [zb9, ← h3]
     · rw [show (((s.Bytes.size : Int) % 16) != 0) = false by rw [h2]; rfl, show ((s.Tags.length : Int) != (s.Bytes.size : Int) / 16) = true by rw [zb6]; exact dct h3, ifp]; exact ⟨rfl, rfl⟩
   · rw [hm, show (((s.Bytes.size : Int) % 16) != 0) = true by rw [zb6]; exact dct h2, ifp]; exact ⟨rfl, rfl⟩
structure ziu (s : Storage) : Prop where
 le : s.Bytes.size ≤ 1024
 quad : s.Bytes.size % 16 = 0
 tags : s.Tags.length = s.Bytes.size / 16
 ptr : ∀ i, s.Tags[i]? = some true → ∃ off : Int, (0 ≤ off ∧ off ≤ 16777215) ∧ zjk (zjo s i) = (zid off, 0)
theorem ziu.err {s : Storage} (h : ziu s) : zjf s = ((s.Tags.length : Int), 0) := by
 obtain ⟨h1, h2, h3, h4⟩ := h
 unfold zjf
 rw [ifn, ifn, ifn]
 have : (List.range s.Tags.length).findSome? (gS s) = none := by
  rw [List.findSome?_eq_none_iff]; intro i _; unfold gS; cases ht : s.Tags[i]? with
  | none => rfl
  | some t =>
   rw [obs]; split
   · rename_i h5; rw [h5.1] at ht; obtain ⟨off, _, h6⟩ := h4 i ht; rw [h6] at h5; exact absurd rfl h5.2
   · rfl
 rw [this]
theorem ziu.ok {s : Storage} (h : ziu s) : StoOk s := ⟨h.le, h.quad⟩
theorem z1y (N : Nat) (hN : 2000 < N) (s : Storage) : ∃ i1 e1 e2, zp N s = some (i1, e1) ∧ zic N s = some e2 ∧
 ((e1 = e2 ∧ e1 ≠ 0) ∨ (StoOk s ∧ s.Tags.length ≤ 64 ∧ (e1 = 0 ∨ (e1 = 22 ∧ true ∈ s.Tags)) ∧ (e2 = 0 ∨ (e2 = 22 ∧ true ∈ s.Tags)))) := by
 obtain ⟨h1, h2⟩ := zk3 N hN s
 refine ⟨(zjf s).1, (zjf s).2, (zjf s).2, h1, by unfold zic; rw [show (⟨s.Bytes, s.Tags⟩ : Storage) = s from rfl, h2]; rfl, ?_⟩
 unfold zjf
 split
 · exact .inl ⟨rfl, by decide⟩
 split
 · exact .inl ⟨rfl, by decide⟩
 split
 · exact .inl ⟨rfl, by decide⟩
 refine .inr ⟨⟨by omega, by omega⟩, by omega, ?_⟩
 have key : ∀ e : Int, (e = 0 ∨ (e = 22 ∧ true ∈ s.Tags)) → (e = 0 ∨ (e = 22 ∧ true ∈ s.Tags)) ∧ (e = 0 ∨ (e = 22 ∧ true ∈ s.Tags)) := fun _ h => ⟨h, h⟩
 apply key
 cases hf : (List.range s.Tags.length).findSome? (gS s) with
 | none => exact .inl rfl
 | some r =>
  obtain ⟨i, _, hi⟩ := eof hf; unfold gS at hi; cases hx : s.Tags[i]? with
  | none => rw [hx] at hi; cases hi
  | some b =>
   rw [hx, obs] at hi; split at hi
   · rename_i h5; injection hi with hi; rw [h5.1] at hx; exact .inr ⟨by rw [← hi], lmg hx⟩
   · cases hi
theorem zaco (N : Nat) (l : List Bool) (h : l.length < N) (hl : l.length < 1000000000) : zfw N l true = some (l.contains true) := by
 unfold zfw zbu
 have := zb1 (f := zbu.r0 N) (fun i => (l, true, (l.length : Int), (i : Int))) (fun i => (l[i]?).bind fun x => if x = true then some (i : Int) else none) l.length
  (fun i hi => by
   have hx := lge hi; simp only [zbu.r0, zbu.b0, zan, hx, obs, dct (show (i : Int) < (l.length : Int) by omega), ctr]; rw [w6e]; cases hb : l[i] <;> simp)
  (by simp only [zbu.r0, zbu.b0, dcf (show ¬ (l.length : Int) < (l.length : Int) by omega), cfa]) h
 simp only [nc0] at this
 rw [this]
 simp only [obs]
 cases hfs : (List.range l.length).findSome? (fun i : Nat => (l[i]?).bind fun x => if x = true then some (i : Int) else none) with
 | some r =>
  simp only [zb9, obs]; obtain ⟨i, hi, hr⟩ := eof hfs; rw [Option.bind_eq_some_iff] at hr; obtain ⟨x, hx, hr⟩ := hr; split at hr
  · rename_i hb; cases hr; have : l.contains true = true := by rw [List.contains_iff_mem, ← hb]; exact lmg hx
    rw [this]; simp
  · cases hr
 | none =>
  simp only [zb9, obs]; rw [List.findSome?_eq_none_iff] at hfs; have : l.contains true = false := by
   rw [Bool.eq_false_iff]; intro hc; rw [List.contains_iff_mem] at hc; obtain ⟨i, hi⟩ := List.getElem?_of_mem hc; have := hfs i (by simp; exact (gei hi).1); rw [hi] at this; simp at this
  rw [this]; rfl
theorem z5a (N : Nat) (s : Storage) (h : s.Tags.length ≤ 64) (hN : 2000 < N) : ∃ l, zap N s = some l ∧ (decide ((l.length : Int) > 0)) = s.Tags.contains true := by
 unfold zap
 obtain ⟨s', h1, l, h2, h3, h4⟩ := z4y (f := zap.r0 N) (fun i t => ∃ l : List Int, t = (l, (i : Int), s) ∧ l.length ≤ i ∧ (decide ((l.length : Int) > 0)) = (s.Tags.take i).contains true) s.Tags.length
  (fun i t hi ht => by
   obtain ⟨l, rfl, h3, h4⟩ := ht; have hx := lge hi; have rm : Nat.ble ((l.length + ([(w6 ((i : Int) * 16))] : List Int).length) * 8) zab = true := Nat.ble_eq_true_of_le (by unfold zab; simp; omega); simp only [zap.r0, zap.b0, zan, hx, obs, dct (show (i : Int) < (s.Tags.length : Int) by omega), ctr, rm]; rw [w6e (n := (i : Int) + 1)]; have tk : s.Tags.take (i + 1) = s.Tags.take i ++ [s.Tags[i]] := by rw [List.take_add_one, hx]; rfl
   cases hb : s.Tags[i] with
   | true => exact ⟨_, rfl, _, rfl, by simp; omega, by rw [tk, hb]; simp⟩
   | false => exact ⟨_, rfl, _, rfl, by omega, by rw [tk, hb, h4]; simp⟩)
  (fun t ht => by
   obtain ⟨l, rfl, h3, h4⟩ := ht; simp only [zap.r0, zap.b0, dcf (show ¬ (s.Tags.length : Int) < (s.Tags.length : Int) by omega), cfa]; exact ⟨_, rfl, l, rfl, h3, h4⟩) (N := N) (by omega) (s := ([], 0, s)) ⟨[], rfl, by simp, by simp⟩
 rw [h1, h2]
 exact ⟨l, rfl, by rw [h4, List.take_length]⟩
theorem zaac {c : zG} (hc : Wft En 1048576 Ty.zG c) : zjs c = some c := by
 obtain ⟨w1, w2, w3, w4, w5⟩ := znz hc
 unfold zjs zdi zh3
 rw [show Nat.ble (c.Storage.Tags.length * 1) zab = true from Nat.ble_eq_true_of_le (by unfold zab; omega), show Nat.ble (c.zC.length * 224) zab = true from Nat.ble_eq_true_of_le (by unfold zab; omega), show Nat.ble (c.zO.length * 32) zab = true from Nat.ble_eq_true_of_le (by unfold zab; omega)]
 rfl
theorem z85 (N : Nat) (hN : 1048600 < N) (m : zJ) {c : zG} (hc : Wft En 1048576 Ty.zG c) : ∃ r, zn N m c = some r ∧ zt N m c = some r := by
 obtain ⟨e, he1, he2, he3⟩ := zzi m
 obtain ⟨i1, e1, e2, hs1, hs2, hs⟩ := z1y N (by omega) c.Storage
 obtain ⟨w1, w2, w3, w4, w5⟩ := znz hc
 have f3 : ∀ a b d : Int, zr N [a, b, d] = some (zcy [a, b, d]) := fun a b d => zl8 N _ (by simp; omega) (by simp)
 unfold zn zt
 simp only [eS, eM, eC]
 rw [he1, he2, hs1, hs2]
 simp only [obs]
 by_cases h0 : e = 0
 · subst h0; have hm := he3 rfl; simp only [bsf, cfa]; rcases hs with ⟨rfl, hs⟩ | ⟨ok, htl, hs3, hs4⟩
   · rw [show (e1 != 0) = true by rw [zb6]; exact dct hs]; exact ⟨_, rfl, rfl⟩
   · obtain ⟨l, hl1, hl2⟩ := z5a N c.Storage htl (by omega); rw [zaco N _ (by omega) (by omega), hl1]; simp only [obs, zlj, f3, orB, hl2]
     by_cases ht : c.Storage.Tags.contains true = true
     · rw [ht]; refine ⟨(0, 22), ?_, ?_⟩
       · rcases hs3 with rfl | ⟨rfl, _⟩
         · simp [zcy]
         · rfl
       · rcases hs4 with rfl | ⟨rfl, _⟩
         · rfl
         · rfl
     · have ht' : c.Storage.Tags.contains true = false := by simpa using ht
       have hn : ¬ true ∈ c.Storage.Tags := fun hh => ht (List.contains_iff_mem.2 hh); obtain rfl : e1 = 0 := hs3.resolve_right fun hh => hn hh.2; obtain rfl : e2 = 0 := hs4.resolve_right fun hh => hn hh.2; rw [ht']; have hl1 := zaaj N hN hm ok hc; have hl2 := z2l N hN hm ok hc
       by_cases hz : (c.zC.length : Int) = 0
       · refine ⟨(0, 1), ?_, ?_⟩
         · simp [zcy, hz]
         · simp [hz]
       · cases hbig : (decide ((c.zC.length : Int) > 240) || decide ((c.zO.length : Int) > 40)) with
         | true =>
          refine ⟨(0, 2), ?_, ?_⟩
          · simp only [bsf, cfa, ctr, obs, zar, dcf hz, zcy, if_true]; rfl
          · simp only [bsf, cfa, ctr, obs, zar, dcf hz]
         | false =>
          refine ⟨ztp m c, ?_, ?_⟩
          · rw [← hl1]; simp only [bsf, cfa, obs, zar, dcf hz, zcy, if_true]
          · rw [← hl2]; simp only [bsf, cfa, obs, zar, dcf hz]
 · rw [show (e != 0) = true by rw [zb6]; exact dct h0]; exact ⟨_, rfl, rfl⟩
theorem z8s (N : Nat) (hN : 1048600 < N) {c : zG} (hc : Wft En 1048576 Ty.zG c) : ∃ b, zfa N c = some b := by
 obtain ⟨w1, w2, w3, w4, w5⟩ := znz hc
 unfold zfa
 have ft : ∀ s, ∃ b, zeu s = some b := fun s => by
  unfold zeu; cases decide ((s.Bytes.size : Int) ≤ 1072) <;> exact ⟨_, rfl⟩
 have e1 : ∀ i : Nat, i ≤ c.zC.length → (cond (decide ((i : Int) < (c.zC.length : Int))) (some (decide ((i : Int) < 244))) (some false)) = some (decide ((i : Int) < (c.zC.length : Int)) && decide ((i : Int) < 244)) := fun i _ => zme _ _
 have l1 := z4x (f := zfa.r0 N) (fun i t => t = ((i : Int), c)) (fun r => True) (min c.zC.length 244)
  (fun i t hi ht => by
   subst ht; have hlt : i < c.zC.length := by omega
   have hx := lge hlt; simp only [zfa.r0, zfa.b0, zme, obs, dct (show (i : Int) < (c.zC.length : Int) by omega), dct (show (i : Int) < 244 by omega), Bool.and_self, ctr, zan, hx, orB]; rw [w6e (n := (i : Int) + 1)]; cases (decide ((c.zC[i].Text.size : Int) > 300) || decide ((c.zC[i].Other.size : Int) > 300)) with
   | true => exact .inr ⟨_, rfl, trivial⟩
   | false => exact .inl ⟨_, rfl, rfl⟩)
  (fun t ht => by
   subst ht; have e : (decide (((min c.zC.length 244 : Nat) : Int) < (c.zC.length : Int)) && decide (((min c.zC.length 244 : Nat) : Int) < 244)) = false := by
    by_cases h : c.zC.length < 244
    · rw [dcf (show ¬ ((min c.zC.length 244 : Nat) : Int) < (c.zC.length : Int) by omega)]; rfl
    · rw [dcf (show ¬ ((min c.zC.length 244 : Nat) : Int) < 244 by omega)]; simp
   simp only [zfa.r0, zfa.b0, zme, obs, e, cfa]; exact ⟨_, rfl, rfl⟩) (N := N) (by omega) (s := (0, c)) rfl
 rcases l1 with ⟨t, g1, _⟩ | ⟨r, g1, _⟩
 · rw [g1]; simp only [obs, zb9]; obtain ⟨b, hb⟩ := ft t.2.Storage; rw [hb]; simp only [obs, zme]; exact ⟨_, rfl⟩
 · rw [g1]; exact ⟨_, rfl⟩
def ldV (s : Storage) (at_ : Int) : Option Int := if s.Tags[(at_ / 16).toNat]? = some true then some (zjk (zjo s (at_ / 16).toNat)).1.Address.Offset else none
theorem zvs {s : Storage} (h : ziu s) {at_ o : Int} (hl : ldV s at_ = some o) : 0 ≤ o ∧ o ≤ 16777215 := by
 unfold ldV at hl
 split at hl
 · rename_i ht; obtain ⟨off, h1, h2⟩ := h.ptr _ ht; rw [h2] at hl; cases hl; exact h1
 · cases hl
theorem zka {s : Storage} {a : Int} (h : ze3 s a = true) : 0 ≤ a ∧ a % 16 = 0 ∧ a < (s.Bytes.size : Int) := by
 unfold ze3 at h
 simpa using h
theorem zabs (N : Nat) (hN : 2000 < N) {s : Storage} (h : ziu s) {a : Int} (ha : ze3 s a = true) :
 zc8 N s a = some (match ldV s a with | some o => (zid o, 0) | none => (zyr, 22)) := by
 obtain ⟨a1, a2, a3⟩ := zka ha
 have hl := h.le
 have hq := h.quad
 have ht := h.tags
 unfold zc8 zg2
 rw [(zk3 N hN s).1, h.err]
 simp only [obs, bsf, cfa]
 rw [dcf (show ¬ a < 0 by omega), dcf (show ¬ a ≥ (s.Bytes.size : Int) by omega), tme a1, a2]
 simp only [bsf, cfa, obs]
 have ed : w6 (a.tdiv 16) = (((a / 16).toNat : Nat) : Int) := by
  rw [tde a1, w6e]; omega
 have hi : (a / 16).toNat < s.Tags.length := by omega
 rw [ed, zan, lge hi]
 simp only [obs]
 unfold ldV
 rw [lge hi]
 cases hb : s.Tags[(a / 16).toNat] with
 | false => rfl
 | true =>
  simp only [bnt, cfa, if_true]; rw [w6e, ifp, ifp]; have e : s.Bytes.extract a.toNat (a + 16).toNat = s.Bytes.extract (16 * (a / 16).toNat) (16 * (a / 16).toNat + 16) := by
   rw [show a.toNat = 16 * (a / 16).toNat by omega, show (a + 16).toNat = 16 * (a / 16).toNat + 16 by omega]
  rw [e, z1w N (by omega) _ (by rw [zcp _ _ _ (by omega) (by omega)]; omega), zkq]; obtain ⟨off, _, h2⟩ := h.ptr (a / 16).toNat (by rw [lge hi, hb]); rw [h2]; rfl
theorem zax {n : Nat} (h : n ≤ 1000000) : Nat.ble n zab = true := by
 rw [Nat.ble_eq]; unfold zab; omega
def spl (l : List UInt8) (a : Nat) (d : List UInt8) : List UInt8 := l.take a ++ d ++ l.drop (a + d.length)
theorem zabu {l : List UInt8} {a : Nat} {d : List UInt8} (h : a + d.length ≤ l.length) : (spl l a d).length = l.length := by
 unfold spl
 simp only [lna, lnt, List.length_drop]
 omega
def clr (t : List Bool) (a n : Nat) : List Bool := (List.range t.length).map fun k => if 16 * k < a + n ∧ a < 16 * k + 16 then false else t.getD k false
theorem zwr (t : List Bool) (a n : Nat) : (clr t a n).length = t.length := by simp [clr]
theorem zws (t : List Bool) (a n k : Nat) : (clr t a n)[k]? = if 16 * k < a + n ∧ a < 16 * k + 16 then (if k < t.length then some false else none) else t[k]? := by
 unfold clr
 rw [List.getElem?_map]
 by_cases h : k < t.length
 · rw [lge (by simpa using h)]; simp only [List.getElem_range, Option.map_some]; split
   · simp [h]
   · rw [lge h, gdd, lge h]; rfl
 · rw [List.getElem?_eq_none (by simpa using h), List.getElem?_eq_none (by simpa using h)]; simp [h]
def wrV (s : Storage) (a : Nat) (d : ByteArray) : Storage := ⟨⟨(spl (bl s.Bytes) a (bl d)).toArray⟩, clr s.Tags a d.size⟩
theorem ztg {s : Storage} {a : Nat} {d : ByteArray} (h : a + d.size ≤ s.Bytes.size) : (wrV s a d).Bytes.size = s.Bytes.size := zabu (l := bl s.Bytes) (d := bl d) h
theorem zaar {l : List UInt8} {a : Nat} {d : List UInt8} (h : a + d.length ≤ l.length) (i n : Nat) (hi : i + n ≤ a ∨ a + d.length ≤ i) : ((spl l a d).drop i).take n = (l.drop i).take n := by
 refine List.ext_getElem? fun k => ?_
 rw [List.getElem?_take, List.getElem?_take]
 by_cases hk : k < n
 · rw [ifp hk, ifp hk, List.getElem?_drop, List.getElem?_drop]; unfold spl; rcases hi with hi | hi
   · rw [List.append_assoc, List.getElem?_append_left (by rw [lnt]; omega), List.getElem?_take, ifp]
   · rw [List.getElem?_append_right (by rw [lna, lnt]; omega), lna, lnt, List.getElem?_drop]
     congr 1
     omega
 · rw [ifn hk, ifn hk]
theorem zadv {l : List UInt8} {a : Nat} {d : List UInt8} (h : a + d.length ≤ l.length) : ((spl l a d).drop a).take d.length = d := by
 unfold spl
 rw [List.append_assoc, List.drop_append_of_le_length (by rw [lnt]; omega), List.drop_of_length_le (by rw [lnt]; omega), List.nil_append, List.take_append_of_le_length (Nat.le_refl _), List.take_length]
theorem z1t {s : Storage} (h : ziu s) {a : Nat} {d : ByteArray} (hd : a + d.size ≤ s.Bytes.size) (hd0 : 0 < d.size) : ziu (wrV s a d) := by
 have hs := ztg hd
 refine ⟨by rw [hs]; exact h.le, by rw [hs]; exact h.quad, by rw [hs]; exact (zwr _ _ _).trans h.tags, fun i hi => ?_⟩
 have hi' : (clr s.Tags a d.size)[i]? = some true := hi
 rw [zws] at hi'
 split at hi'
 · split at hi' <;> cases hi'
 · rename_i hn; obtain ⟨off, h1, h2⟩ := h.ptr i hi'; refine ⟨off, h1, ?_⟩; have : zjo (wrV s a d) i = zjo s i := zaar (l := bl s.Bytes) (d := bl d) hd _ _ (by rw [zao]; omega); rw [this]; exact h2
theorem zru (b : ByteArray) : b.toList = bl b := ByteArray.toList_eq b
theorem z7h {s : Storage} (h : ziu s) {a : Nat} {d : ByteArray} (hd : a + d.size ≤ s.Bytes.size) (hd0 : 0 < d.size) : zjx s (a : Int) d = some (wrV s a d) := by
 have hl := h.le
 have hq := h.quad
 have ht := h.tags
 have hmax : IntKind.i64.max = 9223372036854775807 := by decide
 unfold zjx
 rw [hmax]
 have z1 : (s.Bytes.extract (0 : Int).toNat (a : Int).toNat).size = a := by rw [zcp _ _ _ (by omega) (by omega)]; omega
 rw [ifp, ifp, ifn (by rw [z1]; omega), w6e (n := (a : Int) + (d.size : Int)), ifp]
 have z2 : (s.Bytes.extract ((a : Int) + (d.size : Int)).toNat s.Bytes.size).size = s.Bytes.size - (a + d.size) := by rw [zcp _ _ _ (by omega) (by omega)]; omega
 rw [ifn (by rw [z2, bsa, z1]; omega)]
 have hc : zed 1 s.Tags = some s.Tags := by unfold zed; rw [zax (by omega)]; rfl
 rw [hc]
 simp only [obs]
 have hne : (d.toList == (⟨#[]⟩ : ByteArray).toList) = false := by
  rw [zru, zru]; refine beq_eq_false_iff_ne.2 fun h => ?_; have := congrArg List.length h; rw [zao, zao] at this; have : d.size = 0 := this; omega
 rw [hne]
 simp only [Bool.not_false, ctr]
 have e1 : w6 ((w6 ((w6 ((a : Int) + (d.size : Int) - 1)).tdiv 16)) + 1) = (((a + d.size - 1) / 16 + 1 : Nat) : Int) := by
  rw [w6e (n := (a : Int) + (d.size : Int) - 1), tde, w6e (n := ((a : Int) + (d.size : Int) - 1) / 16), w6e]; omega
 have e2 : w6 ((a : Int).tdiv 16) = ((a / 16 : Nat) : Int) := by
  rw [tde, w6e]; omega
 rw [e1, e2, ifp, ifp]
 simp only [itn]
 have f1 : ((s.Bytes.extract (0 : Int).toNat a) ++ d) ++ (s.Bytes.extract ((a : Int) + (d.size : Int)).toNat s.Bytes.size) = (wrV s a d).Bytes := by
  refine zg9 ?_; rw [zdd, zdd, zey, zey, show (0 : Int).toNat = 0 from rfl, dr0, show ((a : Int) + (d.size : Int)).toNat = a + d.size by omega, ← zao s.Bytes, List.take_length]; rfl
 have f2 : s.Tags.take (a / 16) ++ List.replicate ((a + d.size - 1) / 16 + 1 - a / 16) false ++ s.Tags.drop (a / 16 + ((a + d.size - 1) / 16 + 1 - a / 16)) = (wrV s a d).Tags := by
  refine List.ext_getElem? fun k => ?_; show _ = (clr s.Tags a d.size)[k]?; rw [zws]
  by_cases h1 : k < a / 16
  · rw [List.append_assoc, List.getElem?_append_left (by rw [lnt]; omega), List.getElem?_take, ifp h1, ifn]
  · by_cases h2 : k < (a + d.size - 1) / 16 + 1
    · rw [List.append_assoc, List.getElem?_append_right (by rw [lnt]; omega), List.getElem?_append_left (by rw [lnt, lnr]; omega), List.getElem?_replicate, ifp (by rw [lnt]; omega), ifp, ifp]
    · rw [List.getElem?_append_right (by rw [lna, lnt, lnr]; omega), lna, lnt, lnr, List.getElem?_drop, ifn]
      congr 1
      omega
 rw [f1, f2]
theorem z1v (N : Nat) (hN : 2000 < N) {s : Storage} (h : ziu s) {a : Nat} {d : ByteArray} (hd : a + d.size ≤ s.Bytes.size) (hd0 : 0 < d.size) : zha N s (a : Int) d = some (wrV s a d, 0) := by
 have hl := h.le
 unfold zha zlb
 rw [(zk3 N hN s).1, h.err]
 simp only [obs, bsf, cfa]
 rw [dcf (show ¬ (a : Int) < 0 by omega), dcf (show ¬ (d.size : Int) < 0 by omega), dcf (show ¬ (a : Int) > (s.Bytes.size : Int) by omega), w6e, dcf (show ¬ (d.size : Int) > (s.Bytes.size : Int) - (a : Int) by omega)]
 simp only [cfa, obs, bsf]
 rw [z7h h hd hd0]
 rfl
def pbV (off : Nat) : ByteArray := zdf (zbl 0 1 ++ zbl 0 1 ++ zbl 0 2 ++ zbl 1 6 ++ zbl off 6)
theorem zgt (l : List Int) : bl (zdf l) = l.map fun n => UInt8.ofNat n.toNat := rfl
theorem zk7 (off : Nat) : (pbV off).size = 16 := by
 show (bl (pbV off)).length = 16
 unfold pbV
 rw [zgt]
 simp only [lnm, lna, zyp]
theorem z39 (v k : Nat) : beV ((zbl v k).map fun n => UInt8.ofNat n.toNat) = v % 256 ^ k := by
 induction k generalizing v with
 | zero => rw [Nat.pow_zero, Nat.mod_one]; rfl
 | succ k ih =>
  have e : zbl v (k + 1) = zbl (v / 256) k ++ [((v % 256 : Nat) : Int)] := by
   unfold zbl; rw [List.range_succ, List.map_append]
   congr 1
   · refine List.map_congr_left fun j hj => ?_; have := List.mem_range.1 hj; rw [Nat.div_div_eq_div_mul, ← Nat.pow_succ', show k + 1 - 1 - j = k - 1 - j + 1 by omega]
   · simp
  rw [e, List.map_append, List.map_singleton, zrr, ih, itn, UInt8.toNat_ofNat', show 256 ^ (k + 1) = 256 * 256 ^ k from Nat.pow_succ', Nat.mod_mul]; omega
theorem zacd (off : Nat) (h : off ≤ 16777215) : zjk (bl (pbV off)) = (zid off, 0) := by
 have e : bl (pbV off) = (zbl 0 1).map (fun n => UInt8.ofNat n.toNat) ++ ((zbl 0 1).map (fun n => UInt8.ofNat n.toNat) ++ ((zbl 0 2).map (fun n => UInt8.ofNat n.toNat) ++ ((zbl 1 6).map (fun n => UInt8.ofNat n.toNat) ++ (zbl off 6).map (fun n => UInt8.ofNat n.toNat)))) := by
  unfold pbV; rw [zgt]; simp only [List.map_append, List.append_assoc]
 have l6 : ∀ v, ((zbl v 6).map (fun n => UInt8.ofNat n.toNat)).length = 6 := fun v => by simp [zyp]
 have e2 : bl (pbV off) = 0 :: 0 :: 0 :: 0 :: ((zbl 1 6).map (fun n => UInt8.ofNat n.toNat) ++ (zbl off 6).map (fun n => UInt8.ofNat n.toNat)) := e
 have hp : zrd (bl (pbV off)) = zid off := by
  unfold zrd zid; rw [e2]; simp only [List.drop_succ_cons, dr0, List.take_succ_cons, List.take_zero, List.getD_cons_zero]; rw [List.take_append_of_le_length (by rw [l6]; omega), List.take_of_length_le (by rw [l6]; omega), z39, List.drop_append_of_le_length (by rw [l6]; omega), List.drop_of_length_le (by rw [l6]; omega), List.nil_append, List.take_of_length_le (by rw [l6]; omega), z39, mel (show off < 256 ^ 6 by omega)]; rfl
 have h1 : ((bl (pbV off)).getD 1 0).toNat = 0 := by rw [e2]; rfl
 have hc : znm (zid off) = 0 := by
  unfold znm zid; rw [show inB (off : Int) 0 16777215 = true from za6.2 ⟨by omega, by omega⟩]; rfl
 unfold zjk
 rw [ifn (by rw [h1]; exact fun h => h rfl), hp, hc]
 rfl
def stV (s : Storage) (a : Nat) (off : Nat) : Storage := ⟨(wrV s a (pbV off)).Bytes, (wrV s a (pbV off)).Tags.set (a / 16) true⟩
theorem zxp {s : Storage} {a off : Nat} (h : a + 16 ≤ s.Bytes.size) : (stV s a off).Bytes.size = s.Bytes.size := ztg (d := pbV off) (by rw [zk7]; exact h)
theorem z11 {s : Storage} (h : ziu s) {a off : Nat} (ha : a + 16 ≤ s.Bytes.size) (hq : a % 16 = 0) (ho : off ≤ 16777215) : ziu (stV s a off) := by
 have hw := z1t h (a := a) (d := pbV off) (by rw [zk7]; exact ha) (by rw [zk7]; omega)
 refine ⟨hw.le, hw.quad, ?_, fun i hi => ?_⟩
 · show ((wrV s a (pbV off)).Tags.set (a / 16) true).length = _; rw [List.length_set]; exact hw.tags
 · have hi' : ((wrV s a (pbV off)).Tags.set (a / 16) true)[i]? = some true := hi; rw [List.getElem?_set] at hi'; split at hi'
   · rename_i he; refine ⟨off, ⟨by omega, by omega⟩, ?_⟩; have : zjo (stV s a off) i = bl (pbV off) := by
      have := zadv (l := bl s.Bytes) (a := a) (d := bl (pbV off)) (by rw [zao, zao, zk7]; exact ha); rw [zao, zk7] at this; unfold zjo; rw [← he, show 16 * (a / 16) = a by omega]; exact this
     rw [this]; exact zacd off ho
   · obtain ⟨o, h1, h2⟩ := hw.ptr i hi'; exact ⟨o, h1, h2⟩
theorem z5w (N : Nat) (hN : 100 < N) (off : Nat) (h : off ≤ 16777215) : zi6 N (zid off) = some (pbV off) := by
 unfold zi6 zid
 have b := fun v k hk => zadr N (by omega) v k hk
 rw [show zb3 N 0 1 = _ from b 0 1 (by decide), show zb3 N 0 2 = _ from b 0 2 (by decide), show zb3 N 1 6 = _ from b 1 6 (by decide), show zb3 N (off : Int) 6 = _ from b off 6 (by decide)]
 simp only [obs]
 unfold za8
 obtain ⟨n, rfl⟩ : ∃ n, N = n + 10 := ⟨N - 10, by omega⟩
 have c1 : zm (za8.r0 (n + 10)) (n + 10) ([zbl 0 1, zbl 0 1, zbl 0 2, zbl 1 6, zbl off 6], 0, [zbl 0 1, zbl 0 1, zbl 0 2, zbl 1 6, zbl off 6], (([zbl 0 1, zbl 0 1, zbl 0 2, zbl 1 6, zbl off 6] : List (List Int)).length : Int), 0) = some ([zbl 0 1, zbl 0 1, zbl 0 2, zbl 1 6, zbl off 6], 16, [zbl 0 1, zbl 0 1, zbl 0 2, zbl 1 6, zbl off 6], 5, 5) := by rfl
 rw [c1]
 simp only [obs]
 have c2 : zjh () 16 = some [] := by rfl
 rw [c2]
 simp only [obs]
 have c3 : zm (za8.r2 (n + 10)) (n + 10) ([], [zbl 0 1, zbl 0 1, zbl 0 2, zbl 1 6, zbl off 6], (([zbl 0 1, zbl 0 1, zbl 0 2, zbl 1 6, zbl off 6] : List (List Int)).length : Int), 0) = some ((((([] ++ zbl 0 1) ++ zbl 0 1) ++ zbl 0 2) ++ zbl 1 6) ++ zbl off 6, [zbl 0 1, zbl 0 1, zbl 0 2, zbl 1 6, zbl off 6], 5, 5) := by rfl
 rw [c3]
 rfl
theorem zac1 (off : Nat) (h : off ≤ 16777215) : znm (zid off) = 0 := by
 unfold znm zid
 rw [show inB (off : Int) 0 16777215 = true from za6.2 ⟨by omega, by omega⟩]
 rfl
theorem zxm (N : Nat) (hN : 2000 < N) {s : Storage} (h : ziu s) {a : Int} (ha : ze3 s a = true) (off : Nat) (ho : off ≤ 16777215) : zce N s a (zid off) = some (stV s a.toNat off, 0) := by
 obtain ⟨a1, a2, a3⟩ := zka ha
 have hl := h.le
 have hq := h.quad
 have ht := h.tags
 have hA : a = ((a.toNat : Nat) : Int) := by omega
 have hw : a.toNat + (pbV off).size ≤ s.Bytes.size := by rw [zk7]; omega
 unfold zce zg2
 rw [(zk3 N hN s).1, h.err]
 simp only [obs, bsf, cfa]
 rw [dcf (show ¬ a < 0 by omega), dcf (show ¬ a ≥ (s.Bytes.size : Int) by omega), tme a1, a2]
 simp only [bsf, cfa, obs]
 rw [z0s, zac1 off ho]
 simp only [obs, bsf, cfa]
 rw [z5w N (by omega) off ho]
 simp only [obs, eS]
 have hp := z7h h hw (by rw [zk7]; omega)
 rw [← hA] at hp
 rw [hp]
 simp only [obs]
 have ed : w6 (a.tdiv 16) = ((a.toNat / 16 : Nat) : Int) := by
  rw [tde a1, w6e]; omega
 have hlen : (wrV s a.toNat (pbV off)).Tags.length = s.Tags.length := zwr _ _ _
 rw [ed, ifp, ifp (by rw [hlen]; omega), itn, lge (by rw [hlen]; omega)]
 rfl
def zfd (l : List Int) : Int := l.foldl (fun n d => n * 10 + d) 0
theorem zog (l : List Int) (x : Int) : zfd (l ++ [x]) = zfd l * 10 + x := by
 unfold zfd; rw [List.foldl_append]; rfl
theorem zm3 : ∀ (l r : List Int), l = r.reverse → (∀ d ∈ l, 0 ≤ d ∧ d ≤ 15) → 0 ≤ zfd l ∧ zfd l ≤ 2 * (10 ^ l.length : Nat) - 2 := by
 intro l r
 induction r generalizing l with
 | nil => intro h _; subst h; decide
 | cons x r ih =>
  intro h hd; rw [List.reverse_cons] at h; subst h; have h1 := ih _ rfl fun d hd' => hd d (List.mem_append_left _ hd'); have h2 := hd x (List.mem_append_right _ List.mem_cons_self); rw [zog, lna, lns, Nat.pow_succ]; omega
def zih (l : List UInt8) : List Int := l.flatMap fun b => [((b.toNat / 16 : Nat) : Int), ((b.toNat % 16 : Nat) : Int)]
def zfq (l : List UInt8) : List Int := l.map fun b => ((b.toNat % 16 : Nat) : Int)
def zee (l : List UInt8) : List Int := zfq l ++ [(((l.getD (l.length - 1) 0).toNat / 16 : Nat) : Int)]
def ziz (l : List Int) (len : Int) (i : Nat) : Bool := decide (l.getD i 0 > 9) || (decide (l.getD i 0 > 0) && decide ((i : Int) < (l.length : Int) - 1 - len))
def zkn (l : List Int) : Int := l.getD (l.length - 1) 0
def zv2 (l : List Int) (len : Int) : Option Int :=
 if (List.range (l.length - 1)).any (ziz l len) = true ∨ zkn l < 10 then none
 else some (if zkn l = 11 ∨ zkn l = 13 then -zfd (l.take (l.length - 1)) else zfd (l.take (l.length - 1)))
def zls (l : List UInt8) : Int := if 128 ≤ (l.getD 0 0).toNat then (beV l : Int) - (256 ^ l.length : Nat) else (beV l : Int)
def zmb (t : DataType) (b : ByteArray) : Option Int :=
 if t.Kind = 3 then (if -((10 ^ t.Length.toNat : Nat) : Int) < zls (bl b) ∧ zls (bl b) < ((10 ^ t.Length.toNat : Nat) : Int) then some (zls (bl b)) else none)
 else zv2 (if t.Kind = 1 then zih (bl b) else zee (bl b)) t.Length
theorem zo4 (l : List UInt8) : (zih l).length = 2 * l.length := by
 unfold zih
 induction l with
 | nil => rfl
 | cons x l ih => simp only [List.flatMap_cons, lna, lnc, ln0, ih]; omega
theorem zp6 {l : List UInt8} : (∀ d ∈ zih l, 0 ≤ d ∧ d ≤ 15) ∧ (∀ d ∈ zee l, 0 ≤ d ∧ d ≤ 15) := by
 constructor
 · intro d hd; obtain ⟨b, _, hb⟩ := List.mem_flatMap.1 hd; have := b.toNat_lt; rcases List.mem_cons.1 hb with rfl | hb
   · omega
   · rcases List.mem_cons.1 hb with rfl | hb
     · omega
     · cases hb
 · intro d hd; rcases List.mem_append.1 hd with hd | hd
   · obtain ⟨b, _, rfl⟩ := List.mem_map.1 hd; omega
   · rcases List.mem_cons.1 hd with rfl | hd
     · have := (l.getD (l.length - 1) 0).toNat_lt; omega
     · cases hd
theorem zabl (x : UInt8) : zh .u8 (x.toNat : Int) 15 = ((x.toNat % 16 : Nat) : Int) := by
 have hx := x.toNat_lt
 unfold zh
 have e : (BitVec.ofInt IntKind.u8.bits (x.toNat : Int) &&& BitVec.ofInt IntKind.u8.bits 15).toNat = x.toNat % 16 := by
  show (BitVec.ofInt 8 (x.toNat : Int) &&& BitVec.ofInt 8 ((15 : Nat) : Int)).toNat = _; rw [BitVec.toNat_and, BitVec.ofInt_natCast, BitVec.ofInt_natCast, BitVec.toNat_ofNat, BitVec.toNat_ofNat, mel (by omega), mel (by omega)]; exact Nat.and_two_pow_sub_one_eq_mod _ 4
 rw [e]
 exact zla (by omega) (by omega)
theorem z8u (x : UInt8) : ((x.toNat : Int).fdiv (2 ^ (min (4 : Int).toNat 8))) = ((x.toNat / 16 : Nat) : Int) := zua x.toNat 16
def zvk (n : Nat) : List Int := (List.range n).flatMap fun (i : Nat) => [(i : Int), (i : Int)]
def ztw (n : Nat) : List Int := (List.range n).map fun (i : Nat) => (i : Int)
theorem z2v (n : Nat) : (zvk n).length = 2 * n := by
 unfold zvk
 induction n with
 | zero => rfl
 | succ n ih => rw [List.range_succ, List.flatMap_append, lna, ih]; simp; omega
theorem z8c (N : Nat) (hN : 2000 < N) (t : DataType) (hk : t.Kind = 1 ∨ t.Kind = 2) (b : ByteArray) (hb : 0 < b.size) (hb2 : b.size ≤ 1000) :
 ∃ pl, zbc N t b = some (if t.Kind = 1 then zih (bl b) else zee (bl b), pl) ∧ pl.length = (if t.Kind = 1 then zih (bl b) else zee (bl b)).length := by
 unfold zbc
 rcases hk with hk | hk
 · have := zbm (f := zbc.r0 N) (fun i => (b, zih ((bl b).take i), zvk i, (b.size : Int), (i : Int), t)) b.size
    (fun i hi => by
     obtain ⟨x, hx⟩ : ∃ x, (bl b)[i]? = some x := zew (by rw [zao]; exact hi); simp only [zbc.r0, zbc.b0, dct (show (i : Int) < (b.size : Int) by omega), ctr, zht, hx, obs, hk, bst, z8u, zabl]; have hl := zo4 ((bl b).take i); rw [lnt, zao] at hl; rw [zax (by rw [hl]; simp only [lnc, ln0]; omega), zax (by rw [z2v]; simp only [lnc, ln0]; omega)]; simp only [ctr]; rw [w6e, zef _ _ hx]; have e1 : zih ((bl b).take i ++ [x]) = zih ((bl b).take i) ++ [((x.toNat / 16 : Nat) : Int), ((x.toNat % 16 : Nat) : Int)] := by
      unfold zih; rw [List.flatMap_append]; rfl
     have e2 : zvk (i + 1) = zvk i ++ [(i : Int), (i : Int)] := by
      unfold zvk; rw [List.range_succ, List.flatMap_append]; rfl
     rw [e1, e2]; rfl)
    (by simp only [zbc.r0, zbc.b0, dcf (show ¬ (b.size : Int) < (b.size : Int) by omega), cfa]) (N := N) (by omega)
   simp only [List.take_zero, nc0] at this; rw [show zih [] = [] from rfl, show zvk 0 = [] from rfl] at this; rw [this]; simp only [obs, hk, if_true]; refine ⟨zvk b.size, ?_, by rw [z2v, zo4, zao]⟩; rw [show ((1 : Int) == 2) = false from rfl, cfa, ← zao, List.take_length]
 · have := zbm (f := zbc.r0 N) (fun i => (b, zfq ((bl b).take i), ztw i, (b.size : Int), (i : Int), t)) b.size
    (fun i hi => by
     obtain ⟨x, hx⟩ : ∃ x, (bl b)[i]? = some x := zew (by rw [zao]; exact hi); simp only [zbc.r0, zbc.b0, dct (show (i : Int) < (b.size : Int) by omega), ctr, zht, hx, obs, hk, show ((2 : Int) == 1) = false from rfl, cfa, zabl]; have hl : (zfq ((bl b).take i)).length = i := by unfold zfq; rw [lnm, lnt, zao]; omega
     have hl2 : (ztw i).length = i := by simp [ztw]
     rw [zax (by rw [hl]; simp only [lnc, ln0]; omega), zax (by rw [hl2]; simp only [lnc, ln0]; omega)]; simp only [ctr]; rw [w6e, zef _ _ hx]; have e1 : zfq ((bl b).take i ++ [x]) = zfq ((bl b).take i) ++ [((x.toNat % 16 : Nat) : Int)] := by
      unfold zfq; rw [List.map_append]; rfl
     have e2 : ztw (i + 1) = ztw i ++ [(i : Int)] := by
      unfold ztw; rw [List.range_succ, List.map_append]; rfl
     rw [e1, e2]; rfl)
    (by simp only [zbc.r0, zbc.b0, dcf (show ¬ (b.size : Int) < (b.size : Int) by omega), cfa]) (N := N) (by omega)
   simp only [List.take_zero, nc0] at this; rw [show zfq [] = [] from rfl, show ztw 0 = [] from rfl] at this; rw [this]; have hx : (bl b)[b.size - 1]? = some ((bl b).getD (b.size - 1) 0) := zq4 (by rw [zao]; omega); have hl : (zfq (bl b)).length = b.size := by unfold zfq; rw [lnm, zao]
   have hl2 : (ztw b.size).length = b.size := by simp [ztw]
   simp only [obs, hk, bst, ctr]; rw [← zao, List.take_length, zao, w6e, show (b.size : Int) - 1 = ((b.size - 1 : Nat) : Int) by omega, zht, hx]; simp only [obs, z8u]; rw [zax (by rw [hl]; simp only [lnc, ln0]; omega), zax (by rw [hl2]; simp only [lnc, ln0]; omega)]; simp only [ctr]; rw [ifn]; refine ⟨_, rfl, ?_⟩; unfold zee; rw [lna, lna, hl, hl2]; rfl
theorem z6i (N : Nat) (hN : 2000 < N) (t : DataType) (hk : t.Kind = 1 ∨ t.Kind = 2) (b : ByteArray) (hb : 0 < b.size) (hb2 : (if t.Kind = 1 then zih (bl b) else zee (bl b)).length ≤ 17) (hb3 : b.size ≤ 16) (hlen : 0 ≤ t.Length ∧ t.Length ≤ 15) :
 ∃ n a e, zbv N t b = some (n, a, e) ∧ (match zmb t b with | some v => n = v ∧ e = 0 | none => e ≠ 0) := by
 obtain ⟨pl, h1, h2⟩ := z8c N hN t hk b hb (by omega)
 have hr : ∀ d ∈ (if t.Kind = 1 then zih (bl b) else zee (bl b)), 0 ≤ d ∧ d ≤ 15 := by
  split
  · exact zp6.1
  · exact zp6.2
 have hpos : 0 < (if t.Kind = 1 then zih (bl b) else zee (bl b)).length := by
  split
  · rw [zo4, zao]; omega
  · unfold zee; rw [lna, lns]; omega
 have hd : zmb t b = zv2 (if t.Kind = 1 then zih (bl b) else zee (bl b)) t.Length := by
  unfold zmb; rw [ifn]
 rw [hd]
 unfold zbv
 rw [h1]
 simp only [obs]
 generalize (if t.Kind = 1 then zih (bl b) else zee (bl b)) = l at *
 have hi2 : w6 ((l.length : Int) - 1) = ((l.length - 1 : Nat) : Int) := by rw [w6e]; omega
 rw [hi2, ifp, ifp]
 rw [show (0 : Int).toNat = 0 from rfl, dr0, itn]
 have hlt : (l.take (l.length - 1)).length = l.length - 1 := by rw [lnt]; omega
 have lp := zb1 (f := zbv.r0 N) (fun i => (l, pl, ((l.length - 1 : Nat) : Int), zfd (l.take i), l.take (l.length - 1), ((l.length - 1 : Nat) : Int), (i : Int), t))
  (fun i => if ziz l t.Length i = true then some ((0 : Int), pl.getD i 0, (21 : Int)) else none) (l.length - 1)
  (fun i hi => by
   have hx : l[i]? = some (l.getD i 0) := by rw [gdd, lge (by omega)]; rfl
   have hx2 : (l.take (l.length - 1))[i]? = some (l.getD i 0) := by rw [List.getElem?_take, ifp hi, hx]
   have hp : pl[i]? = some (pl.getD i 0) := by rw [gdd, lge (by omega)]; rfl
   have hxr := hr (l.getD i 0) (lmg hx); have hf := zm3 (l.take i) _ (List.reverse_reverse _).symm fun d hd => hr d (List.mem_of_mem_take hd); have hpow : 10 ^ (l.take i).length ≤ 10 ^ 16 := zca (by rw [lnt]; omega); simp only [zbv.r0, zbv.b0, dct (show (i : Int) < ((l.length - 1 : Nat) : Int) by omega), ctr, zan, hx2, hp, obs]; rw [w6e (n := ((l.length - 1 : Nat) : Int) - t.Length), w6e (n := (i : Int) + 1), w6e (n := l.getD i 0), w6e (n := zfd (l.take i) * 10), w6e]; have e : (cond (decide (l.getD i 0 > 9)) (some true) ((cond (decide (l.getD i 0 > 0)) (some (decide ((i : Int) < ((l.length - 1 : Nat) : Int) - t.Length))) (some false)).bind fun g1002 => some g1002)) = some (ziz l t.Length i) := by
    unfold ziz; rw [show ((l.length - 1 : Nat) : Int) = (l.length : Int) - 1 by omega]; cases decide (l.getD i 0 > 9) <;> cases decide (l.getD i 0 > 0) <;> rfl
   rw [e]; simp only [obs]; rw [zef l i hx, zog]; cases ziz l t.Length i with
   | true => rfl
   | false => simp)
  (by simp only [zbv.r0, zbv.b0, dcf (show ¬ ((l.length - 1 : Nat) : Int) < ((l.length - 1 : Nat) : Int) by omega), cfa]) (N := N) (by omega)
 simp only [List.take_zero, nc0] at lp
 rw [show zfd [] = 0 from rfl] at lp
 rw [hlt, lp]
 simp only [obs]
 have hany : (List.range (l.length - 1)).any (ziz l t.Length) = ((List.range (l.length - 1)).findSome? (fun i => if ziz l t.Length i = true then some ((0 : Int), pl.getD i 0, (21 : Int)) else none)).isSome := by
  rw [Bool.eq_iff_iff, List.any_eq_true, List.findSome?_isSome_iff]; constructor
  · rintro ⟨x, hx, hb⟩
    exact ⟨x, hx, by rw [ifp hb]; rfl⟩
  · rintro ⟨x, hx, hb⟩
    refine ⟨x, hx, ?_⟩; split at hb
    · assumption
    · cases hb
 unfold zv2
 rw [hany]
 cases hf : (List.range (l.length - 1)).findSome? (fun i => if ziz l t.Length i = true then some ((0 : Int), pl.getD i 0, (21 : Int)) else none) with
 | some r =>
  obtain ⟨i, _, hi⟩ := eof hf; split at hi
  · cases hi; exact ⟨_, _, _, rfl, by simp⟩
  · cases hi
 | none =>
  have hx : l[l.length - 1]? = some (zkn l) := by unfold zkn; rw [gdd, lge (by omega)]; rfl
  have hp : pl[l.length - 1]? = some (pl.getD (l.length - 1) 0) := by rw [gdd, lge (by omega)]; rfl
  have hb := zm3 (l.take (l.length - 1)) _ (List.reverse_reverse _).symm fun d hd => hr d (List.mem_of_mem_take hd); have hpow : 10 ^ (l.take (l.length - 1)).length ≤ 10 ^ 16 := zca (by omega); simp only [zb9, zan, hx, hp, obs, Option.isSome_none, Bool.false_eq_true, false_or]
  by_cases hs : zkn l < 10
  · rw [dct hs, ifp hs]; exact ⟨_, _, _, rfl, by decide⟩
  · rw [dcf hs, ifn hs, cfa, w6e, zar, zar]
    by_cases h11 : zkn l = 11
    · rw [dct h11, ifp (.inl h11)]; exact ⟨_, _, _, rfl, by omega, rfl⟩
    · rw [dcf h11]
      by_cases h13 : zkn l = 13
      · rw [dct h13, ifp (.inr h13)]; exact ⟨_, _, _, rfl, by omega, rfl⟩
      · rw [dcf h13, ifn]; exact ⟨_, _, _, rfl, rfl, rfl⟩
theorem zaae (N : Nat) (hN : 100 < N) (k : Nat) (hk : k ≤ 18) : zcl N (k : Int) = some ((10 ^ k : Nat) : Int) := by
 unfold zcl
 have := zbm (f := zcl.r0 N) (fun i => (((10 ^ i : Nat) : Int), (k : Int), (i : Int))) k
  (fun i hi => by
   have : 10 ^ (i + 1) ≤ 10 ^ 18 := zca (by omega); rw [Nat.pow_succ] at this; simp only [zcl.r0, zcl.b0, dct (show (i : Int) < (k : Int) by omega), ctr]; rw [w6e (n := ((10 ^ i : Nat) : Int) * 10), w6e, Nat.pow_succ]; simp only [Int.natCast_add, Int.natCast_mul, Int.natCast_one]; rfl)
  (by simp only [zcl.r0, zcl.b0, dcf (show ¬ (k : Int) < (k : Int) by omega), cfa]) (N := N) (by omega)
 simp only [Nat.pow_zero, nc0] at this
 rw [ifn, show (1 : Int) = ((1 : Nat) : Int) from rfl, this]
 rfl
theorem zum (N : Nat) (hN : 100 < N) {t : DataType} (ht : ziy t) (n : Int) : zd6 N t ⟨n, ⟨#[]⟩⟩ = some (if -((10 ^ t.Length.toNat : Nat) : Int) < n ∧ n < ((10 ^ t.Length.toNat : Nat) : Int) then 0 else 19) := by
 have f2 : ∀ a b : Int, zq N [a, b] = some (zcy [a, b]) := fun a b => zo2 N _ (by simp; omega) (by simp)
 obtain ⟨⟨l1, l2⟩, l3, l4⟩ := zgo ht
 have hp := zaae N hN t.Length.toNat (by omega)
 rw [Int.toNat_of_nonneg (by omega)] at hp
 have hp2 : 10 ^ t.Length.toNat ≤ 10 ^ 15 := zca (by omega)
 have hp3 := zcg t.Length.toNat
 obtain ⟨h0, h1, h2⟩ := ht
 unfold zd6
 rw [zq1 N (by omega), h0, zar, zar, dcf (show ¬ t.Kind = 4 by omega), dcf (show ¬ t.Kind = 0 by omega)]
 simp only [zo3, cfa, obs, f2, show zcy [0, 0] = 0 from rfl, bsf]
 rw [hp]
 simp only [obs, bst, bnt, cfa, z1n, zo3]
 generalize 10 ^ t.Length.toNat = P at *
 rw [w6e (n := (P : Int) - 1), w6e]
 by_cases h : -(P : Int) < n ∧ n < (P : Int)
 · rw [ifp h, show inB n (0 - ((P : Int) - 1)) ((P : Int) - 1) = true from za6.2 ⟨by omega, by omega⟩]; rfl
 · rw [ifn h, show inB n (0 - ((P : Int) - 1)) ((P : Int) - 1) = false by
    cases hb : inB n (0 - ((P : Int) - 1)) ((P : Int) - 1) with
    | false => rfl
    | true => have := za6.1 hb; omega]
   rfl
theorem z89 {l : List UInt8} (h : l ≠ []) (x : UInt8) : zls (l ++ [x]) = zls l * 256 + x.toNat := by
 cases l with
 | nil => exact absurd rfl h
 | cons y l =>
  unfold zls; rw [List.cons_append, List.getD_cons_zero, List.getD_cons_zero, ← List.cons_append, zrr, lna, lns, Nat.pow_succ]; split
  · simp only [Int.natCast_add, Int.natCast_mul]; omega
  · simp only [Int.natCast_add, Int.natCast_mul]; omega
theorem z63 {l : List UInt8} (h : l.length ≤ 4) : -4294967296 ≤ zls l ∧ zls l < 4294967296 := by
 have h1 := zzz l
 have h2 : 256 ^ l.length ≤ 256 ^ 4 := Nat.pow_le_pow_right (by decide) h
 unfold zls
 split <;> omega
theorem z8h (N : Nat) (hN : 100 < N) (b : ByteArray) (h0 : 0 < b.size) (h4 : b.size ≤ 4) : zb2 N b = some (zls (bl b)) := by
 obtain ⟨x0, hx0⟩ : ∃ x, (bl b)[0]? = some x := zew (by rw [zao]; exact h0)
 have i0 : zg6 b 0 = some x0 := by rw [show (0 : Int) = ((0 : Nat) : Int) from rfl, zht, hx0]
 have hL : zjt (b.extract (1 : Int).toNat b.size) = ((bl b).drop 1).map fun x => (x.toNat : Int) := by
  unfold zjt; have := zey b 1 b.size; unfold bl at this ⊢; rw [show (1 : Int).toNat = 1 from rfl, this]
  congr 2
  exact List.take_of_length_le (Nat.le_of_eq rfl)
 have hlen : (((bl b).drop 1).map fun x => (x.toNat : Int)).length = b.size - 1 := by rw [lnm, List.length_drop, zao]
 have hx00 := x0.toNat_lt
 unfold zb2
 rw [i0]
 simp only [obs]
 rw [ifp, hL, hlen]
 have hw : w6 (IntKind.wrap .i8 (x0.toNat : Int)) = zls ((bl b).take 1) := by
  have e : (bl b).take 1 = [x0] := by rw [zef _ _ hx0]; rfl
  have e8 : (2 : Int) ^ (IntKind.i8.bits) = 256 := by decide
  have e8' : (2 : Int) ^ (IntKind.i8.bits - 1) = 128 := by decide
  have : IntKind.wrap .i8 (x0.toNat : Int) = if 128 ≤ x0.toNat then (x0.toNat : Int) - 256 else x0.toNat := by
   unfold IntKind.wrap; simp only [e8, e8', show IntKind.i8.signed = true from rfl, Bool.true_and, decide_eq_true_eq, ge_iff_le]
   repeat' split
   all_goals omega
  rw [this, e, w6e (by split <;> omega) (by split <;> omega)]; unfold zls; rw [List.getD_cons_zero, show beV [x0] = x0.toNat by unfold beV; simp]; rfl
 rw [hw]
 have := zbm (f := zb2.r0 N) (fun i => (zls ((bl b).take (i + 1)), ((bl b).drop 1).map (fun x => (x.toNat : Int)), ((b.size - 1 : Nat) : Int), (i : Int))) (b.size - 1)
  (fun i hi => by
   obtain ⟨x, hx⟩ : ∃ x, (bl b)[i + 1]? = some x := zew (by rw [zao]; omega); have hm : (((bl b).drop 1).map (fun x => (x.toNat : Int)))[i]? = some (x.toNat : Int) := by
    rw [List.getElem?_map, List.getElem?_drop, Nat.add_comm 1 i, hx]; rfl
   have hb := z63 (l := (bl b).take (i + 1)) (by rw [lnt]; omega); have hxl := x.toNat_lt; simp only [zb2.r0, zb2.b0, dct (show (i : Int) < ((b.size - 1 : Nat) : Int) by omega), ctr, hlen]; rw [ifp, ifp, itn, hm]; simp only [obs]; rw [show (2 : Int) ^ (min (8 : Int).toNat 64) = 256 from rfl, w6e (n := zls ((bl b).take (i + 1)) * 256), w6e (n := (x.toNat : Int)), w6e (n := (i : Int) + 1), or8 _ _ (by omega) (by omega) hxl, zef _ _ hx, z89]
   · rfl
   · intro h; have := congrArg List.length h; rw [lnt, zao] at this; simp only [ln0] at this; omega)
  (by simp only [zb2.r0, zb2.b0, dcf (show ¬ ((b.size - 1 : Nat) : Int) < ((b.size - 1 : Nat) : Int) by omega), cfa]) (N := N) (by omega)
 simp only [Nat.zero_add, nc0] at this
 rw [this, show b.size - 1 + 1 = (bl b).length by rw [zao]; omega, List.take_length]
 rfl
theorem zqy {t : DataType} (ht : ziy t) : szE t = (if t.Kind = 1 then t.Length / 2 + 1 else if t.Kind = 3 then (if t.Length = 9 then 4 else 2) else t.Length) := by
 obtain ⟨_, h1, h2⟩ := ht
 unfold szE
 split
 · rfl
 · split
   · rfl
   · rw [ifn]
theorem z8g (N : Nat) (hN : 2000 < N) {t : DataType} (ht : ziy t) {b : ByteArray} (hb : (b.size : Int) = szE t) :
 ∃ v a e, zjb N t b = some (v, a, e) ∧ (match zmb t b with | some n => v.N = n ∧ e = 0 | none => e ≠ 0) := by
 have f2 : ∀ a b : Int, zq N [a, b] = some (zcy [a, b]) := fun a b => zo2 N _ (by simp; omega) (by simp)
 obtain ⟨⟨l1, l2⟩, l3, l4⟩ := zgo ht
 have hsz := zqy ht
 have ht' := ht
 obtain ⟨h0, h1, h2⟩ := ht'
 unfold zjb
 rw [zq1 N (by omega), h0, zar, zar, zar, dcf (show ¬ t.Kind = 4 by omega), dcf (show ¬ t.Kind = 0 by omega)]
 simp only [zo3, cfa, obs, f2, show zcy [0, 0] = 0 from rfl, bst, ctr]
 rw [z0c h0]
 simp only [obs]
 rw [hb]
 simp only [bsf, cfa, eD]
 by_cases hk : t.Kind = 3
 · rw [dct hk, ctr]; have hs4 : b.size ≤ 4 ∧ 0 < b.size := by
    rw [hsz, ifn, ifp hk] at hb; split at hb <;> omega
   rw [z8h N (by omega) b hs4.2 hs4.1]; simp only [obs]; rw [zum N (by omega) ht]; simp only [obs]; unfold zmb; rw [ifp hk]
   by_cases hr : -((10 ^ t.Length.toNat : Nat) : Int) < zls (bl b) ∧ zls (bl b) < ((10 ^ t.Length.toNat : Nat) : Int)
   · rw [ifp hr, ifp hr]; exact ⟨_, _, _, rfl, rfl, rfl⟩
   · rw [ifn hr, ifn hr]; exact ⟨_, _, _, rfl, by decide⟩
 · rw [dcf hk, cfa]; have hs : 0 < b.size ∧ b.size ≤ 15 ∧ (t.Kind = 1 → b.size ≤ 8) := by
    rw [hsz] at hb
    by_cases h1 : t.Kind = 1
    · rw [ifp h1] at hb; omega
    · rw [ifn h1, ifn hk] at hb; omega
   have hn : (if t.Kind = 1 then zih (bl b) else zee (bl b)).length ≤ 17 := by
    split
    · rename_i hk1; have := hs.2.2 hk1; rw [zo4, zao]; omega
    · unfold zee zfq; rw [lna, lnm, lns, zao]; omega
   obtain ⟨n, a, e, g1, g2⟩ := z6i N hN t (by omega) b hs.1 hn (by omega) ⟨by omega, l2⟩; rw [g1]; exact ⟨_, _, _, rfl, g2⟩
def zrn (n len : Nat) : List Int := (List.range len).map fun j => ((n / 10 ^ (len - 1 - j) % 10 : Nat) : Int)
theorem zue (n len : Nat) : (zrn n len).length = len := by simp [zrn]
theorem zud {n len : Nat} : ∀ d ∈ zrn n len, 0 ≤ d ∧ d ≤ 9 := by
 intro d hd
 obtain ⟨j, _, rfl⟩ := List.mem_map.1 hd
 omega
def z1s (l : List Int) (neg : Bool) : List Int := (l.take (l.length - 1)).map (· + 240) ++ [l.getD (l.length - 1) 0 + cond neg 208 240]
def zj2 : List Int → List Int
 | a :: b :: l => (16 * a + b) :: zj2 l
 | _ => []
def z6x (n : Int) (k : Nat) : List Int := (List.range k).map fun j => n / 256 ^ (k - 1 - j) % 256
def zsn (t : DataType) (n : Int) : List Int := (if t.Length % 2 = 0 then [0] else []) ++ zrn n.natAbs t.Length.toNat ++ [if n < 0 then 13 else 15]
def zrl (t : DataType) (n : Int) : ByteArray :=
 zdf (if t.Kind = 3 then z6x n (szE t).toNat else if t.Kind = 2 then z1s (zrn n.natAbs t.Length.toNat) (decide (n < 0)) else zj2 (zsn t n))
theorem z8f (N : Nat) (hN : 100 < N) (n len : Nat) (hn : n ≤ 1000000000000000000) (hl : len ≤ 20) : zcc N (n : Int) (len : Int) = some (zrn n len) := by
 unfold zcc
 have := zbm (f := zcc.r0 N) (fun i => (((n / 10 ^ i : Nat) : Int), zg0 (fun e => ((n / 10 ^ e % 10 : Nat) : Int)) len i, (len : Int) - 1 - (i : Int))) len
  (fun i hi => by
   have hl2 : n / 10 ^ i ≤ n := Nat.div_le_self _ _; have hl : (zg0 (fun e => ((n / 10 ^ e % 10 : Nat) : Int)) len i).length = len := zrb _ _ _; have e1 : n / 10 ^ (i + 1) = n / 10 ^ i / 10 := by rw [Nat.pow_succ, ← Nat.div_div_eq_div_mul]
   have e2 : (zg0 (fun e => ((n / 10 ^ e % 10 : Nat) : Int)) len i).set (len - 1 - i) ((n / 10 ^ i % 10 : Nat) : Int) = zg0 (fun e => ((n / 10 ^ e % 10 : Nat) : Int)) len (i + 1) := zpz _ len i hi; rw [e1, ← e2]; generalize (zg0 (fun e => ((n / 10 ^ e % 10 : Nat) : Int)) len i) = P at *; generalize n / 10 ^ i = q at *; simp only [zcc.r0, zcc.b0, dct (show (len : Int) - 1 - (i : Int) ≥ 0 by omega), ctr, hl]; rw [ifp, ifp]; obtain ⟨x, hx⟩ : ∃ x, P[((len : Int) - 1 - (i : Int)).toNat]? = some x := zew (by omega); rw [hx]; simp only [obs]
   rw [tde, tme, w6e (n := (q : Int) / 10), w6e (n := (len : Int) - 1 - (i : Int) - 1), zla (by omega) (by omega), show ((len : Int) - 1 - (i : Int)).toNat = len - 1 - i by omega, show (q : Int) % 10 = ((q % 10 : Nat) : Int) by omega, show (q : Int) / 10 = ((q / 10 : Nat) : Int) by omega, show (len : Int) - 1 - (i : Int) - 1 = (len : Int) - 1 - ((i + 1 : Nat) : Int) by omega])
  (by simp only [zcc.r0, zcc.b0, dcf (show ¬ (len : Int) - 1 - (len : Int) ≥ 0 by omega), cfa]) (N := N) (by omega)
 rw [ifp, ifp, zax (by omega), ctr, itn, w6e]
 simp only [Nat.pow_zero, Nat.div_one, zpy, nc0, Int.sub_zero, zp0] at this
 rw [this]
 rfl
theorem or4 (x y : Nat) (hx : x < 16) (hy : y < 16) : orI .u8 (IntKind.wrap .u8 ((x : Int) * 2 ^ (min (4 : Int).toNat 8))) (y : Int) = ((16 * x + y : Nat) : Int) := by
 rw [show (2 : Int) ^ (min (4 : Int).toNat 8) = 16 from rfl, zla (by omega) (by omega)]
 unfold orI
 have e : (BitVec.ofInt IntKind.u8.bits ((x : Int) * 16) ||| BitVec.ofInt IntKind.u8.bits (y : Int)).toNat = 16 * x + y := by
  show (BitVec.ofInt 8 ((x : Int) * 16) ||| BitVec.ofInt 8 (y : Int)).toNat = _; rw [show (x : Int) * 16 = ((16 * x : Nat) : Int) by omega, BitVec.toNat_or, BitVec.ofInt_natCast, BitVec.ofInt_natCast, BitVec.toNat_ofNat, BitVec.toNat_ofNat, mel (by omega), mel (by omega)]; exact (Nat.two_pow_add_eq_or_of_lt (i := 4) (b := y) hy x).symm
 rw [e]
 exact zla (by omega) (by omega)
theorem ztx : ∀ (n : Nat) (l : List Int) (x y : Int), l.length = 2 * n → zj2 (l ++ [x, y]) = zj2 l ++ [16 * x + y]
 | 0, l, x, y, h => by
  obtain rfl := List.length_eq_zero_iff.1 (by omega : l.length = 0); rfl
 | n + 1, [], x, y, h => by simp at h
 | n + 1, [a], x, y, h => by simp at h; omega
 | n + 1, a :: b :: l, x, y, h => by
  simp only [List.cons_append, zj2]; rw [ztx n l x y (by simp only [lnc] at h; omega)]
theorem zp4 : ∀ (n : Nat) (l : List Int), l.length = 2 * n → (zj2 l).length = n
 | 0, l, h => by
  obtain rfl := List.length_eq_zero_iff.1 (by omega : l.length = 0); rfl
 | n + 1, [], h => by simp at h
 | n + 1, [a], h => by simp at h; omega
 | n + 1, a :: b :: l, h => by
  simp only [zj2, lnc]; rw [zp4 n l (by simp only [lnc] at h; omega)]
theorem z8a (N : Nat) (hN : 100 < N) (l : List Int) (n : Nat) (hl : l.length = 2 * n) (hn : n ≤ 20) (hd : ∀ d ∈ l, 0 ≤ d ∧ d < 16) : zbq N l = some (zdf (zj2 l)) := by
 unfold zbq
 have := zbm (f := zbq.r0 N) (fun i => (l, zj2 (l.take (2 * i)), 2 * (i : Int))) n
  (fun i hi => by
   obtain ⟨x, hx⟩ : ∃ x, l[2 * i]? = some x := zew (by omega); obtain ⟨y, hy⟩ : ∃ y, l[2 * i + 1]? = some y := zew (by omega); obtain ⟨x1, x2⟩ := hd x (lmg hx); obtain ⟨y1, y2⟩ := hd y (lmg hy); have hlt : (l.take (2 * i)).length = 2 * i := by rw [lnt]; omega
   simp only [zbq.r0, zbq.b0, dct (show 2 * (i : Int) < (l.length : Int) by omega), ctr]; rw [w6e (n := 2 * (i : Int) + 1), w6e (n := 2 * (i : Int) + 2), show 2 * (i : Int) = ((2 * i : Nat) : Int) by omega, show ((2 * i : Nat) : Int) + 1 = ((2 * i + 1 : Nat) : Int) by omega, zan, zan, hx, hy]; simp only [obs]; obtain ⟨u, rfl⟩ : ∃ u : Nat, x = (u : Int) := ⟨x.toNat, by omega⟩; obtain ⟨v, rfl⟩ : ∃ v : Nat, y = (v : Int) := ⟨y.toNat, by omega⟩; rw [or4 u v (by omega) (by omega), zax (by rw [zp4 i _ hlt]; simp only [lnc, ln0]; omega), ctr]; rw [show 2 * (i + 1) = 2 * i + 1 + 1 by omega, zef _ _ hy, zef _ _ hx, List.append_assoc, show ([(u : Int)] ++ [(v : Int)] : List Int) = [(u : Int), (v : Int)] from rfl, ztx i _ _ _ hlt]
   congr 4)
  (by simp only [zbq.r0, zbq.b0, dcf (show ¬ 2 * (n : Int) < (l.length : Int) by omega), cfa]) (N := N) (by omega)
 simp only [Nat.mul_zero, List.take_zero, nc0, Int.mul_zero] at this
 rw [show zj2 [] = [] from rfl] at this
 rw [this, obs, ← hl, List.take_length]
theorem zabv (f : Int → Int) (l : List Int) (i : Nat) {x : Int} (hx : l[i]? = some x) : ((l.take i).map f ++ l.drop i)[i]? = some x ∧ ((l.take i).map f ++ l.drop i).set i (f x) = (l.take (i + 1)).map f ++ l.drop (i + 1) := by
 obtain ⟨h1, h2⟩ := gei hx
 have hl : ((l.take i).map f).length = i := by rw [lnm, lnt]; omega
 have hd : l.drop i = x :: l.drop (i + 1) := by rw [List.drop_eq_getElem_cons h1, h2]
 constructor
 · rw [List.getElem?_append_right (by omega), hl, Nat.sub_self, hd]; rfl
 · rw [List.set_append_right _ _ (by omega), hl, Nat.sub_self, hd, zef l i hx, List.map_append, List.append_assoc]; rfl
theorem z6n {l : List Int} (h : 0 < l.length) : l = l.take (l.length - 1) ++ [l.getD (l.length - 1) 0] := by
 have hx : l[l.length - 1]? = some (l.getD (l.length - 1) 0) := by rw [gdd, lge (by omega)]; rfl
 have := zef l (l.length - 1) hx
 rw [show l.length - 1 + 1 = l.length by omega, List.take_length] at this
 exact this
theorem zabo (z : Int) : IntKind.wrap .u8 z = z % 256 := by
 have e : (2 : Int) ^ (IntKind.u8.bits) = 256 := by decide
 unfold IntKind.wrap
 simp only [e, show IntKind.u8.signed = false from rfl, Bool.false_and]
 simp only [Bool.false_eq_true, if_false]
theorem zqj {l : List Int} (h : 0 < l.length) : l.map (· + 240) = z1s l false := by
 conv => lhs; rw [z6n h]
 rw [List.map_append]
 rfl
theorem zon {n : Int} (h1 : -9223372036854775807 ≤ n) (h2 : n ≤ 9223372036854775807) : (if w6 (0 - n) > n then w6 (0 - n) else n) = ((n.natAbs : Nat) : Int) := by
 rw [w6e]
 split <;> omega
theorem zty {t : DataType} (h1 : 1 ≤ t.Length) (n : Int) : (zsn t n).length = 2 * (t.Length.toNat / 2 + 1) ∧ ∀ d ∈ zsn t n, 0 ≤ d ∧ d < 16 := by
 unfold zsn
 constructor
 · rw [lna, lna, zue, lns]; split
   · rw [lns]; omega
   · rw [ln0]; omega
 · intro d hd; rcases List.mem_append.1 hd with hd | hd
   · rcases List.mem_append.1 hd with hd | hd
     · split at hd
       · rcases List.mem_cons.1 hd with rfl | hd
         · omega
         · cases hd
       · cases hd
     · have := zud d hd; omega
   · rcases List.mem_cons.1 hd with rfl | hd
     · split <;> omega
     · cases hd
theorem z6h (N : Nat) (hN : 100 < N) {t : DataType} (ht : ziy t) (n : Int) (hn : -((10 ^ t.Length.toNat : Nat) : Int) < n ∧ n < ((10 ^ t.Length.toNat : Nat) : Int)) : zah N t ⟨n, ⟨#[]⟩⟩ = some (zrl t n) := by
 obtain ⟨⟨l1, l2⟩, l3, l4⟩ := zgo ht
 have hp2 : 10 ^ t.Length.toNat ≤ 10 ^ 15 := zca (by omega)
 have hsz := zqy ht
 have ht' := ht
 obtain ⟨h0, h1, h2⟩ := ht'
 have hd := z8f N hN n.natAbs t.Length.toNat (by omega) (by omega)
 rw [Int.toNat_of_nonneg (by omega)] at hd
 unfold zah zrl
 simp only [eD]
 rw [zon (by omega) (by omega), hd]
 simp only [obs]
 have hlen := zue n.natAbs t.Length.toNat
 have hrange := zud (n := n.natAbs) (len := t.Length.toNat)
 have hpac := zty (t := t) l1 n
 have epac : zsn t n = (if t.Length % 2 = 0 then [0] else []) ++ zrn n.natAbs t.Length.toNat ++ [if n < 0 then 13 else 15] := rfl
 generalize zrn n.natAbs t.Length.toNat = d at *
 simp only [zar]
 by_cases k2 : t.Kind = 2
 · rw [dct k2, ctr, ifn, ifp k2]; have lp := zbm (f := zah.r1 N) (fun i => ((d.take i).map (· + 240) ++ d.drop i, (d.length : Int), (i : Int), (⟨n, ⟨#[]⟩⟩ : Value))) d.length
    (fun i hi => by
     obtain ⟨x, hx⟩ : ∃ x, d[i]? = some x := zew hi; obtain ⟨e1, e2⟩ := zabv (· + 240) d i hx; have hxr := hrange x (lmg hx); have hl : ((d.take i).map (· + 240) ++ d.drop i).length = d.length := by rw [lna, lnm, lnt, List.length_drop]; omega
     simp only [zah.r1, zah.b1, dct (show (i : Int) < (d.length : Int) by omega), ctr, hl]; rw [ifp, ifp, itn, e1]; simp only [obs]; rw [ifp, ifp, zla (by omega) (by omega), w6e, e2]; rfl)
    (by simp only [zah.r1, zah.b1, dcf (show ¬ (d.length : Int) < (d.length : Int) by omega), cfa]) (N := N) (by omega)
   simp only [List.take_zero, nc0, dr0, List.map_nil, List.nil_append, List.take_length, List.drop_length, List.append_nil] at lp; rw [lp]; simp only [obs, lnm]
   by_cases hneg : n < 0
   · rw [dct hneg, ctr, w6e, ifp, ifp]; have hi : (d.length : Int) - 1 = ((d.length - 1 : Nat) : Int) := by omega
     have hx : d[d.length - 1]? = some (d.getD (d.length - 1) 0) := by rw [gdd, lge (by omega)]; rfl
     have hxr := hrange _ (lmg hx); rw [hi, itn, List.getElem?_map, hx]; simp only [Option.map_some, obs]; rw [ifp, ifp, zla (by omega) (by omega)]
     congr 2
     conv => lhs; rw [show d.map (· + 240) = (d.take (d.length - 1)).map (· + 240) ++ [d.getD (d.length - 1) 0 + 240] from zqj (by omega)]
     have hl : ((d.take (d.length - 1)).map (· + 240)).length = d.length - 1 := by rw [lnm, lnt]; omega
     rw [List.set_append_right _ _ (by omega), hl, Nat.sub_self]; unfold z1s
     congr 1
     show [_] = [_]
     congr 1
     simp only [ctr]; omega
   · rw [dcf hneg, cfa, zqj (by omega)]
 · rw [dcf k2, cfa, ifn (c := t.Kind = 2) k2]
   by_cases k1 : t.Kind = 1
   · rw [dct k1, ctr, ifn]; have pk := z8a N hN (zsn t n) _ hpac.1 (by omega) hpac.2; have ev : decide ((d.length : Int).tmod 2 = 0) = decide (t.Length % 2 = 0) := by
      rw [tme]; simp only [decide_eq_decide]; omega
     rw [ev]; rw [epac] at pk ⊢
     by_cases hneg : n < 0
     · rw [dct hneg, ctr]; rw [ifp hneg] at pk ⊢
       by_cases he : t.Length % 2 = 0
       · rw [dct he, ctr]; rw [ifp he] at pk ⊢; rw [zax (by simp only [lnc, ln0]; omega), ctr, zax (by simp only [lna, lnc, ln0]; omega), ctr, pk]; rfl
       · rw [dcf he, cfa]; rw [ifn he, List.nil_append] at pk ⊢; rw [zax (by simp only [lnc, ln0]; omega), ctr, pk]; rfl
     · rw [dcf hneg, cfa]; rw [ifn hneg] at pk ⊢
       by_cases he : t.Length % 2 = 0
       · rw [dct he, ctr]; rw [ifp he] at pk ⊢; rw [zax (by simp only [lnc, ln0]; omega), ctr, zax (by simp only [lna, lnc, ln0]; omega), ctr, pk]; rfl
       · rw [dcf he, cfa]; rw [ifn he, List.nil_append] at pk ⊢; rw [zax (by simp only [lnc, ln0]; omega), ctr, pk]; rfl
   · have k3 : t.Kind = 3 := by omega
     rw [dcf k1, cfa, dct k3, ctr, ifp k3, z0c h0]; have hs : (szE t).toNat ≤ 4 ∧ 0 < (szE t).toNat ∧ szE t = ((szE t).toNat : Int) := by
      rw [hsz, ifn k1, ifp k3]; split <;> decide
     obtain ⟨s1, s2, s3⟩ := hs; generalize (szE t).toNat = k at *; rw [s3]; simp only [obs]; rw [ifp, ifp, zax (by omega), ctr, itn, lnr, w6e]; have lp := zbm (f := zah.r3 N) (fun i => (zg0 (fun e => n / 256 ^ e % 256) k i, (k : Int) - 1 - (i : Int), n / 256 ^ i)) k
      (fun i hi => by
       have e2 : (zg0 (fun e => n / 256 ^ e % 256) k i).set (k - 1 - i) (n / 256 ^ i % 256) = zg0 (fun e => n / 256 ^ e % 256) k (i + 1) := zpz _ k i hi; have hl : (zg0 (fun e => n / 256 ^ e % 256) k i).length = k := zrb _ _ _; have e1 : n / 256 ^ (i + 1) = n / 256 ^ i / 256 := by rw [Int.pow_succ, Int.ediv_ediv_of_nonneg (Int.le_of_lt (Int.pow_pos (by decide)))]
       rw [e1, ← e2]; generalize zg0 (fun e => n / 256 ^ e % 256) k i = P at *; simp only [zah.r3, zah.b3, dct (show (k : Int) - 1 - (i : Int) ≥ 0 by omega), ctr, hl]; rw [ifp, ifp]; obtain ⟨x, hx⟩ : ∃ x, P[((k : Int) - 1 - (i : Int)).toNat]? = some x := zew (by omega); rw [hx]; simp only [obs]; rw [zabo, w6e, show (2 : Int) ^ (min (8 : Int).toNat 64) = 256 from rfl, Int.fdiv_eq_ediv_of_nonneg _ (by decide), show ((k : Int) - 1 - (i : Int)).toNat = k - 1 - i by omega, show (k : Int) - 1 - (i : Int) - 1 = (k : Int) - 1 - ((i + 1 : Nat) : Int) by omega])
      (by simp only [zah.r3, zah.b3, dcf (show ¬ (k : Int) - 1 - (k : Int) ≥ 0 by omega), cfa]) (N := N) (by omega)
     simp only [Int.pow_zero, Int.ediv_one, zpy, nc0, Int.sub_zero, zp0] at lp; rw [lp]; rfl
theorem z8e (N : Nat) (hN : 100 < N) {t : DataType} (ht : ziy t) (n : Int) (hn : -((10 ^ t.Length.toNat : Nat) : Int) < n ∧ n < ((10 ^ t.Length.toNat : Nat) : Int)) : zja N t ⟨n, ⟨#[]⟩⟩ = some (zrl t n, 0) := by
 unfold zja
 rw [zum N hN ht, ifp hn]
 simp only [obs, bsf, cfa, eD]
 rw [z6h N hN ht n hn]
 rfl
theorem z8y {t : DataType} (ht : ziy t) (n : Int) : ((zrl t n).size : Int) = szE t := by
 obtain ⟨⟨l1, l2⟩, l3, l4⟩ := zgo ht
 have hsz := zqy ht
 obtain ⟨h0, h1, h2⟩ := ht
 rw [← zao]
 unfold zrl
 rw [zgt, lnm]
 by_cases k3 : t.Kind = 3
 · rw [ifp k3]; unfold z6x; rw [lnm, List.length_range]; rw [hsz, ifn, ifp k3]; split <;> rfl
 · rw [ifn k3]
   by_cases k2 : t.Kind = 2
   · rw [ifp k2]; unfold z1s; rw [lna, lnm, lnt, zue, lns, hsz, ifn, ifn k3]; omega
   · rw [ifn k2, zp4 _ _ (zty l1 n).1, hsz, ifp]; omega
theorem z2i (N : Nat) (hN : 100 < N) (k : Nat) (hk : k ≤ 18) : zdq N (k : Int) = some ((10 ^ k : Nat) : Int) := by
 unfold zdq
 have := zbm (f := zdq.r0 N) (fun i => ((k : Int), ((10 ^ i : Nat) : Int), (i : Int))) k
  (fun i hi => by
   have : 10 ^ (i + 1) ≤ 10 ^ 18 := zca (by omega); rw [Nat.pow_succ] at this; simp only [zdq.r0, zdq.b0, dct (show (i : Int) < (k : Int) by omega), ctr]; rw [w6e (n := ((10 ^ i : Nat) : Int) * 10), w6e, Nat.pow_succ]; simp only [Int.natCast_add, Int.natCast_mul, Int.natCast_one]; rfl)
  (by simp only [zdq.r0, zdq.b0, dcf (show ¬ (k : Int) < (k : Int) by omega), cfa]) (N := N) (by omega)
 simp only [Nat.pow_zero, nc0] at this
 rw [show (1 : Int) = ((1 : Nat) : Int) from rfl, this]
 rfl
theorem z71 (N : Nat) (hN : 100 < N) (n len : Nat) (hn : n ≤ 1000000000000000000) (hl : len ≤ 20) : zc1 N (n : Int) (len : Int) = some (zrn n len) := by
 unfold zc1
 have := zbm (f := zc1.r0 N) (fun i => (((n / 10 ^ i : Nat) : Int), zg0 (fun e => ((n / 10 ^ e % 10 : Nat) : Int)) len i, (len : Int) - 1 - (i : Int))) len
  (fun i hi => by
   have hl2 : n / 10 ^ i ≤ n := Nat.div_le_self _ _; have hl : (zg0 (fun e => ((n / 10 ^ e % 10 : Nat) : Int)) len i).length = len := zrb _ _ _; have e1 : n / 10 ^ (i + 1) = n / 10 ^ i / 10 := by rw [Nat.pow_succ, ← Nat.div_div_eq_div_mul]
   have e2 : (zg0 (fun e => ((n / 10 ^ e % 10 : Nat) : Int)) len i).set (len - 1 - i) ((n / 10 ^ i % 10 : Nat) : Int) = zg0 (fun e => ((n / 10 ^ e % 10 : Nat) : Int)) len (i + 1) := zpz _ len i hi; rw [e1, ← e2]; generalize (zg0 (fun e => ((n / 10 ^ e % 10 : Nat) : Int)) len i) = P at *; generalize n / 10 ^ i = q at *; simp only [zc1.r0, zc1.b0, dct (show (len : Int) - 1 - (i : Int) ≥ 0 by omega), ctr, hl]; rw [ifp, ifp]; obtain ⟨x, hx⟩ : ∃ x, P[((len : Int) - 1 - (i : Int)).toNat]? = some x := zew (by omega); rw [hx]; simp only [obs]; rw [tde, tme, w6e (n := (q : Int) / 10), w6e (n := (len : Int) - 1 - (i : Int) - 1), show ((len : Int) - 1 - (i : Int)).toNat = len - 1 - i by omega, show (q : Int) % 10 = ((q % 10 : Nat) : Int) by omega, show (q : Int) / 10 = ((q / 10 : Nat) : Int) by omega, show (len : Int) - 1 - (i : Int) - 1 = (len : Int) - 1 - ((i + 1 : Nat) : Int) by omega])
  (by simp only [zc1.r0, zc1.b0, dcf (show ¬ (len : Int) - 1 - (len : Int) ≥ 0 by omega), cfa]) (N := N) (by omega)
 rw [ifp, ifp, zax (by omega), ctr, itn, w6e]
 simp only [Nat.pow_zero, Nat.div_one, zpy, nc0, Int.sub_zero, zp0] at this
 rw [this]
 rfl
theorem zsk (N : Nat) (hN : 100 < N) (v k : Nat) (hv : v < 9223372036854775807) (hk : k ≤ 8) : zas N (v : Int) (k : Int) = some (zdf (zbl v k)) := by
 unfold zas
 have := zbm (f := zas.r0 N) (fun i => (((v / 256 ^ i : Nat) : Int), (k : Int), zg0 (fun e => ((v / 256 ^ e % 256 : Nat) : Int)) k i, (i : Int))) k
  (fun i hi => by
   have hl2 : v / 256 ^ i ≤ v := Nat.div_le_self _ _; have hl : (zg0 (fun e => ((v / 256 ^ e % 256 : Nat) : Int)) k i).length = k := zrb _ _ _; have e1 : v / 256 ^ (i + 1) = v / 256 ^ i / 256 := by rw [Nat.pow_succ, ← Nat.div_div_eq_div_mul]
   have e2 : (zg0 (fun e => ((v / 256 ^ e % 256 : Nat) : Int)) k i).set (k - 1 - i) ((v / 256 ^ i % 256 : Nat) : Int) = zg0 (fun e => ((v / 256 ^ e % 256 : Nat) : Int)) k (i + 1) := zpz _ k i hi; rw [e1, ← e2]; generalize (zg0 (fun e => ((v / 256 ^ e % 256 : Nat) : Int)) k i) = P at *; generalize v / 256 ^ i = q at *; simp only [zas.r0, zas.b0, dct (show (i : Int) < (k : Int) by omega), ctr, hl]; rw [w6e (n := (k : Int) - 1), w6e (n := (k : Int) - 1 - (i : Int)), ifp, ifp]; obtain ⟨x, hx⟩ : ∃ x, P[((k : Int) - 1 - (i : Int)).toNat]? = some x := zew (by omega); rw [hx]; simp only [obs]; rw [tde, tme, w6e (n := (q : Int) / 256), w6e (n := (i : Int) + 1), zla (by omega) (by omega), show ((k : Int) - 1 - (i : Int)).toNat = k - 1 - i by omega, show (q : Int) % 256 = ((q % 256 : Nat) : Int) by omega, show (q : Int) / 256 = ((q / 256 : Nat) : Int) by omega]; rfl)
  (by simp only [zas.r0, zas.b0, dcf (show ¬ (k : Int) < (k : Int) by omega), cfa]) (N := N) (by omega)
 rw [ifp, ifp, zax (by omega), ctr, itn]
 simp only [Nat.pow_zero, Nat.div_one, zpy, nc0] at this
 rw [this, obs, zp0]
 rfl
theorem z9q (f : Int → Int) (l : List Int) (m i : Nat) {x : Int} (hx : l[i]? = some x) (hm : i < m) : ((l.take i).map f ++ List.replicate (m - i) 0)[i]? = some 0 ∧ ((l.take i).map f ++ List.replicate (m - i) 0).set i (f x) = (l.take (i + 1)).map f ++ List.replicate (m - (i + 1)) 0 := by
 obtain ⟨h1, h2⟩ := gei hx
 have hl : ((l.take i).map f).length = i := by rw [lnm, lnt]; omega
 have hd : List.replicate (m - i) (0 : Int) = 0 :: List.replicate (m - (i + 1)) 0 := by rw [show m - i = m - (i + 1) + 1 by omega, List.replicate_succ]
 constructor
 · rw [List.getElem?_append_right (by omega), hl, Nat.sub_self, hd]; rfl
 · rw [List.set_append_right _ _ (by omega), hl, Nat.sub_self, hd, zef l i hx, List.map_append, List.append_assoc]; rfl
theorem z3s (n : Int) (k : Nat) (m : Nat) (h : (m : Int) = n ∨ (m : Int) = n + (256 ^ k : Nat)) : zbl m k = z6x n k := by
 unfold zbl z6x
 refine List.map_congr_left fun j hj => ?_
 have hjk := List.mem_range.1 hj
 have hc : (256 : Int) ^ (k - 1 - j) = ((256 ^ (k - 1 - j) : Nat) : Int) := by rw [Int.natCast_pow]; rfl
 rw [hc]
 rcases h with h | h
 · rw [← h]; rfl
 · have hk : (256 ^ k : Nat) = 256 ^ (k - 1 - j) * (256 * 256 ^ j) := by
    rw [← Nat.pow_succ', ← Nat.pow_add]; congr 1; omega
   have hp : ((256 ^ (k - 1 - j) : Nat) : Int) ≠ 0 := by
    have : 0 < 256 ^ (k - 1 - j) := Nat.pow_pos (by decide); omega
   have e : ((m / 256 ^ (k - 1 - j) % 256 : Nat) : Int) = (m : Int) / ((256 ^ (k - 1 - j) : Nat) : Int) % 256 := rfl; rw [e, h, hk, Int.natCast_mul, Int.add_mul_ediv_left _ _ hp, Int.natCast_mul]; exact Int.add_mul_emod_self_left _ _ _
theorem z97 (N : Nat) (hN : 100 < N) {t : DataType} (ht : ziy t) (n : Int) (hn : -((10 ^ t.Length.toNat : Nat) : Int) < n ∧ n < ((10 ^ t.Length.toNat : Nat) : Int)) : za4 N t ⟨n, ⟨#[]⟩⟩ = some (zrl t n) := by
 obtain ⟨⟨l1, l2⟩, l3, l4⟩ := zgo ht
 have hp2 : 10 ^ t.Length.toNat ≤ 10 ^ 15 := zca (by omega)
 have hsz := zqy ht
 have ht' := ht
 obtain ⟨h0, h1, h2⟩ := ht'
 have hd := z71 N hN n.natAbs t.Length.toNat (by omega) (by omega)
 rw [Int.toNat_of_nonneg (by omega)] at hd
 unfold za4 zrl zfp
 simp only [eD, zar]
 rw [dcf (show ¬ t.Kind = 0 by omega), cfa]
 by_cases k3 : t.Kind = 3
 · rw [dct k3, ctr, ifp k3, zjr h0]; have hs : (szE t).toNat ≤ 4 ∧ 0 < (szE t).toNat ∧ szE t = ((szE t).toNat : Int) ∧ ((szE t).toNat = 2 ∨ (szE t).toNat = 4) ∧ ((szE t).toNat = 2 → t.Length = 4) := by
    have h9 := h0; unfold zdx at h9; rw [ifn, ifn, ifp k3] at h9; rw [hsz, ifn, ifp k3]; split at h9
    · split
      · exact ⟨by decide, by decide, by decide, by decide, fun h => by cases h⟩
      · exact ⟨by decide, by decide, by decide, by decide, fun _ => by omega⟩
    · cases h9
   obtain ⟨s1, s2, s3, s4, s5⟩ := hs; generalize (szE t).toNat = k at *; rw [s3]; simp only [obs]
   by_cases hneg : n < 0
   · rw [dct hneg, ctr, w6e (n := 8 * (k : Int)), ifn]; have hpow : (1 : Int) * 2 ^ (min (8 * (k : Int)).toNat 64) = ((256 ^ k : Nat) : Int) := by
      rcases s4 with rfl | rfl <;> decide
     have hlow : -((256 ^ k : Nat) : Int) ≤ n := by
      rcases s4 with rfl | rfl
      · have := s5 rfl; rw [this] at hn; have : (10 ^ (4 : Int).toNat : Nat) = 10000 := by decide
        rw [this] at hn; have : (256 ^ 2 : Nat) = 65536 := by decide
        omega
      · have hl9 : 10 ^ t.Length.toNat ≤ 10 ^ 9 := by
         refine zca ?_; unfold zdx at h0; rw [ifn, ifn, ifp k3] at h0; split at h0
         · omega
         · cases h0
        have : (256 ^ 4 : Nat) = 4294967296 := by decide
        omega
     have hup : 256 ^ k ≤ 4294967296 := by rcases s4 with rfl | rfl <;> decide
     rw [hpow, w6e (n := ((256 ^ k : Nat) : Int)), w6e]; obtain ⟨m, hm⟩ : ∃ m : Nat, (m : Int) = n + (256 ^ k : Nat) := ⟨(n + (256 ^ k : Nat)).toNat, by omega⟩; rw [← hm, zsk N hN m k (by omega) (by omega), z3s n k m (.inr hm)]; rfl
   · rw [dcf hneg, cfa]; obtain ⟨m, hm⟩ : ∃ m : Nat, (m : Int) = n := ⟨n.toNat, by omega⟩; rw [← hm, zsk N hN m k (by omega) (by omega), z3s (m : Int) k m (.inl rfl)]; rfl
 · rw [dcf k3, cfa, ifn k3, zon (by omega) (by omega)]; simp only [obs]; rw [hd]; simp only [obs]; have hlen := zue n.natAbs t.Length.toNat; have hrange := zud (n := n.natAbs) (len := t.Length.toNat); have hpac := zty (t := t) l1 n; have epac : zsn t n = (if t.Length % 2 = 0 then [0] else []) ++ zrn n.natAbs t.Length.toNat ++ [if n < 0 then 13 else 15] := rfl; generalize zrn n.natAbs t.Length.toNat = d at *
   by_cases k2 : t.Kind = 2
   · rw [dct k2, ctr, ifp k2, ifp, ifp, zax (by omega), ctr]; have lp := zbm (f := za4.r1 N) (fun i => (d, (d.take i).map (· + 240) ++ List.replicate (d.length - i) 0, (i : Int), t, (⟨n, ⟨#[]⟩⟩ : Value))) d.length
      (fun i hi => by
       obtain ⟨x, hx⟩ : ∃ x, d[i]? = some x := zew hi; obtain ⟨e1, e2⟩ := z9q (· + 240) d d.length i hx hi; have hxr := hrange x (lmg hx); have hl : ((d.take i).map (· + 240) ++ List.replicate (d.length - i) 0).length = d.length := by rw [lna, lnm, lnt, lnr]; omega
       simp only [za4.r1, za4.b1, dct (show (i : Int) < t.Length by omega), ctr, hl]; rw [ifp, ifp, itn, hx]; simp only [obs]; rw [ifp, ifp, e1]; simp only [obs]; rw [w6e (n := 240 + x), zla (by omega) (by omega), w6e, Int.add_comm 240 x, e2]; rfl)
      (by simp only [za4.r1, za4.b1, dcf (show ¬ (d.length : Int) < t.Length by omega), cfa]) (N := N) (by omega)
     simp only [List.take_zero, nc0, List.map_nil, List.nil_append, List.take_length, Nat.sub_self, Nat.sub_zero, List.replicate_zero, List.append_nil] at lp; rw [← hlen, lp]; simp only [obs, lnm]
     by_cases hneg : n < 0
     · rw [dct hneg, ctr, w6e (n := t.Length - 1), ifp, ifp]; have hi : t.Length - 1 = ((d.length - 1 : Nat) : Int) := by omega
       have hx : d[d.length - 1]? = some (d.getD (d.length - 1) 0) := by rw [gdd, lge (by omega)]; rfl
       have hxr := hrange _ (lmg hx); rw [hi, itn, hx]; simp only [obs]; rw [ifp, ifp, List.getElem?_map, hx]; simp only [Option.map_some, obs]; rw [w6e, zla (by omega) (by omega)]
       congr 2
       conv => lhs; rw [show d.map (· + 240) = (d.take (d.length - 1)).map (· + 240) ++ [d.getD (d.length - 1) 0 + 240] from zqj (by omega)]
       have hl : ((d.take (d.length - 1)).map (· + 240)).length = d.length - 1 := by rw [lnm, lnt]; omega
       rw [List.set_append_right _ _ (by omega), hl, Nat.sub_self]; unfold z1s
       congr 1
       show [_] = [_]
       congr 1
       simp only [ctr]; omega
     · rw [dcf hneg, cfa, zqj (by omega)]
   · rw [dcf k2, cfa, ifn k2]; have lp : ∀ (l : List Int) (m : Nat), l.length = 2 * m → m ≤ 20 → (∀ d ∈ l, 0 ≤ d ∧ d < 16) → zm (za4.r3 N) N (l, List.replicate m 0, 0) = some (l, zj2 l, (m : Int)) := fun l m hl hm hr => by
      have := zbm (f := za4.r3 N) (fun i => (l, zj2 (l.take (2 * i)) ++ List.replicate (m - i) 0, (i : Int))) m
       (fun i hi => by
        obtain ⟨x, hx⟩ : ∃ x, l[2 * i]? = some x := zew (by omega); obtain ⟨y, hy⟩ : ∃ y, l[2 * i + 1]? = some y := zew (by omega); obtain ⟨x1, x2⟩ := hr x (lmg hx); obtain ⟨y1, y2⟩ := hr y (lmg hy); have hlt : (l.take (2 * i)).length = 2 * i := by rw [lnt]; omega
        have hpl := zp4 i _ hlt; have hl2 : (zj2 (l.take (2 * i)) ++ List.replicate (m - i) 0).length = m := by rw [lna, hpl, lnr]; omega
        have hd : List.replicate (m - i) (0 : Int) = 0 :: List.replicate (m - (i + 1)) 0 := by rw [show m - i = m - (i + 1) + 1 by omega, List.replicate_succ]
        have e1 : (zj2 (l.take (2 * i)) ++ List.replicate (m - i) 0)[i]? = some 0 := by rw [List.getElem?_append_right (by omega), hpl, Nat.sub_self, hd]; rfl
        have e2 : (zj2 (l.take (2 * i)) ++ List.replicate (m - i) 0).set i (16 * x + y) = zj2 (l.take (2 * (i + 1))) ++ List.replicate (m - (i + 1)) 0 := by
         rw [List.set_append_right _ _ (by omega), hpl, Nat.sub_self, hd, show 2 * (i + 1) = 2 * i + 1 + 1 by omega, zef _ _ hy, zef _ _ hx, List.append_assoc, show ([x] ++ [y] : List Int) = [x, y] from rfl, ztx i _ _ _ hlt, List.append_assoc]; rfl
        simp only [za4.r3, za4.b3, hl2, dct (show (i : Int) < (m : Int) by omega), ctr]; rw [w6e (n := 2 * (i : Int)), w6e (n := 2 * (i : Int) + 1), ifp, ifp, show (2 * (i : Int)).toNat = 2 * i by omega, hx]; simp only [obs]; rw [ifp, ifp, show (2 * (i : Int) + 1).toNat = 2 * i + 1 by omega, hy]; simp only [obs]; rw [ifp, ifp, itn, e1]; simp only [obs]; rw [w6e (n := 16 * x), w6e (n := 16 * x + y), zla (by omega) (by omega), w6e, e2]; rfl)
       (by simp only [za4.r3, za4.b3]; rw [lna, zp4 m _ (by rw [lnt]; omega), Nat.sub_self, lnr, Nat.add_zero, dcf (show ¬ (m : Int) < (m : Int) by omega), cfa]) (N := N) (by omega)
      simp only [Nat.mul_zero, List.take_zero, nc0, Nat.sub_zero, Nat.sub_self, List.replicate_zero, List.append_nil] at this; rw [show zj2 [] = [] from rfl, List.nil_append, ← hl, List.take_length] at this; exact this
     have lpp := lp (zsn t n) _ hpac.1 (by omega) hpac.2; have hpl := hpac.1; rw [zhq, show decide (t.Length.tmod 2 = 0) = decide (t.Length % 2 = 0) by rw [tme]]; simp only [obs]; have hsg : w6 (15 - w6 (2 * cond (decide (n < 0)) 1 0)) = if n < 0 then 13 else 15 := by
      by_cases hneg : n < 0
      · rw [dct hneg, ifp hneg]; decide
      · rw [dcf hneg, ifn hneg]; decide
     rw [hsg]
     by_cases he : t.Length % 2 = 0
     · rw [ifp he] at epac; rw [dct he, ctr, zax (by simp only [lnc, ln0]; omega), ctr, ← epac, zax (by simp only [lna, lnc, ln0]; omega), ctr, tde, w6e, ifp, ifp, zax (by omega), ctr, show ((zsn t n).length : Int) / 2 = ((t.Length.toNat / 2 + 1 : Nat) : Int) by omega, itn, lpp]; rfl
     · rw [ifn he, List.nil_append] at epac; rw [dcf he, cfa, zax (by simp only [lnc, ln0]; omega), ctr, ← epac, tde, w6e, ifp, ifp, zax (by omega), ctr, show ((zsn t n).length : Int) / 2 = ((t.Length.toNat / 2 + 1 : Nat) : Int) by omega, itn, lpp]; rfl
theorem z24 : ∀ (l : List UInt8) (i : Nat) (x : UInt8), l[i / 2]? = some x → (zih l)[i]? = some (((if i % 2 = 1 then x.toNat % 16 else x.toNat / 16 : Nat) : Nat) : Int)
 | [], i, x, h => by simp at h
 | y :: l, 0, x, h => by
  simp only [Nat.zero_div, List.getElem?_cons_zero, Option.some.injEq] at h; subst h; rfl
 | y :: l, 1, x, h => by
  simp only [show 1 / 2 = 0 from rfl, List.getElem?_cons_zero, Option.some.injEq] at h; subst h; rfl
 | y :: l, i + 2, x, h => by
  rw [show (i + 2) / 2 = i / 2 + 1 by omega, List.getElem?_cons_succ] at h; have := z24 l i x h; have e : zih (y :: l) = ((y.toNat / 16 : Nat) : Int) :: ((y.toNat % 16 : Nat) : Int) :: zih l := rfl; rw [e, List.getElem?_cons_succ, List.getElem?_cons_succ, this]
  congr 3
  rw [show (i + 2) % 2 = i % 2 by omega]
theorem z0v (n h : Int) (hn : -9223372036854775807 ≤ n ∧ n ≤ 9223372036854775807) : zfn n h = some (if h = 11 ∨ h = 13 then -n else n, decide (h ≥ 10)) := by
 unfold zfn
 rw [w6e, zar, zar]
 by_cases h1 : h = 11
 · rw [dct h1, ifp (.inl h1), Int.zero_sub]; rfl
 · rw [dcf h1]
   by_cases h2 : h = 13
   · rw [dct h2, ifp (.inr h2), Int.zero_sub]; rfl
   · rw [dcf h2, ifn]; rfl
theorem z4b (n : Nat) (bad : Nat → Bool) (f : Nat → Value × Int × Int) : (List.range n).any bad = ((List.range n).findSome? (fun i => if bad i = true then some (f i) else none)).isSome := by
 rw [Bool.eq_iff_iff, List.any_eq_true, List.findSome?_isSome_iff]
 constructor
 · rintro ⟨x, hx, hb⟩
   exact ⟨x, hx, by rw [ifp hb]; rfl⟩
 · rintro ⟨x, hx, hb⟩
   refine ⟨x, hx, ?_⟩; split at hb
   · assumption
   · cases hb
def zpg : Value := ⟨0, ⟨#[]⟩⟩
theorem z9w (N : Nat) (hN : 2000 < N) (t : DataType) (hk : t.Kind = 2) (b : ByteArray) (hb : 0 < b.size) (hb3 : b.size ≤ 15) (hl : (b.size : Int) = t.Length) :
 ∃ v a e, zbi N b = some (v, a, e) ∧ (match zmb t b with | some n => v.N = n ∧ e = 0 | none => e ≠ 0) := by
 have hd : zmb t b = zv2 (zee (bl b)) t.Length := by unfold zmb; rw [ifn, ifn]
 have hzl : (zee (bl b)).length = b.size + 1 := by unfold zee zfq; rw [lna, lnm, lns, zao]
 have hzs : zkn (zee (bl b)) = (((bl b).getD (b.size - 1) 0).toNat / 16 : Nat) := by
  unfold zkn; rw [hzl, Nat.add_sub_cancel]; unfold zee; have hl2 : (zfq (bl b)).length = b.size := by unfold zfq; rw [lnm, zao]
  rw [gdd, List.getElem?_append_right (by omega), hl2, Nat.sub_self]; rfl
 have hzd : ∀ i, i < b.size → ∀ x, (bl b)[i]? = some x → (zee (bl b)).getD i 0 = ((x.toNat % 16 : Nat) : Int) := fun i hi x hx => by
  have hl2 : (zfq (bl b)).length = b.size := by unfold zfq; rw [lnm, zao]
  unfold zee; rw [gdd, List.getElem?_append_left (by omega)]; unfold zfq; rw [List.getElem?_map, hx]; rfl
 have hzt : (zee (bl b)).take b.size = zfq (bl b) := by
  have hl2 : (zfq (bl b)).length = b.size := by unfold zfq; rw [lnm, zao]
  unfold zee; rw [List.take_append_of_le_length (by omega), List.take_of_length_le (by omega)]
 have hx1 : (bl b)[b.size - 1]? = some ((bl b).getD (b.size - 1) 0) := zq4 (by rw [zao]; omega)
 have hlb := ((bl b).getD (b.size - 1) 0).toNat_lt
 generalize hS : ((bl b).getD (b.size - 1) 0).toNat / 16 = S at *
 have hS16 : S < 16 := by omega
 rw [hd]
 unfold zbi
 have lp := zb1 (f := zbi.r0 N) (fun i => (b, zfd ((zfq (bl b)).take i), (if i = b.size then (S : Int) else 15), (i : Int), zpg))
  (fun i => if (decide ((zee (bl b)).getD i 0 > 9) || (decide (i = b.size - 1) && decide ((S : Int) < 10))) = true then some (zpg, (i : Int), (21 : Int)) else none) b.size
  (fun i hi => by
   obtain ⟨x, hx⟩ : ∃ x, (bl b)[i]? = some x := zew (by rw [zao]; exact hi); have hxl := x.toNat_lt; have hnx : (zfq (bl b))[i]? = some ((x.toNat % 16 : Nat) : Int) := by unfold zfq; rw [List.getElem?_map, hx]; rfl
   have hf := zm3 ((zfq (bl b)).take i) _ (List.reverse_reverse _).symm fun d hd => by
    obtain ⟨y, _, rfl⟩ := List.mem_map.1 (List.mem_of_mem_take hd); omega
   have hpow : 10 ^ ((zfq (bl b)).take i).length ≤ 10 ^ 15 := zca (by rw [lnt]; omega); have hm : (w6 (x.toNat : Int)).tmod 16 = ((x.toNat % 16 : Nat) : Int) := by rw [w6e, tme]; omega
   have hm2 : ((x.toNat : Int).tmod 16) = ((x.toNat % 16 : Nat) : Int) := by rw [tme]; omega
   have hdv : w6 ((w6 (x.toNat : Int)).tdiv 16) = ((x.toNat / 16 : Nat) : Int) := by rw [w6e (n := (x.toNat : Int)), tde, w6e]; omega
   have hnext : zfd ((zfq (bl b)).take (i + 1)) = 10 * zfd ((zfq (bl b)).take i) + ((x.toNat % 16 : Nat) : Int) := by rw [zef _ _ hnx, zog]; omega
   rw [hnext]; generalize zfd ((zfq (bl b)).take i) = F at *; rw [hzd i hi x hx]; simp only [zbi.r0, zbi.b0, dct (show (i : Int) < (b.size : Int) by omega), ctr, zht, hx, obs, hm, hm2, hdv]; rw [w6e (n := (b.size : Int) - 1), w6e (n := (i : Int) + 1), w6e (n := 10 * F), w6e (n := 10 * F + ((x.toNat % 16 : Nat) : Int)), zar]
   by_cases hi1 : i = b.size - 1
   · have hxe : x = (bl b).getD (b.size - 1) 0 := by rw [hi1] at hx; rw [hx1] at hx; exact (Option.some.inj hx).symm
     have hxS : x.toNat / 16 = S := by rw [hxe]; exact hS
     rw [dct (show (i : Int) = (b.size : Int) - 1 by omega), dct hi1, hxS, ifn (show ¬ i = b.size by omega), ifp (show i + 1 = b.size by omega)]; simp only [ctr, Bool.true_and]; cases h1 : decide ((S : Int) < 10) <;> cases h2 : decide (((x.toNat % 16 : Nat) : Int) > 9) <;> rfl
   · rw [dcf (show ¬ (i : Int) = (b.size : Int) - 1 by omega), dcf hi1, ifn (show ¬ i = b.size by omega), ifn (show ¬ i + 1 = b.size by omega)]; simp only [cfa, Bool.false_and, Bool.or_false]; cases h2 : decide (((x.toNat % 16 : Nat) : Int) > 9) <;> rfl)
  (by simp only [zbi.r0, zbi.b0, dcf (show ¬ (b.size : Int) < (b.size : Int) by omega), cfa]) (N := N) (by omega)
 simp only [List.take_zero, nc0] at lp
 rw [show zfd [] = 0 from rfl, ifn (show ¬ 0 = b.size by omega)] at lp
 rw [show (⟨0, (⟨#[]⟩ : ByteArray)⟩ : Value) = zpg from rfl, lp]
 simp only [obs]
 have ha := z4b b.size (fun i => decide ((zee (bl b)).getD i 0 > 9) || (decide (i = b.size - 1) && decide ((S : Int) < 10))) (fun i => (zpg, (i : Int), (21 : Int)))
 have hc : (List.range b.size).any (fun i => decide ((zee (bl b)).getD i 0 > 9) || (decide (i = b.size - 1) && decide ((S : Int) < 10))) = ((List.range ((zee (bl b)).length - 1)).any (ziz (zee (bl b)) t.Length) || decide (zkn (zee (bl b)) < 10)) := by
  rw [hzl, Nat.add_sub_cancel, hzs, Bool.eq_iff_iff, Bool.or_eq_true, List.any_eq_true, List.any_eq_true]; constructor
  · rintro ⟨i, hi, hb⟩
    rw [Bool.or_eq_true, Bool.and_eq_true] at hb; rcases hb with hb | ⟨_, hb⟩
    · exact .inl ⟨i, hi, by unfold ziz; rw [hb, Bool.true_or]⟩
    · exact .inr hb
  · rintro (⟨i, hi, hb⟩ | hb)
    · refine ⟨i, hi, ?_⟩; unfold ziz at hb; rw [Bool.or_eq_true] at hb; rcases hb with hb | hb
      · rw [hb, Bool.true_or]
      · rw [Bool.and_eq_true] at hb; have h2 := of_decide_eq_true hb.2; rw [hzl] at h2; omega
    · exact ⟨b.size - 1, by rw [List.mem_range]; omega, by rw [hb]; simp⟩
 rw [ha] at hc
 unfold zv2
 cases hf : (List.range b.size).findSome? (fun i => if (decide ((zee (bl b)).getD i 0 > 9) || (decide (i = b.size - 1) && decide ((S : Int) < 10))) = true then some (zpg, (i : Int), (21 : Int)) else none) with
 | some r =>
  obtain ⟨i, _, hi⟩ := eof hf; split at hi
  · cases hi; rw [hf] at hc; have hc' : ((List.range ((zee (bl b)).length - 1)).any (ziz (zee (bl b)) t.Length) || decide (zkn (zee (bl b)) < 10)) = true := hc.symm; rw [Bool.or_eq_true, decide_eq_true_eq] at hc'; rw [ifp hc']; exact ⟨_, _, _, rfl, by decide⟩
  · cases hi
 | none =>
  rw [hf] at hc; have hc' : ((List.range ((zee (bl b)).length - 1)).any (ziz (zee (bl b)) t.Length) || decide (zkn (zee (bl b)) < 10)) = false := hc.symm; rw [Bool.or_eq_false_iff, decide_eq_false_iff_not] at hc'; have hf := zm3 (zfq (bl b)) _ (List.reverse_reverse _).symm fun d hd => by
   obtain ⟨y, _, rfl⟩ := List.mem_map.1 hd; omega
  have hpow : 10 ^ (zfq (bl b)).length ≤ 10 ^ 15 := zca (by unfold zfq; rw [lnm, zao]; omega); have hnc : ¬ ((List.range ((zee (bl b)).length - 1)).any (ziz (zee (bl b)) t.Length) = true ∨ zkn (zee (bl b)) < 10) := by rw [hc'.1]; simpa using hc'.2
  rw [ifn hnc, hzl, Nat.add_sub_cancel, hzt, hzs]; simp only [zb9, if_true]; rw [show (zfq (bl b)).take b.size = zfq (bl b) from List.take_of_length_le (by unfold zfq; rw [lnm, zao]; omega), z0v _ _ ⟨by omega, by omega⟩]; refine ⟨_, _, _, rfl, ?_, rfl⟩
  by_cases h1 : (S : Int) = 11 ∨ (S : Int) = 13
  · rw [ifp h1]
  · rw [ifn h1]
theorem z70 (N : Nat) (hN : 2000 < N) (t : DataType) (hk : t.Kind = 1) (b : ByteArray) (hl1 : 1 ≤ t.Length ∧ t.Length ≤ 15) (hl : (b.size : Int) = t.Length / 2 + 1) :
 ∃ v a e, zbe N t b = some (v, a, e) ∧ (match zmb t b with | some n => v.N = n ∧ e = 0 | none => e ≠ 0) := by
 have hd : zmb t b = zv2 (zih (bl b)) t.Length := by unfold zmb; rw [ifn, ifp hk]
 have hzl : (zih (bl b)).length = 2 * b.size := by rw [zo4, zao]
 have hr := (zp6 (l := bl b)).1
 rw [hd]
 have zc := z24 (bl b)
 generalize zih (bl b) = l at *
 have hS : zkn l = l.getD (2 * b.size - 1) 0 := by unfold zkn; rw [hzl]
 generalize zkn l = S at *
 unfold zbe
 have lp := zb1 (f := zbe.r0 N) (fun i => (b, (if i = 2 * b.size then (if S = 11 ∨ S = 13 then -zfd (l.take (2 * b.size - 1)) else zfd (l.take (2 * b.size - 1))) else zfd (l.take i)), (i : Int), t, zpg))
  (fun i => if (if i = 2 * b.size - 1 then decide (S < 10) else (decide (l.getD i 0 > 9) || (decide (i = 0) && (decide (t.Length % 2 = 0) && decide (l.getD i 0 ≠ 0))))) = true then some (zpg, ((i / 2 : Nat) : Int), (21 : Int)) else none) (2 * b.size)
  (fun i hi => by
   obtain ⟨x, hx⟩ : ∃ x, (bl b)[i / 2]? = some x := zew (by rw [zao]; omega); have hxl := x.toNat_lt; have hxi := zc i x hx; have hxd : l.getD i 0 = ((if i % 2 = 1 then x.toNat % 16 else x.toNat / 16 : Nat) : Int) := by rw [gdd, hxi]; rfl
   have hf := zm3 (l.take i) _ (List.reverse_reverse _).symm fun d hd => hr d (List.mem_of_mem_take hd); have hpow : 10 ^ (l.take i).length ≤ 10 ^ 16 := zca (by rw [lnt]; omega); have hm : ((w6 (x.toNat : Int)).tmod 16) = ((x.toNat % 16 : Nat) : Int) := by rw [w6e, tme]; omega
   have hdv : w6 ((w6 (x.toNat : Int)).tdiv 16) = ((x.toNat / 16 : Nat) : Int) := by rw [w6e (n := (x.toNat : Int)), tde, w6e]; omega
   have hnext : zfd (l.take (i + 1)) = 10 * zfd (l.take i) + l.getD i 0 := by rw [zef _ _ hxi, zog, hxd]; omega
   have hidx : w6 ((i : Int).tdiv 2) = ((i / 2 : Nat) : Int) := by rw [tde, w6e]; omega
   have hpar : ((i : Int).tmod 2 == 1) = decide (i % 2 = 1) := by rw [tme, zar]; simp only [decide_eq_decide]; omega
   have hev : (t.Length.tmod 2 == 0) = decide (t.Length % 2 = 0) := by rw [tme, zar]
   have hw1 : w6 (2 * (b.size : Int)) = ((2 * b.size : Nat) : Int) := by rw [w6e]; omega
   have hw2 : w6 (((2 * b.size : Nat) : Int) - 1) = ((2 * b.size - 1 : Nat) : Int) := by rw [w6e]; omega
   have hi0 : ((i : Int) == 0) = decide (i = 0) := by rw [zar]; simp only [decide_eq_decide]; omega
   have hil : ((i : Int) == ((2 * b.size - 1 : Nat) : Int)) = decide (i = 2 * b.size - 1) := by rw [zar]; simp only [decide_eq_decide]; omega
   have sg := z0v (zfd (l.take i)) (l.getD i 0) ⟨by omega, by omega⟩; rw [hxd] at hnext sg ⊢; simp only [zbe.r0, zbe.b0, hw1, hw2, dct (show (i : Int) < ((2 * b.size : Nat) : Int) by omega), ctr, hidx, zht, hx, obs, hm, hdv, hpar, hev, hi0, hil]; rw [w6e (n := (i : Int) + 1), ifn (show ¬ i = 2 * b.size by omega)]
   by_cases hp : i % 2 = 1
   · rw [ifp hp] at hnext sg; rw [dct hp, ctr]; simp only [ifp hp]; have hH : x.toNat % 16 < 16 := by omega
     by_cases hl : i = 2 * b.size - 1
     · have hSx : S = ((x.toNat % 16 : Nat) : Int) := by rw [hS, ← hl, hxd, ifp hp]
       rw [dct hl, ifp hl, ifp (show i + 1 = 2 * b.size by omega), ← hl, hSx, sg, dcf (show ¬ i = 0 by omega)]; simp only [ctr, cfa, obs]; cases h1 : decide (((x.toNat % 16 : Nat) : Int) < 10) <;> rfl
     · rw [dcf hl, ifn hl, ifn (show ¬ i + 1 = 2 * b.size by omega), hnext, dcf (show ¬ i = 0 by omega)]; generalize x.toNat % 16 = h at *; generalize zfd (l.take i) = F at *; simp only [ctr, cfa, obs, Bool.false_and, Bool.or_false]; rw [w6e (n := 10 * F), w6e (n := 10 * F + (h : Int))]; cases h1 : decide ((h : Int) > 9) <;> rfl
   · rw [ifn hp] at hnext sg; rw [dcf hp, cfa]; simp only [ifn hp]; have hl : ¬ i = 2 * b.size - 1 := by omega
     have hH : x.toNat / 16 < 16 := by omega
     rw [dcf hl, ifn hl, ifn (show ¬ i + 1 = 2 * b.size by omega), hnext]; generalize x.toNat / 16 = h at *; generalize zfd (l.take i) = F at *; simp only [ctr, cfa, obs]; rw [w6e (n := 10 * F), w6e (n := 10 * F + (h : Int)), zb6]; cases h1 : decide ((h : Int) > 9) <;> cases h2 : decide (i = 0) <;> cases h3 : decide (t.Length % 2 = 0) <;> cases h4 : decide ((h : Int) ≠ 0) <;> rfl)
  (by
   have hw1 : w6 (2 * (b.size : Int)) = ((2 * b.size : Nat) : Int) := by rw [w6e]; omega
   simp only [zbe.r0, zbe.b0, hw1, dcf (show ¬ ((2 * b.size : Nat) : Int) < ((2 * b.size : Nat) : Int) by omega), cfa]) (N := N) (by omega)
 simp only [List.take_zero, nc0, if_true] at lp
 rw [show zfd [] = 0 from rfl, ifn (show ¬ 0 = 2 * b.size by omega)] at lp
 rw [show (⟨0, (⟨#[]⟩ : ByteArray)⟩ : Value) = zpg from rfl, lp]
 simp only [obs]
 have ha := z4b (2 * b.size) (fun i => (if i = 2 * b.size - 1 then decide (S < 10) else (decide (l.getD i 0 > 9) || (decide (i = 0) && (decide (t.Length % 2 = 0) && decide (l.getD i 0 ≠ 0)))))) (fun i => (zpg, ((i / 2 : Nat) : Int), (21 : Int)))
 have hc : (List.range (2 * b.size)).any (fun i => (if i = 2 * b.size - 1 then decide (S < 10) else (decide (l.getD i 0 > 9) || (decide (i = 0) && (decide (t.Length % 2 = 0) && decide (l.getD i 0 ≠ 0)))))) = ((List.range (l.length - 1)).any (ziz l t.Length) || decide (S < 10)) := by
  rw [hzl, Bool.eq_iff_iff, Bool.or_eq_true, List.any_eq_true, List.any_eq_true]; have key : ∀ i, i < 2 * b.size - 1 → (decide (l.getD i 0 > 9) || (decide (i = 0) && (decide (t.Length % 2 = 0) && decide (l.getD i 0 ≠ 0)))) = ziz l t.Length i := by
   intro i hi; unfold ziz; have hxi : l[i]? = some (l.getD i 0) := by rw [gdd, lge (by omega)]; rfl
   have := hr _ (lmg hxi); rw [hzl]; rw [Bool.eq_iff_iff]; simp only [Bool.or_eq_true, Bool.and_eq_true, decide_eq_true_eq]; omega
  constructor
  · rintro ⟨i, hi, hb⟩
    have hi' := List.mem_range.1 hi; split at hb
    · exact .inr hb
    · rw [key i (by omega)] at hb; exact .inl ⟨i, List.mem_range.2 (by omega), hb⟩
  · rintro (⟨i, hi, hb⟩ | hb)
    · have hi' := List.mem_range.1 hi; refine ⟨i, List.mem_range.2 (by omega), ?_⟩; rw [ifn, key i hi']; exact hb
    · exact ⟨2 * b.size - 1, List.mem_range.2 (by omega), by rw [ifp rfl]; exact hb⟩
 rw [ha] at hc
 unfold zv2
 rw [show zkn l = S by unfold zkn; rw [hzl]; exact hS.symm]
 cases hf : (List.range (2 * b.size)).findSome? (fun i => if (if i = 2 * b.size - 1 then decide (S < 10) else (decide (l.getD i 0 > 9) || (decide (i = 0) && (decide (t.Length % 2 = 0) && decide (l.getD i 0 ≠ 0))))) = true then some (zpg, ((i / 2 : Nat) : Int), (21 : Int)) else none) with
 | some r =>
  obtain ⟨i, _, hi⟩ := eof hf
  by_cases hq : (if i = 2 * b.size - 1 then decide (S < 10) else (decide (l.getD i 0 > 9) || (decide (i = 0) && (decide (t.Length % 2 = 0) && decide (l.getD i 0 ≠ 0))))) = true
  · rw [ifp hq] at hi; cases hi; rw [hf] at hc; have hc' : ((List.range (l.length - 1)).any (ziz l t.Length) || decide (S < 10)) = true := hc.symm; rw [Bool.or_eq_true, decide_eq_true_eq] at hc'; rw [ifp hc']; exact ⟨_, _, _, rfl, by decide⟩
  · rw [ifn hq] at hi; cases hi
 | none =>
  rw [hf] at hc; have hc' : ((List.range (l.length - 1)).any (ziz l t.Length) || decide (S < 10)) = false := hc.symm; rw [Bool.or_eq_false_iff, decide_eq_false_iff_not] at hc'; have hnc : ¬ ((List.range (l.length - 1)).any (ziz l t.Length) = true ∨ S < 10) := by rw [hc'.1]; simpa using hc'.2
  rw [ifn hnc, hzl]; exact ⟨_, _, _, rfl, rfl, rfl⟩
theorem z72 (N : Nat) (hN : 2000 < N) {t : DataType} (ht : ziy t) {b : ByteArray} (hb : (b.size : Int) = szE t) :
 ∃ v a e, zkp N t b = some (v, a, e) ∧ (match zmb t b with | some n => v.N = n ∧ e = 0 | none => e ≠ 0) := by
 obtain ⟨⟨l1, l2⟩, l3, l4⟩ := zgo ht
 have hsz := zqy ht
 have ht' := ht
 obtain ⟨h0, h1, h2⟩ := ht'
 unfold zkp
 rw [zz6, h0]
 simp only [obs, bsf, cfa, zar]
 rw [dcf (show ¬ t.Kind = 4 by omega), dcf (show ¬ t.Kind = 0 by omega), zjr h0]
 simp only [obs, cfa]
 rw [hb]
 simp only [bsf, cfa]
 by_cases hk : t.Kind = 3
 · rw [dct hk, ctr]; have hs4 : b.size ≤ 4 ∧ 0 < b.size := by
    rw [hsz, ifn, ifp hk] at hb; split at hb <;> omega
   have hbig : zc7 N b 0 (szE t) = some ((beV (bl b) : Nat) : Int) := by
    have := zwh N (by omega) b 0 b.size (by omega) (by omega) (by omega); rw [dr0, ← zao, List.take_length, zao, hb] at this; exact this
   obtain ⟨x0, hx0⟩ : ∃ x, (bl b)[0]? = some x := zew (by rw [zao]; omega); have i0 : zg6 b 0 = some x0 := by rw [show (0 : Int) = ((0 : Nat) : Int) from rfl, zht, hx0]
   have hx00 : (bl b).getD 0 0 = x0 := by rw [gdd, hx0]; rfl
   have hp := z2i N (by omega) t.Length.toNat (by omega); rw [Int.toNat_of_nonneg (by omega)] at hp; have hp2 : 10 ^ t.Length.toNat ≤ 10 ^ 15 := zca (by omega); have hp3 := zcg t.Length.toNat; have hv := zzz (bl b); have hv2 : 256 ^ (bl b).length ≤ 256 ^ 4 := Nat.pow_le_pow_right (by decide) (by rw [zao]; omega); rw [hbig, i0]; simp only [obs, zj0, hp]; have hbd : zls (bl b) = if 128 ≤ x0.toNat then (beV (bl b) : Int) - (256 ^ (bl b).length : Nat) else (beV (bl b) : Int) := by unfold zls; rw [hx00]
   unfold zmb; rw [ifp hk, hbd]; have hsz8 : w6 (8 * szE t) = ((8 * b.size : Nat) : Int) := by rw [← hb, w6e]; omega
   rw [hsz8]; have hpow : (1 : Int) * 2 ^ (min (((8 * b.size : Nat) : Int)).toNat 64) = ((256 ^ (bl b).length : Nat) : Int) := by
    rw [itn, Nat.min_eq_left (by omega), Int.one_mul, zao, show (256 : Nat) = 2 ^ 8 from rfl, ← Nat.pow_mul, Int.natCast_pow]; rfl
   rw [hpow]; generalize 256 ^ (bl b).length = P at *; generalize 10 ^ t.Length.toNat = T at *; rw [w6e (n := (T : Int) - 1), w6e (n := 0 - ((T : Int) - 1)), w6e (n := (P : Int))]
   by_cases hx : 128 ≤ x0.toNat
   · rw [dct (show (x0.toNat : Int) ≥ 128 by omega), ctr, ifn, ifp hx, w6e, zgy]; simp only [obs]
     by_cases hr : -(T : Int) < (beV (bl b) : Int) - (P : Int) ∧ (beV (bl b) : Int) - (P : Int) < (T : Int)
     · rw [ifp hr, za6.2 ⟨by omega, by omega⟩]; exact ⟨_, _, _, rfl, rfl, rfl⟩
     · rw [ifn hr, show inB ((beV (bl b) : Int) - (P : Int)) (0 - ((T : Int) - 1)) ((T : Int) - 1) = false by
        cases hb : inB ((beV (bl b) : Int) - (P : Int)) (0 - ((T : Int) - 1)) ((T : Int) - 1) with
        | false => rfl
        | true => have := za6.1 hb; omega]
       exact ⟨_, _, _, rfl, by decide⟩
   · rw [dcf (show ¬ (x0.toNat : Int) ≥ 128 by omega), cfa, ifn hx, zgy]; simp only [obs]
     by_cases hr : -(T : Int) < (beV (bl b) : Int) ∧ (beV (bl b) : Int) < (T : Int)
     · rw [ifp hr, za6.2 ⟨by omega, by omega⟩]; exact ⟨_, _, _, rfl, rfl, rfl⟩
     · rw [ifn hr, show inB ((beV (bl b) : Int)) (0 - ((T : Int) - 1)) ((T : Int) - 1) = false by
        cases hb : inB ((beV (bl b) : Int)) (0 - ((T : Int) - 1)) ((T : Int) - 1) with
        | false => rfl
        | true => have := za6.1 hb; omega]
       exact ⟨_, _, _, rfl, by decide⟩
 · rw [dcf hk, cfa]
   by_cases hk2 : t.Kind = 2
   · rw [dct hk2, ctr]; have hl : (b.size : Int) = t.Length := by rw [hb, hsz, ifn, ifn hk]
     obtain ⟨v, a, e, g1, g2⟩ := z9w N hN t hk2 b (by omega) (by omega) hl; rw [g1]; exact ⟨_, _, _, rfl, g2⟩
   · rw [dcf hk2, cfa]; have hk1 : t.Kind = 1 := by omega
     obtain ⟨v, a, e, g1, g2⟩ := z70 N hN t hk1 b ⟨l1, l2⟩ (by rw [hb, hsz, ifp hk1]); rw [g1]; exact ⟨_, _, _, rfl, g2⟩
end
end Go.Proofs.YtppbpnknfigboaaGreatDoor.M
