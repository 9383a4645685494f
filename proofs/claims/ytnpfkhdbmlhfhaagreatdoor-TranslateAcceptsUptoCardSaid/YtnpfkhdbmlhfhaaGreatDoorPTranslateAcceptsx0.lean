/- The plain law of TranslateAccepts: part 0. -/
import Derived.Test.YtnpfkhdbmlhfhaaGreatDoorF2
import Derived.Test.YtnpfkhdbmlhfhaaGreatDoorA4
import Derived.Lib.Strings
namespace Go.Proofs.YtnpfkhdbmlhfhaaGreatDoor.M
open Go Go.Amx
set_option linter.unusedVariables false
set_option linter.unusedSimpArgs false
set_option maxRecDepth 100000
noncomputable section
theorem obs {α β : Type} (a : α) (f : α → Option β) : (some a).bind f = f a := rfl
theorem dct {p : Prop} [Decidable p] (h : p) : decide p = true := decide_eq_true h
theorem dcf {p : Prop} [Decidable p] (h : ¬ p) : decide p = false := decide_eq_false h
theorem lna {α : Type} {a b : List α} : (a ++ b).length = a.length + b.length := List.length_append
theorem lns {α : Type} {a : α} : [a].length = 1 := List.length_singleton
theorem lge {α : Type} {l : List α} {i : Nat} (h : i < l.length) : l[i]? = some l[i] := List.getElem?_eq_getElem h
theorem itn (n : Nat) : Int.toNat (n : Int) = n := Int.toNat_natCast n
theorem ctr {α : Sort _} (a b : α) : cond true a b = a := rfl
theorem cfa {α : Sort _} (a b : α) : cond false a b = b := rfl
theorem ifp {c : Prop} {h : Decidable c} (hc : c := by omega) {α : Sort _} {t e : α} : ite c t e = t := if_pos hc
theorem ifn {c : Prop} {h : Decidable c} (hc : ¬c := by omega) {α : Sort _} {t e : α} : ite c t e = e := if_neg hc
theorem bsf {α : Type _} [BEq α] [LawfulBEq α] (a : α) : (a != a) = false := bne_self_eq_false a
theorem tde {a b : Int} (h : 0 ≤ a := by omega) : a.tdiv b = a / b := Int.tdiv_eq_ediv_of_nonneg h
theorem tme {a b : Int} (h : 0 ≤ a := by omega) : a.tmod b = a % b := Int.tmod_eq_emod_of_nonneg h
theorem lnt {α : Type _} {i : Nat} {l : List α} : (l.take i).length = min i l.length := List.length_take
theorem lnr {α : Type _} {n : Nat} {a : α} : (List.replicate n a).length = n := List.length_replicate
theorem gdd {α : Type _} {l : List α} {i : Nat} {a : α} : l.getD i a = l[i]?.getD a := List.getD_eq_getElem?_getD
theorem cbc {p : Prop} (h : ¬p → False) : p := Classical.byContradiction h
theorem lnc {α : Type _} {a : α} {l : List α} : (a :: l).length = l.length + 1 := List.length_cons
theorem gei {α : Type _} {i : Nat} {a : α} {l : List α} (h : l[i]? = some a) : ∃ h : i < l.length, l[i] = a := List.getElem?_eq_some_iff.1 h
theorem eof {α β : Type _} {b : β} {f : α → Option β} {l : List α} (h : l.findSome? f = some b) : ∃ a, a ∈ l ∧ f a = some b := List.exists_of_findSome?_eq_some h
theorem ln0 {α : Type _} : ([] : List α).length = 0 := rfl
theorem lnm {α β : Type _} {l : List α} (f : α → β) : (l.map f).length = l.length := List.length_map f
theorem dr0 {α : Type _} {l : List α} : l.drop 0 = l := rfl
theorem bsa {a b : ByteArray} : (a ++ b).size = a.size + b.size := ByteArray.size_append
theorem bnt : (!true) = false := rfl
theorem mel {a b : Nat} (h : a < b) : a % b = a := Nat.mod_eq_of_lt h
theorem nc0 : ((0 : Nat) : Int) = 0 := Int.natCast_zero
theorem bst {α : Type _} [BEq α] [ReflBEq α] (a : α) : (a == a) = true := beq_self_eq_true a
theorem lmg {α : Type _} {l : List α} {i : Nat} {a : α} (h : l[i]? = some a) : a ∈ l := List.mem_of_getElem? h
theorem w6e {n : Int} (h1 : -9223372036854775808 ≤ n := by omega) (h2 : n ≤ 9223372036854775807 := by omega) : w6 n = n := z6a h1 h2
theorem zt5 (N : Nat) (l : List Int) (h : l.length < N) (hl : l.length < 1000000000) : zar N l = some (zdt l) := by
 unfold zar
 have := zbh (f := zar.r0 N) (fun i => (l, (l.length : Int), (i : Int))) (fun i => (l[i]?).bind fun x => if x = 0 then none else some x) l.length
  (fun i hi => by
   have hx := lge hi; simp only [zar.r0, zar.b0, zx, hx, obs, dct (show (i : Int) < (l.length : Int) by omega), ctr]
   by_cases h0 : l[i] = 0
   · simp only [h0, bsf, cfa, if_true]; rw [w6e]; rfl
   · simp only [h0, if_false]; rw [show (l[i] != 0) = true by simpa using h0]; rfl)
  (by simp only [zar.r0, zar.b0, dcf (show ¬ (l.length : Int) < (l.length : Int) by omega), cfa]) h
 simp only [nc0] at this
 rw [this, zhk, ← zoz]
 simp only [obs]
 cases l.findSome? (fun x => if x = 0 then none else some x) <;> rfl
theorem z3q (N : Nat) (l : List Int) (h : l.length < N) (hl : l.length < 1000000000) : za0 N l = some (zdt l) := by
 unfold za0
 have := zbh (f := za0.r0 N) (fun i => (l, (l.length : Int), (i : Int))) (fun i => (l[i]?).bind fun x => if x = 0 then none else some x) l.length
  (fun i hi => by
   have hx := lge hi; simp only [za0.r0, za0.b0, zx, hx, obs, dct (show (i : Int) < (l.length : Int) by omega), ctr]
   by_cases h0 : l[i] = 0
   · simp only [h0, bsf, cfa, if_true]; rw [w6e]; rfl
   · simp only [h0, if_false]; rw [show (l[i] != 0) = true by simpa using h0]; rfl)
  (by simp only [za0.r0, za0.b0, dcf (show ¬ (l.length : Int) < (l.length : Int) by omega), cfa]) h
 simp only [nc0] at this
 rw [this, zhk, ← zoz]
 simp only [obs]
 cases l.findSome? (fun x => if x = 0 then none else some x) <;> rfl
def inB (n lo hi : Int) : Bool := decide (lo ≤ n) && decide (n ≤ hi)
theorem zox (n lo hi : Int) : zbi n lo hi = some (inB n lo hi) := by
 unfold zbi inB
 cases decide (lo ≤ n) <;> rfl
theorem z4g (n lo hi : Int) : zed n lo hi = some (inB n lo hi) := by
 unfold zed inB
 cases decide (lo ≤ n) <;> rfl
theorem ziw (n lo hi : Int) : zl n lo hi = some (inB n lo hi) := by
 unfold zl inB
 cases decide (lo ≤ n) <;> rfl
theorem zp1 (b : Bool) (e : Int) : zbz b e = some (cond b e 0) := by cases b <;> rfl
theorem zze (b : Bool) (e : Int) : zbu b e = some (cond b e 0) := by cases b <;> rfl
theorem zn3 (b : Bool) : zc4 b = some (cond b 1 0) := by cases b <;> rfl
theorem zq0 (m : zI) : ∃ e, zdk m = some e ∧ zgc m = some e ∧ (e = 0 → 2 ≤ m.Registers ∧ m.Registers ≤ 8) := by
 refine ⟨cond (!inB m.Registers 2 8) 3 0, ?_, ?_, ?_⟩
 · simp only [zdk, zox, zp1, obs]
 · simp only [zgc, ziw, obs]; cases inB m.Registers 2 8 <;> rfl
 · intro h; cases hb : inB m.Registers 2 8 with
   | false => rw [hb] at h; cases h
   | true => simpa [inB] using hb
def zbn (t : DataType) : Int :=
 if t.Kind = 0 then (if inB t.Length 1 256 then (if t.Scale = 0 then 0 else 3) else 18)
 else if t.Kind = 1 ∨ t.Kind = 2 then (if inB t.Length 1 15 then (if inB t.Scale 0 t.Length then 0 else 3) else 18)
 else if t.Kind = 3 then (if t.Length = 4 ∨ t.Length = 9 then (if inB t.Scale 0 t.Length then 0 else 3) else 18)
 else if t.Kind = 4 then (if t.Length = 0 then (if t.Scale = 0 then 0 else 3) else 18)
 else 4
theorem z60 (a b : Bool) (x y : Int) (hx : x ≠ 0) (hy : y ≠ 0) : zdt [cond a x 0, cond b y 0] = cond a x (cond b y 0) := by
 cases a <;> cases b <;> simp [zdt, hx, hy]
theorem zss (N : Nat) (hN : 10 < N) (t : DataType) : zbp N t = some (zbn t) := by
 have f2 : ∀ a b : Int, za0 N [a, b] = some (zdt [a, b]) := fun a b => z3q N _ (by simp; omega) (by simp)
 unfold zbp zbn
 simp only [z4g, zze, f2, obs, z60 _ _ 18 3 (by decide) (by decide)]
 by_cases h0 : t.Kind = 0
 · simp only [h0, bst, ctr, if_true]; cases inB t.Length 1 256 <;> by_cases hs : t.Scale = 0 <;> simp [zcl, hs]
 · simp only [beq_eq_false_iff_ne.2 h0, h0, cfa, if_false]
   by_cases h1 : t.Kind = 1
   · simp only [h1, bst, ctr, true_or, if_true, obs]; cases inB t.Length 1 15 <;> cases inB t.Scale 0 t.Length <;> simp
   · by_cases h2 : t.Kind = 2
     · simp only [h2, h1]; cases inB t.Length 1 15 <;> cases inB t.Scale 0 t.Length <;> simp
     · by_cases h3 : t.Kind = 3
       · simp only [h3]
         by_cases h4 : t.Length = 4 <;> by_cases h5 : t.Length = 9 <;> cases inB t.Scale 0 t.Length <;> simp [zcl, h4, h5]
       · by_cases h4 : t.Kind = 4
         · simp only [h4]
           by_cases h5 : t.Length = 0 <;> by_cases h6 : t.Scale = 0 <;> simp [zcl, h5, h6]
         · simp [zcl, h1, h2, h3, h4]
theorem zqo (k : Int) : zck k = some (inB k 1 3) := by simp only [zck, ziw, obs]
theorem zzb (t : DataType) : zf2 t = some (zbn t) := by
 have w0' : w6 0 = 0 := by decide
 have w1 : w6 3 = 3 := by decide
 have hz : inB t.Scale 0 0 = decide (t.Scale = 0) := by
  unfold inB
  by_cases h : t.Scale = 0
  · simp [h]
  · simp only [h, decide_false]
    by_cases h1 : 0 ≤ t.Scale
    · simp [h1, show ¬ t.Scale ≤ 0 by omega]
    · simp [h1]
 unfold zf2 zbn
 simp only [ziw, zqo, zn3, obs, hz]
 by_cases h0 : t.Kind = 0
 · have e : inB (0 : Int) 0 4 = true := by decide
   have e' : inB (0 : Int) 1 3 = false := by decide
   simp only [h0, e, e']; cases inB t.Length 1 256 <;> by_cases hs : t.Scale = 0 <;> simp [zcl, hs, w0', w1]
 · by_cases h1 : t.Kind = 1
   · have e : inB (1 : Int) 0 4 = true := by decide
     have e' : inB (1 : Int) 1 3 = true := by decide
     simp only [h1, e, e']; cases inB t.Length 1 15 <;> cases inB t.Scale 0 t.Length <;> simp [w0', w1]
   · by_cases h2 : t.Kind = 2
     · have e : inB (2 : Int) 0 4 = true := by decide
       have e' : inB (2 : Int) 1 3 = true := by decide
       simp only [h2, e, e']; cases inB t.Length 1 15 <;> cases inB t.Scale 0 t.Length <;> simp [w0', w1]
     · by_cases h3 : t.Kind = 3
       · have e : inB (3 : Int) 0 4 = true := by decide
         have e' : inB (3 : Int) 1 3 = true := by decide
         simp only [h3, e, e']
         by_cases h4 : t.Length = 4 <;> by_cases h5 : t.Length = 9 <;> cases inB t.Scale 0 t.Length <;> simp [zcl, h4, h5, w0', w1]
       · by_cases h4 : t.Kind = 4
         · have e : inB (4 : Int) 0 4 = true := by decide
           have e' : inB (4 : Int) 1 3 = false := by decide
           simp only [h4, e, e']
           by_cases h5 : t.Length = 0 <;> by_cases h6 : t.Scale = 0 <;> simp [zcl, h5, h6, w0', w1]
         · have e : inB t.Kind 0 4 = false := by
            unfold inB
            by_cases hh : 0 ≤ t.Kind
            · simp only [hh, decide_true, Bool.true_and, decide_eq_false_iff_not]; omega
            · simp [hh]
           simp [zcl, h0, h1, h2, h3, h4, e]
theorem zda {n lo hi : Int} : inB n lo hi = true ↔ lo ≤ n ∧ n ≤ hi := by simp [inB]
theorem zi9 {t : DataType} (h : zbn t = 0) : (t.Kind = 0 ∧ 1 ≤ t.Length ∧ t.Length ≤ 256) ∨ ((t.Kind = 1 ∨ t.Kind = 2) ∧ 1 ≤ t.Length ∧ t.Length ≤ 15) ∨ (t.Kind = 3 ∧ (t.Length = 4 ∨ t.Length = 9)) ∨ (t.Kind = 4 ∧ t.Length = 0) := by
 unfold zbn at h
 split at h
 · rename_i h0; split at h
   · rename_i h1; exact .inl ⟨h0, (zda.1 h1).1, (zda.1 h1).2⟩
   · cases h
 · split at h
   · rename_i h0; split at h
     · rename_i h1; exact .inr (.inl ⟨h0, (zda.1 h1).1, (zda.1 h1).2⟩)
     · cases h
   · split at h
     · rename_i h0; split at h
       · rename_i h1; exact .inr (.inr (.inl ⟨h0, h1⟩))
       · cases h
     · split at h
       · rename_i h0; split at h
         · rename_i h1; exact .inr (.inr (.inr ⟨h0, h1⟩))
         · cases h
       · cases h
def szE (t : DataType) : Int := if t.Kind = 1 then t.Length / 2 + 1 else if t.Kind = 3 then (if t.Length = 9 then 4 else 2) else if t.Kind = 4 then 16 else t.Length
theorem zpu {t : DataType} (h : zbn t = 0) : 0 < szE t ∧ szE t ≤ 256 := by
 unfold szE
 rcases zi9 h with ⟨h0, h1, h2⟩ | ⟨h0 | h0, h1, h2⟩ | ⟨h0, h1 | h1⟩ | ⟨h0, h1⟩ <;> simp only [h0] <;> simp <;> omega
theorem znv {t : DataType} (h : zbn t = 0) : zdl t = some (szE t) := by
 unfold zdl szE
 rcases zi9 h with ⟨h0, h1, h2⟩ | ⟨h0 | h0, h1, h2⟩ | ⟨h0, h1 | h1⟩ | ⟨h0, h1⟩ <;> simp only [h0, h1, zcl, zn3] <;> simp
 · rw [tde, w6e (n := t.Length / 2), w6e]
 · decide
 · decide
theorem zzd {t : DataType} (h : zbn t = 0) : zgs t = some (szE t) := by
 unfold zgs szE
 rcases zi9 h with ⟨h0, h1, h2⟩ | ⟨h0 | h0, h1, h2⟩ | ⟨h0, h1 | h1⟩ | ⟨h0, h1⟩ <;> simp only [h0, h1, zcl] <;> simp
 · rw [tde, w6e (n := t.Length / 2), w6e]
 · decide
 · decide
theorem z5q (N : Nat) (hN : 10 < N) {t : DataType} (h : zbn t = 0) : zh9 N t = some (szE t) := by
 unfold zh9 zd8
 rw [zss N hN, h]
 simp [zzd h]
structure StoOk (s : Storage) : Prop where
 le : s.Bytes.size ≤ 1024
 quad : s.Bytes.size % 16 = 0
def zj2 (s : Storage) (a : Int) : Bool := decide (0 ≤ a) && (decide (a % 16 = 0) && decide (a < (s.Bytes.size : Int)))
theorem zzh (s : Storage) (a : Int) : zdf s a = some (zj2 s a) := by
 unfold zdf zj2
 by_cases h : 0 ≤ a
 · rw [tme h]; simp only [ge_iff_le, h, decide_true, ctr, obs, zcl, Bool.true_and]; cases decide (a % 16 = 0) <;> rfl
 · simp [h]
theorem zzc {s : Storage} (ok : StoOk s) (a : Int) : zeo s a = some (zj2 s a) := by
 have h1 := ok.le
 have h2 := ok.quad
 unfold zeo zj2
 rw [w6e, ziw]
 simp only [obs]
 by_cases h : 0 ≤ a
 · rw [tme h]; simp only [inB, h, decide_true, Bool.true_and, zcl]
   by_cases h3 : a % 16 = 0
   · have e : decide (a ≤ (s.Bytes.size : Int) - 16) = decide (a < (s.Bytes.size : Int)) := by
      by_cases h4 : a < (s.Bytes.size : Int)
      · rw [dct h4]; exact dct (by omega)
      · rw [dcf h4]; exact dcf (by omega)
     simp only [h3, decide_true, Bool.true_and, e]; cases decide (a < (s.Bytes.size : Int)) <;> rfl
   · simp only [h3, decide_false, Bool.false_and]; cases decide (a ≤ (s.Bytes.size : Int) - 16) <;> rfl
 · simp [inB, h]
def zhv (s : Storage) (p : zL) (n : Int) : Bool := if p.Based then zj2 s p.Pointer && inB p.Offset 0 256 else inB p.Offset 0 ((s.Bytes.size : Int) - n)
theorem zx0 {s : Storage} (ok : StoOk s) (N : Nat) (hN : 10 < N) (p : zL) {t : DataType} (h : zbn t = 0) : zc3 N s p t = some (zhv s p (szE t)) := by
 obtain ⟨h1, h2⟩ := zpu h
 have h3 := ok.le
 unfold zc3 zhv
 rw [zzh, z5q N hN h, zox]
 simp only [obs]
 rw [w6e]
 simp only [zox, obs]
 cases p.Based <;> cases zj2 s p.Pointer <;> simp
theorem zxe {s : Storage} (ok : StoOk s) {c : zF} (hc : c.Storage = s) (p : zL) (hp : -9223372036854775808 ≤ p.Offset ∧ p.Offset ≤ 9223372036854775807) {t : DataType} (h : zbn t = 0) : zd1 c p (szE t) = some (zhv s p (szE t)) := by
 obtain ⟨h1, h2⟩ := zpu h
 have h3 := ok.le
 unfold zd1 zhv zfj
 rw [hc]
 simp only [zzc ok, ziw, obs]
 cases p.Based with
 | true => cases zj2 s p.Pointer <;> simp
 | false =>
  simp only [cfa]
  by_cases h4 : inB p.Offset 0 (s.Bytes.size : Int) = true
  · obtain ⟨h5, h6⟩ := zda.1 h4; rw [w6e]; simp only [h4, ctr, obs, Bool.false_eq_true, if_false]
    congr 1
    unfold inB; simp only [h5, decide_true, Bool.true_and, show (0 : Int) ≤ szE t by omega]
    by_cases h7 : szE t ≤ (s.Bytes.size : Int) - p.Offset
    · rw [dct h7]; exact (dct (by omega)).symm
    · rw [dcf h7]; exact (dcf (by omega)).symm
  · have e : inB p.Offset 0 (s.Bytes.size : Int) = false := by simpa using h4
    simp only [e, cfa, obs, Bool.false_eq_true, if_false]
    congr 1
    cases h5 : inB p.Offset 0 ((s.Bytes.size : Int) - szE t) with
    | false => rfl
    | true =>
     obtain ⟨h6, h7⟩ := zda.1 h5; exact absurd (zda.2 ⟨h6, by omega⟩) h4
def zqz (n : Number) : Int := cond (inB n.N (-999999999999999) 999999999999999 && inB n.Scale 0 15) 0 3
theorem z18 (n : Number) : ze9 n = some (zqz n) := by
 unfold ze9 zqz
 simp only [z4g, zze, obs]
 cases inB n.N (-999999999999999) 999999999999999 <;> cases inB n.Scale 0 15 <;> rfl
theorem z1v (n : Number) : zec n = some (zqz n) := by
 have w0 : w6 (3 * 0) = 0 := by decide
 have w1 : w6 (3 * 1) = 3 := by decide
 unfold zec zqz
 simp only [ziw, zn3, obs]
 cases inB n.N (-999999999999999) 999999999999999 <;> cases inB n.Scale 0 15 <;> simp [w0, w1, zn3] <;> decide
def z4l (op : Int) (ins : Bool) : Option zR :=
 (idx z0v op).bind fun x1 => (cond (op == 4) (some ins) (some false)).bind fun g2 =>
  cond g2 (some (⟨(orI .i64 (orI .i64 (zzv .i64 x1.fields 4) 8) 64), x1.types⟩ : zR)) (some x1)
theorem z61 (x : zC) : zbq x = z4l x.Op x.zK := rfl
def z4c (op : Int) (ins : Bool) : Option zN := zeb ⟨op, 0, 0, 0, 0, ⟨false, 0, 0⟩, ⟨false, 0, 0⟩, ⟨0, 0, 0⟩, ⟨0, 0, 0⟩, false, ins, ⟨0, 0⟩, ⟨#[]⟩, ⟨#[]⟩, 0, 0, 0, 0⟩
theorem z6b (x : zC) : zeb x = z4c x.Op x.zK := rfl
structure Agree (f : zR) (u : zN) : Prop where
 R : (zm .i64 f.fields 1 != 0) = u.R
 A : (zm .i64 f.fields 2 != 0) = u.A
 B : (zm .i64 f.fields 4 != 0) = u.B
 Place : (zm .i64 f.fields 8 != 0) = u.Place
 From : (zm .i64 f.fields 16 != 0) = u.From
 zD : (zm .i64 f.fields 32 != 0) = (u.zD != 0)
 Second : (zm .i64 f.fields 64 != 0) = (u.Second != 0)
 Half : (zm .i64 f.fields 128 != 0) = u.Half
 Number : (zm .i64 f.fields 256 != 0) = u.Number
 Text : (zm .i64 f.fields 512 != 0) = u.Text
 Other : (zm .i64 f.fields 1024 != 0) = u.Other
 Mask : (zm .i64 f.fields 2048 != 0) = u.Mask
 Target : (zm .i64 f.fields 4096 != 0) = u.Target
 Pointer : (zm .i64 f.fields 8192 != 0) = u.Pointer
 Source : (zm .i64 f.fields 16384 != 0) = u.Source
 Calc : (zm .i64 f.fields 32768 != 0) = u.zM
 class1 : u.zD = 0 ∨ u.zD = f.types
 class2 : u.Second = 0 ∨ u.Second = f.types
 cls : f.types = 0 ∨ f.types = 1 ∨ f.types = 2 ∨ f.types = 3
def zyl (f : zR) (u : zN) : Bool :=
 ((zm .i64 f.fields 1 != 0) == u.R) && (((zm .i64 f.fields 2 != 0) == u.A) && (((zm .i64 f.fields 4 != 0) == u.B) && (((zm .i64 f.fields 8 != 0) == u.Place) && (((zm .i64 f.fields 16 != 0) == u.From) &&
 (((zm .i64 f.fields 32 != 0) == (u.zD != 0)) && (((zm .i64 f.fields 64 != 0) == (u.Second != 0)) && (((zm .i64 f.fields 128 != 0) == u.Half) && (((zm .i64 f.fields 256 != 0) == u.Number) && (((zm .i64 f.fields 512 != 0) == u.Text) &&
 (((zm .i64 f.fields 1024 != 0) == u.Other) && (((zm .i64 f.fields 2048 != 0) == u.Mask) && (((zm .i64 f.fields 4096 != 0) == u.Target) && (((zm .i64 f.fields 8192 != 0) == u.Pointer) && (((zm .i64 f.fields 16384 != 0) == u.Source) &&
 (((zm .i64 f.fields 32768 != 0) == u.zM) && ((u.zD == 0 || u.zD == f.types) && ((u.Second == 0 || u.Second == f.types) && (f.types == 0 || (f.types == 1 || (f.types == 2 || f.types == 3))))))))))))))))))))
theorem z4a {f : zR} {u : zN} (h : zyl f u = true) : Agree f u := by
 simp only [zyl, Bool.and_eq_true, beq_iff_eq, Bool.or_eq_true] at h
 obtain ⟨h1, h2, h3, h4, h5, h6, h7, h8, h9, h10, h11, h12, h13, h14, h15, h16, h17, h18, h19⟩ := h
 exact ⟨h1, h2, h3, h4, h5, h6, h7, h8, h9, h10, h11, h12, h13, h14, h15, h16, h17, h18, h19⟩
def z0p (op : Int) (ins : Bool) : Bool := match z4l op ins, z4c op ins with
 | some f, some u => (zyl f u && ((!u.From || u.Second != 0) && (!u.Place || cond (op == 4) (u.Second != 0) (u.zD != 0)))) && (cond (op == 4) (u.R && u.A && u.zM && (u.Place == ins) && (u.Second != 0) == ins) (u.zM == false))
 | _, _ => false
theorem z6q : ((List.range 27).all fun k => z0p (k : Int) true && z0p (k : Int) false) = true := by kernel_rfl
theorem zv7 (x : zC) (h : inB x.Op 0 26 = true) : ∃ f u, zbq x = some f ∧ zeb x = some u ∧ Agree f u ∧ (x.Op = 4 → u.Place = x.zK) ∧ (u.From = true → u.Second ≠ 0) ∧ (u.Place = true → if x.Op = 4 then u.Second ≠ 0 else u.zD ≠ 0) := by
 obtain ⟨h1, h2⟩ := zda.1 h
 obtain ⟨k, hk⟩ : ∃ k : Nat, x.Op = (k : Int) := ⟨x.Op.toNat, by omega⟩
 have hlt : k < 27 := by omega
 have h3 := List.all_eq_true.1 z6q k (by simpa using hlt)
 have h4 : z0p x.Op x.zK = true := by
  rw [hk]; cases x.zK
  · exact ((Bool.and_eq_true _ _).mp h3).2
  · exact ((Bool.and_eq_true _ _).mp h3).1
 rw [z61, z6b]
 unfold z0p at h4
 split at h4
 · rename_i f u hf hu; obtain ⟨h5, h6⟩ := (Bool.and_eq_true _ _).mp h4; simp only [Bool.and_eq_true] at h5; obtain ⟨h5, h8, h9⟩ := h5; refine ⟨f, u, hf, hu, z4a h5, fun h7 => ?_, fun h7 => ?_, fun h7 => ?_⟩
   · rw [h7] at h6; simp only [bst, ctr, Bool.and_eq_true, beq_iff_eq] at h6; exact h6.1.2
   · rw [h7] at h8; simpa using h8
   · rw [h7] at h9; split
     · rename_i h10; rw [h10] at h9; simpa using h9
     · rename_i h10; rw [zcl, dcf h10] at h9; simpa using h9
 · cases h4
theorem zqa (a b : Int) : (a == b) = !(a != b) := by simp [bne]
def zk3 (x : zC) (u : zN) : Bool :=
 (!u.R && x.R != 0) || ((!u.A && x.A != 0) || ((!u.B && x.B != 0) || ((!u.zM && x.zM != 0) || ((!u.Place && !(!x.Place.Based && (x.Place.Pointer == 0 && x.Place.Offset == 0))) ||
 ((!u.From && !(!x.From.Based && (x.From.Pointer == 0 && x.From.Offset == 0))) || ((u.zD == 0 && !(x.zD.Kind == 0 && (x.zD.Length == 0 && x.zD.Scale == 0))) || ((u.Second == 0 && !(x.Second.Kind == 0 && (x.Second.Length == 0 && x.Second.Scale == 0))) ||
 ((!u.Half && x.Half) || ((x.Op != 4 && x.zK) || ((!u.Number && !(x.Number.N == 0 && x.Number.Scale == 0)) || ((!u.Text && !(x.Text.toList == [])) || ((!u.Other && !(x.Other.toList == [])) ||
 ((!u.Mask && x.Mask != 0) || ((!u.Target && x.Target != 0) || ((!u.Pointer && x.Pointer != 0) || ((!u.Source && x.Source != 0) || ((!x.Place.Based && x.Place.Pointer != 0) || (!x.From.Based && x.From.Pointer != 0))))))))))))))))))
theorem orB (a b : Bool) : (cond a (some true) (some b)) = some (a || b) := by cases a <;> rfl
theorem zg7 (a b : Bool) : (cond a (some b) (some false)) = some (a && b) := by cases a <;> rfl
theorem z3i (x : zC) (u : zN) : zhh x u = some (zk3 x u) := by
 unfold zhh zk3
 have e : (⟨#[]⟩ : ByteArray).toList = [] := by kernel_rfl
 simp only [zg7, orB, obs, zbx, Bool.and_true, e, Bool.or_assoc, beq_false]
def zm9 (p : zL) (b : Bool) : zL := cond b (cond p.Based p ⟨p.Based, 0, p.Offset⟩) ⟨false, 0, 0⟩
theorem z2d (p : zL) (b : Bool) : zgg p b = some (zm9 p b) := by
 unfold zgg zm9
 cases b <;> cases p.Based <;> rfl
theorem z75 (k v fl : Int) : zcb k v fl = some (cond (zm .i64 fl k != 0) v 0) := by
 unfold zcb
 rw [zqa]
 cases (zm .i64 fl k != 0) <;> rfl
def zwm (x : zC) (u : zN) : zC :=
 ⟨x.Op, cond u.R x.R 0, cond u.A x.A 0, cond u.B x.B 0, cond u.zM x.zM 0, zm9 x.Place u.Place, zm9 x.From u.From, cond (u.zD != 0) x.zD ⟨0, 0, 0⟩, cond (u.Second != 0) x.Second ⟨0, 0, 0⟩,
  cond x.Half u.Half false, cond x.zK (x.Op == 4) false, cond u.Number x.Number ⟨0, 0⟩, cond u.Text x.Text ⟨#[]⟩, cond u.Other x.Other ⟨#[]⟩, cond u.Mask x.Mask 0, cond u.Target x.Target 0, cond u.Pointer x.Pointer 0, cond u.Source x.Source 0⟩
theorem z5s {x : zC} {f : zR} {u : zN} (hf : zbq x = some f) (ag : Agree f u) : zia x = some (zwm x u) := by
 have b2 : ∀ a b : Bool, (cond a (some b) (some false)) = some (cond a b false) := fun a b => by cases a <;> rfl
 unfold zia zwm
 simp only [hf, z75, z2d, b2, obs, zqa (zm .i64 f.fields 32), zqa (zm .i64 f.fields 64), zqa (zm .i64 f.fields 256), zqa (zm .i64 f.fields 512), zqa (zm .i64 f.fields 1024),
  ag.R, ag.A, ag.B, ag.Place, ag.From, ag.zD, ag.Second, ag.Half, ag.Number, ag.Text, ag.Other, ag.Mask, ag.Target, ag.Pointer, ag.Source, ag.Calc]
 cases (u.zD != 0) <;> cases (u.Second != 0) <;> cases u.Number <;> cases u.Text <;> cases u.Other <;> rfl
theorem z71 (b : Bool) (n : Int) : (!(cond b n 0 == n)) = (!b && n != 0) := by
 cases b
 · by_cases h : n = 0
   · simp [h]
   · simp [h, zcl, zcq, Ne.symm h]
 · simp
theorem z8h (a b : ByteArray) : (a == b) = decide (a = b) := by
 cases a with | mk x =>
 cases b with | mk y =>
 show ByteArray.beq _ _ = _
 unfold ByteArray.beq
 by_cases h : x = y
 · simp [h]
 · simp [h]
theorem z7z (b : Bool) (t : ByteArray) : (!(cond b t (⟨#[]⟩ : ByteArray) == t)) = (!b && !(t.toList == [])) := by
 rw [z8h]
 cases b
 · simp only [cfa, Bool.not_false, Bool.true_and]
   congr 1
   rw [Lib.toList_data]
   by_cases h : t = ⟨#[]⟩
   · subst h; rfl
   · rw [dcf (Ne.symm h)]
     symm
     rw [beq_eq_false_iff_ne]; intro hh; apply h; cases t with
     | mk d => simp at hh; rw [hh]
 · simp
theorem z73 (a b : Bool) : (!(cond a b false == a)) = (!b && a) := by cases a <;> cases b <;> rfl
theorem z72 (a : Bool) (op : Int) : (!(cond a (op == 4) false == a)) = (op != 4 && a) := by
 cases a
 · simp
 · simp [bne]
theorem z4h (p : zL) (b r : Bool) : (!((zm9 p b).Based == p.Based) || (!((zm9 p b).Pointer == p.Pointer) || (!((zm9 p b).Offset == p.Offset) || r))) =
 ((!b && !(!p.Based && (p.Pointer == 0 && p.Offset == 0))) || ((!p.Based && p.Pointer != 0) || r)) := by
 obtain ⟨ba, pt, of⟩ := p
 cases b <;> cases ba <;> by_cases h1 : pt = 0 <;> by_cases h2 : of = 0 <;> simp [zm9, zcl, zcq, h1, h2, eq_comm (a := (0 : Int))]
theorem z4i (t : DataType) (b : Int) (r : Bool) : (!((cond (b != 0) t ⟨0, 0, 0⟩).Kind == t.Kind) || (!((cond (b != 0) t ⟨0, 0, 0⟩).Length == t.Length) || (!((cond (b != 0) t ⟨0, 0, 0⟩).Scale == t.Scale) || r))) =
 ((b == 0 && !(t.Kind == 0 && (t.Length == 0 && t.Scale == 0))) || r) := by
 obtain ⟨k, l, s⟩ := t
 by_cases h0 : b = 0 <;> by_cases h1 : k = 0 <;> by_cases h2 : l = 0 <;> by_cases h3 : s = 0 <;> simp [zcl, zcq, h0, h1, h2, h3, eq_comm (a := (0 : Int))]
theorem z7y (t : Number) (b r : Bool) : (!((cond b t ⟨0, 0⟩).N == t.N) || (!((cond b t ⟨0, 0⟩).Scale == t.Scale) || r)) = ((!b && !(t.N == 0 && t.Scale == 0)) || r) := by
 obtain ⟨n, s⟩ := t
 cases b <;> by_cases h1 : n = 0 <;> by_cases h2 : s = 0 <;> simp [zcl, zcq, h1, h2, eq_comm (a := (0 : Int))]
theorem z0s (x : zC) (u : zN) (r2 : zC) (h : r2 = zwm x u) :
 (!(zbx [(r2.Op == x.Op), (r2.R == x.R), (r2.A == x.A), (r2.B == x.B), (r2.zM == x.zM), (r2.Place.Based == x.Place.Based), (r2.Place.Pointer == x.Place.Pointer), (r2.Place.Offset == x.Place.Offset), (r2.From.Based == x.From.Based), (r2.From.Pointer == x.From.Pointer), (r2.From.Offset == x.From.Offset), (r2.zD.Kind == x.zD.Kind), (r2.zD.Length == x.zD.Length), (r2.zD.Scale == x.zD.Scale), (r2.Second.Kind == x.Second.Kind), (r2.Second.Length == x.Second.Length), (r2.Second.Scale == x.Second.Scale), (r2.Half == x.Half), (r2.zK == x.zK), (r2.Number.N == x.Number.N), (r2.Number.Scale == x.Number.Scale), (r2.Text == x.Text), (r2.Other == x.Other), (r2.Mask == x.Mask), (r2.Target == x.Target), (r2.Pointer == x.Pointer), (r2.Source == x.Source)])) = zk3 x u := by
 subst h
 simp only [zbx, Bool.not_and, zwm]
 rw [z4h x.Place, z4h x.From, z4i x.zD, z4i x.Second, z7y x.Number]
 simp only [z71, z7z, z73, z72, bst, bnt, Bool.false_or, Bool.or_false, zk3, bne]
 ac_rfl
def zdr (t : DataType) (c : Int) : Int := if c = 0 then 0 else if zbn t = 0 then (if (c = 1 ∧ ¬ (1 ≤ t.Kind ∧ t.Kind ≤ 3)) ∨ (c = 2 ∧ t.Kind ≠ 0) ∨ (c = 3 ∧ t.Kind = 4) then 17 else 0) else zbn t
theorem zlv {t : DataType} {c : Int} (h : zdr t c = 0) (hc : c ≠ 0) : zbn t = 0 := by
 unfold zdr at h
 rw [ifn hc] at h
 by_cases h0 : zbn t = 0
 · exact h0
 · rw [ifn h0] at h; exact absurd h h0
theorem zu2 (N : Nat) (hN : 10 < N) (t : DataType) (c : Int) (hc : c = 1 ∨ c = 2 ∨ c = 3) : zeq N t c = some (zdr t c) := by
 have f2 : ∀ a b : Int, zar N [a, b] = some (zdt [a, b]) := fun a b => zt5 N _ (by simp; omega) (by simp)
 unfold zeq zdr
 rw [zss N hN]
 simp only [zp1, f2, zg7, orB, obs, zcl, zcq]
 have hc0 : c ≠ 0 := by omega
 rw [ifn hc0]
 by_cases h : zbn t = 0
 · rw [ifp h, h]; simp only [zdt, if_true]; rcases zi9 h with ⟨h0, _⟩ | ⟨h0 | h0, _⟩ | ⟨h0, _⟩ | ⟨h0, _⟩ <;> rcases hc with rfl | rfl | rfl <;> simp [h0]
 · rw [ifn h]; simp only [zdt, h, if_false]
theorem zus (t : DataType) (c : Int) (hc : c = 0 ∨ c = 1 ∨ c = 2 ∨ c = 3) : zgx t c = some (zdr t c) := by
 unfold zgx zdr
 rw [zzb]
 simp only [zqo, zg7, orB, obs, zcl, zcq]
 by_cases hc0 : c = 0
 · simp [hc0]
 · rw [ifn hc0]; simp only [hc0, decide_false, cfa]
   by_cases h : zbn t = 0
   · rw [ifp h, h]; rcases zi9 h with ⟨h0, _⟩ | ⟨h0 | h0, _⟩ | ⟨h0, _⟩ | ⟨h0, _⟩ <;> rcases hc with rfl | rfl | rfl | rfl <;> first | exact absurd rfl hc0 | simp [h0, inB]
   · rw [ifn h]; simp [h]
theorem z3u (N : Nat) (hN : 10 < N) {x : zC} {f : zR} {u : zN} (ag : Agree f u) : zf0 N x f = some (zdt [zdr x.zD u.zD, zdr x.Second u.Second]) := by
 have w0 : ∀ t, zdr t 0 = 0 := fun t => by simp [zdr]
 have hcls : ∀ c, c ≠ 0 → (c = 0 ∨ c = f.types) → c = f.types ∧ (f.types = 1 ∨ f.types = 2 ∨ f.types = 3) := by
  intro c h0 h1; have := ag.cls; omega
 have eta : ∀ t : DataType, (⟨t.Kind, t.Length, t.Scale⟩ : DataType) = t := fun t => rfl
 unfold zf0
 rw [ag.zD, ag.Second]
 by_cases h1 : u.zD = 0
 · by_cases h2 : u.Second = 0
   · simp [h1, h2, w0, zdt]
   · obtain ⟨e2, c2⟩ := hcls _ h2 ag.class2; have ht := fun t => zu2 N hN t f.types c2; have h0 : f.types ≠ 0 := by omega
     simp only [eta, ht, h1, e2, w0]
     by_cases h3 : zdr x.Second f.types = 0 <;> simp [h3, h0, zdt, zcq]
 · obtain ⟨e1, c1⟩ := hcls _ h1 ag.class1; have ht := fun t => zu2 N hN t f.types c1; have h0 : f.types ≠ 0 := by omega
   by_cases h2 : u.Second = 0
   · simp only [eta, ht, h2, e1, w0]
     by_cases h3 : zdr x.zD f.types = 0 <;> simp [h3, h0, zdt, zcq]
   · obtain ⟨e2, c2⟩ := hcls _ h2 ag.class2; simp only [eta, ht, e2, e1]
     by_cases h3 : zdr x.zD f.types = 0 <;> by_cases h4 : zdr x.Second f.types = 0 <;> simp [h3, h4, h0, zdt, zcq]
def zmi (x : zC) (u : zN) : List Int := cond u.R [x.R] [] ++ (cond u.A [x.A] [] ++ cond u.B [x.B] [])
theorem z5r (n : Nat) {x : zC} {f : zR} {u : zN} (hf : zbq x = some f) (ag : Agree f u) : zaa (n + 10) x = some (zmi x u) := by
 have s0 : w6 (1 * 2 ^ (min ((0 : Int).toNat) 64)) = 1 := by decide
 have s1 : w6 (1 * 2 ^ (min ((1 : Int).toNat) 64)) = 2 := by decide
 have s2 : w6 (1 * 2 ^ (min ((2 : Int).toNat) 64)) = 4 := by decide
 have a0 : w6 (0 + 1) = 1 := by decide
 have a1 : w6 (1 + 1) = 2 := by decide
 have a2 : w6 (2 + 1) = 3 := by decide
 have rm : ∀ k : Nat, k ≤ 3 → Nat.ble (k * 8) zak = true := fun k hk => Nat.ble_eq_true_of_le (by unfold zak; omega)
 unfold zaa
 rw [hf]
 simp only [obs]
 have i0 : ∀ l, zaa.r0 (n + 10) (l, f.fields, [x.R, x.A, x.B], (([x.R, x.A, x.B] : List Int).length : Int), 0) = some (.again (cond u.R (l ++ [x.R]) l, f.fields, [x.R, x.A, x.B], (([x.R, x.A, x.B] : List Int).length : Int), 1)) ∨ l.length > 2 := by
  intro l
  by_cases hl : l.length > 2
  · exact .inr hl
  · left; simp only [zaa.r0, zaa.b0, s0, a0, ag.R]; have := rm (l.length + 1) (by omega); cases u.R <;> simp [this]
 have i1 : ∀ l, zaa.r0 (n + 10) (l, f.fields, [x.R, x.A, x.B], (([x.R, x.A, x.B] : List Int).length : Int), 1) = some (.again (cond u.A (l ++ [x.A]) l, f.fields, [x.R, x.A, x.B], (([x.R, x.A, x.B] : List Int).length : Int), 2)) ∨ l.length > 2 := by
  intro l
  by_cases hl : l.length > 2
  · exact .inr hl
  · left; simp only [zaa.r0, zaa.b0, s1, a1, ag.A]; have := rm (l.length + 1) (by omega); cases u.A <;> simp [this]
 have i2 : ∀ l, zaa.r0 (n + 10) (l, f.fields, [x.R, x.A, x.B], (([x.R, x.A, x.B] : List Int).length : Int), 2) = some (.again (cond u.B (l ++ [x.B]) l, f.fields, [x.R, x.A, x.B], (([x.R, x.A, x.B] : List Int).length : Int), 3)) ∨ l.length > 2 := by
  intro l
  by_cases hl : l.length > 2
  · exact .inr hl
  · left; simp only [zaa.r0, zaa.b0, s2, a2, ag.B]; have := rm (l.length + 1) (by omega); cases u.B <;> simp [this]
 have i3 : ∀ l, zaa.r0 (n + 10) (l, f.fields, [x.R, x.A, x.B], (([x.R, x.A, x.B] : List Int).length : Int), 3) = some (.leave (l, f.fields, [x.R, x.A, x.B], (([x.R, x.A, x.B] : List Int).length : Int), 3)) := by
  intro l; simp [zaa.r0, zaa.b0]
 have l1 : (cond u.R ([] ++ [x.R]) ([] : List Int)).length ≤ 1 := by cases u.R <;> simp
 have l2 : (cond u.A (cond u.R ([] ++ [x.R]) ([] : List Int) ++ [x.A]) (cond u.R ([] ++ [x.R]) ([] : List Int))).length ≤ 2 := by cases u.R <;> cases u.A <;> simp
 show (zh (zaa.r0 (n + 10)) (n + 10) _).bind _ = _
 simp only [zh]
 rw [(i0 []).resolve_right (by simp)]
 simp only [obs]
 rw [(i1 _).resolve_right (by omega)]
 simp only [obs]
 rw [(i2 _).resolve_right (by omega)]
 simp only [obs]
 rw [i3]
 simp only [obs, zmi]
 cases u.R <;> cases u.A <;> cases u.B <;> rfl
def zfc (m : zI) (r : Int) : Bool := !inB r 0 (m.Registers - 1)
theorem zy0 (N : Nat) (l : List Int) (h : l.length < N) (hl : l.length < 1000000000) (m : zI) (hm : 2 ≤ m.Registers ∧ m.Registers ≤ 8) : zcx N l m = some (l.any (zfc m)) := by
 unfold zcx zai
 have c1 : ∀ r, zfa r m = some (zfc m r) := fun r => by
  unfold zfa zfc; rw [w6e, zox]; rfl
 have := zbh (f := zai.r0 N) (fun i => (l, (l.length : Int), (i : Int), m)) (fun i => (l[i]?).bind fun x => if zfc m x then some (i : Int) else none) l.length
  (fun i hi => by
   have hx := lge hi; simp only [zai.r0, zai.b0, zx, hx, obs, dct (show (i : Int) < (l.length : Int) by omega), ctr, c1]; rw [w6e]; cases hb : zfc m l[i] <;> simp)
  (by simp only [zai.r0, zai.b0, dcf (show ¬ (l.length : Int) < (l.length : Int) by omega), cfa]) h
 simp only [nc0] at this
 rw [this]
 simp only [obs]
 cases hfs : (List.range l.length).findSome? (fun i : Nat => (l[i]?).bind fun x => if zfc m x = true then some (i : Int) else none) with
 | some r =>
  simp only [zat, obs]; obtain ⟨i, hi, hr⟩ := eof hfs; rw [Option.bind_eq_some_iff] at hr; obtain ⟨x, hx, hr⟩ := hr; split at hr
  · rename_i hb; cases hr; have : l.any (zfc m) = true := List.any_eq_true.2 ⟨x, lmg hx, hb⟩; rw [this]; simp
  · cases hr
 | none =>
  simp only [zat, obs]; rw [List.findSome?_eq_none_iff] at hfs; have : l.any (zfc m) = false := by
   rw [List.any_eq_false]; intro x hx hb; obtain ⟨i, hi⟩ := List.getElem?_of_mem hx; have := hfs i (by simp; exact (gei hi).1); rw [hi] at this; simp [hb] at this
  rw [this]; rfl
theorem z47 (m : zI) (hm : 2 ≤ m.Registers ∧ m.Registers ≤ 8) {x : zC} {u : zN} (hu : zeb x = some u) : zen m x = some (!(zmi x u).any (zfc m)) := by
 have c1 : ∀ r, zem m r = some (!zfc m r) := fun r => by
  unfold zem zfc; rw [w6e, ziw]; simp
 unfold zen
 rw [hu]
 have aux : ∀ b r, (cond b [r] []).any (zfc m) = (b && zfc m r) := fun b r => by cases b <;> simp
 simp only [c1, obs, zmi, List.any_append, aux]
 generalize zfc m x.R = p
 generalize zfc m x.A = q
 generalize zfc m x.B = r
 cases u.R <;> cases u.A <;> cases u.B <;> cases p <;> cases q <;> cases r <;> rfl
def zko (x : zC) : DataType := if x.Op = 4 then x.Second else x.zD
def zlh (m : zI) (c : zF) (x : zC) (u : zN) : Bool :=
 (zmi x u).any (zfc m) || ((u.Target && !inB x.Target 0 ((c.zB.length : Int) - 1)) || ((u.Mask && !inB x.Mask 1 7) || ((u.Pointer && !zj2 c.Storage x.Pointer) || ((u.Source && !zj2 c.Storage x.Source) ||
  ((u.Place && !zhv c.Storage x.Place (szE (zko x))) || ((u.From && !zhv c.Storage x.From (szE x.Second)) || (u.zM && !inB x.zM 0 4)))))))
theorem eD (t : DataType) : (⟨t.Kind, t.Length, t.Scale⟩ : DataType) = t := rfl
theorem eP (t : zL) : (⟨t.Based, t.Pointer, t.Offset⟩ : zL) = t := rfl
theorem eS (t : Storage) : (⟨t.Bytes, t.Tags⟩ : Storage) = t := rfl
theorem eN (t : Number) : (⟨t.N, t.Scale⟩ : Number) = t := rfl
theorem eM (t : zI) : (⟨t.Registers, t.yB, t.zZ⟩ : zI) = t := rfl
theorem eC (t : zF) : (⟨t.Storage, t.zB, t.zP⟩ : zF) = t := rfl
theorem eX (t : zC) : (⟨t.Op, t.R, t.A, t.B, t.zM, t.Place, t.From, t.zD, t.Second, t.Half, t.zK, t.Number, t.Text, t.Other, t.Mask, t.Target, t.Pointer, t.Source⟩ : zC) = t := rfl
theorem eF (t : zR) : (⟨t.fields, t.types⟩ : zR) = t := rfl
theorem nF (a b : Bool) : (cond a (some (!b)) (some false)) = some (a && !b) := by cases a <;> rfl
structure InsOk (c : zF) (x : zC) (u : zN) : Prop where
 sto : StoOk c.Storage
 len : c.zB.length < 1000000000
 pt : u.Place = true → zbn (zko x) = 0
 ft : u.From = true → zbn x.Second = 0
 po : -9223372036854775808 ≤ x.Place.Offset ∧ x.Place.Offset ≤ 9223372036854775807
 fo : -9223372036854775808 ≤ x.From.Offset ∧ x.From.Offset ≤ 9223372036854775807
theorem z1b {a b : Bool} {o : Option Bool} (h : a = true → o = some b) : (cond a o (some false)) = some (a && b) := by
 cases a
 · rfl
 · exact h rfl
theorem z3v (N : Nat) (hN : 20 < N) {m : zI} (hm : 2 ≤ m.Registers ∧ m.Registers ≤ 8) {c : zF} {x : zC} {f : zR} {u : zN} (hf : zbq x = some f) (ag : Agree f u) (ok : InsOk c x u) :
 zgh N m c x = some (!zlh m c x u) := by
 obtain ⟨n, rfl⟩ : ∃ n, N = n + 10 := ⟨N - 10, by omega⟩
 have hl : (zmi x u).length ≤ 3 := by unfold zmi; cases u.R <;> cases u.A <;> cases u.B <;> simp
 have hlen := ok.len
 have g1 : ∀ p t, (u.Place = true → zbn t = 0) → (cond u.Place ((zc3 (n + 10) c.Storage p t).bind fun r => some (!r)) (some false)) = some (u.Place && !zhv c.Storage p (szE t)) := fun p t h => z1b fun hp => by rw [zx0 ok.sto _ (by omega) _ (h hp)]; rfl
 have g2 : ∀ p t, (u.From = true → zbn t = 0) → (cond u.From ((zc3 (n + 10) c.Storage p t).bind fun r => some (!r)) (some false)) = some (u.From && !zhv c.Storage p (szE t)) := fun p t h => z1b fun hp => by rw [zx0 ok.sto _ (by omega) _ (h hp)]; rfl
 unfold zgh
 try simp only [eD, eP, eS, eM, eC, eX]
 rw [hf, z5r n hf ag]
 simp only [obs]
 rw [zy0 _ _ (by omega) (by omega) m hm]
 simp only [obs]
 unfold zlh
 cases hr : (zmi x u).any (zfc m) with
 | true => rfl
 | false =>
  simp only [cfa, Bool.false_or, ag.Place, ag.From, ag.Target, ag.Mask, ag.Pointer, ag.Source, ag.Calc, zg7, zcl, obs]; rw [w6e]; simp only [zox, zzh, nF, obs]
  by_cases h4 : x.Op = 4
  · have hp : zko x = x.Second := ifp h4; have k := ok.pt; rw [hp] at k ⊢; rw [g2 _ _ ok.ft]; cases hup : u.Place with
    | true =>
     simp only [h4, decide_true, Bool.and_true, ctr, Bool.true_and]; have := g1 x.Place x.Second k; rw [hup] at this; simp only [ctr, Bool.true_and] at this; rw [this]; simp only [orB, obs, Bool.or_assoc, Bool.true_and]
    | false =>
     simp only [h4, decide_true, Bool.false_and, cfa, obs, orB, Bool.or_assoc, Bool.false_or]
  · have hp : zko x = x.zD := ifn h4; have k := ok.pt; rw [hp] at k ⊢; rw [g1 _ _ k, g2 _ _ ok.ft]; simp only [h4, decide_false, Bool.and_false, cfa, obs, orB, Bool.or_assoc]
def znc (m : zI) (x : zC) : Bool := (decide (x.Op = 7) && !m.yB) || (x.zK && !m.zZ)
def zot (x : zC) : Bool := decide ((x.Text.size : Int) > 256) || decide ((x.Other.size : Int) > 256)
theorem z6x (m : zI) (x : zC) (h : x.zK = true → x.Op = 4) : zgu m x = some (!znc m x) := by
 unfold zgu znc
 by_cases h7 : x.Op = 7
 · have h4 : x.zK = false := by
    cases hi : x.zK with
    | false => rfl
    | true => have := h hi; omega
   rw [h4]; simp only [h7, zcq]; cases m.yB <;> rfl
 · by_cases h4 : x.Op = 4
   · simp only [h4, zcq]; cases x.zK <;> cases m.zZ <;> rfl
   · have h5 : x.zK = false := by
      cases hi : x.zK with
      | false => rfl
      | true => exact absurd (h hi) h4
     simp [h5, h7, h4, zcq]
theorem z3g (m : zI) (x : zC) : zjq m x = some (znc m x) := by
 unfold zjq znc
 simp only [zcl]
 cases decide (x.Op = 7) <;> cases m.yB <;> cases x.zK <;> cases m.zZ <;> rfl
def zt4 (m : zI) (c : zF) (x : zC) (u : zN) : Int :=
 cond (zk3 x u) 5 (cond (znc m x) 39 (if zdr x.zD u.zD ≠ 0 then zdr x.zD u.zD else if zdr x.Second u.Second ≠ 0 then zdr x.Second u.Second else
  cond (zlh m c x u) 3 (if zqz x.Number ≠ 0 then zqz x.Number else cond (zot x) 2 0)))
theorem ztb {x : zC} {u : zN} (h : zk3 x u = false) : (x.zK = true → x.Op = 4) ∧ (u.Number = false → zqz x.Number = 0) := by
 unfold zk3 at h
 simp only [Bool.or_eq_false_iff] at h
 obtain ⟨_, _, _, _, _, _, _, _, _, h10, h11, _⟩ := h
 constructor
 · intro hi; rw [hi] at h10; simpa using h10
 · intro hn; rw [hn] at h11; simp only [Bool.not_false, Bool.true_and, Bool.not_eq_eq_eq_not, bnt, Bool.and_eq_true, beq_iff_eq, Bool.not_eq_false'] at h11; obtain ⟨e1, e2⟩ : x.Number.N = 0 ∧ x.Number.Scale = 0 := by simpa using h11
   unfold zqz; rw [e1, e2]
   decide
theorem z6w (N : Nat) (hN : 20 < N) {m : zI} (hm : 2 ≤ m.Registers ∧ m.Registers ≤ 8) {c : zF} {x : zC} {f : zR} {u : zN} (hop : inB x.Op 0 26 = true) (hf : zbq x = some f) (ag : Agree f u)
 (ok : zdr x.zD u.zD = 0 → zdr x.Second u.Second = 0 → InsOk c x u) : zco N m c x = some (zt4 m c x u) := by
 have f3 : ∀ a b d : Int, zar N [a, b, d] = some (zdt [a, b, d]) := fun a b d => zt5 N _ (by simp; omega) (by simp)
 unfold zco zt4
 try simp only [eD, eP, eS, eM, eC, eX, eN, eF]
 rw [zox, hop, hf, z5s hf ag]
 simp only [obs, bnt, cfa]
 rw [z3u N (by omega) ag]
 rw [z0s x u _ rfl]
 simp only [zp1, z18, obs, f3, orB]
 cases he : zk3 x u with
 | true =>
  have hx : ∃ b, zgu m x = some b := by
   unfold zgu; cases (x.Op != 7) <;> cases m.yB <;> cases (x.Op != 4) <;> cases x.zK <;> cases m.zZ <;> exact ⟨_, rfl⟩
  obtain ⟨b, hb⟩ := hx; rw [hb]; simp [zdt]
 | false =>
  obtain ⟨h1, h2⟩ := ztb he; rw [z6x m x h1]; simp only [obs, Bool.not_not, cfa]; cases znc m x with
  | true => simp [zdt]
  | false =>
   simp only [cfa]
   by_cases e1 : zdr x.zD u.zD = 0
   · by_cases e2 : zdr x.Second u.Second = 0
     · rw [z3v N hN hm hf ag (ok e1 e2)]; simp only [e1, e2, zdt, if_true, obs, Bool.not_not]; cases zlh m c x u with
       | true => simp
       | false =>
        by_cases e3 : zqz x.Number = 0
        · cases hl : zot x with
          | true => unfold zot at hl; simp [e3, hl]
          | false => unfold zot at hl; simp [e3, hl]
        · simp [e3]
     · simp [zdt, e1, e2, zcq]
   · simp [zdt, e1, zcq]
theorem z54 {f : zR} {u : zN} (ag : Agree f u) : (u.zD = 0 ∨ u.zD = 1 ∨ u.zD = 2 ∨ u.zD = 3) ∧ (u.Second = 0 ∨ u.Second = 1 ∨ u.Second = 2 ∨ u.Second = 3) := by
 have h1 := ag.class1
 have h2 := ag.class2
 have h3 := ag.cls
 omega
theorem z6j {m : zI} (hm : 2 ≤ m.Registers ∧ m.Registers ≤ 8) {c : zF} {x : zC} {f : zR} {u : zN} (hop : inB x.Op 0 26 = true) (hu : zeb x = some u) (ag : Agree f u)
 (ok : zdr x.zD u.zD = 0 → zdr x.Second u.Second = 0 → InsOk c x u) : zde m c x = some (zt4 m c x u) := by
 obtain ⟨c1, c2⟩ := z54 ag
 unfold zde zt4
 try simp only [eD, eP, eS, eM, eC, eX, eN, eF]
 rw [ziw, hop, hu]
 simp only [obs, bnt, cfa]
 rw [z3i, z3g, zus _ _ c1, zus _ _ c2, z47 m hm hu]
 simp only [obs]
 cases he : zk3 x u with
 | true => rfl
 | false =>
  obtain ⟨h1, h2⟩ := ztb he; simp only [cfa]; cases znc m x with
  | true => rfl
  | false =>
   simp only [cfa]
   by_cases e1 : zdr x.zD u.zD = 0
   · by_cases e2 : zdr x.Second u.Second = 0
     · have o := ok e1 e2; have hlen := o.len; have hb : ∀ t, zbn t = 0 → zdl t = some (szE t) := fun t h => znv h; have g1 : ∀ t, (u.Place = true → zbn t = 0) → (cond u.Place ((zdl t).bind fun r => (zd1 c x.Place r).bind fun r => some (!r)) (some false)) = some (u.Place && !zhv c.Storage x.Place (szE t)) := fun t h => z1b fun hp => by rw [znv (h hp)]; simp only [obs]; rw [zxe o.sto rfl _ o.po (h hp)]; rfl
       have g2 : (cond u.From ((zdl x.Second).bind fun r => (zd1 c x.From r).bind fun r => some (!r)) (some false)) = some (u.From && !zhv c.Storage x.From (szE x.Second)) := z1b fun hp => by rw [znv (o.ft hp)]; simp only [obs]; rw [zxe o.sto rfl _ o.fo (o.ft hp)]; rfl
       have k := o.pt; have kn : ∀ e : Int, (u.Number = false → e = 0) → (cond (u.Number && e != 0) (some e) (cond (zot x) (some 2) (some 0))) = some (if e ≠ 0 then e else cond (zot x) 2 0) := by
        intro e h
        by_cases h0 : e = 0
        · subst h0; cases u.Number <;> cases zot x <;> rfl
        · cases hn : u.Number with
          | false => exact absurd (h hn) h0
          | true => simp [h0, zcq]
       simp only [e1, e2, bsf, cfa, ne_eq, not_true_eq_false, if_false, zcl]; rw [w6e]; simp only [ziw, zzc o.sto, z1v, nF, zg7, orB, g2, obs, ← zot.eq_def]; unfold zlh
       by_cases h4 : x.Op = 4
       · have hp : zko x = x.Second := ifp h4; rw [hp] at k ⊢; rw [g1 _ k]; simp only [h4, decide_true, ctr, obs, kn _ h2]; generalize (zmi x u).any (zfc m) = t1; generalize (u.Target && !inB x.Target 0 ((c.zB.length : Int) - 1)) = t2; generalize (u.Mask && !inB x.Mask 1 7) = t3; generalize (u.Pointer && !zj2 c.Storage x.Pointer) = t4; generalize (u.Source && !zj2 c.Storage x.Source) = t5; generalize (u.Place && !zhv c.Storage x.Place (szE x.Second)) = t6; generalize (u.From && !zhv c.Storage x.From (szE x.Second)) = t7; generalize (u.zM && !inB x.zM 0 4) = t8; cases t1 <;> cases t2 <;> cases t3 <;> cases t4 <;> cases t5 <;> cases t6 <;> cases t7 <;> cases t8 <;> rfl
       · have hp : zko x = x.zD := ifn h4; rw [hp] at k ⊢; rw [g1 _ k]; simp only [h4, decide_false, cfa, obs, kn _ h2]; generalize (zmi x u).any (zfc m) = t1; generalize (u.Target && !inB x.Target 0 ((c.zB.length : Int) - 1)) = t2; generalize (u.Mask && !inB x.Mask 1 7) = t3; generalize (u.Pointer && !zj2 c.Storage x.Pointer) = t4; generalize (u.Source && !zj2 c.Storage x.Source) = t5; generalize (u.Place && !zhv c.Storage x.Place (szE x.zD)) = t6; generalize (u.From && !zhv c.Storage x.From (szE x.Second)) = t7; generalize (u.zM && !inB x.zM 0 4) = t8; cases t1 <;> cases t2 <;> cases t3 <;> cases t4 <;> cases t5 <;> cases t6 <;> cases t7 <;> cases t8 <;> rfl
     · simp [e1, e2, zcq]
   · simp [e1, zcq]
theorem zkr {n : Nat} {c : zF} (h : Wft En n Ty.zF c) : c.Storage.Bytes.size ≤ n ∧ c.Storage.Tags.length ≤ n ∧ c.zB.length ≤ n ∧ c.zP.length ≤ n ∧ ∀ x ∈ c.zB, Wft En n Ty.zC x := by
 have h1 := h (.sc (.string c.Storage.Bytes)) (by show _ ∈ zgw c; simp [zgw])
 have h2 := h (.lst Ty.bool c.Storage.Tags) (by show _ ∈ zgw c; simp [zgw])
 have h3 := h (.lst Ty.zC c.zB) (by show _ ∈ zgw c; simp [zgw])
 have h4 := h (.lst Ty.zQ c.zP) (by show _ ∈ zgw c; simp [zgw])
 cases h1 with
 | str h1 =>
  cases h2 with
  | lst h2 _ =>
   cases h3 with
   | lst h3 h3' =>
    cases h4 with
    | lst h4 _ => exact ⟨h1, h2, h3, h4, h3'⟩
theorem zy5 {n : Nat} {z : Int} (h : Wfc En n (.sc (.int .i64 z))) : -9223372036854775808 ≤ z ∧ z ≤ 9223372036854775807 := by
 cases h with
 | int h1 h2 =>
  have e1 : IntKind.i64.min = -9223372036854775808 := by decide
  have e2 : IntKind.i64.max = 9223372036854775807 := by decide
  rw [e1] at h1; rw [e2] at h2; exact ⟨h1, h2⟩
theorem z6v {n : Nat} {x : zC} (h : Wft En n Ty.zC x) : (-9223372036854775808 ≤ x.Place.Offset ∧ x.Place.Offset ≤ 9223372036854775807) ∧ (-9223372036854775808 ≤ x.From.Offset ∧ x.From.Offset ≤ 9223372036854775807) :=
 ⟨zy5 (h _ (by show _ ∈ zhl x; simp [zhl])), zy5 (h _ (by show _ ∈ zhl x; simp [zhl]))⟩
def zmu (m : zI) (c : zF) (x : zC) : Int := if inB x.Op 0 26 = true then zt4 m c x ((zeb x).getD ⟨false, false, false, false, false, false, false, false, false, false, false, false, false, false, 0, 0⟩) else 4
theorem zyg (N : Nat) (hN : 20 < N) {m : zI} (hm : 2 ≤ m.Registers ∧ m.Registers ≤ 8) {c : zF} (hs : StoOk c.Storage) (hlen : c.zB.length < 1000000000) {n : Nat} {x : zC} (hx : Wft En n Ty.zC x) :
 zco N m c x = some (zmu m c x) ∧ zde m c x = some (zmu m c x) := by
 obtain ⟨w1, w2⟩ := z6v hx
 unfold zmu
 by_cases hop : inB x.Op 0 26 = true
 · obtain ⟨f, u, hf, hu, ag, h4, h5, h6⟩ := zv7 x hop; have ok : zdr x.zD u.zD = 0 → zdr x.Second u.Second = 0 → InsOk c x u := fun e1 e2 => {
    sto := hs, len := hlen, po := w1, fo := w2,
    pt := fun hp => (by
     have := h6 hp; unfold zko; split
     · rename_i h7; rw [ifp h7] at this; exact zlv e2 this
     · rename_i h7; rw [ifn h7] at this; exact zlv e1 this),
    ft := fun hp => zlv e2 (h5 hp) }
   rw [ifp hop, hu]; exact ⟨z6w N hN hm hop hf ag ok, z6j hm hop hu ag ok⟩
 · rw [ifn hop]; have e : inB x.Op 0 26 = false := by simpa using hop
   constructor
   · unfold zco; rw [zox, e]; rfl
   · unfold zde; rw [ziw, e]; rfl
def zlx (c : zF) (t : zQ) : Bool := (inB t.From 0 t.To && (decide (t.To ≤ (c.zB.length : Int)) && (inB t.Exception 0 999 && inB t.Handler 0 ((c.zB.length : Int) - 1))))
theorem z5o (c : zF) (hlen : c.zB.length < 1000000000) (t : zQ) : zgf c t = some (cond (zlx c t) 0 3) := by
 unfold zgf zlx
 rw [w6e]
 simp only [zox, zp1, zg7, obs, Bool.and_assoc]
 generalize (inB t.From 0 t.To && (decide (t.To ≤ (c.zB.length : Int)) && (inB t.Exception 0 999 && inB t.Handler 0 ((c.zB.length : Int) - 1)))) = b
 cases b <;> rfl
theorem z42 (c : zF) (t : zQ) : ((decide (t.From < 0) || decide (t.From > t.To)) || (decide (t.To > (c.zB.length : Int)))) = !(inB t.From 0 t.To && decide (t.To ≤ (c.zB.length : Int))) := by
 unfold inB
 by_cases h1 : t.From < 0
 · simp [h1, show ¬ (0 ≤ t.From) by omega]
 · by_cases h2 : t.From > t.To
   · simp [h1, h2, show ¬ (t.From ≤ t.To) by omega]
   · by_cases h3 : t.To > (c.zB.length : Int)
     · simp [h1, h2, h3, show ¬ (t.To ≤ (c.zB.length : Int)) by omega]
     · simp [h1, h2, h3, show (0 ≤ t.From) by omega, show (t.From ≤ t.To) by omega, show (t.To ≤ (c.zB.length : Int)) by omega]
def gI (m : zI) (c : zF) (i : Nat) : Option (Int × Int) := (c.zB[i]?).bind fun x => if zmu m c x = 0 then none else some ((i : Int), zmu m c x)
def gT (c : zF) (i : Nat) : Option (Int × Int) := (c.zP[i]?).bind fun t => if zlx c t = true then none else some ((i : Int), 3)
def znm (m : zI) (c : zF) : Int × Int :=
 match (List.range c.zB.length).findSome? (gI m c) with
 | some r => r
 | none => match (List.range c.zP.length).findSome? (gT c) with
  | some r => r
  | none => ((c.zB.length : Int), 0)
theorem z3w (N : Nat) (hN : 1048600 < N) {m : zI} (hm : 2 ≤ m.Registers ∧ m.Registers ≤ 8) {c : zF} (hs : StoOk c.Storage) (hc : Wft En 1048576 Ty.zF c) :
 ((zg (zn.r0 N) N (c.zB, (c.zB.length : Int), 0, m, c)).bind fun z10 =>
 zat z10 (fun z => some z) (fun y9 => (zg (zn.r2 N) N (y9.2.2.2.2.zP, (y9.2.2.2.2.zP.length : Int), 0, y9.2.2.2.2)).bind fun z12 => zat z12 (fun z =>
 some z) (fun y11 => some ((y11.2.2.2.zB.length : Int), 0)))) = some (znm m c) := by
 obtain ⟨w1, w2, w3, w4, w5⟩ := zkr hc
 have l1 := zbh (f := zn.r0 N) (fun i => (c.zB, (c.zB.length : Int), (i : Int), m, c)) (gI m c) c.zB.length
  (fun i hi => by
   have hx := lge hi; have hb := (zyg N (by omega) hm hs (by omega) (w5 _ (List.getElem_mem hi))).1; simp only [zn.r0, zn.b0, zx, hx, obs, dct (show (i : Int) < (c.zB.length : Int) by omega), ctr, eD, eP, eS, eM, eC, eX, eN, gI, hb]; rw [w6e]
   by_cases h0 : zmu m c c.zB[i] = 0 <;> simp [h0, zcq])
  (by simp only [zn.r0, zn.b0, dcf (show ¬ (c.zB.length : Int) < (c.zB.length : Int) by omega), cfa]) (N := N) (by omega)
 have l2 := zbh (f := zn.r2 N) (fun i => (c.zP, (c.zP.length : Int), (i : Int), c)) (gT c) c.zP.length
  (fun i hi => by
   have hx := lge hi; simp only [zn.r2, zn.b2, zx, hx, obs, dct (show (i : Int) < (c.zP.length : Int) by omega), ctr, gT, z5o c (by omega)]; rw [w6e]; cases zlx c c.zP[i] <;> simp)
  (by simp only [zn.r2, zn.b2, dcf (show ¬ (c.zP.length : Int) < (c.zP.length : Int) by omega), cfa]) (N := N) (by omega)
 simp only [nc0] at l1 l2
 rw [l1]
 unfold znm
 simp only [obs]
 cases (List.range c.zB.length).findSome? (gI m c) with
 | some r => rfl
 | none =>
  simp only [zat]; rw [l2]; simp only [obs]; cases (List.range c.zP.length).findSome? (gT c) <;> rfl
theorem ztq (N : Nat) (hN : 1048600 < N) {m : zI} (hm : 2 ≤ m.Registers ∧ m.Registers ≤ 8) {c : zF} (hs : StoOk c.Storage) (hc : Wft En 1048576 Ty.zF c) :
 ((zg (zw.r1 N) N (0, m, c)).bind fun z6 =>
 zat z6 (fun z => some z) (fun y5 => (zg (zw.r3 N) N (0, y5.2.2)).bind fun z8 => zat z8 (fun z => some z) (fun y7 =>
 some ((y7.2.zB.length : Int), 0)))) = some (znm m c) := by
 obtain ⟨w1, w2, w3, w4, w5⟩ := zkr hc
 have l1 := zbh (f := zw.r1 N) (fun i => ((i : Int), m, c)) (gI m c) c.zB.length
  (fun i hi => by
   have hx := lge hi; have hb := (zyg N (by omega) hm hs (by omega) (w5 _ (List.getElem_mem hi))).2; simp only [zw.r1, zw.b1, zx, hx, obs, dct (show (i : Int) < (c.zB.length : Int) by omega), ctr, eD, eP, eS, eM, eC, eX, eN, gI, hb]; rw [w6e]
   by_cases h0 : zmu m c c.zB[i] = 0 <;> simp [h0, zcq])
  (by simp only [zw.r1, zw.b1, dcf (show ¬ (c.zB.length : Int) < (c.zB.length : Int) by omega), cfa]) (N := N) (by omega)
 have l2 := zbh (f := zw.r3 N) (fun i => ((i : Int), c)) (gT c) c.zP.length
  (fun i hi => by
   have hx := lge hi; simp only [zw.r3, zw.b3, zx, hx, obs, dct (show (i : Int) < (c.zP.length : Int) by omega), ctr, gT, orB, ziw, z42]; rw [w6e (n := (i : Int) + 1), w6e (n := (c.zB.length : Int) - 1)]; have bl : ∀ a b d e : Bool, ((!(a && b) || !d) || !e) = !(a && (b && (d && e))) := fun a b d e => by cases a <;> cases b <;> cases d <;> cases e <;> rfl
   simp only [ziw, obs, orB, bl, ← zlx.eq_def]; cases zlx c c.zP[i] <;> simp)
  (by simp only [zw.r3, zw.b3, dcf (show ¬ (c.zP.length : Int) < (c.zP.length : Int) by omega), cfa]) (N := N) (by omega)
 simp only [nc0] at l1 l2
 rw [l1]
 unfold znm
 simp only [obs]
 cases (List.range c.zB.length).findSome? (gI m c) with
 | some r => rfl
 | none =>
  simp only [zat]; rw [l2]; simp only [obs]; cases (List.range c.zP.length).findSome? (gT c) <;> rfl
theorem z7c (n lo hi : Int) : zd0 n lo hi = some (inB n lo hi) := by
 unfold zd0 inB
 cases decide (lo ≤ n) <;> rfl
theorem znz {b : ByteArray} {i : Int} (h0 : 0 ≤ i) (h1 : i < (b.size : Int)) : ∃ x, zoc b i = some x := by
 unfold zoc
 rw [ifp h0]
 exact ⟨_, getElem?_pos b i.toNat (by omega)⟩
theorem zrr (N : Nat) (b : ByteArray) (h : b.size < N) (hb : b.size < 1000) : ∃ x, zby N b = some x := by
 unfold zby
 obtain ⟨s', h1, _⟩ := zm1 (f := zby.r0 N) (fun i s => ∃ a : Int, s = (b, a, (b.size : Int), (i : Int))) b.size
  (fun i s hi hs => by
   obtain ⟨a, rfl⟩ := hs; obtain ⟨x, hx⟩ := znz (b := b) (i := (i : Int)) (by omega) (by omega); simp only [zby.r0, zby.b0, dct (show (i : Int) < (b.size : Int) by omega), ctr, hx, obs]; rw [w6e (n := (i : Int) + 1)]; exact ⟨_, rfl, _, rfl⟩)
  (fun s hs => by
   obtain ⟨a, rfl⟩ := hs; simp only [zby.r0, zby.b0, dcf (show ¬ (b.size : Int) < (b.size : Int) by omega), cfa]; exact ⟨_, rfl, _, rfl⟩) h (s := (b, 0, (b.size : Int), 0)) ⟨0, rfl⟩
 rw [h1]
 exact ⟨_, rfl⟩
theorem zxf (N : Nat) (b : ByteArray) (hb : b.size = 16) (k n : Nat) (hn : k + n ≤ 16) (hN : 20 < N) : ∃ x, zdh N b (k : Int) (n : Int) = some x := by
 unfold zdh
 obtain ⟨s', h1, _⟩ := zm1 (f := zdh.r0 N) (fun i s => ∃ a : Int, s = (b, (k : Int), (n : Int), a, (i : Int))) n
  (fun i s hi hs => by
   obtain ⟨a, rfl⟩ := hs; obtain ⟨x, hx⟩ := znz (b := b) (i := (k : Int) + (i : Int)) (by omega) (by omega); simp only [zdh.r0, zdh.b0, dct (show (i : Int) < (n : Int) by omega), ctr]; rw [w6e (n := (k : Int) + (i : Int)), hx, w6e (n := (i : Int) + 1)]; exact ⟨_, rfl, _, rfl⟩)
  (fun s hs => by
   obtain ⟨a, rfl⟩ := hs; simp only [zdh.r0, zdh.b0, dcf (show ¬ (n : Int) < (n : Int) by omega), cfa]; exact ⟨_, rfl, _, rfl⟩) (N := N) (by omega) (s := (b, (k : Int), (n : Int), 0, 0)) ⟨0, rfl⟩
 rw [h1]
 exact ⟨_, rfl⟩
theorem z27 (p : Pointer) : ∃ e, ze8 p = some e := by
 unfold ze8
 simp only [z7c, obs, zg7]
 generalize inB p.Kind 0 2 = a
 generalize inB p.Address.yC 0 1099511627775 = b
 generalize inB p.Address.Offset 0 16777215 = c
 generalize inB p.Authority 0 1023 = d
 generalize (p.Authority != 0 && p.Kind != 1) = e
 cases a <;> cases b <;> cases c <;> cases d <;> cases e <;> exact ⟨_, rfl⟩
theorem z3j (p : Pointer) : ∃ e, zgd p = some e := by
 unfold zgd
 simp only [ziw, obs, zg7, orB]
 generalize inB p.Kind 0 2 = a
 generalize inB p.Address.yC 0 1099511627775 = b
 generalize inB p.Address.Offset 0 16777215 = c
 generalize inB p.Authority 0 1023 = d
 generalize (p.Kind != 1 && p.Authority != 0) = e
 cases a <;> cases b <;> cases c <;> cases d <;> cases e <;> exact ⟨_, rfl⟩
theorem zl7 (b : ByteArray) (i j : Nat) (h : j ≤ b.size) (hij : i ≤ j) : (b.extract i j).size = j - i := by
 rw [ByteArray.size_extract]
 omega
theorem zz6 (N : Nat) (hN : 20 < N) (b : ByteArray) (hb : b.size = 16) : ∃ r, zga N b = some r := by
 obtain ⟨x1, h1⟩ := znz (b := b) (i := 1) (by omega) (by omega)
 obtain ⟨x0, h0⟩ := znz (b := b) (i := 0) (by omega) (by omega)
 have z1 : (b.extract (2 : Int).toNat (4 : Int).toNat).size = 2 := zl7 b 2 4 (by omega) (by omega)
 have z2 : (b.extract (4 : Int).toNat (10 : Int).toNat).size = 6 := zl7 b 4 10 (by omega) (by omega)
 have z3 : (b.extract (10 : Int).toNat b.size).size = 6 := (zl7 b 10 b.size (by omega) (by omega)).trans (by omega)
 obtain ⟨n1, e1⟩ := zrr N _ (by omega : (b.extract (2 : Int).toNat (4 : Int).toNat).size < N) (by omega)
 obtain ⟨n2, e2⟩ := zrr N _ (by omega : (b.extract (4 : Int).toNat (10 : Int).toNat).size < N) (by omega)
 obtain ⟨n3, e3⟩ := zrr N _ (by omega : (b.extract (10 : Int).toNat b.size).size < N) (by omega)
 unfold zga
 rw [show ((b.size : Int) != 16) = false by rw [hb]; rfl]
 simp only [cfa, h1, h0, obs]
 cases ((x1.toNat : Int) != 0) with
 | true => exact ⟨_, rfl⟩
 | false =>
  simp only [cfa]; rw [ifp, ifp, e1]; simp only [obs]; rw [ifp, ifp, e2]; simp only [obs]; rw [ifp, e3]; simp only [obs]; obtain ⟨e, he⟩ := z27 (⟨(w6 (x0.toNat : Int)), (⟨n2, n3⟩ : Address), n1⟩ : Pointer); rw [he]; simp only [obs]; cases (e != 0) <;> exact ⟨_, rfl⟩
theorem z0h (N : Nat) (hN : 20 < N) (b : ByteArray) (hb : b.size = 16) : ∃ r, zmj N b = some r := by
 obtain ⟨x1, h1⟩ := znz (b := b) (i := 1) (by omega) (by omega)
 obtain ⟨x0, h0⟩ := znz (b := b) (i := 0) (by omega) (by omega)
 obtain ⟨n1, e1⟩ := zxf N b hb 2 2 (by omega) hN
 obtain ⟨n2, e2⟩ := zxf N b hb 4 6 (by omega) hN
 obtain ⟨n3, e3⟩ := zxf N b hb 10 6 (by omega) hN
 have e1' : zdh N b 2 2 = some n1 := e1
 have e2' : zdh N b 4 6 = some n2 := e2
 have e3' : zdh N b 10 6 = some n3 := e3
 unfold zmj
 rw [show ((b.size : Int) != 16) = false by rw [hb]; rfl]
 simp only [cfa, h1, h0, obs]
 cases ((x1.toNat : Int) != 0) with
 | true => exact ⟨_, rfl⟩
 | false =>
  simp only [cfa, e1', e2', e3', obs]; obtain ⟨e, he⟩ := z3j (⟨(w6 (x0.toNat : Int)), (⟨n2, n3⟩ : Address), n1⟩ : Pointer); rw [he]; simp only [obs]; cases (e != 0) <;> exact ⟨_, rfl⟩
theorem zth (N : Nat) (hN : 2000 < N) (s : Storage) : ∃ i1 e1 e2, zaj N s = some (i1, e1) ∧ zkc N s = some e2 ∧
 ((e1 = e2 ∧ e1 ≠ 0) ∨ (StoOk s ∧ s.Tags.length ≤ 64 ∧ (e1 = 0 ∨ (e1 = 22 ∧ true ∈ s.Tags)) ∧ (e2 = 0 ∨ (e2 = 22 ∧ true ∈ s.Tags)))) := by
 unfold zaj zkc zc7
 try simp only [eS]
 by_cases h1 : (s.Bytes.size : Int) > 1024
 · rw [dct h1]; exact ⟨_, _, _, rfl, rfl, .inl ⟨rfl, by decide⟩⟩
 · rw [dcf h1]; have hm : (s.Bytes.size : Int).tmod 16 = (s.Bytes.size : Int) % 16 := tme; have hd : (s.Bytes.size : Int).tdiv 16 = (s.Bytes.size : Int) / 16 := tde
   by_cases h2 : (s.Bytes.size : Int) % 16 = 0
   · rw [hm, hd, w6e]
     by_cases h3 : (s.Tags.length : Int) = (s.Bytes.size : Int) / 16
     · rw [show (((s.Bytes.size : Int) % 16) != 0) = false by rw [h2]; rfl, show ((s.Tags.length : Int) != (s.Bytes.size : Int) / 16) = false by rw [← h3]; exact bsf _]; simp only [cfa]; have ok : StoOk s := ⟨by omega, by omega⟩; have hw : ∀ i : Nat, i < s.Tags.length → w6 ((i : Int) * 16) = (i : Int) * 16 ∧ w6 ((i : Int) * 16 + 16) = (i : Int) * 16 + 16 := fun i hi => ⟨w6e, w6e⟩; have hx : ∀ i : Nat, i < s.Tags.length → (s.Bytes.extract ((i : Int) * 16).toNat ((i : Int) * 16 + 16).toNat).size = 16 := fun i hi => by
        rw [zl7 _ _ _ (by omega) (by omega)]; omega
       have l1 := zpm (f := zaj.r1 N) (fun i t => t = (s.Tags, (s.Tags.length : Int), (i : Int), s)) (fun r => r.2 = 22 ∧ true ∈ s.Tags) s.Tags.length
        (fun i t hi ht => by
         subst ht; obtain ⟨w1, w2⟩ := hw i hi; have hx1 := lge hi; simp only [zaj.r1, zaj.b1, zx, hx1, obs, dct (show (i : Int) < (s.Tags.length : Int) by omega), ctr]; rw [w6e (n := (i : Int) + 1)]; cases hb : s.Tags[i] with
         | false => exact .inl ⟨_, rfl, rfl⟩
         | true =>
          simp only [bnt, cfa, w1, w2]; rw [ifp, ifp]; obtain ⟨r, hr⟩ := zz6 N (by omega) _ (hx i hi); rw [hr]; simp only [obs]; cases (r.2 != 0) with
          | true => exact .inr ⟨_, rfl, rfl, by rw [← hb]; exact List.getElem_mem hi⟩
          | false => exact .inl ⟨_, rfl, rfl⟩)
        (fun t ht => by
         subst ht; exact ⟨_, by simp only [zaj.r1, zaj.b1, dcf (show ¬ (s.Tags.length : Int) < (s.Tags.length : Int) by omega), cfa], rfl⟩) (N := N) (by omega) (s := (s.Tags, (s.Tags.length : Int), 0, s)) rfl
       have l2 := zpm (f := zc7.r0 N) (fun i t => t = ((s.Bytes.size : Int) / 16, (i : Int), s)) (fun r => r.2 = 22 ∧ true ∈ s.Tags) s.Tags.length
        (fun i t hi ht => by
         subst ht; obtain ⟨w1, w2⟩ := hw i hi; have hx1 := lge hi; simp only [zc7.r0, zc7.b0, zx, hx1, obs, dct (show (i : Int) < (s.Bytes.size : Int) / 16 by omega), ctr]; rw [w6e (n := (i : Int) + 1)]; cases hb : s.Tags[i] with
         | false => exact .inl ⟨_, rfl, rfl⟩
         | true =>
          simp only [ctr, zl0, w1, w2]; rw [ifp, ifp]; simp only [obs]; obtain ⟨r, hr⟩ := z0h N (by omega) _ (hx i hi); rw [hr]; simp only [obs]; cases (r.2 != 0) with
          | true => exact .inr ⟨_, rfl, rfl, by rw [← hb]; exact List.getElem_mem hi⟩
          | false => exact .inl ⟨_, rfl, rfl⟩)
        (fun t ht => by
         subst ht; exact ⟨_, by simp only [zc7.r0, zc7.b0, dcf (show ¬ (s.Tags.length : Int) < (s.Bytes.size : Int) / 16 by omega), cfa], rfl⟩) (N := N) (by omega) (s := ((s.Bytes.size : Int) / 16, 0, s)) rfl
       have r1 : ∃ i1 e1, ((zg (zaj.r1 N) N (s.Tags, (s.Tags.length : Int), 0, s)).bind fun z2 => zat z2 (fun z => some z) (fun y1 => some ((y1.2.2.2.Tags.length : Int), (0 : Int)))) = some (i1, e1) ∧ (e1 = 0 ∨ (e1 = 22 ∧ true ∈ s.Tags)) := by
        rcases l1 with ⟨t, g1, _⟩ | ⟨r, g1, g2⟩
        · rw [g1]; exact ⟨_, _, rfl, .inl rfl⟩
        · rw [g1]; exact ⟨r.1, r.2, rfl, .inr g2⟩
       have r2 : ∃ e2, ((((zg (zc7.r0 N) N ((s.Bytes.size : Int) / 16, 0, s)).bind fun z2 => zat z2 (fun z => some z) (fun y1 => some (y1.1, (0 : Int)))).bind fun r1 => some r1.2) = some e2) ∧ (e2 = 0 ∨ (e2 = 22 ∧ true ∈ s.Tags)) := by
        rcases l2 with ⟨t, g1, _⟩ | ⟨r, g1, g2⟩
        · rw [g1]; exact ⟨_, rfl, .inl rfl⟩
        · rw [g1]; exact ⟨r.2, rfl, .inr g2⟩
       obtain ⟨i1, e1, g1, g2⟩ := r1; obtain ⟨e2, g3, g4⟩ := r2; exact ⟨i1, e1, e2, g1, g3, .inr ⟨ok, by omega, g2, g4⟩⟩
     · rw [show (((s.Bytes.size : Int) % 16) != 0) = false by rw [h2]; rfl, show ((s.Tags.length : Int) != (s.Bytes.size : Int) / 16) = true by rw [zcq]; exact dct h3]; exact ⟨_, _, _, rfl, rfl, .inl ⟨rfl, by decide⟩⟩
   · rw [hm, show (((s.Bytes.size : Int) % 16) != 0) = true by rw [zcq]; exact dct h2]; exact ⟨_, _, _, rfl, rfl, .inl ⟨rfl, by decide⟩⟩
theorem z5p (N : Nat) (l : List Bool) (h : l.length < N) (hl : l.length < 1000000000) : zeu N l true = some (l.contains true) := by
 unfold zeu zaf
 have := zbh (f := zaf.r0 N) (fun i => (l, true, (l.length : Int), (i : Int))) (fun i => (l[i]?).bind fun x => if x = true then some (i : Int) else none) l.length
  (fun i hi => by
   have hx := lge hi; simp only [zaf.r0, zaf.b0, zx, hx, obs, dct (show (i : Int) < (l.length : Int) by omega), ctr]; rw [w6e]; cases hb : l[i] <;> simp)
  (by simp only [zaf.r0, zaf.b0, dcf (show ¬ (l.length : Int) < (l.length : Int) by omega), cfa]) h
 simp only [nc0] at this
 rw [this]
 simp only [obs]
 cases hfs : (List.range l.length).findSome? (fun i : Nat => (l[i]?).bind fun x => if x = true then some (i : Int) else none) with
 | some r =>
  simp only [zat, obs]; obtain ⟨i, hi, hr⟩ := eof hfs; rw [Option.bind_eq_some_iff] at hr; obtain ⟨x, hx, hr⟩ := hr; split at hr
  · rename_i hb; cases hr; have : l.contains true = true := by rw [List.contains_iff_mem, ← hb]; exact lmg hx
    rw [this]; simp
  · cases hr
 | none =>
  simp only [zat, obs]; rw [List.findSome?_eq_none_iff] at hfs; have : l.contains true = false := by
   rw [Bool.eq_false_iff]; intro hc; rw [List.contains_iff_mem] at hc; obtain ⟨i, hi⟩ := List.getElem?_of_mem hc; have := hfs i (by simp; exact (gei hi).1); rw [hi] at this; simp at this
  rw [this]; rfl
theorem zvi (N : Nat) (s : Storage) (h : s.Tags.length ≤ 64) (hN : 2000 < N) : ∃ l, zbt N s = some l ∧ (decide ((l.length : Int) > 0)) = s.Tags.contains true := by
 unfold zbt
 obtain ⟨s', h1, l, h2, h3, h4⟩ := zm1 (f := zbt.r0 N) (fun i t => ∃ l : List Int, t = (l, (i : Int), s) ∧ l.length ≤ i ∧ (decide ((l.length : Int) > 0)) = (s.Tags.take i).contains true) s.Tags.length
  (fun i t hi ht => by
   obtain ⟨l, rfl, h3, h4⟩ := ht; have hx := lge hi; have rm : Nat.ble ((l.length + ([(w6 ((i : Int) * 16))] : List Int).length) * 8) zak = true := Nat.ble_eq_true_of_le (by unfold zak; simp; omega); simp only [zbt.r0, zbt.b0, zx, hx, obs, dct (show (i : Int) < (s.Tags.length : Int) by omega), ctr, rm]; rw [w6e (n := (i : Int) + 1)]; have tk : s.Tags.take (i + 1) = s.Tags.take i ++ [s.Tags[i]] := by rw [List.take_add_one, hx]; rfl
   cases hb : s.Tags[i] with
   | true => exact ⟨_, rfl, _, rfl, by simp; omega, by rw [tk, hb]; simp⟩
   | false => exact ⟨_, rfl, _, rfl, by omega, by rw [tk, hb, h4]; simp⟩)
  (fun t ht => by
   obtain ⟨l, rfl, h3, h4⟩ := ht; simp only [zbt.r0, zbt.b0, dcf (show ¬ (s.Tags.length : Int) < (s.Tags.length : Int) by omega), cfa]; exact ⟨_, rfl, l, rfl, h3, h4⟩) (N := N) (by omega) (s := ([], 0, s)) ⟨[], rfl, by simp, by simp⟩
 rw [h1, h2]
 exact ⟨l, rfl, by rw [h4, List.take_length]⟩
theorem zxq {c : zF} (hc : Wft En 1048576 Ty.zF c) : zgy c = some c := by
 obtain ⟨w1, w2, w3, w4, w5⟩ := zkr hc
 unfold zgy zii zi4
 rw [show Nat.ble (c.Storage.Tags.length * 1) zak = true from Nat.ble_eq_true_of_le (by unfold zak; omega), show Nat.ble (c.zB.length * 224) zak = true from Nat.ble_eq_true_of_le (by unfold zak; omega), show Nat.ble (c.zP.length * 32) zak = true from Nat.ble_eq_true_of_le (by unfold zak; omega)]
 rfl
theorem zsd (N : Nat) (hN : 1048600 < N) (m : zI) {c : zF} (hc : Wft En 1048576 Ty.zF c) : ∃ r, zn N m c = some r ∧ zw N m c = some r := by
 obtain ⟨e, he1, he2, he3⟩ := zq0 m
 obtain ⟨i1, e1, e2, hs1, hs2, hs⟩ := zth N (by omega) c.Storage
 obtain ⟨w1, w2, w3, w4, w5⟩ := zkr hc
 have f3 : ∀ a b d : Int, zar N [a, b, d] = some (zdt [a, b, d]) := fun a b d => zt5 N _ (by simp; omega) (by simp)
 unfold zn zw
 try simp only [eS, eM, eC]
 rw [he1, he2, hs1, hs2]
 simp only [obs]
 by_cases h0 : e = 0
 · subst h0; have hm := he3 rfl; simp only [bsf, cfa]; rcases hs with ⟨rfl, hs⟩ | ⟨ok, htl, hs3, hs4⟩
   · rw [show (e1 != 0) = true by rw [zcq]; exact dct hs]; exact ⟨_, rfl, rfl⟩
   · obtain ⟨l, hl1, hl2⟩ := zvi N c.Storage htl (by omega); rw [z5p N _ (by omega) (by omega), hl1]; simp only [obs, zp1, f3, orB, hl2]
     by_cases ht : c.Storage.Tags.contains true = true
     · rw [ht]; refine ⟨(0, 22), ?_, ?_⟩
       · rcases hs3 with rfl | ⟨rfl, _⟩
         · simp [zdt]
         · rfl
       · rcases hs4 with rfl | ⟨rfl, _⟩
         · rfl
         · rfl
     · have ht' : c.Storage.Tags.contains true = false := by simpa using ht
       have hn : ¬ true ∈ c.Storage.Tags := fun hh => ht (List.contains_iff_mem.2 hh); obtain rfl : e1 = 0 := hs3.resolve_right fun hh => hn hh.2; obtain rfl : e2 = 0 := hs4.resolve_right fun hh => hn hh.2; rw [ht']; have hl1 := z3w N hN hm ok hc; have hl2 := ztq N hN hm ok hc
       by_cases hz : (c.zB.length : Int) = 0
       · refine ⟨(0, 1), ?_, ?_⟩
         · simp [zdt, hz]
         · simp [hz]
       · cases hbig : (decide ((c.zB.length : Int) > 240) || decide ((c.zP.length : Int) > 40)) with
         | true =>
          refine ⟨(0, 2), ?_, ?_⟩
          · simp only [bsf, cfa, ctr, obs, zcl, dcf hz, zdt, if_true]; rfl
          · simp only [bsf, cfa, ctr, obs, zcl, dcf hz]
         | false =>
          refine ⟨znm m c, ?_, ?_⟩
          · rw [← hl1]; simp only [bsf, cfa, obs, zcl, dcf hz, zdt, if_true]
          · rw [← hl2]; simp only [bsf, cfa, obs, zcl, dcf hz]
 · rw [show (e != 0) = true by rw [zcq]; exact dct h0]; exact ⟨_, rfl, rfl⟩
theorem zv9 (N : Nat) (hN : 1048600 < N) {c : zF} (hc : Wft En 1048576 Ty.zF c) : ∃ b, zdv N c = some b := by
 obtain ⟨w1, w2, w3, w4, w5⟩ := zkr hc
 unfold zdv
 have ft : ∀ s, ∃ b, zge s = some b := fun s => by
  unfold zge; cases decide ((s.Bytes.size : Int) ≤ 1072) <;> exact ⟨_, rfl⟩
 have e1 : ∀ i : Nat, i ≤ c.zB.length → (cond (decide ((i : Int) < (c.zB.length : Int))) (some (decide ((i : Int) < 244))) (some false)) = some (decide ((i : Int) < (c.zB.length : Int)) && decide ((i : Int) < 244)) := fun i _ => zg7 _ _
 have l1 := zpm (f := zdv.r0 N) (fun i t => t = ((i : Int), c)) (fun r => True) (min c.zB.length 244)
  (fun i t hi ht => by
   subst ht; have hlt : i < c.zB.length := by omega
   have hx := lge hlt; simp only [zdv.r0, zdv.b0, zg7, obs, dct (show (i : Int) < (c.zB.length : Int) by omega), dct (show (i : Int) < 244 by omega), Bool.and_self, ctr, zx, hx, orB]; rw [w6e (n := (i : Int) + 1)]; cases (decide ((c.zB[i].Text.size : Int) > 300) || decide ((c.zB[i].Other.size : Int) > 300)) with
   | true => exact .inr ⟨_, rfl, trivial⟩
   | false => exact .inl ⟨_, rfl, rfl⟩)
  (fun t ht => by
   subst ht; have e : (decide (((min c.zB.length 244 : Nat) : Int) < (c.zB.length : Int)) && decide (((min c.zB.length 244 : Nat) : Int) < 244)) = false := by
    by_cases h : c.zB.length < 244
    · rw [dcf (show ¬ ((min c.zB.length 244 : Nat) : Int) < (c.zB.length : Int) by omega)]; rfl
    · rw [dcf (show ¬ ((min c.zB.length 244 : Nat) : Int) < 244 by omega)]; simp
   simp only [zdv.r0, zdv.b0, zg7, obs, e, cfa]; exact ⟨_, rfl, rfl⟩) (N := N) (by omega) (s := (0, c)) rfl
 rcases l1 with ⟨t, g1, _⟩ | ⟨r, g1, _⟩
 · rw [g1]; simp only [obs, zat]; obtain ⟨b, hb⟩ := ft t.2.Storage; rw [hb]; simp only [obs, zg7]; exact ⟨_, rfl⟩
 · rw [g1]; exact ⟨_, rfl⟩
theorem z5d {m : zI} {c : zF} {n : Int} (h : znm m c = (n, 0)) : ∀ x ∈ c.zB, zmu m c x = 0 := by
 intro x hx
 refine cbc fun h0 => ?_
 unfold znm at h
 obtain ⟨i, hi⟩ := List.getElem?_of_mem hx
 cases hf : (List.range c.zB.length).findSome? (gI m c) with
 | none =>
  rw [List.findSome?_eq_none_iff] at hf; have := hf i (by simp; exact (gei hi).1); unfold gI at this; rw [hi] at this; simp [h0] at this
 | some r =>
  rw [hf] at h; simp only at h; subst h; obtain ⟨j, _, hj⟩ := eof hf; unfold gI at hj; rw [Option.bind_eq_some_iff] at hj; obtain ⟨y, _, hy⟩ := hj
  by_cases h1 : zmu m c y = 0
  · simp [h1] at hy
  · rw [ifn h1] at hy; simp only [Option.some.injEq, Prod.mk.injEq] at hy; exact h1 hy.2
theorem zti {α σ : Type} {f : σ → Option (Round Int σ)} (l : List α) (p : α → Bool) (S : Nat → σ) (hstep : ∀ i x, l[i]? = some x → f (S i) = some (cond (p x) (.result (i : Int)) (.again (S (i + 1)))))
 (hl : f (S l.length) = some (.leave (S l.length))) {N : Nat} (hN : l.length < N) : zg f N (S 0) = some (match l.findIdx? p with | some i => .inl (i : Int) | none => .inr (S l.length)) := by
 have := zbh (f := f) S (fun i => (l[i]?).bind fun x => if p x = true then some (i : Int) else none) l.length (fun i hi => by
  have hx := lge hi; rw [hstep i _ hx]; simp only [hx, obs]; cases hb : p l[i] <;> simp) hl hN
 rw [this]
 congr 1
 have key : (List.range l.length).findSome? (fun i : Nat => (l[i]?).bind fun x => if p x = true then some (i : Int) else none) = (l.findIdx? p).map (fun i => (i : Int)) := by
  cases hf : l.findIdx? p with
  | none =>
   rw [List.findIdx?_eq_none_iff] at hf; rw [List.findSome?_eq_none_iff.2]
   · rfl
   · intro i hi; have hi' : i < l.length := by simpa using hi
     have h9 := hf _ (List.getElem_mem hi'); rw [lge hi', obs, ifn (by simp [h9])]
  | some k =>
   rw [List.findIdx?_eq_some_iff_getElem] at hf; obtain ⟨hk, h1, h2⟩ := hf; show _ = some (k : Int); have : (List.range l.length).findSome? (fun i : Nat => (l[i]?).bind fun x => if p x = true then some (i : Int) else none) = some (k : Int) := by
    rw [List.findSome?_eq_some_iff]; refine ⟨List.range k, k, (List.range' (k + 1) (l.length - (k + 1))), ?_, ?_, ?_⟩
    · apply List.ext_getElem
      · simp; omega
      · intro i h3 h4; rw [List.getElem_append]; split
        · simp
        · rename_i h5; have h5' : k ≤ i := by simpa using h5
          by_cases e : i = k
          · subst e; simp
          · have : i - k ≠ 0 := by omega
            rw [List.getElem_cons]; simp [this]; omega
    · rw [lge hk]; simp [h1]
    · intro x hx; have hx' : x < k := by simpa using hx
      rw [lge (by omega)]; have := h2 x hx'; simp [this]
   rw [this]
 rw [key]
 cases l.findIdx? p <;> rfl
theorem zpn {α : Type} (l : List α) (p : α → Bool) : (l.findIdx? p).isSome = l.any p := by
 cases h : l.findIdx? p with
 | none =>
  rw [List.findIdx?_eq_none_iff] at h
  symm
  simp only [Option.isSome_none, List.any_eq_false]; intro x hx; simp [h x hx]
 | some k =>
  rw [List.findIdx?_eq_some_iff_getElem] at h; obtain ⟨hk, h1, h2⟩ := h
  symm
  simp only [Option.isSome_some, List.any_eq_true]; exact ⟨_, List.getElem_mem hk, h1⟩
theorem zua {α β σ : Type} {f : σ → Option (Stp σ)} (l : List α) (g : α → Option β) (S : Nat → List β → σ) (hstep : ∀ i x acc, l[i]? = some x → acc.length ≤ i → f (S i acc) = some (.again (S (i + 1) (acc ++ (g x).toList))))
 (hl : ∀ acc, f (S l.length acc) = some (.leave (S l.length acc))) {N : Nat} (hN : l.length < N) : zh f N (S 0 []) = some (S l.length (l.filterMap g)) := by
 have e0 : ∀ i, ((l.take i).filterMap g).length ≤ i := fun i => Nat.le_trans (List.length_filterMap_le _ _) (by simp; omega)
 have := zet (f := f) (fun i => S i ((l.take i).filterMap g)) l.length (fun i hi => by
  have hx := lge hi; rw [hstep i _ _ hx (e0 i), List.take_add_one, hx, List.filterMap_append]
  congr 3) (hl _) hN
 simpa using this
theorem z02 {α σ : Type} {f : σ → Option (Stp σ)} (l : List α) (p : α → Bool) (S : List α → Nat → Nat → σ)
 (hstep : ∀ s i j x, s[j]? = some x → i < j → s.length = l.length → x ∈ l → f (S s i j) = some (.again (cond (p x) (S s i (j + 1)) (S (s.set i x) (i + 1) (j + 1)))))
 (hl : ∀ s i, s.length = l.length → i ≤ l.length → f (S s i l.length) = some (.leave (S s i l.length))) {k : Nat} (hk : l.findIdx? p = some k) {N : Nat} (hN : l.length < N) :
 ∃ s i, zh f N (S l k (k + 1)) = some (S s i l.length) ∧ s.length = l.length ∧ i ≤ l.length ∧ s.take i = l.filter (fun x => !p x) := by
 rw [List.findIdx?_eq_some_iff_getElem] at hk
 obtain ⟨hkl, h1, h2⟩ := hk
 have first : l.take k = (l.take (k + 1)).filter (fun x => !p x) := by
  rw [List.take_add_one, lge hkl, List.filter_append]; simp only [Option.toList_some, List.filter_cons, h1, bnt, Bool.false_eq_true, if_false, List.filter_nil, List.append_nil]
  symm
  rw [List.filter_eq_self]; intro x hx; obtain ⟨j, hj, rfl⟩ := List.mem_take_iff_getElem.1 hx; have := h2 j (by omega); simpa using this
 let I : Nat → σ → Prop := fun t q => ∃ s i, q = S s i (k + 1 + t) ∧ s.length = l.length ∧ i < k + 1 + t ∧ (∀ j, k + 1 + t ≤ j → s[j]? = l[j]?) ∧ s.take i = (l.take (k + 1 + t)).filter (fun x => !p x)
 obtain ⟨q, hq, hI⟩ := zm1 (f := f) I (l.length - (k + 1)) (by
  rintro t q ht ⟨s, i, rfl, hs, hi, hsame, htake⟩
  have hlt : k + 1 + t < l.length := by omega
  have hx := lge hlt; have hsx : s[k + 1 + t]? = some l[k + 1 + t] := by rw [hsame _ (Nat.le_refl _), hx]
  refine ⟨_, hstep s i _ _ hsx hi hs (List.getElem_mem hlt), ?_⟩; cases hp : p l[k + 1 + t] with
  | true =>
   refine ⟨s, i, rfl, hs, by omega, fun j hj => hsame j (by omega), ?_⟩; rw [htake, ← Nat.add_assoc, List.take_add_one, hx, List.filter_append]; simp [hp]
  | false =>
   refine ⟨s.set i l[k + 1 + t], i + 1, rfl, by simpa using hs, by omega, fun j hj => ?_, ?_⟩
   · rw [List.getElem?_set_ne (by omega)]; exact hsame j (by omega)
   · rw [List.take_add_one, List.getElem?_set_self (by omega), List.take_set_of_le (Nat.le_refl _), htake, ← Nat.add_assoc, List.take_add_one, hx, List.filter_append]; simp [hp])
  (by
   rintro q ⟨s, i, rfl, hs, hi, hsame, htake⟩
   have e : k + 1 + (l.length - (k + 1)) = l.length := by omega
   rw [e] at hi htake ⊢; exact ⟨_, hl s i hs (by omega), s, i, by rw [e], hs, by omega, fun j hj => hsame j hj, by rw [e]; exact htake⟩)
  (N := N) (by omega) (s := S l k (k + 1)) ⟨l, k, rfl, rfl, by omega, fun j _ => rfl, first⟩
 obtain ⟨s, i, rfl, hs, hi, hsame, htake⟩ := hI
 have e : k + 1 + (l.length - (k + 1)) = l.length := by omega
 rw [e] at hq hi htake
 refine ⟨s, i, hq, hs, by omega, ?_⟩
 rw [htake, List.take_length]
theorem zpo {α : Type} {l : List α} {p : α → Bool} (h : l.findIdx? p = none) : l.filter (fun x => !p x) = l := by
 rw [List.findIdx?_eq_none_iff] at h
 rw [List.filter_eq_self]
 intro x hx
 simp [h x hx]
def zj4 (a b : zA) : Bool := a.Register == b.Register && (a.zD.Kind == b.zD.Kind && (a.zD.Length == b.zD.Length && (a.zD.Scale == b.zD.Scale && a.Offset == b.Offset)))
theorem zo1 {a b : zA} : zj4 a b = true ↔ a = b := by
 obtain ⟨r, ⟨k, l, s⟩, o⟩ := a
 obtain ⟨r', ⟨k', l', s'⟩, o'⟩ := b
 simp only [zj4, Bool.and_eq_true, beq_iff_eq, zA.mk.injEq, DataType.mk.injEq, and_assoc]
theorem zwa (a b : zA) : zbx [(a.Register == b.Register), (a.zD.Kind == b.zD.Kind), (a.zD.Length == b.zD.Length), (a.zD.Scale == b.zD.Scale), (a.Offset == b.Offset)] = zj4 a b := by
 simp only [zbx, zj4, List.all_cons, List.all_nil, List.foldr_cons, List.foldr_nil, Bool.and_true, id]
theorem z00 (a b : zA) : zj4 a b = zj4 b a := by
 rw [Bool.eq_iff_iff, zo1, zo1]
 exact ⟨Eq.symm, Eq.symm⟩
def zfe (l : List zA) (x : zA) : Bool := l.any (zj4 x)
theorem zir {l : List zA} {x : zA} : zfe l x = true ↔ x ∈ l := by
 unfold zfe
 rw [List.any_eq_true]
 constructor
 · rintro ⟨y, hy, h⟩
   rw [zo1] at h; subst h; exact hy
 · intro h; exact ⟨x, h, zo1.2 rfl⟩
theorem zpa (N : Nat) (l : List zA) (x : zA) (h : l.length < N) (hl : l.length < 1000000000) : zav N l x = some (zfe l x) := by
 unfold zav zal
 have := zti (f := zal.r0 N) l (zj4 x) (fun i => (l, (l.length : Int), (i : Int), x)) (fun i y hy => by
  have hi := (gei hy).1; simp only [zal.r0, zal.b0, zx, hy, obs, dct (show (i : Int) < (l.length : Int) by omega), ctr, zwa]; rw [w6e]; cases zj4 x y <;> simp)
  (by simp only [zal.r0, zal.b0, dcf (show ¬ (l.length : Int) < (l.length : Int) by omega), cfa]) h
 simp only [nc0] at this
 rw [this]
 have e := zpn l (zj4 x)
 unfold zfe
 cases hf : l.findIdx? (zj4 x) with
 | none => rw [hf] at e; rw [← e]; simp [zat]
 | some k => rw [hf] at e; rw [← e]; simp [zat]
theorem zt8 (s : List zA) (i : Nat) (n : Nat) (hs : s.length = n) (hi : i ≤ n) (z : zA) :
 (if 0 ≤ (i : Int) ∧ (i : Int) ≤ (s.length : Int) then (if 0 ≤ (i : Int) ∧ (i : Int) ≤ ((s.take (i : Int).toNat ++ List.replicate (s.length - (i : Int).toNat) z).length : Int) then
  (if 0 ≤ (0 : Int) ∧ (0 : Int) ≤ (i : Int) then (some (((s.take (i : Int).toNat ++ List.replicate (s.length - (i : Int).toNat) z).drop ((0 : Int).toNat)).take ((i : Int).toNat - (0 : Int).toNat))) else none) else none) else none) = some (s.take i) := by
 have h1 : (s.take i ++ List.replicate (s.length - i) z).length = n := by simp; omega
 rw [ifp, ifp (by rw [itn, h1]; omega), ifp]
 congr 1
 simp only [itn, Int.toNat_zero, dr0, Nat.sub_zero]
 rw [List.take_append_of_le_length (by simp; omega), List.take_take, Nat.min_self]
theorem zvu (l : List zA) (h : l.length ≤ 1000000) : zkx 40 l = some l := by
 unfold zkx
 rw [show Nat.ble (l.length * 40) zak = true from Nat.ble_eq_true_of_le (by show l.length * 40 ≤ 2 ^ 46; omega)]
 rfl
theorem zjh {n : Nat} (h : n ≤ 1000000000) : Nat.ble (n * 40) zak = true := Nat.ble_eq_true_of_le (by show n * 40 ≤ 2 ^ 46; omega)
theorem zud {n : Nat} (h : n ≤ 1000000) : Nat.ble (n * 8) zak = true := Nat.ble_eq_true_of_le (by show n * 8 ≤ 2 ^ 46; omega)
theorem z35 {n : Nat} (h : n ≤ 1000000) : Nat.ble (n * 1) zak = true := Nat.ble_eq_true_of_le (by show n * 1 ≤ 2 ^ 46; omega)
theorem z8d {n : Nat} (h : n ≤ 1000000) : Nat.ble (n * 24) zak = true := Nat.ble_eq_true_of_le (by show n * 24 ≤ 2 ^ 46; omega)
theorem z51 (N : Nat) (l : List zA) (r : Int) (p : zA → Bool) (hp : ∀ x ∈ l, zdw x r = some (p x)) (h : l.length < N) (hl : l.length ≤ 1000000) : zk N l r = some (l.filter fun f => !(p f)) := by
 unfold zk zr
 have := zti (f := zr.r0 N) l p (fun i => (l, (l.length : Int), (i : Int), r)) (fun i y hy => by
  have hi := (gei hy).1; have hc := hp y (lmg hy); simp only [zr.r0, zr.b0, hc, zx, hy, obs, dct (show (i : Int) < (l.length : Int) by omega), ctr]; rw [w6e]; cases p y <;> simp)
  (by simp only [zr.r0, zr.b0, dcf (show ¬ (l.length : Int) < (l.length : Int) by omega), cfa]) h
 simp only [nc0] at this
 rw [this]
 cases hf : l.findIdx? p with
 | none => simp [zat, zpo hf]
 | some k =>
  have hk : k < l.length := by
   rw [List.findIdx?_eq_some_iff_getElem] at hf; exact hf.1
  obtain ⟨s, i, h1, h2, h3, h4⟩ := z02 (f := zk.r0 N) l p (fun s i j => (s, (i : Int), (j : Int), r)) (fun s i j x hx hij hs hm => by
   have hj := (gei hx).1; have hxi : ∃ y, s[i]? = some y := ⟨_, lge (by omega)⟩; obtain ⟨y, hy⟩ := hxi; have hc := hp x hm; simp only [zk.r0, zk.b0, hc, dct (show (j : Int) < (s.length : Int) by omega), ctr, ifp (show 0 ≤ (j : Int) by omega), ifp (show (j : Int) < (s.length : Int) by omega),
    ifp (show 0 ≤ (i : Int) by omega), ifp (show (i : Int) < (s.length : Int) by omega), itn, hx, hy, obs]
   rw [w6e (n := (i : Int) + 1), w6e (n := (j : Int) + 1)]; cases p x <;> simp)
   (fun s i hs hi => by simp only [zk.r0, zk.b0, hs, dcf (show ¬ (l.length : Int) < (l.length : Int) by omega), cfa]) hf h
  have hne : ((k : Int) == -1) = false := by rw [zcl]; simp
  simp only [zat, obs, hne, cfa]; rw [w6e]; have h1 : zh (zk.r0 N) N (l, (k : Int), (k : Int) + 1, r) = some (s, (i : Int), (l.length : Int), r) := by
   have := h1; simpa using this
  rw [h1]; simp only [obs]; rw [zt8 s i l.length h2 h3, h4]
theorem z5y (N : Nat) (l : List zA) (p : zA → Bool) (hp : ∀ x ∈ l, ze3 x = some (p x)) (h : l.length < N) (hl : l.length ≤ 1000000) : zi N l = some (l.filter fun f => !(p f)) := by
 unfold zi zp
 have := zti (f := zp.r0 N) l p (fun i => (l, (l.length : Int), (i : Int))) (fun i y hy => by
  have hi := (gei hy).1; have hc := hp y (lmg hy); simp only [zp.r0, zp.b0, hc, zx, hy, obs, dct (show (i : Int) < (l.length : Int) by omega), ctr]; rw [w6e]; cases p y <;> simp)
  (by simp only [zp.r0, zp.b0, dcf (show ¬ (l.length : Int) < (l.length : Int) by omega), cfa]) h
 simp only [nc0] at this
 rw [this]
 cases hf : l.findIdx? p with
 | none => simp [zat, zpo hf]
 | some k =>
  have hk : k < l.length := by
   rw [List.findIdx?_eq_some_iff_getElem] at hf; exact hf.1
  obtain ⟨s, i, h1, h2, h3, h4⟩ := z02 (f := zi.r0 N) l p (fun s i j => (s, (i : Int), (j : Int))) (fun s i j x hx hij hs hm => by
   have hj := (gei hx).1; have hxi : ∃ y, s[i]? = some y := ⟨_, lge (by omega)⟩; obtain ⟨y, hy⟩ := hxi; have hc := hp x hm; simp only [zi.r0, zi.b0, hc, dct (show (j : Int) < (s.length : Int) by omega), ctr, ifp (show 0 ≤ (j : Int) by omega), ifp (show (j : Int) < (s.length : Int) by omega),
    ifp (show 0 ≤ (i : Int) by omega), ifp (show (i : Int) < (s.length : Int) by omega), itn, hx, hy, obs]
   rw [w6e (n := (i : Int) + 1), w6e (n := (j : Int) + 1)]; cases p x <;> simp)
   (fun s i hs hi => by simp only [zi.r0, zi.b0, hs, dcf (show ¬ (l.length : Int) < (l.length : Int) by omega), cfa]) hf h
  have hne : ((k : Int) == -1) = false := by rw [zcl]; simp
  simp only [zat, obs, hne, cfa]; rw [w6e]; have h1 : zh (zi.r0 N) N (l, (k : Int), (k : Int) + 1) = some (s, (i : Int), (l.length : Int)) := by
   have := h1; simpa using this
  rw [h1]; simp only [obs]; rw [zt8 s i l.length h2 h3, h4]
theorem z5z (N : Nat) (l : List zA) (a b : Int) (p : zA → Bool) (hp : ∀ x ∈ l, zdu N x a b = some (p x)) (h : l.length < N) (hl : l.length ≤ 1000000) : zj N l a b = some (l.filter fun f => !(p f)) := by
 unfold zj zq
 have := zti (f := zq.r0 N) l p (fun i => (l, (l.length : Int), (i : Int), a, b)) (fun i y hy => by
  have hi := (gei hy).1; have hc := hp y (lmg hy); simp only [zq.r0, zq.b0, hc, zx, hy, obs, dct (show (i : Int) < (l.length : Int) by omega), ctr]; rw [w6e]; cases p y <;> simp)
  (by simp only [zq.r0, zq.b0, dcf (show ¬ (l.length : Int) < (l.length : Int) by omega), cfa]) h
 simp only [nc0] at this
 rw [this]
 cases hf : l.findIdx? p with
 | none => simp [zat, zpo hf]
 | some k =>
  have hk : k < l.length := by
   rw [List.findIdx?_eq_some_iff_getElem] at hf; exact hf.1
  obtain ⟨s, i, h1, h2, h3, h4⟩ := z02 (f := zj.r0 N) l p (fun s i j => (s, (i : Int), (j : Int), a, b)) (fun s i j x hx hij hs hm => by
   have hj := (gei hx).1; have hxi : ∃ y, s[i]? = some y := ⟨_, lge (by omega)⟩; obtain ⟨y, hy⟩ := hxi; have hc := hp x hm; simp only [zj.r0, zj.b0, hc, dct (show (j : Int) < (s.length : Int) by omega), ctr, ifp (show 0 ≤ (j : Int) by omega), ifp (show (j : Int) < (s.length : Int) by omega),
    ifp (show 0 ≤ (i : Int) by omega), ifp (show (i : Int) < (s.length : Int) by omega), itn, hx, hy, obs]
   rw [w6e (n := (i : Int) + 1), w6e (n := (j : Int) + 1)]; cases p x <;> simp)
   (fun s i hs hi => by simp only [zj.r0, zj.b0, hs, dcf (show ¬ (l.length : Int) < (l.length : Int) by omega), cfa]) hf h
  have hne : ((k : Int) == -1) = false := by rw [zcl]; simp
  simp only [zat, obs, hne, cfa]; rw [w6e]; have h1 : zh (zj.r0 N) N (l, (k : Int), (k : Int) + 1, a, b) = some (s, (i : Int), (l.length : Int), a, b) := by
   have := h1; simpa using this
  rw [h1]; simp only [obs]; rw [zt8 s i l.length h2 h3, h4]
theorem znk (N : Nat) (l : List zA) (r : Int) (h : l.length < N) (hl : l.length ≤ 1000000) : zc6 N l r = some (l.filter fun f => !(f.Register == r)) := by
 unfold zc6
 rw [zvu l hl, obs, z51 N l r (fun f => f.Register == r) (fun x _ => rfl) h hl]
 rfl
theorem z4u (N : Nat) (l : List zA) (h : l.length < N) (hl : l.length ≤ 1000000) : zhg N l = some (l.filter fun f => f.Offset == -1) := by
 unfold zhg
 rw [zvu l hl, obs, z5y N l (fun f => f.Offset != -1) (fun x _ => rfl) h hl]
 simp only [obs]
 congr 2
 funext f
 cases he : (f.Offset == -1) <;> simp [bne, he]
theorem zve (N : Nat) (hN : 10 < N) {t : DataType} (h : zbn t = 0) : zd6 N t = some (szE t) := by
 unfold zd6 zd8
 rw [zss N hN, h]
 simp [zzd h]
def apB (a b : Int) (x : zA) : Bool := (x.Offset != -1 && decide (x.Offset < w6 (a + b))) && decide (a < w6 (x.Offset + szE x.zD))
theorem zwz (N : Nat) (hN : 10 < N) (l : List zA) (a b : Int) (ht : ∀ x ∈ l, zbn x.zD = 0) (h : l.length < N) (hl : l.length ≤ 1000000) : ze5 N l a b = some (l.filter fun f => !apB a b f) := by
 unfold ze5
 rw [zvu l hl, obs, z5z N l a b (apB a b) (fun x hx => ?_) h hl]
 · rfl
 · unfold zdu apB; rw [zve N hN (ht x hx)]; cases (x.Offset != -1) <;> cases decide (x.Offset < w6 (a + b)) <;> simp
theorem z8a {α β σ : Type} {f : σ → Option (Stp σ)} (l : List α) (g : α → List β) (M : Nat) (hM : ∀ x ∈ l, (g x).length ≤ M) (S : Nat → List β → σ) (a0 : List β)
 (hstep : ∀ i x acc, l[i]? = some x → acc.length ≤ a0.length + i * M → f (S i acc) = some (.again (S (i + 1) (acc ++ g x))))
 (hl : ∀ acc, f (S l.length acc) = some (.leave (S l.length acc))) {N : Nat} (hN : l.length < N) : zh f N (S 0 a0) = some (S l.length (a0 ++ l.flatMap g)) := by
 have e0 : ∀ i, ((l.take i).flatMap g).length ≤ i * M := by
  intro i
  induction i with
  | zero => simp
  | succ i ih =>
   rw [List.take_add_one, List.flatMap_append, lna, Nat.succ_mul]; refine Nat.add_le_add ih ?_; cases hx : l[i]? with
   | none => simp
   | some x => simpa using hM x (lmg hx)
 have := zet (f := f) (fun i => S i (a0 ++ (l.take i).flatMap g)) l.length (fun i hi => by
  have hx := lge hi; rw [hstep i _ _ hx (by rw [lna]; have := e0 i; omega), List.take_add_one, hx, List.flatMap_append]; simp) (hl _) hN
 simpa using this
def zh1 (a r : Int) (x : zA) : Option zA := if x.Register = a then some ⟨r, x.zD, x.Offset⟩ else none
theorem zw0 (N : Nat) (l : List zA) (a r : Int) (h : l.length < N) (hl : l.length ≤ 100000) : zbb N l a r = some (l.filterMap (zh1 a r)) := by
 unfold zbb
 have := zua (f := zbb.r0 N) l (zh1 a r) (fun i acc => (a, r, acc, l, (l.length : Int), (i : Int))) (fun i x acc hx hacc => by
  have hi := (gei hx).1; simp only [zbb.r0, zbb.b0, zx, hx, obs, dct (show (i : Int) < (l.length : Int) by omega), ctr, lnc, ln0, zjh (show acc.length + (0 + 1) ≤ 1000000000 by omega)]; rw [w6e, zcl]; unfold zh1
  by_cases e : x.Register = a <;> simp [e])
  (fun acc => by simp only [zbb.r0, zbb.b0, dcf (show ¬ (l.length : Int) < (l.length : Int) by omega), cfa]) h
 simp only [nc0] at this
 rw [this]
 rfl
def zvd (a b : DataType) : Bool := a.Kind == b.Kind && (a.Length == b.Length && a.Scale == b.Scale)
theorem zwu {a b : DataType} : zvd a b = true ↔ a = b := by
 obtain ⟨k, l, s⟩ := a
 obtain ⟨k', l', s'⟩ := b
 simp only [zvd, Bool.and_eq_true, beq_iff_eq, DataType.mk.injEq]
theorem z2y (a b : DataType) : zbx [(a.Kind == b.Kind), (a.Length == b.Length), (a.Scale == b.Scale)] = zvd a b := by
 simp only [zbx, zvd, Bool.and_true]
def woL (r : Int) (l : List zA) : List zA := l.filter fun f => !(f.Register == r)
def zjg (x : zC) (l : List zA) (g : zA) : List zA := if zvd g.zD x.zD && g.Offset == x.Place.Offset then l.filterMap (zh1 g.Register x.R) else []
def zou (x : zC) (l : List zA) : List zA :=
 (woL x.R l ++ [⟨x.R, x.zD, -1⟩]) ++ (if x.Place.Based then [] else [⟨x.R, x.zD, x.Place.Offset⟩] ++ l.flatMap (zjg x l))
theorem z1g (N : Nat) (x : zC) (l : List zA) (h : l.length < N) (hl : l.length ≤ 5000) : zbk N x l = some (zou x l) := by
 unfold zbk
 rw [znk N l x.R h (by omega)]
 have hw : (l.filter fun f => !(f.Register == x.R)).length ≤ l.length := List.length_filter_le _ _
 simp only [obs, lna, lnc, ln0]
 rw [zjh (by omega), zjh (by omega)]
 simp only [ctr]
 unfold zou woL
 cases hb : x.Place.Based with
 | true => simp
 | false =>
  simp only [cfa]; have := z8a (f := zbk.r0 N) l (zjg x l) 5000 (fun g _ => by
   unfold zjg; split
   · exact Nat.le_trans (List.length_filterMap_le _ _) hl
   · simp) (fun i acc => (l, acc, l, (l.length : Int), (i : Int), x)) (((l.filter fun f => !(f.Register == x.R)) ++ [⟨x.R, x.zD, -1⟩]) ++ [⟨x.R, x.zD, x.Place.Offset⟩]) (fun i y acc hy hacc => by
   have hi := (gei hy).1; simp only [zbk.r0, zbk.b0, zx, hy, obs, dct (show (i : Int) < (l.length : Int) by omega), ctr, z2y]; rw [zg7, obs, zw0 N l y.Register x.R h (by omega), w6e]; have hla : (l.filterMap (zh1 y.Register x.R)).length ≤ l.length := List.length_filterMap_le _ _; have hi2 : i * 5000 ≤ 5000 * 5000 := Nat.mul_le_mul_right 5000 (by omega); simp only [lna, lnc, ln0] at hacc; unfold zjg; cases hc : (zvd y.zD x.zD && y.Offset == x.Place.Offset) with
   | true => simp only [ctr, obs, if_true, zjh (show acc.length + (l.filterMap (zh1 y.Register x.R)).length ≤ 1000000000 by omega)]; rfl
   | false => simp)
   (fun acc => by simp only [zbk.r0, zbk.b0, dcf (show ¬ (l.length : Int) < (l.length : Int) by omega), cfa]) h
  simp only [nc0] at this; rw [this]; simp
def zrp (x : zC) (l : List zA) : List zA :=
 if x.Place.Based then l.filter fun f => f.Offset == -1
 else (l.filter fun f => !apB x.Place.Offset (szE x.zD) f) ++ (if x.Op == 1 && zfe l ⟨x.R, x.zD, -1⟩ then [⟨x.R, x.zD, x.Place.Offset⟩] else [])
theorem zz2 (N : Nat) (hN : 10 < N) (x : zC) (l : List zA) (htx : zbn x.zD = 0) (ht : ∀ x ∈ l, zbn x.zD = 0) (h : l.length < N) (hl : l.length ≤ 5000) : zfw N x l = some (zrp x l) := by
 unfold zfw zrp
 rw [z4u N l h (by omega), zve N hN htx]
 cases hb : x.Place.Based with
 | true => simp
 | false =>
  simp only [cfa, obs]; rw [zwz N hN l _ _ ht h (by omega), zpa N l _ h (by omega)]; have hw : (l.filter fun f => !apB x.Place.Offset (szE x.zD) f).length ≤ l.length := List.length_filter_le _ _; simp only [obs, zg7, lnc, ln0, zjh (show (l.filter fun f => !apB x.Place.Offset (szE x.zD) f).length + (0 + 1) ≤ 1000000000 by omega)]; cases (x.Op == 1 && zfe l ⟨x.R, x.zD, -1⟩) <;> simp
structure InsX (m : zI) (c : zF) (x : zC) : Prop where
 op : 0 ≤ x.Op ∧ x.Op ≤ 26
 r : x.Op = 0 ∨ x.Op = 1 ∨ x.Op = 2 ∨ x.Op = 3 ∨ x.Op = 4 ∨ x.Op = 21 → 0 ≤ x.R ∧ x.R < m.Registers
 a : x.Op = 3 → 0 ≤ x.A ∧ x.A < m.Registers
 ty : x.Op = 0 ∨ x.Op = 1 ∨ x.Op = 4 ∨ x.Op = 9 ∨ x.Op = 10 → zbn x.zD = 0
 kd : x.Op = 0 ∨ x.Op = 1 ∨ x.Op = 4 → x.zD.Kind ≠ 0 ∧ x.zD.Kind ≠ 4
 pl : x.Op = 0 ∨ x.Op = 1 ∨ x.Op = 9 ∨ x.Op = 10 → x.Place.Based = false → 0 ≤ x.Place.Offset ∧ x.Place.Offset + szE x.zD ≤ (c.Storage.Bytes.size : Int)
 pt : x.Op = 14 ∨ x.Op = 15 ∨ x.Op = 16 → 0 ≤ x.Pointer ∧ x.Pointer < (c.Storage.Bytes.size : Int)
 tg : x.Op = 6 ∨ x.Op = 7 ∨ x.Op = 8 ∨ x.Op = 18 → 0 ≤ x.Target ∧ x.Target < (c.zB.length : Int)
theorem zpt {t : DataType} (h : zdr t 1 = 0) : zbn t = 0 ∧ t.Kind ≠ 0 ∧ t.Kind ≠ 4 := by
 unfold zdr at h
 rw [ifn (by decide)] at h
 by_cases h0 : zbn t = 0
 · rw [ifp h0] at h; split at h
   · cases h
   · rename_i h1; refine ⟨h0, ?_⟩; have h2 : inB t.Kind 1 3 = true := by
      refine cbc fun h2 => h1 (.inl ⟨rfl, fun h3 => h2 (zda.2 h3)⟩)
     have := zda.1 h2; omega
 · rw [ifn h0] at h; exact absurd h h0
theorem z74 {m : zI} {c : zF} {x : zC} (h : zmu m c x = 0) : InsX m c x := by
 unfold zmu at h
 by_cases hop : inB x.Op 0 26 = true
 · obtain ⟨f, u, hf, hu, ag, _⟩ := zv7 x hop; rw [ifp hop, hu] at h; have h' : zt4 m c x u = 0 := h; unfold zt4 at h'; cases he : zk3 x u with
   | true => rw [he] at h'; cases h'
   | false =>
    rw [he] at h'; simp only [cfa] at h'; cases hl : znc m x with
    | true => rw [hl] at h'; cases h'
    | false =>
     rw [hl] at h'; simp only [cfa] at h'
     by_cases h1 : zdr x.zD u.zD = 0
     · by_cases h2 : zdr x.Second u.Second = 0
       · rw [ifn, ifn] at h'; cases hr : zlh m c x u with
         | true => rw [hr] at h'; simp at h'
         | false =>
          unfold zlh at hr; simp only [Bool.or_eq_false_iff] at hr; obtain ⟨r1, r2, r3, r4, r5, r6, r7, r8⟩ := hr; rw [List.any_eq_false] at r1; have reg : ∀ i, i ∈ zmi x u → 0 ≤ i ∧ i < m.Registers := fun i hi => by
           have := r1 i hi; unfold zfc at this; have h4 : inB i 0 (m.Registers - 1) = true := by simpa using this
           have := zda.1 h4; omega
          have andF : ∀ {p q : Bool}, (p && !q) = false → p = true → q = true := fun {p q} h hp => by subst hp; simpa using h
          have hu0 : ∀ k, x.Op = k → ∀ w, zeb ⟨k, x.R, x.A, x.B, x.zM, x.Place, x.From, x.zD, x.Second, x.Half, x.zK, x.Number, x.Text, x.Other, x.Mask, x.Target, x.Pointer, x.Source⟩ = some w → u = w := by
           rintro k rfl w hw
           have : zeb x = some w := hw; rw [hu] at this; exact Option.some.inj this
          have place : u.Place = true → (x.Op ≠ 4) → x.Place.Based = false → zbn x.zD = 0 → 0 ≤ x.Place.Offset ∧ x.Place.Offset + szE x.zD ≤ (c.Storage.Bytes.size : Int) := fun hp h4 hb ht => by
           have := andF r6 hp; unfold zhv at this; rw [hb] at this; have hpl : zko x = x.zD := by unfold zko; rw [ifn h4]
           rw [hpl] at this; have := zda.1 (by simpa using this); omega
          have pnt : u.Pointer = true → 0 ≤ x.Pointer ∧ x.Pointer < (c.Storage.Bytes.size : Int) := fun hp => by
           have := andF r4 hp; unfold zj2 at this; simp only [Bool.and_eq_true, decide_eq_true_eq] at this; omega
          have op4 : x.Op = 4 → u.R = true ∧ u.zD = 1 := fun e => by
           cases hi : x.zK with
           | true => have := hu0 4 e _ (by rw [hi]; rfl); subst this; exact ⟨rfl, rfl⟩
           | false => have := hu0 4 e _ (by rw [hi]; rfl); subst this; exact ⟨rfl, rfl⟩
          have hR : u.R = true → 0 ≤ x.R ∧ x.R < m.Registers := fun hx => reg _ (by unfold zmi; rw [hx]; simp); have hA : u.A = true → 0 ≤ x.A ∧ x.A < m.Registers := fun hx => reg _ (by unfold zmi; rw [hx]; simp); have tyy : x.Op = 0 ∨ x.Op = 1 ∨ x.Op = 4 ∨ x.Op = 9 ∨ x.Op = 10 → zbn x.zD = 0 := by
           rintro (e | e | e | e | e)
           · have := hu0 0 e _ rfl; subst this; exact (zpt h1).1
           · have := hu0 1 e _ rfl; subst this; exact (zpt h1).1
           · rw [(op4 e).2] at h1; exact (zpt h1).1
           · have := hu0 9 e _ rfl; subst this; exact zlv h1 (by decide)
           · have := hu0 10 e _ rfl; subst this; exact zlv h1 (by decide)
          exact {
           op := zda.1 hop
           r := by
            rintro (e | e | e | e | e | e)
            · have := hu0 0 e _ rfl; subst this; exact hR rfl
            · have := hu0 1 e _ rfl; subst this; exact hR rfl
            · have := hu0 2 e _ rfl; subst this; exact hR rfl
            · have := hu0 3 e _ rfl; subst this; exact hR rfl
            · exact hR (op4 e).1
            · have := hu0 21 e _ rfl; subst this; exact hR rfl
           a := fun e => by have := hu0 3 e _ rfl; subst this; exact hA rfl
           ty := tyy
           kd := by
            rintro (e | e | e)
            · have := hu0 0 e _ rfl; subst this; exact (zpt h1).2
            · have := hu0 1 e _ rfl; subst this; exact (zpt h1).2
            · rw [(op4 e).2] at h1; exact (zpt h1).2
           pl := by
            rintro (e | e | e | e) hb
            · have ht := tyy (by omega); have := hu0 0 e _ rfl; subst this; exact place rfl (by omega) hb ht
            · have ht := tyy (by omega); have := hu0 1 e _ rfl; subst this; exact place rfl (by omega) hb ht
            · have ht := tyy (by omega); have := hu0 9 e _ rfl; subst this; exact place rfl (by omega) hb ht
            · have ht := tyy (by omega); have := hu0 10 e _ rfl; subst this; exact place rfl (by omega) hb ht
           pt := by
            rintro (e | e | e)
            · have := hu0 14 e _ rfl; subst this; exact pnt rfl
            · have := hu0 15 e _ rfl; subst this; exact pnt rfl
            · have := hu0 16 e _ rfl; subst this; exact pnt rfl
           tg := by
            have tgt : u.Target = true → 0 ≤ x.Target ∧ x.Target < (c.zB.length : Int) := fun hx => by have := zda.1 (andF r2 hx); omega
            rintro (e | e | e | e)
            · have := hu0 6 e _ rfl; subst this; exact tgt rfl
            · have := hu0 7 e _ rfl; subst this; exact tgt rfl
            · have := hu0 8 e _ rfl; subst this; exact tgt rfl
            · have := hu0 18 e _ rfl; subst this; exact tgt rfl }
       · rw [ifn, ifp h2] at h'; exact absurd h' h2
     · rw [ifp h1] at h'; exact absurd h' h1
 · rw [ifn hop] at h; cases h
structure FctV (m : zI) (c : zF) (f : zA) : Prop where
 r : 0 ≤ f.Register ∧ f.Register < m.Registers
 ty : zbn f.zD = 0
 kd : f.zD.Kind ≠ 0 ∧ f.zD.Kind ≠ 4
 of : f.Offset = -1 ∨ (0 ≤ f.Offset ∧ f.Offset + szE f.zD ≤ (c.Storage.Bytes.size : Int))
theorem zz1 {t : DataType} (h : zbn t = 0) : 0 ≤ t.Scale ∧ t.Scale ≤ 15 := by
 unfold zbn at h
 split at h
 · split at h
   · split at h
     · omega
     · cases h
   · cases h
 · split at h
   · split at h
     · rename_i h1; split at h
       · rename_i h2; have := zda.1 h1; have := zda.1 h2; omega
       · cases h
     · cases h
   · split at h
     · split at h
       · split at h
         · rename_i h2; have := zda.1 h2; omega
         · cases h
       · cases h
     · split at h
       · split at h
         · split at h
           · omega
           · cases h
         · cases h
       · cases h
theorem z63 {m : zI} {c : zF} (hm : m.Registers ≤ 8) (hs : c.Storage.Bytes.size ≤ 1024) {f : zA} (h : FctV m c f) : Proofs.Tryz.okF f = true := by
 rw [Proofs.Tryz.okF_iff]
 have h1 := h.r
 have h3 := h.of
 have h4 := zpu h.ty
 have h2 := zz1 h.ty
 rcases zi9 h.ty with ⟨q0, q1, q2⟩ | ⟨q0 | q0, q1, q2⟩ | ⟨q0, q1 | q1⟩ | ⟨q0, q1⟩ <;> refine ⟨?_, ?_, ?_, ?_, ?_⟩ <;> omega
theorem zqy {l : List zA} (h : ∀ f ∈ l, Proofs.Tryz.okF f = true) (hl : l.length ≤ 1000000000) : zmd Proofs.Tryz.ltF Proofs.Tryz.okF l = some (ordD Proofs.Tryz.ltF l) := by
 unfold zmd
 rw [List.all_eq_true.2 h, zjh hl]
 rfl
def zhz (x : zC) (l : List zA) : List zA :=
 if x.Op = 0 then ordD Proofs.Tryz.ltF (zou x l)
 else if x.Op = 4 then ordD Proofs.Tryz.ltF (woL x.R l ++ [⟨x.R, x.zD, -1⟩])
 else if x.Op = 2 ∨ x.Op = 21 then woL x.R l
 else if x.Op = 3 then ordD Proofs.Tryz.ltF (woL x.R l ++ l.filterMap (zh1 x.A x.R))
 else if x.Op = 1 ∨ x.Op = 9 ∨ x.Op = 10 then ordD Proofs.Tryz.ltF (zrp x l)
 else if x.Op = 14 ∨ x.Op = 15 ∨ x.Op = 16 then l.filter fun f => !apB x.Pointer 16 f
 else l
theorem zsk {l : List zA} {a r : Int} {f : zA} : f ∈ l.filterMap (zh1 a r) ↔ ∃ g ∈ l, g.Register = a ∧ f = ⟨r, g.zD, g.Offset⟩ := by
 rw [List.mem_filterMap]
 constructor
 · rintro ⟨g, hg, h⟩
   unfold zh1 at h; split at h
   · rename_i e; cases h; exact ⟨g, hg, e, rfl⟩
   · cases h
 · rintro ⟨g, hg, e, rfl⟩
   exact ⟨g, hg, by unfold zh1; rw [ifp e]⟩
theorem zlu {l : List zA} {r : Int} {f : zA} : f ∈ woL r l ↔ f ∈ l ∧ f.Register ≠ r := by
 unfold woL
 rw [List.mem_filter]
 simp
theorem z3t {x : zC} {l : List zA} {f : zA} : f ∈ zou x l ↔ (f ∈ l ∧ f.Register ≠ x.R) ∨ f = ⟨x.R, x.zD, -1⟩ ∨ (x.Place.Based = false ∧ (f = ⟨x.R, x.zD, x.Place.Offset⟩ ∨ ∃ h ∈ l, h.zD = x.zD ∧ h.Offset = x.Place.Offset ∧ ∃ g ∈ l, g.Register = h.Register ∧ f = ⟨x.R, g.zD, g.Offset⟩)) := by
 unfold zou
 rw [List.mem_append, List.mem_append, zlu, List.mem_singleton, or_assoc]
 cases hb : x.Place.Based with
 | true => simp
 | false =>
  simp only [Bool.false_eq_true, if_false, List.mem_append, List.mem_singleton, List.mem_flatMap, true_and]; have : (∃ a, a ∈ l ∧ f ∈ zjg x l a) ↔ ∃ h ∈ l, h.zD = x.zD ∧ h.Offset = x.Place.Offset ∧ ∃ g ∈ l, g.Register = h.Register ∧ f = ⟨x.R, g.zD, g.Offset⟩ := by
   constructor
   · rintro ⟨h, hh, hf⟩
     unfold zjg at hf; split at hf
     · rename_i e; rw [Bool.and_eq_true, zwu, beq_iff_eq] at e; exact ⟨h, hh, e.1, e.2, zsk.1 hf⟩
     · simp at hf
   · rintro ⟨h, hh, e1, e2, hf⟩
     refine ⟨h, hh, ?_⟩; unfold zjg; rw [ifp (by rw [Bool.and_eq_true, zwu, beq_iff_eq]; exact ⟨e1, e2⟩)]; exact zsk.2 hf
  rw [this]
theorem z4p {x : zC} {l : List zA} {f : zA} : f ∈ zrp x l ↔ (x.Place.Based = true ∧ f ∈ l ∧ f.Offset = -1) ∨ (x.Place.Based = false ∧ ((f ∈ l ∧ apB x.Place.Offset (szE x.zD) f = false) ∨ (x.Op = 1 ∧ (⟨x.R, x.zD, -1⟩ : zA) ∈ l ∧ f = ⟨x.R, x.zD, x.Place.Offset⟩))) := by
 unfold zrp
 cases hb : x.Place.Based with
 | true => simp [List.mem_filter]
 | false =>
  simp only [Bool.false_eq_true, if_false, List.mem_append, List.mem_filter, false_and, false_or, true_and, Bool.not_eq_true']; have : (f ∈ (if x.Op == 1 && zfe l ⟨x.R, x.zD, -1⟩ then [(⟨x.R, x.zD, x.Place.Offset⟩ : zA)] else [])) ↔ (x.Op = 1 ∧ (⟨x.R, x.zD, -1⟩ : zA) ∈ l ∧ f = ⟨x.R, x.zD, x.Place.Offset⟩) := by
   split
   · rename_i e; rw [Bool.and_eq_true, beq_iff_eq, zir] at e; simp [e.1, e.2]
   · rename_i e; rw [Bool.and_eq_true, beq_iff_eq, zir] at e; simp only [List.not_mem_nil, false_iff]
     rintro ⟨a, b, _⟩
     exact e ⟨a, b⟩
  rw [this]
def Beh (x : zC) (l : List zA) (f : zA) : Prop :=
 if x.Op = 0 then (f ∈ l ∧ f.Register ≠ x.R) ∨ f = ⟨x.R, x.zD, -1⟩ ∨ (x.Place.Based = false ∧ (f = ⟨x.R, x.zD, x.Place.Offset⟩ ∨ ∃ h ∈ l, h.zD = x.zD ∧ h.Offset = x.Place.Offset ∧ ∃ g ∈ l, g.Register = h.Register ∧ f = ⟨x.R, g.zD, g.Offset⟩))
 else if x.Op = 4 then (f ∈ l ∧ f.Register ≠ x.R) ∨ f = ⟨x.R, x.zD, -1⟩
 else if x.Op = 2 ∨ x.Op = 21 then f ∈ l ∧ f.Register ≠ x.R
 else if x.Op = 3 then (f ∈ l ∧ f.Register ≠ x.R) ∨ ∃ g ∈ l, g.Register = x.A ∧ f = ⟨x.R, g.zD, g.Offset⟩
 else if x.Op = 1 ∨ x.Op = 9 ∨ x.Op = 10 then (x.Place.Based = true ∧ f ∈ l ∧ f.Offset = -1) ∨ (x.Place.Based = false ∧ ((f ∈ l ∧ apB x.Place.Offset (szE x.zD) f = false) ∨ (x.Op = 1 ∧ (⟨x.R, x.zD, -1⟩ : zA) ∈ l ∧ f = ⟨x.R, x.zD, x.Place.Offset⟩)))
 else if x.Op = 14 ∨ x.Op = 15 ∨ x.Op = 16 then f ∈ l ∧ apB x.Pointer 16 f = false
 else f ∈ l
theorem zlo {l : List zA} {f : zA} : f ∈ ordD Proofs.Tryz.ltF l ↔ f ∈ l := Proofs.Tryz.mem_ordD _ Proofs.Tryz.ltF_eq f l
theorem zzt {x : zC} {l : List zA} {f : zA} : f ∈ zhz x l ↔ Beh x l f := by
 unfold zhz Beh
 split
 · rw [zlo, z3t]
 · split
   · rw [zlo, List.mem_append, zlu, List.mem_singleton]
   · split
     · rw [zlu]
     · split
       · rw [zlo, List.mem_append, zlu, zsk]
       · split
         · rw [zlo, z4p]
         · split
           · simp [List.mem_filter]
           · rfl
def zjp (l : List zA) : Prop := l.Pairwise fun a b => Proofs.Tryz.ltF a b = true
variable {m : zI} {c : zF}
theorem z65 {x : zC} (hx : InsX m c x) {l : List zA} (hl : ∀ f ∈ l, FctV m c f) {f : zA} (h : Beh x l f) : FctV m c f := by
 have about : ∀ g ∈ l, (0 ≤ x.R ∧ x.R < m.Registers) → FctV m c ⟨x.R, g.zD, g.Offset⟩ := fun g hg hr => ⟨hr, (hl g hg).ty, (hl g hg).kd, (hl g hg).of⟩
 unfold Beh at h
 split at h
 · rename_i e; rcases h with ⟨h, _⟩ | rfl | ⟨hb, rfl | ⟨_, _, _, _, g, hg, _, rfl⟩⟩
   · exact hl _ h
   · exact ⟨hx.r (.inl e), hx.ty (.inl e), hx.kd (.inl e), .inl rfl⟩
   · exact ⟨hx.r (.inl e), hx.ty (.inl e), hx.kd (.inl e), .inr (hx.pl (.inl e) hb)⟩
   · exact about g hg (hx.r (.inl e))
 · split at h
   · rename_i e; rcases h with ⟨h, _⟩ | rfl
     · exact hl _ h
     · exact ⟨hx.r (by omega), hx.ty (by omega), hx.kd (by omega), .inl rfl⟩
   · split at h
     · exact hl _ h.1
     · split at h
       · rename_i e; rcases h with ⟨h, _⟩ | ⟨g, hg, _, rfl⟩
         · exact hl _ h
         · exact about g hg (hx.r (by omega))
       · split at h
         · rename_i e; rcases h with ⟨_, h, _⟩ | ⟨hb, ⟨h, _⟩ | ⟨e1, _, rfl⟩⟩
           · exact hl _ h
           · exact hl _ h
           · exact ⟨hx.r (by omega), hx.ty (by omega), hx.kd (by omega), .inr (hx.pl (by omega) hb)⟩
         · split at h
           · exact hl _ h.1
           · exact hl _ h
theorem z1i (N : Nat) (hN : 10 < N) (hm : m.Registers ≤ 8) (hs : c.Storage.Bytes.size ≤ 1024) {x : zC} (hx : InsX m c x) {l : List zA} (hf : ∀ f ∈ l, FctV m c f) (h : l.length < N) (hl : l.length ≤ 5000) :
 zek N x l = some (zhz x l) := by
 have ok : ∀ f ∈ zhz x l, Proofs.Tryz.okF f = true := fun f hf' => z63 hm hs (z65 hx hf (zzt.1 hf'))
 have ht : ∀ f ∈ l, zbn f.zD = 0 := fun f h => (hf f h).ty
 unfold zek
 simp only [zcl]
 by_cases e0 : x.Op = 0
 · have o2 : zhz x l = ordD Proofs.Tryz.ltF (zou x l) := by unfold zhz; rw [ifp e0]
   rw [dct e0, ctr, z1g N x l h hl, obs, zqy (fun f hf' => ok f (by rw [o2, zlo]; exact hf')) ?_, o2]
   · rfl
   · unfold zou woL; have h1 : (l.filter fun f => !(f.Register == x.R)).length ≤ l.length := List.length_filter_le _ _; have h2 : (l.flatMap (zjg x l)).length ≤ 5000 * 5000 := by
      have : ∀ k : List zA, k.length ≤ 5000 → (k.flatMap (zjg x l)).length ≤ k.length * 5000 := by
       intro k
       induction k with
       | nil => intro _; simp
       | cons g k ih =>
        intro hk; have hk' : k.length + 1 ≤ 5000 := by simpa using hk
        have := ih (by omega); have h3 : (zjg x l g).length ≤ 5000 := by
         unfold zjg; split
         · exact Nat.le_trans (List.length_filterMap_le _ _) hl
         · simp
        rw [List.flatMap_cons, lna, lnc, Nat.succ_mul]; omega
      exact Nat.le_trans (this l hl) (Nat.mul_le_mul_right 5000 hl)
     simp only [lna, lnc, ln0]; split
     · simp; omega
     · simp only [lna, lnc, ln0]; omega
 · rw [dcf e0, cfa]
   by_cases e4 : x.Op = 4
   · have o2 : zhz x l = ordD Proofs.Tryz.ltF (woL x.R l ++ [⟨x.R, x.zD, -1⟩]) := by unfold zhz; rw [ifn e0, ifp e4]
     have h1 : (woL x.R l).length ≤ l.length := List.length_filter_le _ _; rw [dct e4, ctr, znk N l x.R h (by omega), obs]; change cond (Nat.ble (((woL x.R l).length + 1) * 40) zak) ((zmd Proofs.Tryz.ltF Proofs.Tryz.okF (woL x.R l ++ [⟨x.R, x.zD, -1⟩])).bind fun r4 => some r4) none = _; rw [zjh (by omega), ctr, zqy (fun f hf' => ok f (by rw [o2, zlo]; exact hf')) (by simp; omega), o2]; rfl
   · rw [dcf e4, cfa]
     by_cases e2 : x.Op = 2 ∨ x.Op = 21
     · have o2 : zhz x l = woL x.R l := by unfold zhz; rw [ifn e0, ifn e4, ifp e2]
       rw [show cond (decide (x.Op = 2)) (some (decide (x.Op = 2))) (some (decide (x.Op = 21))) = some true by rcases e2 with e | e <;> simp [e], obs, ctr, znk N l x.R h (by omega), o2]; rfl
     · rw [show cond (decide (x.Op = 2)) (some (decide (x.Op = 2))) (some (decide (x.Op = 21))) = some false by rw [not_or] at e2; simp [e2.1, e2.2], obs, cfa]
       by_cases e3 : x.Op = 3
       · have o2 : zhz x l = ordD Proofs.Tryz.ltF (woL x.R l ++ l.filterMap (zh1 x.A x.R)) := by unfold zhz; rw [ifn e0, ifn e4, ifn e2, ifp e3]
         have h1 : (woL x.R l).length ≤ l.length := List.length_filter_le _ _; have h2 : (l.filterMap (zh1 x.A x.R)).length ≤ l.length := List.length_filterMap_le _ _; rw [dct e3, ctr, znk N l x.R h (by omega), obs, zw0 N l x.A x.R h (by omega), obs]; change cond (Nat.ble (((woL x.R l).length + (l.filterMap (zh1 x.A x.R)).length) * 40) zak) ((zmd Proofs.Tryz.ltF Proofs.Tryz.okF (woL x.R l ++ l.filterMap (zh1 x.A x.R))).bind fun r9 => some r9) none = _; rw [zjh (by omega), ctr, zqy (fun f hf' => ok f (by rw [o2, zlo]; exact hf')) (by rw [lna]; omega), o2]; rfl
       · rw [dcf e3, cfa]
         by_cases e1 : x.Op = 1 ∨ x.Op = 9 ∨ x.Op = 10
         · have o2 : zhz x l = ordD Proofs.Tryz.ltF (zrp x l) := by unfold zhz; rw [ifn e0, ifn e4, ifn e2, ifn e3, ifp e1]
           rw [show cond (decide (x.Op = 1)) (some (decide (x.Op = 1))) (cond (decide (x.Op = 9)) (some (decide (x.Op = 9))) (some (decide (x.Op = 10)))) = some true by rcases e1 with e | e | e <;> simp [e], obs, ctr,
            zz2 N hN x l (hx.ty (by omega)) ht h hl, obs, zqy (fun f hf' => ok f (by rw [o2, zlo]; exact hf')) ?_, o2]
           · rfl
           · unfold zrp; split
             · exact Nat.le_trans (List.length_filter_le _ _) (by omega)
             · rw [lna]; have h1 : (l.filter fun f => !apB x.Place.Offset (szE x.zD) f).length ≤ l.length := List.length_filter_le _ _; split <;> simp <;> omega
         · rw [show cond (decide (x.Op = 1)) (some (decide (x.Op = 1))) (cond (decide (x.Op = 9)) (some (decide (x.Op = 9))) (some (decide (x.Op = 10)))) = some false by rw [not_or, not_or] at e1; simp [e1.1, e1.2.1, e1.2.2], obs, cfa]
           by_cases e5 : x.Op = 14 ∨ x.Op = 15 ∨ x.Op = 16
           · have o2 : zhz x l = l.filter fun f => !apB x.Pointer 16 f := by unfold zhz; rw [ifn e0, ifn e4, ifn e2, ifn e3, ifn e1, ifp e5]
             rw [show cond (decide (x.Op = 14)) (some (decide (x.Op = 14))) (cond (decide (x.Op = 15)) (some (decide (x.Op = 15))) (some (decide (x.Op = 16)))) = some true by rcases e5 with e | e | e <;> simp [e], obs, ctr,
              zwz N hN l _ _ ht h (by omega), o2]
             rfl
           · have o2 : zhz x l = l := by unfold zhz; rw [ifn e0, ifn e4, ifn e2, ifn e3, ifn e1, ifn e5]
             rw [show cond (decide (x.Op = 14)) (some (decide (x.Op = 14))) (cond (decide (x.Op = 15)) (some (decide (x.Op = 15))) (some (decide (x.Op = 16)))) = some false by rw [not_or, not_or] at e5; simp [e5.1, e5.2.1, e5.2.2], obs, cfa, o2]
theorem z38 {α R σ : Type} {f : σ → Option (Round R σ)} (l : List α) (p : α → Bool) (v : R) (S : Nat → σ) (hstep : ∀ i x, l[i]? = some x → f (S i) = some (cond (p x) (.result v) (.again (S (i + 1)))))
 (hl : f (S l.length) = some (.leave (S l.length))) {N : Nat} (hN : l.length < N) : zg f N (S 0) = some (if l.any p = true then .inl v else .inr (S l.length)) := by
 have := zbh (f := f) S (fun i => (l[i]?).bind fun x => if p x = true then some v else none) l.length (fun i hi => by
  have hx := lge hi; rw [hstep i _ hx]; simp only [hx, obs]; cases hb : p l[i] <;> simp) hl hN
 rw [this]
 congr 1
 rw [zhk]
 cases hf : l.findSome? (fun x => if p x = true then some v else none) with
 | none =>
  rw [List.findSome?_eq_none_iff] at hf; have hno : ¬ l.any p = true := by
   rw [List.any_eq_true]
   rintro ⟨x, hx, h⟩
   have := hf x hx; rw [ifp h] at this; cases this
  rw [ifn hno]
 | some r =>
  obtain ⟨x, hx, h⟩ := eof hf; split at h
  · rename_i e; cases h; rw [ifp (List.any_eq_true.2 ⟨x, hx, e⟩)]
  · cases h
theorem z4m {α β σ : Type} {f : σ → Option (Stp σ)} (l : List α) (g : β → α → β) (I : Nat → β → Prop) (S : Nat → β → σ) (a0 : β) (h0 : I 0 a0)
 (hstep : ∀ i x acc, l[i]? = some x → I i acc → f (S i acc) = some (.again (S (i + 1) (g acc x))) ∧ I (i + 1) (g acc x))
 (hl : ∀ acc, f (S l.length acc) = some (.leave (S l.length acc))) {N : Nat} (hN : l.length < N) : zh f N (S 0 a0) = some (S l.length (l.foldl g a0)) ∧ I l.length (l.foldl g a0) := by
 have e0 : ∀ i, i ≤ l.length → I i ((l.take i).foldl g a0) := by
  intro i
  induction i with
  | zero => intro _; simpa using h0
  | succ i ih =>
   intro hi; have hx := lge (show i < l.length by omega); rw [List.take_add_one, hx, List.foldl_append]; exact (hstep i _ _ hx (ih (by omega))).2
 have := zet (f := f) (fun i => S i ((l.take i).foldl g a0)) l.length (fun i hi => by
  have hx := lge hi; rw [(hstep i _ _ hx (e0 i (by omega))).1, List.take_add_one, hx, List.foldl_append]; rfl) (hl _) hN
 have h1 := e0 l.length (Nat.le_refl _)
 rw [List.take_length] at h1
 exact ⟨by simpa using this, h1⟩
theorem zr0 (N : Nat) (l : List zA) (x : zA) (h : l.length < N) (hl : l.length < 1000000000) : zch N l x = some (zfe l x) := by
 unfold zch
 have := z38 (f := zch.r0 N) l (zj4 x) true (fun i => (l, (i : Int), x)) (fun i y hy => by
  have hi := (gei hy).1; simp only [zch.r0, zch.b0, zx, hy, obs, dct (show (i : Int) < (l.length : Int) by omega), ctr, zwa]; rw [w6e, z00]; cases zj4 x y <;> simp)
  (by simp only [zch.r0, zch.b0, dcf (show ¬ (l.length : Int) < (l.length : Int) by omega), cfa]) h
 simp only [nc0] at this
 rw [this]
 unfold zfe
 cases hb : l.any (zj4 x) <;> simp [zat]
theorem z49 (N : Nat) (hN : 5 < N) (a b : zA) : zb4 N a b = some (Proofs.Tryz.ltF a b) := by
 unfold zb4
 have := zbh (f := zb4.r0 N) (fun i => (([a.Register, a.Offset, a.zD.Kind, a.zD.Length, a.zD.Scale] : List Int), ([b.Register, b.Offset, b.zD.Kind, b.zD.Length, b.zD.Scale] : List Int), (i : Int)))
  (fun i => if ([a.Register, a.Offset, a.zD.Kind, a.zD.Length, a.zD.Scale] : List Int).getD i 0 = ([b.Register, b.Offset, b.zD.Kind, b.zD.Length, b.zD.Scale] : List Int).getD i 0 then none else some (decide (([a.Register, a.Offset, a.zD.Kind, a.zD.Length, a.zD.Scale] : List Int).getD i 0 < ([b.Register, b.Offset, b.zD.Kind, b.zD.Length, b.zD.Scale] : List Int).getD i 0))) 5 (fun i hi => by
   simp only [zb4.r0, zb4.b0]
   match i, hi with
   | 0, _ => simp [zcq]; by_cases e : a.Register = b.Register <;> simp [e, w6e]
   | 1, _ => simp [zcq]; by_cases e : a.Offset = b.Offset <;> simp [e, w6e]
   | 2, _ => simp [zcq]; by_cases e : a.zD.Kind = b.zD.Kind <;> simp [e, w6e]
   | 3, _ => simp [zcq]; by_cases e : a.zD.Length = b.zD.Length <;> simp [e, w6e]
   | 4, _ => simp [zcq]; by_cases e : a.zD.Scale = b.zD.Scale <;> simp [e, w6e]) (by simp [zb4.r0, zb4.b0]) hN
 simp only [nc0] at this
 rw [this]
 simp only [obs]
 have e5 : List.range 5 = [0, 1, 2, 3, 4] := by decide
 rw [e5]
 unfold Proofs.Tryz.ltF
 by_cases h1 : a.Register = b.Register
 · by_cases h2 : a.Offset = b.Offset
   · by_cases h3 : a.zD.Kind = b.zD.Kind
     · by_cases h4 : a.zD.Length = b.zD.Length
       · by_cases h5 : a.zD.Scale = b.zD.Scale <;> simp [List.findSome?, h1, h2, h3, h4, h5, zat]
       · simp [List.findSome?, h1, h2, h3, h4, zat]
     · simp [List.findSome?, h1, h2, h3, zat]
   · simp [List.findSome?, h1, h2, zat]
 · simp [List.findSome?, h1, zat]
def zh8 (f : zA) : List zA → List zA
 | [] => [f]
 | y :: l => cond (Proofs.Tryz.ltF f y) (f :: y :: l) (y :: zh8 f l)
def zjy (l : List zA) (f : zA) : List zA := cond (zfe l f) l (zh8 f l)
theorem zt2 {f g : zA} : ∀ {l : List zA}, g ∈ zh8 f l ↔ g = f ∨ g ∈ l
 | [] => by simp [zh8]
 | y :: l => by
  rw [zh8]; cases Proofs.Tryz.ltF f y with
  | true => simp
  | false => simp only [cfa, List.mem_cons, zt2 (l := l)]; constructor <;> (rintro (h | h | h) <;> simp [h])
theorem znx {l : List zA} {f g : zA} : g ∈ zjy l f ↔ g = f ∨ g ∈ l := by
 unfold zjy
 cases h : zfe l f with
 | true =>
  have := zir.1 h; simp only [ctr]; constructor
  · exact .inr
  · rintro (rfl | h)
    · exact this
    · exact h
 | false => rw [cfa, zt2]
theorem zt3 {f : zA} : ∀ {l : List zA}, (zh8 f l).length = l.length + 1
 | [] => rfl
 | y :: l => by
  rw [zh8]; cases Proofs.Tryz.ltF f y with
  | true => rfl
  | false => simp only [cfa, lnc, zt3 (l := l)]
theorem zmn {l : List zA} {f : zA} : (zjy l f).length ≤ l.length + 1 := by
 unfold zjy
 cases zfe l f with
 | true => simp
 | false => rw [cfa, zt3]; exact Nat.le_refl _
theorem zs8 {f : zA} : ∀ {l : List zA}, zjp l → f ∉ l → zjp (zh8 f l)
 | [], _, _ => by simp [zh8, zjp]
 | y :: l, h, hf => by
  obtain ⟨h1, h2⟩ := List.pairwise_cons.1 h; rw [zh8]; cases hlt : Proofs.Tryz.ltF f y with
  | true =>
   refine List.pairwise_cons.2 ⟨fun z hz => ?_, h⟩; rcases List.mem_cons.1 hz with rfl | hz
   · exact hlt
   · exact Proofs.Tryz.ltF_swo.2.1 _ _ _ hlt (h1 z hz)
  | false =>
   have hyf : Proofs.Tryz.ltF y f = true := by
    cases hyf : Proofs.Tryz.ltF y f with
    | true => rfl
    | false => exact absurd (Proofs.Tryz.ltF_eq _ _ hlt hyf) (fun e => hf (by rw [e]; simp))
   refine List.pairwise_cons.2 ⟨fun z hz => ?_, zs8 h2 (fun h => hf (by simp [h]))⟩; rcases zt2.1 hz with rfl | hz
   · exact hyf
   · exact h1 z hz
theorem zkm {l : List zA} {f : zA} (h : zjp l) : zjp (zjy l f) := by
 unfold zjy
 cases hb : zfe l f with
 | true => exact h
 | false => exact zs8 h (fun hf => by rw [zir.2 hf] at hb; cases hb)
theorem zpw (N : Nat) (hN : 5 < N) (l : List zA) (f : zA) (h : l.length < N) (hl : l.length ≤ 100000) : zcu N l f = some (zjy l f) := by
 unfold zcu zjy
 rw [zr0 N l f h (by omega), obs]
 cases zfe l f with
 | true => rfl
 | false =>
  simp only [cfa]; have spl : ∀ k : List zA, zh8 f k = cond (k.any (Proofs.Tryz.ltF f)) (zh8 f k) (k ++ [f]) := by
   intro k
   induction k with
   | nil => rfl
   | cons y k ih =>
    rw [List.any_cons]; cases hlt : Proofs.Tryz.ltF f y with
    | true => simp
    | false =>
     simp only [Bool.false_or, zh8, hlt, cfa]; rw [ih]; cases k.any (Proofs.Tryz.ltF f) <;> simp
  have snoc : ∀ (k : List zA) y, k.any (Proofs.Tryz.ltF f) = true → zh8 f (k ++ [y]) = zh8 f k ++ [y] := by
   intro k y
   induction k with
   | nil => intro h; simp at h
   | cons z k ih =>
    intro h; rw [List.cons_append, zh8, zh8]; cases hlt : Proofs.Tryz.ltF f z with
    | true => simp
    | false =>
     rw [List.any_cons, hlt, Bool.false_or] at h; simp only [cfa, ih h, List.cons_append]
  have snoc2 : ∀ (k : List zA) y, k.any (Proofs.Tryz.ltF f) = false → Proofs.Tryz.ltF f y = true → zh8 f (k ++ [y]) = k ++ [f] ++ [y] := by
   intro k y
   induction k with
   | nil => intro _ h; simp [zh8, h]
   | cons z k ih =>
    intro h hy; rw [List.any_cons, Bool.or_eq_false_iff] at h; rw [List.cons_append, zh8, h.1, cfa, ih h.2 hy]; simp
  have := zet (f := zcu.r0 N) (fun i => (l, cond ((l.take i).any (Proofs.Tryz.ltF f)) (zh8 f (l.take i)) (l.take i), (l.take i).any (Proofs.Tryz.ltF f), (i : Int), f)) l.length (fun i hi => by
   have hx := lge hi; have htl : (l.take i).length = i := by simp; omega
   have hlen : (cond ((l.take i).any (Proofs.Tryz.ltF f)) (zh8 f (l.take i)) (l.take i)).length ≤ i + 1 := by
    cases (l.take i).any (Proofs.Tryz.ltF f) with
    | true => rw [ctr, zt3, htl]; exact Nat.le_refl _
    | false => rw [cfa, htl]; omega
   simp only [zcu.r0, zcu.b0, zx, hx, obs, dct (show (i : Int) < (l.length : Int) by omega), ctr, z49 N hN, lna, lnc, ln0]; rw [w6e, zjh (by omega), zjh (by omega)]; rw [List.take_add_one, hx, Option.toList_some, List.any_append, List.any_cons, List.any_nil, Bool.or_false]; generalize l[i] = y; cases ha : (l.take i).any (Proofs.Tryz.ltF f) with
   | true => simp [snoc _ _ ha]
   | false =>
    cases hb : Proofs.Tryz.ltF f y with
    | true => simp [snoc2 _ _ ha hb]
    | false => simp)
   (by simp only [zcu.r0, zcu.b0, dcf (show ¬ (l.length : Int) < (l.length : Int) by omega), cfa]) h
  simp only [nc0, List.take_zero, List.any_nil, cfa, List.take_length] at this; rw [this]; simp only [obs]; rw [spl l]; cases ha : l.any (Proofs.Tryz.ltF f) with
  | true => simp
  | false => simp [zjh (show l.length + 1 ≤ 1000000000 by omega)]
theorem z0g (N : Nat) (l : List zA) (r : Int) (h : l.length < N) (hl : l.length ≤ 100000) : zcc N l r = some (woL r l) := by
 unfold zcc
 have := zua (f := zcc.r0 N) l (fun f => if f.Register = r then none else some f) (fun i acc => (l, r, acc, (i : Int))) (fun i x acc hx hacc => by
  have hi := (gei hx).1; simp only [zcc.r0, zcc.b0, zx, hx, obs, dct (show (i : Int) < (l.length : Int) by omega), ctr, lnc, ln0, zjh (show acc.length + (0 + 1) ≤ 1000000000 by omega)]; rw [w6e, zcq]
  by_cases e : x.Register = r <;> simp [e])
  (fun acc => by simp only [zcc.r0, zcc.b0, dcf (show ¬ (l.length : Int) < (l.length : Int) by omega), cfa]) h
 simp only [nc0] at this
 rw [this]
 simp only [obs]
 congr 1
 unfold woL
 rw [← List.filterMap_eq_filter]
 congr 1
 funext f
 by_cases e : f.Register = r <;> simp [Option.guard, e]
theorem z3c (N : Nat) (l : List zA) (h : l.length < N) (hl : l.length ≤ 100000) : zcd N l = some (l.filter fun f => f.Offset == -1) := by
 unfold zcd
 have := zua (f := zcd.r0 N) l (fun f => if f.Offset = -1 then some f else none) (fun i acc => (l, acc, (i : Int))) (fun i x acc hx hacc => by
  have hi := (gei hx).1; simp only [zcd.r0, zcd.b0, zx, hx, obs, dct (show (i : Int) < (l.length : Int) by omega), ctr, lnc, ln0, zjh (show acc.length + (0 + 1) ≤ 1000000000 by omega)]; rw [w6e, zcl]
  by_cases e : x.Offset = -1 <;> simp [e])
  (fun acc => by simp only [zcd.r0, zcd.b0, dcf (show ¬ (l.length : Int) < (l.length : Int) by omega), cfa]) h
 simp only [nc0] at this
 rw [this]
 simp only [obs]
 congr 1
 rw [← List.filterMap_eq_filter]
 congr 1
 funext f
 by_cases e : f.Offset = -1 <;> simp [Option.guard, e]
theorem zxg (N : Nat) (l : List zA) (a b : Int) (ht : ∀ x ∈ l, zbn x.zD = 0) (h : l.length < N) (hl : l.length ≤ 100000) : zcv N l a b = some (l.filter fun f => !apB a b f) := by
 unfold zcv
 have := zua (f := zcv.r0 N) l (fun f => if apB a b f = true then none else some f) (fun i acc => (l, a, b, acc, (i : Int))) (fun i x acc hx hacc => by
  have hi := (gei hx).1; simp only [zcv.r0, zcv.b0, zx, hx, obs, dct (show (i : Int) < (l.length : Int) by omega), ctr, lnc, ln0, zjh (show acc.length + (0 + 1) ≤ 1000000000 by omega), znv (ht x (lmg hx))]; rw [w6e (n := (i : Int) + 1), zcl, orB, obs, orB, obs]; have e : (decide (x.Offset = -1) || decide (w6 (x.Offset + szE x.zD) ≤ a) || decide (w6 (a + b) ≤ x.Offset)) = !apB a b x := by
   unfold apB; rw [zcq]
   by_cases e1 : x.Offset = -1 <;> by_cases e2 : w6 (x.Offset + szE x.zD) ≤ a <;> by_cases e3 : w6 (a + b) ≤ x.Offset <;> simp [e1, e2, e3, Int.not_le.1] <;> omega
  rw [e]; cases apB a b x <;> simp)
  (fun acc => by simp only [zcv.r0, zcv.b0, dcf (show ¬ (l.length : Int) < (l.length : Int) by omega), cfa]) h
 simp only [nc0] at this
 rw [this]
 simp only [obs]
 congr 1
 rw [← List.filterMap_eq_filter]
 congr 1
 funext f
 cases e : apB a b f <;> simp [Option.guard, e]
variable {m : zI} {c : zF}
theorem ztw {α : Type} (q : α → Option zA) : ∀ (l : List α) (a : List zA) {f : zA}, f ∈ l.foldl (fun acc x => match q x with | some g => zjy acc g | none => acc) a ↔ f ∈ a ∨ ∃ x ∈ l, q x = some f
 | [], a, f => by simp
 | x :: l, a, f => by
  rw [List.foldl_cons, ztw q l]; cases hq : q x with
  | none =>
   constructor
   · rintro (h | ⟨y, hy, h⟩)
     · exact .inl h
     · exact .inr ⟨y, by simp [hy], h⟩
   · rintro (h | ⟨y, hy, h⟩)
     · exact .inl h
     · rcases List.mem_cons.1 hy with rfl | hy
       · rw [hq] at h; cases h
       · exact .inr ⟨y, hy, h⟩
  | some g =>
   simp only [znx]; constructor
   · rintro ((rfl | h) | ⟨y, hy, h⟩)
     · exact .inr ⟨x, by simp, hq⟩
     · exact .inl h
     · exact .inr ⟨y, by simp [hy], h⟩
   · rintro (h | ⟨y, hy, h⟩)
     · exact .inl (.inr h)
     · rcases List.mem_cons.1 hy with rfl | hy
       · rw [hq] at h; cases h; exact .inl (.inl rfl)
       · exact .inr ⟨y, hy, h⟩
theorem zpf {α : Type} (q : α → Option zA) : ∀ (l : List α) {a : List zA}, zjp a → zjp (l.foldl (fun acc x => match q x with | some g => zjy acc g | none => acc) a)
 | [], a, h => h
 | x :: l, a, h => by
  rw [List.foldl_cons]; refine zpf q l ?_; cases q x with
  | none => exact h
  | some g => exact zkm h
theorem ztx {α : Type} (q : α → Option zA) : ∀ (l : List α) (a : List zA), (l.foldl (fun acc x => match q x with | some g => zjy acc g | none => acc) a).length ≤ a.length + l.length
 | [], a => by simp
 | x :: l, a => by
  rw [List.foldl_cons]; refine Nat.le_trans (ztx q l _) ?_; cases q x with
  | none => simp only [lnc]; omega
  | some g => have := zmn (l := a) (f := g); simp only [lnc]; omega
def zvp (x : zC) (l : List zA) (g : zA) : Option zA := cond (zfe l ⟨g.Register, x.zD, x.Place.Offset⟩) (some ⟨x.R, g.zD, g.Offset⟩) none
theorem z5c (N : Nat) (hN : 20000 < N) (x : zC) (l a : List zA) (h : l.length ≤ 5000) (ha : a.length ≤ 6000) :
 zh (zas.r1 N) N (l, a, 0, x) = some (l, l.foldl (fun acc y => match zvp x l y with | some g => zjy acc g | none => acc) a, (l.length : Int), x) := by
 have := (z4m (f := zas.r1 N) l (fun acc y => match zvp x l y with | some g => zjy acc g | none => acc) (fun i acc => acc.length ≤ 6000 + i) (fun i acc => (l, acc, (i : Int), x)) a (by omega) (fun i y acc hy hacc => by
  have hi := (gei hy).1; simp only [zas.r1, zas.b1, zx, hy, obs, dct (show (i : Int) < (l.length : Int) by omega), ctr, zr0 N l _ (show l.length < N by omega) (by omega), zpw N (by omega) acc _ (show acc.length < N by omega) (by omega)]; rw [w6e]; unfold zvp; cases zfe l ⟨y.Register, x.zD, x.Place.Offset⟩ with
  | true => exact ⟨rfl, by have := zmn (l := acc) (f := ⟨x.R, y.zD, y.Offset⟩); simp only [ctr]; omega⟩
  | false => exact ⟨rfl, by simp only [cfa]; omega⟩)
  (fun acc => by simp only [zas.r1, zas.b1, dcf (show ¬ (l.length : Int) < (l.length : Int) by omega), cfa]) (show l.length < N by omega)).1
 simpa using this
def zvn (x : zC) (g : zA) : Option zA := cond (decide (g.Register = x.A)) (some ⟨x.R, g.zD, g.Offset⟩) none
theorem z5b (N : Nat) (hN : 20000 < N) (x : zC) (l a : List zA) (h : l.length ≤ 5000) (ha : a.length ≤ 6000) :
 zh (zas.r3 N) N (l, a, 0, x) = some (l, l.foldl (fun acc y => match zvn x y with | some g => zjy acc g | none => acc) a, (l.length : Int), x) := by
 have := (z4m (f := zas.r3 N) l (fun acc y => match zvn x y with | some g => zjy acc g | none => acc) (fun i acc => acc.length ≤ 6000 + i) (fun i acc => (l, acc, (i : Int), x)) a (by omega) (fun i y acc hy hacc => by
  have hi := (gei hy).1; simp only [zas.r3, zas.b3, zx, hy, obs, dct (show (i : Int) < (l.length : Int) by omega), ctr, zpw N (by omega) acc _ (show acc.length < N by omega) (by omega), zcl]; rw [w6e]; unfold zvn
  by_cases e : y.Register = x.A
  · rw [dct e]; exact ⟨rfl, by have := zmn (l := acc) (f := ⟨x.R, y.zD, y.Offset⟩); simp only [ctr]; omega⟩
  · rw [dcf e]; exact ⟨rfl, by simp only [cfa]; omega⟩)
  (fun acc => by simp only [zas.r3, zas.b3, dcf (show ¬ (l.length : Int) < (l.length : Int) by omega), cfa]) (show l.length < N by omega)).1
 simpa using this
theorem z1y (N : Nat) (hN : 20000 < N) {x : zC} (hx : InsX m c x) {l : List zA} (hf : ∀ f ∈ l, FctV m c f) (hl : l.length ≤ 5000) :
 ∃ ys, zas N x l = some ys ∧ (∀ f, f ∈ ys ↔ Beh x l f) ∧ (zjp l → zjp ys) ∧ ys.length ≤ 20000 := by
 have ht : ∀ f ∈ l, zbn f.zD = 0 := fun f h => (hf f h).ty
 have hw : (woL x.R l).length ≤ l.length := List.length_filter_le _ _
 have sw : zjp l → zjp (woL x.R l) := fun h => List.Pairwise.filter _ h
 unfold zas
 rw [z0g N l x.R (by omega) (by omega), z3c N l (by omega) (by omega)]
 simp only [obs, zcl]
 by_cases e0 : x.Op = 0
 · rw [dct e0, ctr, zpw N (by omega) _ _ (by omega) (by omega), obs]; have hl2 : (zjy (woL x.R l) ⟨x.R, x.zD, -1⟩).length ≤ l.length + 1 := Nat.le_trans zmn (by omega); cases hb : x.Place.Based with
   | true =>
    refine ⟨_, rfl, fun f => ?_, fun h => zkm (sw h), by omega⟩; unfold Beh; rw [ifp e0, znx, zlu, hb]; simp [or_comm]
   | false =>
    rw [cfa, zpw N (by omega) _ _ (by omega) (by omega), obs]; have hl3 : (zjy (zjy (woL x.R l) ⟨x.R, x.zD, -1⟩) ⟨x.R, x.zD, x.Place.Offset⟩).length ≤ l.length + 2 := Nat.le_trans zmn (by omega); rw [z5c N hN x l _ hl (by omega)]; refine ⟨_, rfl, fun f => ?_, fun h => zpf _ _ (zkm (zkm (sw h))), Nat.le_trans (ztx _ _ _) (by omega)⟩; unfold Beh; rw [ifp e0, ztw, znx, znx, zlu, hb]; have : (∃ y ∈ l, zvp x l y = some f) ↔ ∃ h ∈ l, h.zD = x.zD ∧ h.Offset = x.Place.Offset ∧ ∃ g ∈ l, g.Register = h.Register ∧ f = ⟨x.R, g.zD, g.Offset⟩ := by
     constructor
     · rintro ⟨y, hy, h⟩
       unfold zvp at h; cases hh : zfe l ⟨y.Register, x.zD, x.Place.Offset⟩ with
       | true =>
        rw [hh] at h; cases h; exact ⟨_, zir.1 hh, rfl, rfl, y, hy, rfl, rfl⟩
       | false => rw [hh] at h; cases h
     · rintro ⟨h, hh, e1, e2, g, hg, e3, rfl⟩
       refine ⟨g, hg, ?_⟩; unfold zvp; have : zfe l ⟨g.Register, x.zD, x.Place.Offset⟩ = true := by rw [zir, e3, ← e1, ← e2]; exact hh
       rw [this]; rfl
    rw [this]; constructor
    · rintro ((h | h | h) | h)
      · exact .inr (.inr ⟨rfl, .inl h⟩)
      · exact .inr (.inl h)
      · exact .inl h
      · exact .inr (.inr ⟨rfl, .inr h⟩)
    · rintro (h | h | ⟨_, h | h⟩)
      · exact .inl (.inr (.inr h))
      · exact .inl (.inr (.inl h))
      · exact .inl (.inl h)
      · exact .inr h
 · rw [dcf e0, cfa]
   by_cases e4 : x.Op = 4
   · rw [dct e4, ctr, zpw N (by omega) _ _ (by omega) (by omega), obs]; refine ⟨_, rfl, fun f => ?_, fun h => zkm (sw h), Nat.le_trans zmn (by omega)⟩; unfold Beh; rw [ifn e0, ifp e4, znx, zlu, or_comm]
   · rw [dcf e4, cfa]
     by_cases e2 : x.Op = 2 ∨ x.Op = 21
     · rw [show cond (decide (x.Op = 2)) (some (decide (x.Op = 2))) (some (decide (x.Op = 21))) = some true by rcases e2 with e | e <;> simp [e], obs, ctr]; refine ⟨_, rfl, fun f => ?_, sw, by omega⟩; unfold Beh; rw [ifn e0, ifn e4, ifp e2, zlu]
     · rw [show cond (decide (x.Op = 2)) (some (decide (x.Op = 2))) (some (decide (x.Op = 21))) = some false by rw [not_or] at e2; simp [e2.1, e2.2], obs, cfa]
       by_cases e3 : x.Op = 3
       · rw [dct e3, ctr]
         by_cases ea : x.A = x.R
         · rw [dct ea, ctr]; refine ⟨_, rfl, fun f => ?_, id, by omega⟩; unfold Beh; rw [ifn e0, ifn e4, ifn e2, ifp e3, ea]; constructor
           · intro h
             by_cases er : f.Register = x.R
             · exact .inr ⟨f, h, er, by obtain ⟨r, t, o⟩ := f; subst er; rfl⟩
             · exact .inl ⟨h, er⟩
           · rintro (h | ⟨g, hg, er, rfl⟩)
             · exact h.1
             · obtain ⟨r, t, o⟩ := g; subst er; exact hg
         · rw [dcf ea, cfa, z5b N hN x l _ hl (by omega)]; refine ⟨_, rfl, fun f => ?_, fun h => zpf _ _ (sw h), Nat.le_trans (ztx _ _ _) (by omega)⟩; unfold Beh; rw [ifn e0, ifn e4, ifn e2, ifp e3, ztw, zlu]; have : (∃ y ∈ l, zvn x y = some f) ↔ ∃ g ∈ l, g.Register = x.A ∧ f = ⟨x.R, g.zD, g.Offset⟩ := by
            constructor
            · rintro ⟨y, hy, h⟩
              unfold zvn at h
              by_cases e : y.Register = x.A
              · rw [dct e] at h; cases h; exact ⟨y, hy, e, rfl⟩
              · rw [dcf e] at h; cases h
            · rintro ⟨g, hg, e, rfl⟩
              exact ⟨g, hg, by unfold zvn; rw [dct e]; rfl⟩
           rw [this]
       · rw [dcf e3, cfa]
         by_cases e1 : x.Op = 1 ∨ x.Op = 9 ∨ x.Op = 10
         · rw [show cond (decide (x.Op = 1)) (some (decide (x.Op = 1))) (cond (decide (x.Op = 9)) (some (decide (x.Op = 9))) (some (decide (x.Op = 10)))) = some true by rcases e1 with e | e | e <;> simp [e], obs, ctr]; cases hb : x.Place.Based with
           | true =>
            refine ⟨_, rfl, fun f => ?_, fun h => List.Pairwise.filter _ h, Nat.le_trans (List.length_filter_le _ _) (by omega)⟩; unfold Beh; rw [ifn e0, ifn e4, ifn e2, ifn e3, ifp e1, hb]; simp [List.mem_filter]
           | false =>
            have hla : (l.filter fun f => !apB x.Place.Offset (szE x.zD) f).length ≤ l.length := List.length_filter_le _ _; rw [cfa, znv (hx.ty (by omega)), obs, zxg N l _ _ ht (by omega) (by omega), obs, zr0 N l _ (by omega) (by omega)]; simp only [obs, zg7]; rw [zpw N (by omega) _ _ (by omega) (by omega)]; cases hc : (decide (x.Op = 1) && zfe l ⟨x.R, x.zD, -1⟩) with
            | true =>
             refine ⟨_, rfl, fun f => ?_, fun h => zkm (List.Pairwise.filter _ h), Nat.le_trans zmn (by omega)⟩; rw [Bool.and_eq_true, decide_eq_true_eq, zir] at hc; unfold Beh; rw [ifn e0, ifn e4, ifn e2, ifn e3, ifp e1, hb, znx]; simp [List.mem_filter, hc.1, hc.2, or_comm]
            | false =>
             refine ⟨_, rfl, fun f => ?_, fun h => List.Pairwise.filter _ h, Nat.le_trans (List.length_filter_le _ _) (by omega)⟩; unfold Beh; rw [ifn e0, ifn e4, ifn e2, ifn e3, ifp e1, hb]; have hno : ¬ (x.Op = 1 ∧ (⟨x.R, x.zD, -1⟩ : zA) ∈ l) := by
              rintro ⟨a, b⟩
              rw [dct a, zir.2 b] at hc; cases hc
             simp only [List.mem_filter, Bool.not_eq_true', Bool.false_eq_true, false_and, false_or, true_and]; constructor
             · exact .inl
             · rintro (h | ⟨a, b, _⟩)
               · exact h
               · exact absurd ⟨a, b⟩ hno
         · rw [show cond (decide (x.Op = 1)) (some (decide (x.Op = 1))) (cond (decide (x.Op = 9)) (some (decide (x.Op = 9))) (some (decide (x.Op = 10)))) = some false by rw [not_or, not_or] at e1; simp [e1.1, e1.2.1, e1.2.2], obs, cfa]
           by_cases e5 : x.Op = 14 ∨ x.Op = 15 ∨ x.Op = 16
           · rw [show cond (decide (x.Op = 14)) (some (decide (x.Op = 14))) (cond (decide (x.Op = 15)) (some (decide (x.Op = 15))) (some (decide (x.Op = 16)))) = some true by rcases e5 with e | e | e <;> simp [e], obs, ctr,
              zxg N l _ _ ht (by omega) (by omega)]
             refine ⟨_, rfl, fun f => ?_, fun h => List.Pairwise.filter _ h, Nat.le_trans (List.length_filter_le _ _) (by omega)⟩; unfold Beh; rw [ifn e0, ifn e4, ifn e2, ifn e3, ifn e1, ifp e5]; simp [List.mem_filter]
           · rw [show cond (decide (x.Op = 14)) (some (decide (x.Op = 14))) (cond (decide (x.Op = 15)) (some (decide (x.Op = 15))) (some (decide (x.Op = 16)))) = some false by rw [not_or, not_or] at e5; simp [e5.1, e5.2.1, e5.2.2], obs, cfa]; refine ⟨_, rfl, fun f => ?_, id, by omega⟩; unfold Beh; rw [ifn e0, ifn e4, ifn e2, ifn e3, ifn e1, ifn e5]
theorem zkf {n : Nat} (f : Nat → Bool) {k : Nat} (v : Bool) : ((List.range n).map f).set k v = (List.range n).map fun i => if i = k then v else f i := by
 apply List.ext_getElem?
 intro i
 rw [List.getElem?_set, List.getElem?_map, List.getElem?_map, lnm, List.length_range]
 by_cases hi : i < n
 · rw [List.getElem?_range hi]
   by_cases e : k = i
   · subst e; simp [hi]
   · simp [e, Ne.symm e]
 · rw [List.getElem?_eq_none (by simpa using hi)]
   by_cases e : k = i
   · subst e; simp [hi]
   · simp [e]
theorem zjr {n : Nat} (f : Nat → Bool) {k : Nat} (h : k < n) : ((List.range n).map f)[k]? = some (f k) := by
 rw [List.getElem?_map, List.getElem?_range h]
 rfl
theorem ztr (n : Nat) : List.replicate n false = (List.range n).map fun _ => false := by
 apply List.ext_getElem
 · simp
 · intro i h1 h2; simp
def zra (c : zF) (k : Nat) : Bool := decide (k = 0) || c.zP.any fun t => decide (t.Handler = (k : Int))
def zvt (c : zF) (k : Nat) : Bool := match k with | 0 => false | j + 1 => (c.zB[j]?).any fun x => decide (x.Op = 18)
theorem zsb (c : zF) (j : Nat) : zvt c (j + 1) = (c.zB[j]?).any fun x => decide (x.Op = 18) := rfl
def zrb (c : zF) (k : Nat) : Bool := zra c k || zvt c k
def zj0 (c : zF) : List Bool := (List.range c.zB.length).map (zrb c)
structure CdV (m : zI) (c : zF) : Prop where
 m1 : 2 ≤ m.Registers
 m2 : m.Registers ≤ 8
 sz : c.Storage.Bytes.size ≤ 1024
 len : c.zB.length ≤ 240
 pos : 0 < c.zB.length
 traps : c.zP.length ≤ 1048576
 ins : ∀ x ∈ c.zB, InsX m c x
 trap : ∀ t ∈ c.zP, 0 ≤ t.Handler ∧ t.Handler < (c.zB.length : Int)
variable {m : zI} {c : zF}
theorem z4t (N : Nat) (hN : 1048600 < N) (hc : CdV m c) : zh (zu.r0 N) N (((List.range c.zB.length).map fun k => decide (k = 0)), c.zP, (c.zP.length : Int), 0, c) = some ((List.range c.zB.length).map (zra c), c.zP, (c.zP.length : Int), (c.zP.length : Int), c) := by
 have ht := hc.traps
 have := zet (f := zu.r0 N) (fun i => ((List.range c.zB.length).map (fun k : Nat => decide (k = 0) || (c.zP.take i).any fun t => decide (t.Handler = (k : Int))), c.zP, (c.zP.length : Int), (i : Int), c)) c.zP.length (fun i hi => by
  have hx := lge hi; obtain ⟨h0, h1⟩ := hc.trap _ (lmg hx); generalize c.zP[i] = x at hx h0 h1; simp only [zu.r0, zu.b0, zx, hx, obs, dct (show (i : Int) < (c.zP.length : Int) by omega), ctr, ifp h0]; rw [ifp (by simpa using h1), zjr _ (by omega), w6e, obs, zkf, List.take_add_one, hx]
  congr 3
  apply List.map_congr_left; intro k _; simp only [List.any_append, Option.toList_some, List.any_cons, List.any_nil, Bool.or_false]
  by_cases e : k = x.Handler.toNat
  · subst e; have : x.Handler = ((x.Handler.toNat : Nat) : Int) := by omega
    simp [← this]
  · have : ¬ x.Handler = (k : Int) := by omega
    simp [e, this])
  (by simp only [zu.r0, zu.b0, dcf (show ¬ (c.zP.length : Int) < (c.zP.length : Int) by omega), cfa]) (show c.zP.length < N by omega)
 rw [show zra c = (fun k : Nat => decide (k = 0) || c.zP.any fun t => decide (t.Handler = (k : Int))) from rfl]
 simpa using this
theorem z5a (N : Nat) (hN : 1048600 < N) (hc : CdV m c) : zh (zam.r0 N) N (((List.range c.zB.length).map fun k => decide (k = 0)), 0, c) = some ((List.range c.zB.length).map (zra c), (c.zP.length : Int), c) := by
 have ht := hc.traps
 have := zet (f := zam.r0 N) (fun i => ((List.range c.zB.length).map (fun k : Nat => decide (k = 0) || (c.zP.take i).any fun t => decide (t.Handler = (k : Int))), (i : Int), c)) c.zP.length (fun i hi => by
  have hx := lge hi; obtain ⟨h0, h1⟩ := hc.trap _ (lmg hx); generalize c.zP[i] = x at hx h0 h1; simp only [zam.r0, zam.b0, zx, hx, obs, dct (show (i : Int) < (c.zP.length : Int) by omega), ctr, ifp h0]; rw [ifp (by simpa using h1), zjr _ (by omega), w6e, obs, zkf, List.take_add_one, hx]
  congr 3
  apply List.map_congr_left; intro k _; simp only [List.any_append, Option.toList_some, List.any_cons, List.any_nil, Bool.or_false]
  by_cases e : k = x.Handler.toNat
  · subst e; have : x.Handler = ((x.Handler.toNat : Nat) : Int) := by omega
    simp [← this]
  · have : ¬ x.Handler = (k : Int) := by omega
    simp [e, this])
  (by simp only [zam.r0, zam.b0, dcf (show ¬ (c.zP.length : Int) < (c.zP.length : Int) by omega), cfa]) (show c.zP.length < N by omega)
 rw [show zra c = (fun k : Nat => decide (k = 0) || c.zP.any fun t => decide (t.Handler = (k : Int))) from rfl]
 simpa using this
def zj5 (c : zF) : List Int := (List.range c.zB.length).filterMap fun i => (c.zB[i]?).bind fun x => if x.Op = 18 ∧ i + 1 < c.zB.length then some ((i : Int) + 1) else none
theorem z26 (N : Nat) (hN : 1000 < N) (hc : CdV m c) : zao N c = some (zj5 c) := by
 unfold zao
 have hl := hc.len
 have := zua (f := zao.r0 N) (List.range c.zB.length) (fun i => (c.zB[i]?).bind fun x => if x.Op = 18 ∧ i + 1 < c.zB.length then some ((i : Int) + 1) else none) (fun i acc => (acc, c.zB, (c.zB.length : Int), (i : Int), c)) (fun i j acc hj hacc => by
  obtain ⟨hi, rfl⟩ := gei hj; have hi : i < c.zB.length := by simpa using hi
  have hx := lge hi; simp only [List.getElem_range]; generalize c.zB[i] = x at hx; simp only [zao.r0, zao.b0, zx, hx, obs, dct (show (i : Int) < (c.zB.length : Int) by omega), ctr, zcl, lnc, ln0, zud (show acc.length + (0 + 1) ≤ 1000000 by omega)]; rw [w6e, zg7, obs]
  by_cases e1 : x.Op = 18 <;> by_cases e2 : i + 1 < c.zB.length
  · simp [e1, e2, show ((i : Int) + 1 < (c.zB.length : Int)) by omega]
  · simp [e1, e2, show ¬ ((i : Int) + 1 < (c.zB.length : Int)) by omega]
  · simp [e1]
  · simp [e1])
  (fun acc => by simp only [zao.r0, zao.b0, List.length_range, dcf (show ¬ (c.zB.length : Int) < (c.zB.length : Int) by omega), cfa]) (show (List.range c.zB.length).length < N by simp; omega)
 simp only [nc0] at this
 rw [this]
 rfl
theorem zub {z : Int} : z ∈ zj5 c ↔ ∃ k : Nat, z = (k : Int) ∧ k < c.zB.length ∧ zvt c k = true := by
 unfold zj5
 rw [List.mem_filterMap]
 constructor
 · rintro ⟨i, hi, h⟩
   have hi : i < c.zB.length := by simpa using hi
   rw [lge hi, obs] at h; split at h
   · rename_i e; cases h; refine ⟨i + 1, rfl, e.2, ?_⟩; rw [zsb, lge hi]; simp [e.1]
   · cases h
 · rintro ⟨k, rfl, hk, h⟩
   cases k with
   | zero => cases h
   | succ j =>
    have hj : j < c.zB.length := by omega
    refine ⟨j, by simpa using hj, ?_⟩; rw [zsb, lge hj] at h; rw [lge hj]; have h18 : c.zB[j].Op = 18 := by simpa using h
    rw [obs, ifp ⟨h18, hk⟩]; rfl
theorem zz5 (N : Nat) (hN : 1048600 < N) (hc : CdV m c) : zu N c = some (zj0 c) := by
 unfold zu
 have hl := hc.len
 have hp := hc.pos
 rw [ifp, ifp, itn, z35 (by omega), ctr, ifp, ifp (by simp; omega), Int.toNat_zero, ztr, zjr _ hp, obs, zkf]
 have e : ((List.range c.zB.length).map fun i => if i = 0 then true else false) = (List.range c.zB.length).map fun k => decide (k = 0) := by
  apply List.map_congr_left; intro k _
  by_cases h : k = 0 <;> simp [h]
 rw [e, z4t N hN hc]
 simp only [obs]
 rw [z26 N (by omega) hc]
 simp only [obs]
 have hcl : (zj5 c).length ≤ c.zB.length := by
  unfold zj5; exact Nat.le_trans (List.length_filterMap_le _ _) (by simp)
 have := zet (f := zu.r2 N) (fun i => ((List.range c.zB.length).map (fun k : Nat => zra c k || ((zj5 c).take i).any fun t => decide (t = (k : Int))), zj5 c, ((zj5 c).length : Int), (i : Int))) (zj5 c).length (fun i hi => by
  have hx := lge hi; obtain ⟨k0, hk0, hk1, _⟩ := zub.1 (lmg hx); generalize (zj5 c)[i] = x at hx hk0; subst hk0; simp only [zu.r2, zu.b2, zx, hx, obs, dct (show (i : Int) < ((zj5 c).length : Int) by omega), ctr, ifp (show 0 ≤ (k0 : Int) by omega)]; rw [ifp (by simp; omega), itn, zjr _ hk1, w6e, obs, zkf, List.take_add_one, hx]
  congr 3
  apply List.map_congr_left; intro k _; simp only [List.any_append, Option.toList_some, List.any_cons, List.any_nil, Bool.or_false]
  by_cases e : k = k0
  · subst e; simp
  · have : ¬ ((k0 : Int) = (k : Int)) := by omega
    simp [e, this])
  (by simp only [zu.r2, zu.b2, dcf (show ¬ ((zj5 c).length : Int) < ((zj5 c).length : Int) by omega), cfa]) (show (zj5 c).length < N by omega)
 simp only [nc0, List.take_zero, List.any_nil, Bool.or_false, List.take_length] at this
 rw [this]
 simp only [obs]
 congr 1
 apply List.map_congr_left
 intro k hk
 have hk : k < c.zB.length := by simpa using hk
 unfold zrb
 congr 1
 rw [Bool.eq_iff_iff, List.any_eq_true]
 constructor
 · rintro ⟨z, hz, h⟩
   have h := of_decide_eq_true h; subst h; obtain ⟨k', e, _, h⟩ := zub.1 hz; obtain rfl : k = k' := by omega
   exact h
 · intro h; exact ⟨(k : Int), zub.2 ⟨k, rfl, hk, h⟩, by simp⟩
theorem z0k (N : Nat) (hN : 1048600 < N) (hc : CdV m c) : zam N c = some (zj0 c) := by
 unfold zam
 have hl := hc.len
 have hp := hc.pos
 rw [ifp, ifp, itn, z35 (by omega), ctr, ifp, ifp (by simp; omega), Int.toNat_zero, ztr, zjr _ hp, obs, zkf]
 have e : ((List.range c.zB.length).map fun i => if i = 0 then true else false) = (List.range c.zB.length).map fun k => decide (k = 0) := by
  apply List.map_congr_left; intro k _
  by_cases h : k = 0 <;> simp [h]
 rw [e, z5a N hN hc]
 simp only [obs]
 have := zet (f := zam.r2 N) (fun i => ((List.range c.zB.length).map (fun k : Nat => zra c k || (decide (k ≤ i) && zvt c k)), (i : Int), c)) (c.zB.length - 1) (fun i hi => by
  have hi' : i < c.zB.length := by omega
  have hx := lge hi'; have e1 : ((i : Int) + 1).toNat = i + 1 := by omega
  simp only [zam.r2, zam.b2]; rw [w6e, lnm, List.length_range, dct (show (i : Int) + 1 < (c.zB.length : Int) by omega), ctr, ifp, ifp, e1, zjr _ (by omega), obs, zx, hx, obs, orB, obs, ifp, ifp, obs, zkf]; have e2 : (i : Int) + 1 = ((i + 1 : Nat) : Int) := by omega
  rw [e2]
  congr 3
  apply List.map_congr_left; intro k _
  by_cases e : k = i + 1
  · subst e; rw [ifp rfl]; simp only [dcf (show ¬ i + 1 ≤ i by omega), Bool.false_and, Bool.or_false, dct (Nat.le_refl (i + 1)), Bool.true_and]
    congr 1
    rw [zsb, hx, zcl]; rfl
  · rw [ifn e]; have : decide (k ≤ i) = decide (k ≤ i + 1) := by
     by_cases h : k ≤ i
     · rw [dct h, dct (by omega)]
     · rw [dcf h, dcf (by omega)]
    rw [this])
  (by
   simp only [zam.r2, zam.b2]; rw [w6e, lnm, List.length_range, dcf (by omega), cfa]) (show c.zB.length - 1 < N by omega)
 have e0 : ((List.range c.zB.length).map (fun k : Nat => zra c k || (decide (k ≤ 0) && zvt c k))) = (List.range c.zB.length).map (zra c) := by
  apply List.map_congr_left; intro k _; cases k with
  | zero => simp [zvt]
  | succ j => simp
 simp only [nc0, e0] at this
 rw [this]
 simp only [obs]
 congr 1
 apply List.map_congr_left
 intro k hk
 have hk : k < c.zB.length := by simpa using hk
 unfold zrb
 rw [dct (by omega), Bool.true_and]
def zoe (o : Int) : Bool := decide (o ≠ 8) && (decide (o ≠ 18) && (decide (o ≠ 19) && (decide (o ≠ 20) && decide (o ≠ 26))))
def zg0 (o : Int) : Bool := decide (o = 6) || (decide (o = 7) || (decide (o = 8) || decide (o = 18)))
def zd5 (c : zF) (i : Nat) : List Int := match c.zB[i]? with
 | none => []
 | some x => (if i + 1 < c.zB.length ∧ zoe x.Op = true then [(i : Int) + 1] else []) ++ (if zg0 x.Op = true then [x.Target] else [])
theorem zwy (o : Int) : zcy o = some (zg0 o) := by
 unfold zcy zg0
 simp only [zcl, orB, obs, Bool.or_assoc]
theorem zs5 (o : Int) : zev o = some (zg0 o) := by
 unfold zev zg0
 simp only [zcl, orB, obs, Bool.or_assoc]
theorem z4q (hl : c.zB.length ≤ 1000000) {i : Nat} (hi : i < c.zB.length) : zce c (i : Int) = some (zd5 c i) := by
 unfold zce zd5
 have hx := lge hi
 rw [zx, hx, obs]
 simp only
 generalize c.zB[i] = x
 have q : (cond (x.Op == 8) (some (x.Op == 8)) (cond (x.Op == 18) (some (x.Op == 18)) (cond (x.Op == 19) (some (x.Op == 19)) (cond (x.Op == 20) (some (x.Op == 20)) (some (x.Op == 26)))))) = some (!zoe x.Op) := by
  unfold zoe; simp only [zcl]
  by_cases h1 : x.Op = 8
  · simp [h1]
  · by_cases h2 : x.Op = 18
    · simp [h2]
    · by_cases h3 : x.Op = 19
      · simp [h3]
      · by_cases h4 : x.Op = 20
        · simp [h4]
        · by_cases h5 : x.Op = 26 <;> simp [h1, h2, h3, h4, h5]
 rw [q, obs, zwy, w6e]
 simp only [obs, lnc, ln0, zud (show 0 + 1 ≤ 1000000 by omega), zud (show 0 + 1 + (0 + 1) ≤ 1000000 by omega), ctr]
 cases hg : zoe x.Op with
 | false => simp; cases zg0 x.Op <;> simp
 | true =>
  by_cases h : i + 1 < c.zB.length
  · rw [dct (show (i : Int) + 1 < (c.zB.length : Int) by omega)]; simp [h]; cases zg0 x.Op <;> simp
  · rw [dcf (show ¬ (i : Int) + 1 < (c.zB.length : Int) by omega)]; simp [h]; cases zg0 x.Op <;> simp
theorem z43 (hl : c.zB.length ≤ 1000000) {i : Nat} (hi : i < c.zB.length) : zgb c (i : Int) = some (zd5 c i) := by
 unfold zgb zd5
 have hx := lge hi
 rw [zx, hx, obs]
 simp only
 generalize c.zB[i] = x
 rw [w6e]
 simp only [zg7, obs, zcq, zs5, lnc, ln0, zud (show 0 + 1 ≤ 1000000 by omega), zud (show 0 + 1 + (0 + 1) ≤ 1000000 by omega), ctr]
 have e : (decide ((i : Int) + 1 < (c.zB.length : Int)) && decide (x.Op ≠ 8) && decide (x.Op ≠ 18) && decide (x.Op ≠ 19) && decide (x.Op ≠ 20) && decide (x.Op ≠ 26)) = (decide (i + 1 < c.zB.length) && zoe x.Op) := by
  unfold zoe; simp only [Bool.and_assoc]
  congr 1
  by_cases h : i + 1 < c.zB.length
  · rw [dct h, dct (by omega)]
  · rw [dcf h, dcf (by omega)]
 rw [e]
 by_cases h : i + 1 < c.zB.length <;> cases hg : zoe x.Op <;> cases hj : zg0 x.Op <;> simp [h]
theorem zy6 (hc : CdV m c) {i : Nat} {z : Int} (h : z ∈ zd5 c i) : ∃ k : Nat, z = (k : Int) ∧ k < c.zB.length := by
 unfold zd5 at h
 cases hx : c.zB[i]? with
 | none => rw [hx] at h; simp at h
 | some x =>
  rw [hx] at h; simp only [List.mem_append] at h; rcases h with h | h
  · split at h
    · rename_i e; have : z = (i : Int) + 1 := by simpa using h
      exact ⟨i + 1, by omega, e.1⟩
    · simp at h
  · split at h
    · rename_i e; have hz : z = x.Target := by simpa using h
      unfold zg0 at e; simp only [Bool.or_eq_true, decide_eq_true_eq] at e; have := (hc.ins x (lmg hx)).tg (by omega); exact ⟨x.Target.toNat, by omega, by omega⟩
    · simp at h
variable {m : zI} {c : zF}
theorem z7b (n lo hi : Int) : zhq n lo hi = some (inB n lo hi) := by
 unfold zhq inB
 cases decide (lo ≤ n) <;> simp
theorem zte (N : Nat) (l : List Int) (h : l.length < N) (hl : l.length < 1000000000) : za3 N l = some (zdt l) := by
 unfold za3
 have := zbh (f := za3.r0 N) (fun i => (l, (l.length : Int), (i : Int))) (fun i => (l[i]?).bind fun x => if x = 0 then none else some x) l.length
  (fun i hi => by
   have hx := lge hi; simp only [za3.r0, za3.b0, zx, hx, obs, dct (show (i : Int) < (l.length : Int) by omega), ctr]
   by_cases h0 : l[i] = 0
   · simp only [h0, bsf, cfa, if_true]; rw [w6e]; rfl
   · simp only [h0, if_false]; rw [show (l[i] != 0) = true by simpa using h0]; rfl)
  (by simp only [za3.r0, za3.b0, dcf (show ¬ (l.length : Int) < (l.length : Int) by omega), cfa]) h
 simp only [nc0] at this
 rw [this, zhk, ← zoz]
 simp only [obs]
 cases l.findSome? (fun x => if x = 0 then none else some x) <;> rfl
def zvm (c : zF) (f : zA) : Bool := decide (f.Offset ≠ -1) && !inB f.Offset 0 ((c.Storage.Bytes.size : Int) - szE f.zD)
def zjz (m : zI) (c : zF) (f : zA) : Option Int :=
 if inB f.Register 0 (m.Registers - 1) = false then some 3
 else if zbn f.zD ≠ 0 ∨ f.zD.Kind = 0 ∨ f.zD.Kind = 4 then some 17
 else if zvm c f = true then some 3 else none
def zq1 (m : zI) (c : zF) (l : List zA) : Option Int := if 60 < l.length then some 2 else l.findSome? (zjz m c)
theorem z64 {f : zA} (h : zjz m c f = none) : FctV m c f := by
 unfold zjz at h
 split at h
 · cases h
 · rename_i h1; split at h
   · cases h
   · rename_i h2; split at h
     · cases h
     · rename_i h3; have h1 : inB f.Register 0 (m.Registers - 1) = true := by simpa using h1
       have h1 := zda.1 h1; rw [not_or, not_or] at h2; obtain ⟨ht, hk, hk2⟩ := h2; refine ⟨by omega, Classical.not_not.1 ht, ⟨hk, hk2⟩, ?_⟩; unfold zvm at h3
       by_cases e : f.Offset = -1
       · exact .inl e
       · rw [dct e, Bool.true_and, Bool.not_eq_true', Bool.not_eq_false] at h3; have := zda.1 h3; exact .inr ⟨this.1, by omega⟩
theorem z3y {f : zA} {e : Int} (h : zjz m c f = some e) : e ≠ 0 := by
 unfold zjz at h
 split at h
 · cases h; decide
 · split at h
   · cases h; decide
   · split at h
     · cases h; decide
     · cases h
theorem z3s {l : List zA} {e : Int} (h : zq1 m c l = some e) : e ≠ 0 := by
 unfold zq1 at h
 split at h
 · cases h; decide
 · obtain ⟨f, _, hf⟩ := eof h; exact z3y hf
theorem z6s {l : List zA} (h : zq1 m c l = none) : l.length ≤ 60 ∧ ∀ f ∈ l, FctV m c f := by
 unfold zq1 at h
 split at h
 · cases h
 · rename_i h1; rw [List.findSome?_eq_none_iff] at h; exact ⟨by omega, fun f hf => z64 (h f hf)⟩
theorem isr (s : Storage) (a n : Int) (hn : 0 < n) (hs : s.Bytes.size ≤ 1024) : zfj s a n = some (inB a 0 ((s.Bytes.size : Int) - n)) := by
 unfold zfj
 rw [ziw, ziw]
 simp only [obs]
 rw [zg7, obs]
 congr 1
 rw [Bool.eq_iff_iff, Bool.and_eq_true, zda, zda, zda]
 constructor
 · rintro ⟨h1, h2⟩
   rw [w6e] at h2; omega
 · intro h; refine ⟨by omega, ?_⟩; rw [w6e]; omega
theorem z4s (N : Nat) (hN : 2000 < N) (hm : 2 ≤ m.Registers ∧ m.Registers ≤ 8) (hs : c.Storage.Bytes.size ≤ 1024) (l : List zA) (hl : l.length ≤ 1000000000) : za7 N m c l = some ((zq1 m c l).getD 0) := by
 unfold za7 zq1
 by_cases h60 : 60 < l.length
 · rw [dct (by omega), ctr, ifp h60]; rfl
 · rw [dcf (by omega), cfa, ifn h60]; have := zbh (f := za7.r0 N) (fun i => (l, (l.length : Int), (i : Int), m, c)) (fun i => (l[i]?).bind (zjz m c)) l.length
    (fun i hi => by
     have hx := lge hi; generalize l[i] = x at hx; simp only [za7.r0, za7.b0, zx, hx, obs, dct (show (i : Int) < (l.length : Int) by omega), ctr, z7b, zss N (by omega), zcl, zcq]; rw [w6e (n := m.Registers - 1), w6e (n := (i : Int) + 1)]; unfold zjz; cases h1 : inB x.Register 0 (m.Registers - 1) with
     | false => simp
     | true =>
      simp only [bnt, cfa, orB, obs]
      by_cases h2 : zbn x.zD ≠ 0 ∨ x.zD.Kind = 0 ∨ x.zD.Kind = 4
      · rw [ifn (by simp), ifp h2, show (decide (zbn x.zD ≠ 0) || decide (x.zD.Kind = 0) || decide (x.zD.Kind = 4)) = true by simpa [or_assoc] using h2]; rfl
      · rw [ifn (by simp), ifn h2, show (decide (zbn x.zD ≠ 0) || decide (x.zD.Kind = 0) || decide (x.zD.Kind = 4)) = false by rw [not_or, not_or] at h2; simp [h2.2.1, h2.2.2, Classical.not_not.1 h2.1]]; rw [not_or] at h2; have ht : zbn x.zD = 0 := Classical.not_not.1 h2.1; have hp := zpu ht; rw [cfa, zve N (by omega) ht]; simp only [obs]; rw [w6e, zg7, obs]; show cond (zvm c x) _ _ = _; cases zvm c x <;> rfl)
    (by simp only [za7.r0, za7.b0, dcf (show ¬ (l.length : Int) < (l.length : Int) by omega), cfa]) (show l.length < N by omega)
   simp only [nc0] at this; rw [this, zhk]; cases l.findSome? (zjz m c) <;> rfl
theorem z48 (N : Nat) (hN : 2000 < N) (hm : 2 ≤ m.Registers ∧ m.Registers ≤ 8) (hs : c.Storage.Bytes.size ≤ 1024) (F : List (List zA)) (j : Nat) (l : List zA) (hj : F[j]? = some l) (hl : l.length ≤ 60) :
 zg (zd.r2 N) N (F, (j : Int), 0, m, c) = some (match l.findSome? (zjz m c) with | some e => .inl ((j : Int), e) | none => .inr (F, (j : Int), (l.length : Int), m, c)) := by
 have := zbh (f := zd.r2 N) (fun i => (F, (j : Int), (i : Int), m, c)) (fun i => ((l[i]?).bind (zjz m c)).map fun e => ((j : Int), e)) l.length
  (fun i hi => by
   have hx := lge hi; generalize l[i] = x at hx; simp only [zd.r2, zd.b2, zx, hj, hx, obs, dct (show (i : Int) < (l.length : Int) by omega), ctr, ziw, zzb, zqo, zcl, zcq]; rw [w6e (n := m.Registers - 1), w6e (n := (i : Int) + 1)]; unfold zjz; cases h1 : inB x.Register 0 (m.Registers - 1) with
   | false => simp
   | true =>
    simp only [bnt, cfa, orB, obs]; have hk : zbn x.zD = 0 → (!inB x.zD.Kind 1 3) = (decide (x.zD.Kind = 0) || decide (x.zD.Kind = 4)) := fun ht => by
     rcases zi9 ht with ⟨q0, _⟩ | ⟨q0 | q0, _⟩ | ⟨q0, _⟩ | ⟨q0, _⟩ <;> rw [q0] <;> decide
    by_cases h2 : zbn x.zD ≠ 0 ∨ x.zD.Kind = 0 ∨ x.zD.Kind = 4
    · rw [ifn (by simp), ifp h2]; have : (decide (zbn x.zD ≠ 0) || !inB x.zD.Kind 1 3) = true := by
       by_cases ht : zbn x.zD = 0
       · rw [hk ht]; rcases h2 with h2 | h2
         · exact absurd ht h2
         · simp [h2]
       · simp [ht]
      rw [this]; rfl
    · rw [ifn (by simp), ifn h2]; rw [not_or, not_or] at h2; have ht : zbn x.zD = 0 := Classical.not_not.1 h2.1; have hp := zpu ht; have : (decide (zbn x.zD ≠ 0) || !inB x.zD.Kind 1 3) = false := by rw [hk ht]; simp [ht, h2.2.1, h2.2.2]
      rw [this, cfa, znv ht]; simp only [obs]; rw [isr _ _ _ hp.1 hs, obs, zg7, obs]; show cond (zvm c x) _ _ = _; cases zvm c x <;> rfl)
  (by simp only [zd.r2, zd.b2, zx, hj, obs, dcf (show ¬ (l.length : Int) < (l.length : Int) by omega), cfa]) (show l.length < N by omega)
 simp only [nc0] at this
 rw [this]
 congr 1
 have e : (List.range l.length).findSome? (fun i : Nat => ((l[i]?).bind (zjz m c)).map fun e => ((j : Int), e)) = (l.findSome? (zjz m c)).map fun e => ((j : Int), e) := by
  have h2 : (fun i : Nat => ((l[i]?).bind (zjz m c)).map fun e => ((j : Int), e)) = fun i : Nat => (l[i]?).bind fun x => (zjz m c x).map fun e => ((j : Int), e) := by
   funext i
   cases l[i]? <;> rfl
  rw [h2, zhk]; clear h2 this hl hj
  induction l with
  | nil => rfl
  | cons x l ih =>
   rw [List.findSome?_cons, List.findSome?_cons]; cases zjz m c x with
   | none => exact ih
   | some e => rfl
 rw [e]
 cases l.findSome? (zjz m c) <;> rfl
def lsE (m : zI) (c : zF) (F : List (List zA)) (i : Nat) : Option (Int × Int) := (F[i]?).bind fun l => (zq1 m c l).map fun e => ((i : Int), e)
theorem z20 (N : Nat) (hN : 2000 < N) (hm : 2 ≤ m.Registers ∧ m.Registers ≤ 8) (hs : c.Storage.Bytes.size ≤ 1024) (F : List (List zA)) (hF : F.length ≤ 1000) (hl : ∀ l ∈ F, l.length ≤ 1000000000) :
 zg (zf.r0 N) N (F, (F.length : Int), 0, m, c) = some (match (List.range F.length).findSome? (lsE m c F) with | some r => .inl r | none => .inr (F, (F.length : Int), (F.length : Int), m, c)) := by
 have := zbh (f := zf.r0 N) (fun i => (F, (F.length : Int), (i : Int), m, c)) (lsE m c F) F.length
  (fun i hi => by
   have hx := lge hi; have hlen := hl _ (lmg hx); unfold lsE; rw [hx, obs]; generalize F[i] = l at hx hlen; simp only [zf.r0, zf.b0, zx, hx, obs, dct (show (i : Int) < (F.length : Int) by omega), ctr, z4s N hN hm hs l hlen, zcq]; rw [w6e (n := (i : Int) + 1)]; cases he : zq1 m c l with
   | none => simp
   | some e => simp [z3s he])
  (by simp only [zf.r0, zf.b0, dcf (show ¬ (F.length : Int) < (F.length : Int) by omega), cfa]) (show F.length < N by omega)
 simp only [nc0] at this
 rw [this]
 cases (List.range F.length).findSome? (lsE m c F) <;> rfl
theorem z3f (N : Nat) (hN : 2000 < N) (hm : 2 ≤ m.Registers ∧ m.Registers ≤ 8) (hs : c.Storage.Bytes.size ≤ 1024) (F : List (List zA)) (hF : F.length ≤ 1000) :
 zg (zd.r0 N) N (F, 0, m, c) = some (match (List.range F.length).findSome? (lsE m c F) with | some r => .inl r | none => .inr (F, (F.length : Int), m, c)) := by
 have := zbh (f := zd.r0 N) (fun i => (F, (i : Int), m, c)) (lsE m c F) F.length
  (fun i hi => by
   have hx := lge hi; unfold lsE zq1; rw [hx, obs]; generalize F[i] = l at hx; simp only [zd.r0, zd.b0, zx, hx, obs, dct (show (i : Int) < (F.length : Int) by omega), ctr]
   by_cases h60 : 60 < l.length
   · rw [dct (by omega), ifp h60]; rfl
   · rw [dcf (by omega), ifn h60, cfa, z48 N hN hm hs F i l hx (by omega)]; simp only [obs]; cases l.findSome? (zjz m c) with
     | some e => rfl
     | none =>
      simp only [zat]; rw [w6e (n := (i : Int) + 1)]; rfl)
  (by simp only [zd.r0, zd.b0, dcf (show ¬ (F.length : Int) < (F.length : Int) by omega), cfa]) (show F.length < N by omega)
 simp only [nc0] at this
 rw [this]
 cases (List.range F.length).findSome? (lsE m c F) <;> rfl
theorem z5m {F : List (List zA)} (h : (List.range F.length).findSome? (lsE m c F) = none) : ∀ l ∈ F, l.length ≤ 60 ∧ ∀ f ∈ l, FctV m c f := by
 intro l hl
 obtain ⟨i, hi⟩ := List.getElem?_of_mem hl
 rw [List.findSome?_eq_none_iff] at h
 have := h i (by simp; exact (gei hi).1)
 unfold lsE at this
 rw [hi, obs, Option.map_eq_none_iff] at this
 exact z6s this
theorem z1z {m : zI} {c : zF} {n : Int} (h : znm m c = (n, 0)) : (∀ x ∈ c.zB, zmu m c x = 0) ∧ (∀ t ∈ c.zP, zlx c t = true) ∧ n = (c.zB.length : Int) := by
 have h1 := z5d h
 refine ⟨h1, ?_⟩
 unfold znm at h
 cases hf : (List.range c.zB.length).findSome? (gI m c) with
 | some r =>
  exfalso
  obtain ⟨j, _, hj⟩ := eof hf; unfold gI at hj; rw [Option.bind_eq_some_iff] at hj; obtain ⟨y, hy1, hy⟩ := hj; rw [ifp (h1 y (lmg hy1))] at hy; cases hy
 | none =>
  rw [hf] at h; cases hg : (List.range c.zP.length).findSome? (gT c) with
  | some r =>
   exfalso
   rw [hg] at h; obtain ⟨j, _, hj⟩ := eof hg; unfold gT at hj; rw [Option.bind_eq_some_iff] at hj; obtain ⟨y, hy1, hy⟩ := hj; split at hy
   · cases hy
   · cases hy; have h3 : (3 : Int) = 0 := congrArg Prod.snd h; exact absurd h3 (by decide)
  | none =>
   rw [hg] at h; refine ⟨fun t ht => ?_, (congrArg Prod.fst h).symm⟩; rw [List.findSome?_eq_none_iff] at hg; obtain ⟨i, hi⟩ := List.getElem?_of_mem ht; have := hg i (by simp; exact (gei hi).1); unfold gT at this; rw [hi, obs] at this; split at this
   · assumption
   · cases this
theorem z2m (N : Nat) (hN : 1048600 < N) {m : zI} {c : zF} (hc : Wft En 1048576 Ty.zF c) {n : Int} (h : zw N m c = some (n, 0)) : CdV m c ∧ n = (c.zB.length : Int) := by
 obtain ⟨e, _, he2, he3⟩ := zq0 m
 obtain ⟨i1, e1, e2, _, hs2, hs⟩ := zth N (by omega) c.Storage
 obtain ⟨w1, w2, w3, w4, w5⟩ := zkr hc
 unfold zw at h
 try simp only [eS, eM, eC] at h
 rw [he2, hs2] at h
 simp only [obs] at h
 by_cases h0 : e = 0
 · subst h0; have hm := he3 rfl; simp only [bsf, cfa] at h
   by_cases h2 : e2 = 0
   · rcases hs with ⟨rfl, hs⟩ | ⟨ok, htl, _, _⟩
     · exact absurd h2 hs
     · subst h2; obtain ⟨l, hl1, hl2⟩ := zvi N c.Storage htl (by omega); rw [hl1] at h; simp only [bsf, cfa, obs, orB] at h; cases hd : decide ((l.length : Int) > 0) with
       | true => rw [hd] at h; cases h
       | false =>
        rw [hd] at h hl2; simp only [cfa] at h
        by_cases hz : (c.zB.length : Int) = 0
        · rw [hz] at h; cases h
        · rw [zcl, dcf hz] at h; simp only [cfa] at h; cases hb : (decide ((c.zB.length : Int) > 240) || decide ((c.zP.length : Int) > 40)) with
          | true => rw [hb] at h; cases h
          | false =>
           rw [hb] at h; simp only [cfa] at h; have := ztq N hN hm ok hc; rw [this] at h; simp only [Bool.or_eq_false_iff, decide_eq_false_iff_not] at hb; obtain ⟨r1, r2, r3⟩ := z1z (Option.some.inj h); have hand : ∀ t ∈ c.zP, 0 ≤ t.Handler ∧ t.Handler < (c.zB.length : Int) := fun t ht => by
            have h5 := r2 t ht; unfold zlx at h5; simp only [Bool.and_eq_true] at h5; have h6 := zda.1 h5.2.2.2; omega
           exact ⟨⟨hm.1, hm.2, ok.le, by omega, by omega, by omega, fun x hx => z74 (r1 x hx), hand⟩, r3⟩
   · rw [zcq, dct h2] at h; simp only [ctr, Option.some.injEq, Prod.mk.injEq] at h; exact absurd h.2 h2
 · rw [zcq, dct h0] at h; simp only [ctr, Option.some.injEq, Prod.mk.injEq] at h; exact absurd h.2 h0
variable {m : zI} {c : zF}
theorem z21 (N : Nat) (l t : List zA) (h : l.length < N) (hl : l.length < 1000000000) (h' : t.length < N) (hl' : t.length < 1000000000) : zb0 N l t = some (l.any fun f => !zfe t f) := by
 unfold zb0 zt
 have := zti (f := zt.r0 N) l (fun f => !zfe t f) (fun i => (l, (l.length : Int), (i : Int), t)) (fun i y hy => by
  have hi := (gei hy).1; simp only [zt.r0, zt.b0, ze1, zpa N t y h' hl', zx, hy, obs, dct (show (i : Int) < (l.length : Int) by omega), ctr]; rw [w6e]; cases zfe t y <;> simp)
  (by simp only [zt.r0, zt.b0, dcf (show ¬ (l.length : Int) < (l.length : Int) by omega), cfa]) h
 simp only [nc0] at this
 rw [this]
 have e := zpn l (fun f => !zfe t f)
 cases hf : l.findIdx? (fun f => !zfe t f) with
 | none => rw [hf] at e; rw [← e]; simp [zat]
 | some k => rw [hf] at e; rw [← e]; simp [zat]
theorem z23 (N : Nat) (l : List Bool) (h : l.length < N) (hl : l.length < 1000000000) : zaf N l true = some (match l.findIdx? id with | some k => (k : Int) | none => -1) := by
 unfold zaf
 have := zti (f := zaf.r0 N) l id (fun i => (l, true, (l.length : Int), (i : Int))) (fun i y hy => by
  have hi := (gei hy).1; simp only [zaf.r0, zaf.b0, zx, hy, obs, dct (show (i : Int) < (l.length : Int) by omega), ctr]; rw [w6e]; cases y <;> simp)
  (by simp only [zaf.r0, zaf.b0, dcf (show ¬ (l.length : Int) < (l.length : Int) by omega), cfa]) h
 simp only [nc0] at this
 rw [this]
 cases l.findIdx? id <;> rfl
theorem z0i (N : Nat) (l : List Int) (z : Int) (h : l.length < N) (hl : l.length < 1000000000) : ∃ r, zcr N l z = some r ∧ (decide (r = -1)) = !l.contains z := by
 unfold zcr
 have := zti (f := zcr.r0 N) l (fun x => decide (x = z)) (fun i => (l, z, (i : Int))) (fun i y hy => by
  have hi := (gei hy).1; simp only [zcr.r0, zcr.b0, zx, hy, obs, dct (show (i : Int) < (l.length : Int) by omega), ctr, zcl]; rw [w6e]
  by_cases e : y = z <;> simp [e])
  (by simp only [zcr.r0, zcr.b0, dcf (show ¬ (l.length : Int) < (l.length : Int) by omega), cfa]) h
 simp only [nc0] at this
 rw [this]
 have e := zpn l (fun x => decide (x = z))
 have e2 : (l.any fun x => decide (x = z)) = l.contains z := by
  rw [Bool.eq_iff_iff, List.any_eq_true, List.contains_iff_mem]; constructor
  · rintro ⟨x, hx, h⟩
    have := of_decide_eq_true h; subst this; exact hx
  · intro h; exact ⟨z, h, by simp⟩
 rw [e2] at e
 cases hf : l.findIdx? (fun x => decide (x = z)) with
 | none => rw [hf] at e; rw [← e]; exact ⟨_, rfl, by simp⟩
 | some k => rw [hf] at e; rw [← e]; exact ⟨_, rfl, by simp⟩
def zji (c : zF) (F : List (List zA)) (i : Nat) : List zA := match c.zB[i]?, F[i]? with | some x, some l => zhz x l | _, _ => []
def zmt (F : List (List zA)) (k : Nat) : List zA := (F[k]?).getD []
def zno (c : zF) (F : List (List zA)) (i k : Nat) : Bool := (zmt F k).any fun f => !zfe (zji c F i) f
def zsh (c : zF) (F : List (List zA)) (i k : Nat) : Bool := (zd5 c i).contains (k : Int) && zno c F i k
def zqw (c : zF) (F : List (List zA)) (k : Nat) : Bool := zrb c k && decide (0 < (zmt F k).length)
def zuc (c : zF) (F : List (List zA)) (k : Nat) : Bool := zqw c F k || (List.range c.zB.length).any fun i => zsh c F i k
structure FsV (m : zI) (c : zF) (F : List (List zA)) : Prop where
 len : F.length = c.zB.length
 v : ∀ l ∈ F, l.length ≤ 60 ∧ ∀ f ∈ l, FctV m c f
theorem z57 {x : zC} {l : List zA} (hl : l.length ≤ 100) : (zhz x l).length ≤ 100000 := by
 have ordl : ∀ k : List zA, (ordD Proofs.Tryz.ltF k).length ≤ k.length := by
  have ins : ∀ (y : zA) (k : List zA), (insD Proofs.Tryz.ltF y k).length ≤ k.length + 1 := by
   intro y k
   induction k with
   | nil => simp [insD]
   | cons z k ih =>
    rw [insD]; cases Proofs.Tryz.ltF y z with
    | true => simp
    | false =>
     cases Proofs.Tryz.ltF z y with
     | true => simp only [cfa, ctr, lnc]; omega
     | false => simp
  intro k
  induction k with
  | nil => simp [ordD]
  | cons y k ih =>
   rw [ordD]; exact Nat.le_trans (ins y _) (by simp; omega)
 have h1 : (woL x.R l).length ≤ l.length := List.length_filter_le _ _
 unfold zhz
 split
 · refine Nat.le_trans (ordl _) ?_; unfold zou; have h2 : (l.flatMap (zjg x l)).length ≤ 100 * 100 := by
    have : ∀ k : List zA, k.length ≤ 100 → (k.flatMap (zjg x l)).length ≤ k.length * 100 := by
     intro k
     induction k with
     | nil => intro _; simp
     | cons g k ih =>
      intro hk; have hk' : k.length + 1 ≤ 100 := by simpa using hk
      have := ih (by omega); have h3 : (zjg x l g).length ≤ 100 := by
       unfold zjg; split
       · exact Nat.le_trans (List.length_filterMap_le _ _) hl
       · simp
      rw [List.flatMap_cons, lna, lnc, Nat.succ_mul]; omega
    exact Nat.le_trans (this l hl) (Nat.mul_le_mul_right 100 hl)
   simp only [lna, lnc, ln0]; split
   · simp; omega
   · simp only [lna, lnc, ln0]; omega
 · split
   · exact Nat.le_trans (ordl _) (by simp; omega)
   · split
     · omega
     · split
       · have h2 : (l.filterMap (zh1 x.A x.R)).length ≤ l.length := List.length_filterMap_le _ _; exact Nat.le_trans (ordl _) (by rw [lna]; omega)
       · split
         · refine Nat.le_trans (ordl _) ?_; unfold zrp; split
           · exact Nat.le_trans (List.length_filter_le _ _) (by omega)
           · have h2 : (l.filter fun f => !apB x.Place.Offset (szE x.zD) f).length ≤ l.length := List.length_filter_le _ _; rw [lna]; split <;> simp <;> omega
         · split
           · exact Nat.le_trans (List.length_filter_le _ _) (by omega)
           · omega
theorem ztf {i : Nat} : (zd5 c i).length ≤ 2 := by
 unfold zd5
 cases c.zB[i]? with
 | none => simp
 | some x =>
  simp only [lna]; split <;> split <;> simp
variable {F : List (List zA)}
theorem zz4 (N : Nat) (hN : 1048600 < N) (hc : CdV m c) (hF : FsV m c F) {i : Nat} (hi : i < c.zB.length) (p : Nat → Bool) :
 zh (zf.r4 N) N (F, zj0 c, (List.range c.zB.length).map p, (F.length : Int), (i : Int), zd5 c i, ((zd5 c i).length : Int), 0, c, zji c F i) =
  some (F, zj0 c, (List.range c.zB.length).map (fun k => p k || zsh c F i k), (F.length : Int), (i : Int), zd5 c i, ((zd5 c i).length : Int), ((zd5 c i).length : Int), c, zji c F i) := by
 have hl := hc.len
 have hs2 := ztf (c := c) (i := i)
 have hbl : (zji c F i).length ≤ 100000 := by
  unfold zji; split
  · rename_i x l _ h2; exact z57 (by have := (hF.v l (lmg h2)).1; omega)
  · simp
 have := zet (f := zf.r4 N) (fun j => (F, zj0 c, (List.range c.zB.length).map (fun k : Nat => p k || (((zd5 c i).take j).contains (k : Int) && zno c F i k)), (F.length : Int), (i : Int), zd5 c i, ((zd5 c i).length : Int), (j : Int), c, zji c F i)) (zd5 c i).length (fun j hj => by
  have hx := lge hj; obtain ⟨k0, hk0, hk1⟩ := zy6 hc (lmg hx); generalize (zd5 c i)[j] = z at hx hk0; subst hk0; have hkl : k0 < F.length := by rw [hF.len]; exact hk1
  have hk : F[k0]? = some F[k0] := lge hkl; have hk60 := (hF.v _ (lmg hk)).1; simp only [zf.r4, zf.b4, zx, hx, hk, obs, dct (show (j : Int) < ((zd5 c i).length : Int) by omega), ctr, ifp (show 0 ≤ (k0 : Int) by omega), itn]; rw [ifp (by simp; omega), zjr _ hk1, obs, z21 N _ _ (by omega) (by omega) (by omega) (by omega), obs, orB, obs, ifp (by simp; omega), obs, zkf, w6e, List.take_add_one, hx]; have e : (F[k0]).any (fun f => !zfe (zji c F i) f) = zno c F i k0 := by unfold zno zmt; rw [hk]; rfl
  rw [e]
  congr 5
  apply List.map_congr_left; intro k _
  by_cases ek : k = k0
  · subst ek; rw [ifp rfl]; cases p k <;> cases zno c F i k <;> simp
  · rw [ifn ek]; have : ¬ ((k : Int) = (k0 : Int)) := by omega
    have e2 : ((zd5 c i).take j ++ (some (k0 : Int)).toList).contains (k : Int) = ((zd5 c i).take j).contains (k : Int) := by
     rw [Bool.eq_iff_iff, List.contains_iff_mem, List.contains_iff_mem]; simp [this]
    rw [e2])
  (by simp only [zf.r4, zf.b4, dcf (show ¬ ((zd5 c i).length : Int) < ((zd5 c i).length : Int) by omega), cfa]) (show (zd5 c i).length < N by omega)
 have e0 : (fun k : Nat => p k || (((zd5 c i).take 0).contains (k : Int) && zno c F i k)) = p := by funext k; simp
 simp only [nc0, e0, List.take_length] at this
 exact this
theorem z1h (N : Nat) (hN : 1048600 < N) (hc : CdV m c) (hF : FsV m c F) :
 zh (zf.r2 N) N (F, zj0 c, List.replicate F.length false, (F.length : Int), 0, c) = some (F, zj0 c, (List.range c.zB.length).map (zuc c F), (F.length : Int), (F.length : Int), c) := by
 have hl := hc.len
 have := zet (f := zf.r2 N) (fun i => (F, zj0 c, (List.range c.zB.length).map (fun k : Nat => (decide (k < i) && zqw c F k) || (List.range i).any fun j => zsh c F j k), (F.length : Int), (i : Int), c)) F.length (fun i hi => by
  have hi' : i < c.zB.length := by rw [← hF.len]; exact hi
  have hk := lge hi; have hx := lge hi'; have hv := hF.v _ (lmg hk); have hix := hc.ins _ (lmg hx); have hent : (zj0 c)[i]? = some (zrb c i) := zjr _ hi'; have hb : zji c F i = zhz c.zB[i] F[i] := by unfold zji; rw [hx, hk]
  simp only [zf.r2, zf.b2, zx, hx, hk, hent, obs, dct (show (i : Int) < (F.length : Int) by omega), ctr, ifp (show 0 ≤ (i : Int) by omega), itn]; rw [ifp (by simp; omega), zjr _ hi', obs, zg7, obs, orB, obs, ifp (by simp; omega), obs, z1i N (by omega) hc.m2 hc.sz hix hv.2 (by omega) (by omega), obs, z4q (by omega) hi', obs, zkf, ← hb, zz4 N hN hc hF hi']; simp only [obs]; rw [w6e]
  congr 5
  apply List.map_congr_left; intro k _; have eo : decide ((F[i].length : Int) > 0) = decide (0 < (zmt F i).length) := by
   unfold zmt; rw [hk]
   by_cases h : 0 < F[i].length
   · rw [dct (by omega)]; symm; exact dct h
   · rw [dcf (by omega)]; symm; exact dcf h
  rw [eo, List.range_succ, List.any_append, List.any_cons, List.any_nil, Bool.or_false]
  by_cases ek : k = i
  · subst ek; rw [ifp rfl, dcf (Nat.lt_irrefl k), Bool.false_and, Bool.false_or, dct (Nat.lt_succ_self k), Bool.true_and]; show ((_ || zqw c F k) || _) = (zqw c F k || (_ || _)); cases zqw c F k <;> simp
  · rw [ifn ek]; have : decide (k < i) = decide (k < i + 1) := by
     by_cases h : k < i
     · rw [dct h, dct (by omega)]
     · rw [dcf h, dcf (by omega)]
    rw [this, Bool.or_assoc])
  (by simp only [zf.r2, zf.b2, dcf (show ¬ (F.length : Int) < (F.length : Int) by omega), cfa]) (show F.length < N by have := hF.len; omega)
 have e0 : ((List.range c.zB.length).map (fun k : Nat => (decide (k < 0) && zqw c F k) || (List.range 0).any fun j => zsh c F j k)) = List.replicate F.length false := by
  rw [hF.len, ztr]; apply List.map_congr_left; intro k _; simp
 simp only [nc0, e0] at this
 rw [this]
 congr 4
 apply List.map_congr_left
 intro k hk
 have hk : k < c.zB.length := by simpa using hk
 unfold zuc
 rw [dct (show k < F.length by rw [hF.len]; exact hk), Bool.true_and, hF.len]
theorem z0j (N : Nat) (hN : 1048600 < N) (hc : CdV m c) (hF : FsV m c F) {k : Nat} (hk : k < c.zB.length) :
 zg (zd.r7 N) N (F, zj0 c, (k : Int), 0, c) = some (if (List.range c.zB.length).any (fun i => zsh c F i k) = true then .inl ((k : Int), 42) else .inr (F, zj0 c, (k : Int), (c.zB.length : Int), c)) := by
 have hl := hc.len
 have hkl : k < F.length := by rw [hF.len]; exact hk
 have hkF : F[k]? = some F[k] := lge hkl
 have hk60 := (hF.v _ (lmg hkF)).1
 have := z38 (f := zd.r7 N) (List.range c.zB.length) (fun i => zsh c F i k) ((k : Int), 42) (fun i => (F, zj0 c, (k : Int), (i : Int), c)) (fun i j hj => by
  obtain ⟨hi, rfl⟩ := gei hj; have hi' : i < c.zB.length := by simpa using hi
  simp only [List.getElem_range]; have hx := lge hi'; have hil : i < F.length := by rw [hF.len]; exact hi'
  have hiF : F[i]? = some F[i] := lge hil; have hv := hF.v _ (lmg hiF); obtain ⟨r, hr1, hr2⟩ := z0i N (zd5 c i) (k : Int) (by have := ztf (c := c) (i := i); omega) (by have := ztf (c := c) (i := i); omega); obtain ⟨ys, hy1, hy2, _, hy3⟩ := z1y N (by omega) (hc.ins _ (lmg hx)) hv.2 (by omega); have hb : zji c F i = zhz c.zB[i] F[i] := by unfold zji; rw [hx, hiF]
  have hys : ∀ f, zfe ys f = zfe (zji c F i) f := fun f => by
   rw [Bool.eq_iff_iff, zir, zir, hy2, hb, zzt]
  simp only [zd.r7, zd.b7, zx, obs, dct (show (i : Int) < (F.length : Int) by have := hF.len; omega), ctr, z43 (show c.zB.length ≤ 1000000 by omega) hi', hr1, zcl, hr2, hx, hiF, hy1]; rw [w6e (n := (i : Int) + 1)]; unfold zsh; cases hcn : (zd5 c i).contains (k : Int) with
  | false => simp
  | true =>
   have h9 := z38 (f := zd.r9 N) F[k] (fun f => !zfe (zji c F i) f) ((k : Int), (42 : Int)) (fun j => (F, zj0 c, (k : Int), (i : Int), ys, (j : Int), c)) (fun j f hf => by
    have hjl := (gei hf).1; simp only [zd.r9, zd.b9, zx, hkF, hf, obs, dct (show (j : Int) < (F[k].length : Int) by omega), ctr]; rw [zr0 N ys f (by omega) (by omega), hys]; simp only [obs]; rw [w6e]; cases zfe (zji c F i) f <;> simp)
    (by simp only [zd.r9, zd.b9, zx, hkF, obs, dcf (show ¬ (F[k].length : Int) < (F[k].length : Int) by omega), cfa]) (show F[k].length < N by omega)
   simp only [nc0] at h9; simp only [bnt, cfa, Bool.true_and]; rw [h9]; have e : F[k].any (fun f => !zfe (zji c F i) f) = zno c F i k := by unfold zno zmt; rw [hkF]; rfl
   rw [e]; simp only [obs]; cases zno c F i k with
   | true => rfl
   | false =>
    simp only [Bool.false_eq_true, if_false, zat]; rw [w6e]; rfl)
  (by simp only [zd.r7, zd.b7, List.length_range, dcf (show ¬ (c.zB.length : Int) < (F.length : Int) by have := hF.len; omega), cfa]) (show (List.range c.zB.length).length < N by simp; omega)
 simp only [nc0, List.length_range] at this
 exact this
variable {m : zI} {c : zF} {F : List (List zA)}
theorem znp {β : Type} (p : Nat → Bool) (g : Nat → β) : ∀ n, (List.range n).findSome? (fun k => if p k = true then some (g k) else none) = (((List.range n).map p).findIdx? id).map g
 | 0 => rfl
 | n + 1 => by
  rw [List.range_succ, List.findSome?_append, List.map_append, List.findIdx?_append, znp p g n]; cases ((List.range n).map p).findIdx? id with
  | some k => rfl
  | none => cases h : p n <;> simp [h]
theorem z1x (N : Nat) (hN : 1048600 < N) (hc : CdV m c) (hF : FsV m c F) :
 zg (zd.r5 N) N (F, zj0 c, 0, c) = some (match ((List.range c.zB.length).map (zuc c F)).findIdx? id with | some k => .inl ((k : Int), 42) | none => .inr (F, zj0 c, (F.length : Int), c)) := by
 have hl := hc.len
 have := zbh (f := zd.r5 N) (fun i => (F, zj0 c, (i : Int), c)) (fun k => if zuc c F k = true then some ((k : Int), (42 : Int)) else none) F.length
  (fun i hi => by
   have hi' : i < c.zB.length := by rw [← hF.len]; exact hi
   have hk := lge hi; have hent : (zj0 c)[i]? = some (zrb c i) := zjr _ hi'; simp only [zd.r5, zd.b5, zx, hk, hent, obs, dct (show (i : Int) < (F.length : Int) by omega), ctr, ifp (show 0 ≤ (i : Int) by omega), itn]; rw [ifp (by simp [zj0]; omega), zg7, obs]; have eo : (zrb c i && decide ((F[i].length : Int) > 0)) = zqw c F i := by
    unfold zqw zmt; rw [hk]
    congr 1
    by_cases h : 0 < F[i].length
    · rw [dct (by omega)]; symm; exact dct h
    · rw [dcf (by omega)]; symm; exact dcf h
   rw [eo]; unfold zuc; cases zqw c F i with
   | true => rfl
   | false =>
    rw [cfa, Bool.false_or, z0j N hN hc hF hi']; simp only [obs]; cases (List.range c.zB.length).any fun j => zsh c F j i with
    | true => rfl
    | false =>
     simp only [Bool.false_eq_true, if_false, zat]; rw [w6e]; rfl)
  (by simp only [zd.r5, zd.b5, dcf (show ¬ (F.length : Int) < (F.length : Int) by omega), cfa]) (show F.length < N by have := hF.len; omega)
 rw [znp, hF.len] at this
 simp only [nc0] at this
 rw [this, hF.len]
 cases ((List.range c.zB.length).map (zuc c F)).findIdx? id <;> rfl
theorem z05 (N : Nat) (hN : 1048600 < N) (m : zI) {c : zF} (hc : Wft En 1048576 Ty.zF c) {F : List (List zA)} (hF : F.length ≤ 250) (hl : ∀ l ∈ F, l.length ≤ 64) :
 ∃ r, zf N m c F = some r ∧ zd N m c F = some r := by
 obtain ⟨⟨n, e⟩, h1, h2⟩ := zsd N hN m hc
 unfold zf zd zcp zfi
 rw [h1, h2]
 simp only [obs]
 have ec : ∀ (b : Bool) (z : Int), zdp b z = some (cond b z 0) := fun b z => by cases b <;> rfl
 rw [ec, obs, zte N [e, cond ((F.length : Int) != (c.zB.length : Int)) 6 0] (by show 2 < N; omega) (by show 2 < 1000000000; omega), obs]
 by_cases he : e = 0
 · subst he; obtain ⟨hcv, hn⟩ := z2m N hN hc h2
   by_cases hlen : (F.length : Int) = (c.zB.length : Int)
   · have e1 : zdt [0, cond ((F.length : Int) != (c.zB.length : Int)) 6 0] = 0 := by rw [zcq, dcf (by simpa using hlen)]; rfl
     rw [e1, show ((F.length : Int) != (c.zB.length : Int)) = false by rw [zcq, dcf (by simpa using hlen)]]; simp only [bsf, cfa]; have hm : 2 ≤ m.Registers ∧ m.Registers ≤ 8 := ⟨hcv.m1, hcv.m2⟩; rw [z20 N (by omega) hm hcv.sz F (by omega) (fun l h => by have := hl l h; omega), z3f N (by omega) hm hcv.sz F (by omega)]; simp only [obs]; cases hls : (List.range F.length).findSome? (lsE m c F) with
     | some r => exact ⟨r, rfl, rfl⟩
     | none =>
      have hFv : FsV m c F := ⟨by omega, z5m hls⟩; have hil := hcv.len; simp only [zat]; rw [zz5 N hN hcv, z0k N hN hcv]; simp only [obs]; rw [ifp, ifp, itn, z35 (by omega), ctr, z1h N hN hcv hFv, z1x N hN hcv hFv]; simp only [obs]; rw [z23 N _ (by simp; omega) (by simp; omega)]; simp only [obs]; cases ((List.range c.zB.length).map (zuc c F)).findIdx? id with
      | some k =>
       refine ⟨((k : Int), 42), ?_, rfl⟩; simp only; rw [dct (by omega)]; rfl
      | none => exact ⟨((F.length : Int), 0), rfl, rfl⟩
   · have e1 : zdt [0, cond ((F.length : Int) != (c.zB.length : Int)) 6 0] = 6 := by rw [zcq, dct (by simpa using hlen)]; rfl
     rw [e1, show ((F.length : Int) != (c.zB.length : Int)) = true by rw [zcq, dct (by simpa using hlen)]]; exact ⟨(0, 6), rfl, rfl⟩
 · have e1 : zdt [e, cond ((F.length : Int) != (c.zB.length : Int)) 6 0] = e := by simp [zdt, he]
   rw [e1, show (e != 0) = true by simpa using he]; exact ⟨(0, e), rfl, rfl⟩
theorem z2g (N : Nat) (hN : 1048600 < N) {F : List (List zA)} (hF : F.length ≤ 1048576) (hl : ∀ l ∈ F, l.length ≤ 1048576) :
 ∃ b, zb6 N F = some b ∧ (b = true → F.length ≤ 250 ∧ ∀ l ∈ F, l.length ≤ 64) := by
 unfold zb6
 have := zbh (f := zb6.r0 N) (fun i => (F, (i : Int))) (fun i => (F[i]?).bind fun l => if 64 < l.length then some false else none) (min F.length 251)
  (fun i hi => by
   have hi' : i < F.length := by omega
   have hx := lge hi'; generalize F[i] = l at hx; simp only [zb6.r0, zb6.b0, zx, hx, obs, dct (show (i : Int) < (F.length : Int) by omega), ctr, dct (show (i : Int) ≤ 250 by omega)]; rw [w6e]
   by_cases h : 64 < l.length
   · rw [dct (by omega), ifp h]; rfl
   · rw [dcf (by omega), ifn h]; rfl)
  (by
   simp only [zb6.r0, zb6.b0]
   by_cases h : F.length ≤ 250
   · rw [show min F.length 251 = F.length by omega, dcf (show ¬ (F.length : Int) < (F.length : Int) by omega)]; rfl
   · rw [show min F.length 251 = 251 by omega, dcf (show ¬ ((251 : Nat) : Int) ≤ 250 by omega)]; cases decide (((251 : Nat) : Int) < (F.length : Int)) <;> rfl) (show min F.length 251 < N by omega)
 simp only [nc0] at this
 rw [this]
 simp only [obs]
 cases hf : (List.range (min F.length 251)).findSome? (fun i => (F[i]?).bind fun l => if 64 < l.length then some false else none) with
 | some r =>
  obtain ⟨i, _, hr⟩ := eof hf; rw [Option.bind_eq_some_iff] at hr; obtain ⟨l, _, hr⟩ := hr; split at hr
  · cases hr; exact ⟨false, rfl, fun h => by cases h⟩
  · cases hr
 | none =>
  refine ⟨_, rfl, fun h => ?_⟩; have h : ((F.length : Nat) : Int) ≤ 250 := of_decide_eq_true h; have h250 : F.length ≤ 250 := by omega
  refine ⟨h250, fun l hl => ?_⟩; obtain ⟨i, hi⟩ := List.getElem?_of_mem hl; rw [List.findSome?_eq_none_iff] at hf; have hil := (gei hi).1; have := hf i (by simp; omega); rw [hi, obs] at this; split at this
  · cases this
  · omega
theorem z16 (N : Nat) (hN : 1048600 < N) {F : List (List zA)} (hF : F.length ≤ 250) (hl : ∀ l ∈ F, l.length ≤ 64) : zb5 N F = some F := by
 unfold zb5
 have := zua (f := zb5.r0 N) F (fun l => some l) (fun i acc => (F, acc, (i : Int))) (fun i x acc hx hacc => by
  have hi := (gei hx).1; have hxl := hl x (lmg hx); simp only [zb5.r0, zb5.b0, zx, hx, obs, dct (show (i : Int) < (F.length : Int) by omega), ctr, lnc, ln0, zjh (show x.length ≤ 1000000000 by omega), z8d (show acc.length + (0 + 1) ≤ 1000000 by omega)]; rw [w6e]; rfl)
  (fun acc => by simp only [zb5.r0, zb5.b0, dcf (show ¬ (F.length : Int) < (F.length : Int) by omega), cfa]) (show F.length < N by omega)
 simp only [nc0] at this
 rw [this]
 simp
theorem z3z {n : Nat} {F : List (List zA)} (h : Wft En n (Ty.sl (Ty.sl Ty.zA)) F) : F.length ≤ n ∧ ∀ l ∈ F, l.length ≤ n := by
 have h1 := h (.lst (Ty.sl Ty.zA) F) (.head _)
 cases h1 with
 | lst h1 h2 =>
  refine ⟨h1, fun l hl => ?_⟩; have h3 := h2 l hl (.lst Ty.zA l) (.head _); cases h3 with
  | lst h3 _ => exact h3
theorem z58 : zk0 2000000 = some true := by kernel_rfl
variable {m : zI} {c : zF}
def cnt (p : Nat → Bool) : Nat → Nat
 | 0 => 0
 | n + 1 => cnt p n + cond (p n) 0 1
def upd (p : Nat → Bool) (x : Nat) (k : Nat) : Bool := if k = x then true else p k
theorem zzr (p : Nat → Bool) (x : Nat) : ∀ n, cnt (upd p x) n + cond (decide (x < n) && !p x) 1 0 = cnt p n
 | 0 => by simp [cnt]
 | n + 1 => by
  have ih := zzr p x n; simp only [cnt]
  by_cases e : n = x
  · subst e; rw [dcf (Nat.lt_irrefl n)] at ih; simp only [Bool.false_and, cfa, Nat.add_zero] at ih; rw [dct (Nat.lt_succ_self n), ih]; have : upd p n n = true := by simp [upd]
    rw [this]; cases p n <;> simp
  · have h1 : upd p x n = p n := by simp [upd, e]
    have h2 : decide (x < n + 1) = decide (x < n) := by
     by_cases h : x < n
     · rw [dct h, dct (by omega)]
     · rw [dcf h, dcf (by omega)]
    rw [h1, h2]; omega
inductive Rch (c : zF) : Nat → Prop
 | ent {k : Nat} (h : k < c.zB.length) (he : zrb c k = true) : Rch c k
 | step {i k : Nat} (h : Rch c i) (hs : (k : Int) ∈ zd5 c i) : Rch c k
theorem Rch.lt (hc : CdV m c) {k : Nat} (h : Rch c k) : k < c.zB.length := by
 cases h with
 | ent h _ => exact h
 | step _ hs =>
  obtain ⟨k', e, hk⟩ := zy6 hc hs; omega
variable {m : zI} {c : zF}
theorem zwd {p q : Nat → Bool} : ∀ n, (∀ k, k < n → p k = q k) → cnt p n = cnt q n
 | 0, _ => rfl
 | n + 1, h => by simp only [cnt]; rw [zwd n (fun k hk => h k (by omega)), h n (by omega)]
structure PS (c : zF) (p0 p : Nat → Bool) (b : Bool) : Prop where
 sub : ∀ k, p0 k = true → p k = true
 r : ∀ k, k < c.zB.length → p k = true → Rch c k
 f : b = false → ∀ k, k < c.zB.length → p k = p0 k
 t : b = true → cnt p c.zB.length < cnt p0 c.zB.length
theorem PS.mark {p0 p : Nat → Bool} {b : Bool} (h : PS c p0 p b) {k : Nat} (hk : k < c.zB.length) (hr : Rch c k) : PS c p0 (upd p k) (b || !p k) := by
 have hcu := zzr p k c.zB.length
 rw [dct hk] at hcu
 refine ⟨fun j hj => ?_, fun j hj hp => ?_, fun hb j hj => ?_, fun hb => ?_⟩
 · unfold upd; split
   · rfl
   · exact h.sub j hj
 · unfold upd at hp; split at hp
   · rename_i e; subst e; exact hr
   · exact h.r j hj hp
 · rw [Bool.or_eq_false_iff, Bool.not_eq_false'] at hb; unfold upd; split
   · rename_i e; subst e; rw [← h.f hb.1 j hj, hb.2]
   · exact h.f hb.1 j hj
 · cases b with
   | true => have := h.t rfl; omega
   | false =>
    have e := zwd c.zB.length (h.f rfl); have hp : p k = false := by simpa using hb
    rw [hp] at hcu; simp at hcu; omega
variable {m : zI} {c : zF}
def z2w {α : Type} (G : Nat → α) (x : Nat) (v : α) (k : Nat) : α := if k = x then v else G k
theorem z3r {α : Type} {n : Nat} (f : Nat → α) {k : Nat} (v : α) : ((List.range n).map f).set k v = (List.range n).map (z2w f k v) := by
 apply List.ext_getElem?
 intro i
 rw [List.getElem?_set, List.getElem?_map, List.getElem?_map, lnm, List.length_range]
 unfold z2w
 by_cases hi : i < n
 · rw [List.getElem?_range hi]
   by_cases e : k = i
   · subst e; simp [hi]
   · simp [e, Ne.symm e]
 · rw [List.getElem?_eq_none (by simpa using hi)]
   by_cases e : k = i
   · subst e; simp [hi]
   · simp [e]
theorem zvo {α : Type} {n : Nat} (f : Nat → α) {k : Nat} (h : k < n) : ((List.range n).map f)[k]? = some (f k) := by
 rw [List.getElem?_map, List.getElem?_range h]
 rfl
def z8e (c : zF) : List zA := (List.range 8).flatMap fun r : Nat => c.zB.flatMap fun x => [⟨(r : Int), x.zD, -1⟩, ⟨(r : Int), x.zD, x.Place.Offset⟩]
theorem flat_len {α β : Type} (f : α → List β) (k : Nat) (h : ∀ x, (f x).length = k) : ∀ l : List α, (l.flatMap f).length = l.length * k
 | [] => by simp
 | x :: l => by rw [List.flatMap_cons, lna, h, flat_len f k h l, lnc, Nat.succ_mul]; omega
def fxB (c : zF) (R : Nat → Bool) (k : Nat) : Bool := zrb c k || !R k
def Nok (c : zF) (R : Nat → Bool) (D : Nat → Bool) (G : Nat → List zA) (i : Nat) : Prop :=
 ∀ x, c.zB[i]? = some x → ∀ k : Nat, (k : Int) ∈ zd5 c i → fxB c R k = false → D k = true ∧ ∀ f ∈ G k, Beh x (G i) f
structure Cl (c : zF) (R : Nat → Bool) (D : Nat → Bool) (G : Nat → List zA) : Prop where
 fx : ∀ k, k < c.zB.length → fxB c R k = true → D k = true ∧ G k = []
 st : ∀ i, i < c.zB.length → D i = true → Nok c R D G i
structure Inv (m : zI) (c : zF) (R : Nat → Bool) (D : Nat → Bool) (G : Nat → List zA) : Prop where
 so : ∀ k, zjp (G k)
 ok : ∀ k, ∀ f ∈ G k, FctV m c f
 un : ∀ k, ∀ f ∈ G k, f ∈ z8e c
 no : ∀ k, D k = false → G k = []
 fx : ∀ k, k < c.zB.length → fxB c R k = true → D k = true ∧ G k = []
 ab : ∀ D' G', Cl c R D' G' → ∀ k, k < c.zB.length → D k = true → D' k = true ∧ ∀ f ∈ G' k, f ∈ G k
variable {m : zI} {c : zF} {R : Nat → Bool}
variable {m : zI} {c : zF} {R : Nat → Bool}
theorem z11 {α : Type} (n : Nat) (v : α) : List.replicate n v = (List.range n).map fun _ => v := by
 apply List.ext_getElem
 · simp
 · intro i h1 h2; simp
variable {m : zI} {c : zF} {R : Nat → Bool}
variable {m : zI} {c : zF}
variable {m : zI} {c : zF}
def knl (x : zC) : Bool := decide (x.Op = 0) && !x.Place.Based
def zmq (l : List zA) (x : zC) (r : Int) : Bool := zfe l ⟨r, x.zD, x.Place.Offset⟩
theorem zwx (x : zC) : zbj x = some (knl x) := by
 unfold zbj knl
 rw [zcl, zg7, obs]
theorem z3e (x : zC) : zha x = some (knl x) := by
 unfold zha knl
 rw [zcl, zg7, obs]
theorem z24 (N : Nat) (l : List zA) (x : zC) (r : Int) (h : l.length < N) (hl : l.length < 1000000000) : zcj N l x r = some (zmq l x r) := by
 unfold zcj zmq
 rw [zpa N l _ h hl]
 rfl
theorem z3h (N : Nat) (l : List zA) (x : zC) (r : Int) (h : l.length < N) (hl : l.length < 1000000000) : zgl N l x r = some (zmq l x r) := by
 unfold zgl zmq
 rw [zr0 N l _ h hl]
 rfl
def TrV (c : zF) : Prop := ∀ t ∈ c.zP, 0 ≤ t.From ∧ t.From ≤ t.To ∧ t.To ≤ (c.zB.length : Int) ∧ 0 ≤ t.Handler ∧ t.Handler < (c.zB.length : Int)
theorem z8c {n : Nat} (h : n ≤ 1000000000) : Nat.ble (n * 32) zak = true := Nat.ble_eq_true_of_le (by show n * 32 ≤ 2 ^ 46; omega)
variable {m : zI} {c : zF}
variable {m : zI} {c : zF}
variable {m : zI} {c : zF}
structure CkV (N : Nat) (m : zI) (c : zF) : Prop where
 mo : zgc m = some 0
 st : zkc N c.Storage = some 0
 ok : StoOk c.Storage
 pt : ∃ l, zbt N c.Storage = some l ∧ decide ((l.length : Int) > 0) = false
 m1 : 2 ≤ m.Registers ∧ m.Registers ≤ 8
 pos : 0 < c.zB.length
 len : c.zB.length ≤ 240
 tr : c.zP.length ≤ 40
 tl : c.Storage.Tags.length ≤ 64
 ins : ∀ x ∈ c.zB, zmu m c x = 0
 trap : ∀ t ∈ c.zP, zlx c t = true
theorem z8b (N : Nat) (hN : 1048600 < N) {m : zI} {c : zF} (hc : Wft En 1048576 Ty.zF c) {n : Int} (h : zw N m c = some (n, 0)) : CkV N m c := by
 obtain ⟨e, _, he2, he3⟩ := zq0 m
 obtain ⟨i1, e1, e2, _, hs2, hs⟩ := zth N (by omega) c.Storage
 obtain ⟨w1, w2, w3, w4, w5⟩ := zkr hc
 unfold zw at h
 try simp only [eS, eM, eC] at h
 rw [he2, hs2] at h
 simp only [obs] at h
 by_cases h0 : e = 0
 · subst h0; have hm := he3 rfl; simp only [bsf, cfa] at h
   by_cases h2 : e2 = 0
   · rcases hs with ⟨rfl, hs⟩ | ⟨ok, htl, _, _⟩
     · exact absurd h2 hs
     · subst h2; obtain ⟨l, hl1, hl2⟩ := zvi N c.Storage htl (by omega); rw [hl1] at h; simp only [bsf, cfa, obs, orB] at h; cases hd : decide ((l.length : Int) > 0) with
       | true => rw [hd] at h; cases h
       | false =>
        rw [hd] at h hl2; simp only [cfa] at h
        by_cases hz : (c.zB.length : Int) = 0
        · rw [hz] at h; cases h
        · rw [zcl, dcf hz] at h; simp only [cfa] at h; cases hb : (decide ((c.zB.length : Int) > 240) || decide ((c.zP.length : Int) > 40)) with
          | true => rw [hb] at h; cases h
          | false =>
           rw [hb] at h; simp only [cfa] at h; have := ztq N hN hm ok hc; rw [this] at h; simp only [Bool.or_eq_false_iff, decide_eq_false_iff_not] at hb; obtain ⟨r1, r2, r3⟩ := z1z (Option.some.inj h); exact ⟨he2, hs2, ok, ⟨l, hl1, hd⟩, hm, by omega, by omega, by omega, htl, r1, r2⟩
   · rw [zcq, dct h2] at h; simp only [ctr, Option.some.injEq, Prod.mk.injEq] at h; exact absurd h.2 h2
 · rw [zcq, dct h0] at h; simp only [ctr, Option.some.injEq, Prod.mk.injEq] at h; exact absurd h.2 h0
theorem z6d (h : ∀ t ∈ c.zP, zlx c t = true) : TrV c := by
 intro t ht
 have h0 := h t ht
 unfold zlx at h0
 simp only [Bool.and_eq_true, decide_eq_true_eq] at h0
 obtain ⟨h1, h2, h3, h4⟩ := h0
 have h1 := zda.1 h1
 have h4 := zda.1 h4
 omega
variable {m : zI} {c : zF}
variable {m : zI} {c : zF}
variable {m : zI} {c : zF}
variable {m : zI} {c : zF}
variable {m : zI} {c : zF}
def kI (I : List Int) : Nat → Nat
 | 0 => 0
 | k + 1 => kI I k + cond ((I[k]?).any fun z => z != -1) 1 0
theorem zwn (I : List Int) : ∀ k, kI I k ≤ k
 | 0 => Nat.le_refl _
 | k + 1 => by have := zwn I k; simp only [kI]; cases (I[k]?).any fun z => z != -1 <;> simp <;> omega
def zh7 (I : List Int) : List Int := (List.range (I.length + 1)).map fun k => (kI I k : Int)
theorem ztz (I : List Int) : (zh7 I).length = I.length + 1 := by simp [zh7]
theorem zkq {I : List Int} {k : Nat} (h : k ≤ I.length) : (zh7 I)[k]? = some (kI I k : Int) := zvo _ (by omega)
theorem zq2 {I : List Int} {z : Int} (h0 : 0 ≤ z) (h1 : z ≤ (I.length : Int)) : idx (zh7 I) z = some (kI I z.toNat : Int) := by
 have : z = ((z.toNat : Nat) : Int) := by omega
 rw [this, zx, itn]
 exact zkq (by omega)
theorem zzg {I : List Int} {k : Nat} {z : Int} (h : I[k]? = some z) : kI I (k + 1) = kI I k + cond (z != -1) 1 0 := by
 simp only [kI, h, Option.any_some]
theorem z1f (N : Nat) (hN : 1000 < N) {I : List Int} (hl : I.length ≤ 900) : za6 N I = some (zh7 I) := by
 unfold za6
 have := zet (f := za6.r0 N) (fun i => ((List.range (i + 1)).map (fun k => (kI I k : Int)), (kI I i : Int), I, (I.length : Int), (i : Int))) I.length (fun i hi => by
  have hx := lge hi; have hk := zwn I i; have hkc := zzg hx; generalize I[i] = z at hx hkc; simp only [za6.r0, za6.b0, zx, hx, obs, dct (show (i : Int) < (I.length : Int) by omega), ctr, lnm, List.length_range, lnc, ln0, zud (show i + 1 + (0 + 1) ≤ 1000000 by omega)]; rw [w6e (n := (i : Int) + 1), w6e (n := (kI I i : Int) + 1), List.range_succ (n := i + 1), List.map_append, List.map_cons, List.map_nil, hkc]; cases (z != -1) <;> rfl)
  (by simp only [za6.r0, za6.b0, dcf (Int.lt_irrefl _), cfa]) (show I.length < N by omega)
 have e : ((List.range (0 + 1)).map (fun k => (kI I k : Int))) = [0] := rfl
 simp only [nc0, e, show (kI I 0 : Int) = 0 from rfl] at this
 rw [this]
 rfl
theorem z1w (N : Nat) (hN : 1000 < N) (x : Optimization) {n : Nat} (hn : n ≤ 900) (hI : x.Proof.Index.length = n) : zh (ze.r0 N) N ((n : Int), List.replicate (n + 1) (0 : Int), 0, x) = some ((n : Int), zh7 x.Proof.Index, (n : Int), x) := by
 have := zet (f := ze.r0 N) (fun i => ((n : Int), (List.range (n + 1)).map (fun k => if k ≤ i then (kI x.Proof.Index k : Int) else 0), (i : Int), x)) n (fun i hi => by
  have hx : x.Proof.Index[i]? = some x.Proof.Index[i] := lge (by omega); have hkc := zzg hx; generalize x.Proof.Index[i] = z at hx hkc; have hS : ((List.range (n + 1)).map (fun k => if k ≤ i then (kI x.Proof.Index k : Int) else 0))[i]? = some (if i ≤ i then (kI x.Proof.Index i : Int) else 0) := zvo _ (by omega); have hS1 : ((List.range (n + 1)).map (fun k => if k ≤ i then (kI x.Proof.Index k : Int) else 0))[i + 1]? = some (if i + 1 ≤ i then (kI x.Proof.Index (i + 1) : Int) else 0) := zvo _ (by omega); have hk := zwn x.Proof.Index i; have hk1 := zwn x.Proof.Index (i + 1); have e1 : ((i : Int) + 1).toNat = i + 1 := by omega
  simp only [ze.r0, ze.b0, zx, hx, hS, obs, itn, lnm, List.length_range, zn3]; rw [dct (show (i : Int) < (n : Int) by omega), ctr, ifp (show 0 ≤ (i : Int) by omega), ifp (show (i : Int) < ((n + 1 : Nat) : Int) by omega), w6e (n := (i : Int) + 1), ifp (show 0 ≤ (i : Int) + 1 by omega), ifp (show (i : Int) + 1 < ((n + 1 : Nat) : Int) by omega), e1, hS1, obs, ifp (Nat.le_refl i), z3r]; have e2 : w6 ((kI x.Proof.Index i : Int) + cond (z != -1) 1 0) = (kI x.Proof.Index (i + 1) : Int) := by
   have : ((kI x.Proof.Index i : Int) + cond (z != -1) 1 0) = (kI x.Proof.Index (i + 1) : Int) := by
    rw [hkc]; cases (z != -1) <;> simp
   rw [this]; exact w6e
  rw [e2, show (i : Int) + 1 = ((i + 1 : Nat) : Int) by omega]
  congr 4
  apply List.map_congr_left; intro k _; unfold z2w
  by_cases e : k = i + 1
  · subst e; rw [ifp rfl, ifp (Nat.le_refl _)]
  · rw [ifn e]; show (if k ≤ i then (kI x.Proof.Index k : Int) else 0) = if k ≤ i + 1 then (kI x.Proof.Index k : Int) else 0
    by_cases h : k ≤ i
    · rw [ifp h, ifp]
    · rw [ifn h, ifn])
  (by simp only [ze.r0, ze.b0]; rw [dcf (Int.lt_irrefl _)]; rfl) (show n < N by omega)
 have e0 : List.replicate (n + 1) (0 : Int) = (List.range (n + 1)).map (fun k => if k ≤ 0 then (kI x.Proof.Index k : Int) else 0) := by
  rw [z11]; apply List.map_congr_left; intro k _; split
  · rename_i h; have : k = 0 := by omega
    subst this; rfl
  · rfl
 rw [e0]
 simp only [nc0] at this
 rw [this]
 congr 3
 unfold zh7
 rw [hI]
 apply List.map_congr_left
 intro k hk
 have hk : k < n + 1 := by simpa using hk
 rw [ifp]
end
end Go.Proofs.YtnpfkhdbmlhfhaaGreatDoor.M
