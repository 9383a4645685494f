/- The plain law of HardwareRuns: part 0. -/
import Derived.Test.YtppbpnknfigboaaGreatDoorF2
import Derived.Test.YtppbpnknfigboaaGreatDoorA3
import Derived.Lib.Strings
namespace Go.Proofs.YtppbpnknfigboaaGreatDoor.M
open Go Go.Amx
set_option linter.unusedVariables false
set_option linter.unusedSimpArgs false
set_option maxRecDepth 100000
noncomputable section
theorem obs {α β : Type} (a : α) (f : α → Option β) : (some a).bind f = f a := rfl
theorem dct {p : Prop} [Decidable p] (h : p) : decide p = true := decide_eq_true h
theorem dcf {p : Prop} [Decidable p] (h : ¬ p) : decide p = false := decide_eq_false h
theorem lna {α : Type} {a b : List α} : (a ++ b).length = a.length + b.length := List.length_append
theorem lns {α : Type} {a : α} : [a].length = 1 := List.length_singleton
theorem lge {α : Type} {l : List α} {i : Nat} (h : i < l.length) : l[i]? = some l[i] := List.getElem?_eq_getElem h
theorem itn (n : Nat) : Int.toNat (n : Int) = n := Int.toNat_natCast n
theorem ctr {α : Sort _} (a b : α) : cond true a b = a := rfl
theorem cfa {α : Sort _} (a b : α) : cond false a b = b := rfl
theorem ifp {c : Prop} {h : Decidable c} (hc : c) {α : Sort _} {t e : α} : ite c t e = t := if_pos hc
theorem ifn {c : Prop} {h : Decidable c} (hc : ¬c) {α : Sort _} {t e : α} : ite c t e = e := if_neg hc
theorem bsf {α : Type _} [BEq α] [LawfulBEq α] (a : α) : (a != a) = false := bne_self_eq_false a
theorem lmg {α : Type _} {l : List α} {i : Nat} {a : α} (h : l[i]? = some a) : a ∈ l := List.mem_of_getElem? h
theorem w6e {n : Int} (h1 : -9223372036854775808 ≤ n) (h2 : n ≤ 9223372036854775807) : w6 n = n := zaco h1 h2
theorem zyo (N : Nat) (l : List Int) (h : l.length < N) (hl : l.length < 1000000000) : zai N l = some (zeu l) := by
 unfold zai
 have := zc2 (f := zai.r0 N) (fun i => (l, (l.length : Int), (i : Int))) (fun i => (l[i]?).bind fun x => if x = 0 then none else some x) l.length
  (fun i hi => by
   have hx := lge hi; simp only [zai.r0, zai.b0, zbg, hx, obs, dct (show (i : Int) < (l.length : Int) by omega), ctr]
   by_cases h0 : l[i] = 0
   · simp only [h0, bsf, cfa, if_true]; rw [w6e (by omega) (by omega)]; rfl
   · simp only [h0, if_false]; rw [show (l[i] != 0) = true by simpa using h0]; rfl)
  (by simp only [zai.r0, zai.b0, dcf (show ¬ (l.length : Int) < (l.length : Int) by omega), cfa]) h
 simp only [Int.natCast_zero] at this
 rw [this, zsc, ← zve]
 simp only [obs]
 cases l.findSome? (fun x => if x = 0 then none else some x) <;> rfl
theorem zn8 (N : Nat) (l : List Int) (h : l.length < N) (hl : l.length < 1000000000) : zp N l = some (zeu l) := by
 unfold zp
 have := zc2 (f := zp.r0 N) (fun i => (l, (l.length : Int), (i : Int))) (fun i => (l[i]?).bind fun x => if x = 0 then none else some x) l.length
  (fun i hi => by
   have hx := lge hi; simp only [zp.r0, zp.b0, zbg, hx, obs, dct (show (i : Int) < (l.length : Int) by omega), ctr]
   by_cases h0 : l[i] = 0
   · simp only [h0, bsf, cfa, if_true]; rw [w6e (by omega) (by omega)]; rfl
   · simp only [h0, if_false]; rw [show (l[i] != 0) = true by simpa using h0]; rfl)
  (by simp only [zp.r0, zp.b0, dcf (show ¬ (l.length : Int) < (l.length : Int) by omega), cfa]) h
 simp only [Int.natCast_zero] at this
 rw [this, zsc, ← zve]
 simp only [obs]
 cases l.findSome? (fun x => if x = 0 then none else some x) <;> rfl
def inB (n lo hi : Int) : Bool := decide (lo ≤ n) && decide (n ≤ hi)
theorem zni (n lo hi : Int) : zap n lo hi = some (inB n lo hi) := by
 unfold zap inB
 cases decide (lo ≤ n) <;> rfl
theorem z1q (n lo hi : Int) : zd3 n lo hi = some (inB n lo hi) := by
 unfold zd3 inB
 cases decide (lo ≤ n) <;> rfl
theorem zhi (n lo hi : Int) : zg n lo hi = some (inB n lo hi) := by
 unfold zg inB
 cases decide (lo ≤ n) <;> rfl
theorem zsb (b : Bool) (e : Int) : zbx b e = some (cond b e 0) := by cases b <;> rfl
theorem zn9 (b : Bool) (e : Int) : zaj b e = some (cond b e 0) := by cases b <;> rfl
theorem zg5 (b : Bool) : zaw b = some (cond b 1 0) := by cases b <;> rfl
theorem zzn (m : HwModel) : ∃ e, zfr m = some e ∧ zii m = some e ∧ (e = 0 → 2 ≤ m.Registers ∧ m.Registers ≤ 8) := by
 refine ⟨cond (!inB m.Registers 2 8) 3 0, ?_, ?_, ?_⟩
 · simp only [zfr, zni, zsb, obs]
 · simp only [zii, zhi, obs]; cases inB m.Registers 2 8 <;> rfl
 · intro h; cases hb : inB m.Registers 2 8 with
   | false => rw [hb] at h; cases h
   | true => simpa [inB] using hb
def zdk (t : DataType) : Int :=
 if t.Kind = 0 then (if inB t.Length 1 256 then (if t.Scale = 0 then 0 else 3) else 18)
 else if t.Kind = 1 ∨ t.Kind = 2 then (if inB t.Length 1 15 then (if inB t.Scale 0 t.Length then 0 else 3) else 18)
 else if t.Kind = 3 then (if t.Length = 4 ∨ t.Length = 9 then (if inB t.Scale 0 t.Length then 0 else 3) else 18)
 else if t.Kind = 4 then (if t.Length = 0 then (if t.Scale = 0 then 0 else 3) else 18)
 else 4
theorem zadw (a b : Bool) (x y : Int) (hx : x ≠ 0) (hy : y ≠ 0) : zeu [cond a x 0, cond b y 0] = cond a x (cond b y 0) := by
 cases a <;> cases b <;> simp [zeu, hx, hy]
theorem zp8 (N : Nat) (hN : 10 < N) (t : DataType) : za9 N t = some (zdk t) := by
 have f2 : ∀ a b : Int, zp N [a, b] = some (zeu [a, b]) := fun a b => zn8 N _ (by simp; omega) (by simp)
 unfold za9 zdk
 simp only [z1q, zn9, f2, obs, zadw _ _ 18 3 (by decide) (by decide)]
 by_cases h0 : t.Kind = 0
 · simp only [h0, beq_self_eq_true, ctr, if_true]; cases inB t.Length 1 256 <;> by_cases hs : t.Scale = 0 <;> simp [zam, hs]
 · simp only [beq_eq_false_iff_ne.2 h0, h0, cfa, if_false]
   by_cases h1 : t.Kind = 1
   · simp only [h1, beq_self_eq_true, ctr, true_or, if_true, obs]; cases inB t.Length 1 15 <;> cases inB t.Scale 0 t.Length <;> simp
   · by_cases h2 : t.Kind = 2
     · simp only [h2, h1]; cases inB t.Length 1 15 <;> cases inB t.Scale 0 t.Length <;> simp
     · by_cases h3 : t.Kind = 3
       · simp only [h3]
         by_cases h4 : t.Length = 4 <;> by_cases h5 : t.Length = 9 <;> cases inB t.Scale 0 t.Length <;> simp [zam, h4, h5]
       · by_cases h4 : t.Kind = 4
         · simp only [h4]
           by_cases h5 : t.Length = 0 <;> by_cases h6 : t.Scale = 0 <;> simp [zam, h5, h6]
         · simp [zam, h1, h2, h3, h4]
theorem zs1 (k : Int) : zci k = some (inB k 1 3) := by simp only [zci, zhi, obs]
theorem z0b (t : DataType) : zfd t = some (zdk t) := by
 have w0' : w6 0 = 0 := by decide
 have w1 : w6 3 = 3 := by decide
 have hz : inB t.Scale 0 0 = decide (t.Scale = 0) := by
  unfold inB
  by_cases h : t.Scale = 0
  · simp [h]
  · simp only [h, decide_false]
    by_cases h1 : 0 ≤ t.Scale
    · simp [h1, show ¬ t.Scale ≤ 0 by omega]
    · simp [h1]
 unfold zfd zdk
 simp only [zhi, zs1, zg5, obs, hz]
 by_cases h0 : t.Kind = 0
 · have e : inB (0 : Int) 0 4 = true := by decide
   have e' : inB (0 : Int) 1 3 = false := by decide
   simp only [h0, e, e']; cases inB t.Length 1 256 <;> by_cases hs : t.Scale = 0 <;> simp [zam, hs, w0', w1]
 · by_cases h1 : t.Kind = 1
   · have e : inB (1 : Int) 0 4 = true := by decide
     have e' : inB (1 : Int) 1 3 = true := by decide
     simp only [h1, e, e']; cases inB t.Length 1 15 <;> cases inB t.Scale 0 t.Length <;> simp [w0', w1]
   · by_cases h2 : t.Kind = 2
     · have e : inB (2 : Int) 0 4 = true := by decide
       have e' : inB (2 : Int) 1 3 = true := by decide
       simp only [h2, e, e']; cases inB t.Length 1 15 <;> cases inB t.Scale 0 t.Length <;> simp [w0', w1]
     · by_cases h3 : t.Kind = 3
       · have e : inB (3 : Int) 0 4 = true := by decide
         have e' : inB (3 : Int) 1 3 = true := by decide
         simp only [h3, e, e']
         by_cases h4 : t.Length = 4 <;> by_cases h5 : t.Length = 9 <;> cases inB t.Scale 0 t.Length <;> simp [zam, h4, h5, w0', w1]
       · by_cases h4 : t.Kind = 4
         · have e : inB (4 : Int) 0 4 = true := by decide
           have e' : inB (4 : Int) 1 3 = false := by decide
           simp only [h4, e, e']
           by_cases h5 : t.Length = 0 <;> by_cases h6 : t.Scale = 0 <;> simp [zam, h5, h6, w0', w1]
         · have e : inB t.Kind 0 4 = false := by
            unfold inB
            by_cases hh : 0 ≤ t.Kind
            · simp only [hh, decide_true, Bool.true_and, decide_eq_false_iff_not]; omega
            · simp [hh]
           simp [zam, h0, h1, h2, h3, h4, e]
theorem zbc {n lo hi : Int} : inB n lo hi = true ↔ lo ≤ n ∧ n ≤ hi := by simp [inB]
theorem zm4 {t : DataType} (h : zdk t = 0) : (t.Kind = 0 ∧ 1 ≤ t.Length ∧ t.Length ≤ 256) ∨ ((t.Kind = 1 ∨ t.Kind = 2) ∧ 1 ≤ t.Length ∧ t.Length ≤ 15) ∨ (t.Kind = 3 ∧ (t.Length = 4 ∨ t.Length = 9)) ∨ (t.Kind = 4 ∧ t.Length = 0) := by
 unfold zdk at h
 split at h
 · rename_i h0; split at h
   · rename_i h1; exact .inl ⟨h0, (zbc.1 h1).1, (zbc.1 h1).2⟩
   · cases h
 · split at h
   · rename_i h0; split at h
     · rename_i h1; exact .inr (.inl ⟨h0, (zbc.1 h1).1, (zbc.1 h1).2⟩)
     · cases h
   · split at h
     · rename_i h0; split at h
       · rename_i h1; exact .inr (.inr (.inl ⟨h0, h1⟩))
       · cases h
     · split at h
       · rename_i h0; split at h
         · rename_i h1; exact .inr (.inr (.inr ⟨h0, h1⟩))
         · cases h
       · cases h
def szE (t : DataType) : Int := if t.Kind = 1 then t.Length / 2 + 1 else if t.Kind = 3 then (if t.Length = 9 then 4 else 2) else if t.Kind = 4 then 16 else t.Length
theorem zjv {t : DataType} (h : zdk t = 0) : 0 < szE t ∧ szE t ≤ 256 := by
 unfold szE
 rcases zm4 h with ⟨h0, h1, h2⟩ | ⟨h0 | h0, h1, h2⟩ | ⟨h0, h1 | h1⟩ | ⟨h0, h1⟩ <;> simp only [h0] <;> simp <;> omega
theorem zi3 {t : DataType} (h : zdk t = 0) : zau t = some (szE t) := by
 unfold zau szE
 rcases zm4 h with ⟨h0, h1, h2⟩ | ⟨h0 | h0, h1, h2⟩ | ⟨h0, h1 | h1⟩ | ⟨h0, h1⟩ <;> simp only [h0, h1, zam, zg5] <;> simp
 · rw [Int.tdiv_eq_ediv_of_nonneg (by omega), w6e (n := t.Length / 2) (by omega) (by omega), w6e (by omega) (by omega)]
 · decide
 · decide
theorem z0i {t : DataType} (h : zdk t = 0) : zfz t = some (szE t) := by
 unfold zfz szE
 rcases zm4 h with ⟨h0, h1, h2⟩ | ⟨h0 | h0, h1, h2⟩ | ⟨h0, h1 | h1⟩ | ⟨h0, h1⟩ <;> simp only [h0, h1, zam] <;> simp
 · rw [Int.tdiv_eq_ediv_of_nonneg (by omega), w6e (n := t.Length / 2) (by omega) (by omega), w6e (by omega) (by omega)]
 · decide
 · decide
theorem z0k (N : Nat) (hN : 10 < N) {t : DataType} (h : zdk t = 0) : zel N t = some (szE t) := by
 unfold zel zj0
 rw [zp8 N hN, h]
 simp [z0i h]
structure StoOk (s : Storage) : Prop where
 le : s.Bytes.size ≤ 1024
 quad : s.Bytes.size % 16 = 0
def zen (s : Storage) (a : Int) : Bool := decide (0 ≤ a) && (decide (a % 16 = 0) && decide (a < (s.Bytes.size : Int)))
theorem z45 (s : Storage) (a : Int) : zdw s a = some (zen s a) := by
 unfold zdw zen
 by_cases h : 0 ≤ a
 · rw [Int.tmod_eq_emod_of_nonneg h]; simp only [ge_iff_le, h, decide_true, ctr, obs, zam, Bool.true_and]; cases decide (a % 16 = 0) <;> rfl
 · simp [h]
theorem z0c {s : Storage} (ok : StoOk s) (a : Int) : zd6 s a = some (zen s a) := by
 have h1 := ok.le
 have h2 := ok.quad
 unfold zd6 zen
 rw [w6e (by omega) (by omega), zhi]
 simp only [obs]
 by_cases h : 0 ≤ a
 · rw [Int.tmod_eq_emod_of_nonneg h]; simp only [inB, h, decide_true, Bool.true_and, zam]
   by_cases h3 : a % 16 = 0
   · have e : decide (a ≤ (s.Bytes.size : Int) - 16) = decide (a < (s.Bytes.size : Int)) := by
      by_cases h4 : a < (s.Bytes.size : Int)
      · rw [dct h4]; exact dct (by omega)
      · rw [dcf h4]; exact dcf (by omega)
     simp only [h3, decide_true, Bool.true_and, e]; cases decide (a < (s.Bytes.size : Int)) <;> rfl
   · simp only [h3, decide_false, Bool.false_and]; cases decide (a ≤ (s.Bytes.size : Int) - 16) <;> rfl
 · simp [inB, h]
def zcf (s : Storage) (p : HwPlace) (n : Int) : Bool := if p.Based then zen s p.Pointer && inB p.Offset 0 256 else inB p.Offset 0 ((s.Bytes.size : Int) - n)
theorem z3d {s : Storage} (ok : StoOk s) (N : Nat) (hN : 10 < N) (p : HwPlace) {t : DataType} (h : zdk t = 0) : zdc N s p t = some (zcf s p (szE t)) := by
 obtain ⟨h1, h2⟩ := zjv h
 have h3 := ok.le
 unfold zdc zcf
 rw [z45, z0k N hN h, zni]
 simp only [obs]
 rw [w6e (by omega) (by omega)]
 simp only [zni, obs]
 cases p.Based <;> cases zen s p.Pointer <;> simp
theorem z2i {s : Storage} (ok : StoOk s) {c : HwCode} (hc : c.Storage = s) (p : HwPlace) (hp : -9223372036854775808 ≤ p.Offset ∧ p.Offset ≤ 9223372036854775807) {t : DataType} (h : zdk t = 0) : zek c p (szE t) = some (zcf s p (szE t)) := by
 obtain ⟨h1, h2⟩ := zjv h
 have h3 := ok.le
 unfold zek zcf zgv
 rw [hc]
 simp only [z0c ok, zhi, obs]
 cases p.Based with
 | true => cases zen s p.Pointer <;> simp
 | false =>
  simp only [cfa]
  by_cases h4 : inB p.Offset 0 (s.Bytes.size : Int) = true
  · obtain ⟨h5, h6⟩ := zbc.1 h4; rw [w6e (by omega) (by omega)]; simp only [h4, ctr, obs, Bool.false_eq_true, if_false]
    congr 1
    unfold inB; simp only [h5, decide_true, Bool.true_and, show (0 : Int) ≤ szE t by omega]
    by_cases h7 : szE t ≤ (s.Bytes.size : Int) - p.Offset
    · rw [dct h7]; exact (dct (by omega)).symm
    · rw [dcf h7]; exact (dcf (by omega)).symm
  · have e : inB p.Offset 0 (s.Bytes.size : Int) = false := by simpa using h4
    simp only [e, cfa, obs, Bool.false_eq_true, if_false]
    congr 1
    cases h5 : inB p.Offset 0 ((s.Bytes.size : Int) - szE t) with
    | false => rfl
    | true =>
     obtain ⟨h6, h7⟩ := zbc.1 h5; exact absurd (zbc.2 ⟨h6, by omega⟩) h4
def zpk (n : Number) : Int := cond (inB n.N (-999999999999999) 999999999999999 && inB n.Scale 0 15) 0 3
theorem zle (n : Number) : zay n = some (zpk n) := by
 unfold zay zpk
 simp only [z1q, zn9, obs]
 cases inB n.N (-999999999999999) 999999999999999 <;> cases inB n.Scale 0 15 <;> rfl
theorem zq5 (n : Number) : zb7 n = some (zpk n) := by
 have w0 : w6 (3 * 0) = 0 := by decide
 have w1 : w6 (3 * 1) = 3 := by decide
 unfold zb7 zpk
 simp only [zhi, zg5, obs]
 cases inB n.N (-999999999999999) 999999999999999 <;> cases inB n.Scale 0 15 <;> simp [w0, w1, zg5] <;> decide
def zaar (op : Int) (ins : Bool) : Option hardware_form :=
 (idx z6l op).bind fun x1 => (cond (op == 4) (some ins) (some false)).bind fun g2 =>
  cond g2 (some (⟨(orI .i64 (orI .i64 (z5f .i64 x1.fields 4) 8) 64), x1.types⟩ : hardware_form)) (some x1)
theorem zadx (x : HwInstruction) : zbs x = zaar x.Op x.InStorage := rfl
def z5m (op : Int) (ins : Bool) : Option ref15_fields := zfh ⟨op, 0, 0, 0, 0, ⟨false, 0, 0⟩, ⟨false, 0, 0⟩, ⟨0, 0, 0⟩, ⟨0, 0, 0⟩, false, ins, ⟨0, 0⟩, ⟨#[]⟩, ⟨#[]⟩, 0, 0, 0, 0⟩
theorem z67 (x : HwInstruction) : zfh x = z5m x.Op x.InStorage := rfl
structure Agree (f : hardware_form) (u : ref15_fields) : Prop where
 R : (zh .i64 f.fields 1 != 0) = u.R
 A : (zh .i64 f.fields 2 != 0) = u.A
 B : (zh .i64 f.fields 4 != 0) = u.B
 Place : (zh .i64 f.fields 8 != 0) = u.Place
 From : (zh .i64 f.fields 16 != 0) = u.From
 Type_ : (zh .i64 f.fields 32 != 0) = (u.Type_ != 0)
 Second : (zh .i64 f.fields 64 != 0) = (u.Second != 0)
 Half : (zh .i64 f.fields 128 != 0) = u.Half
 Number : (zh .i64 f.fields 256 != 0) = u.Number
 Text : (zh .i64 f.fields 512 != 0) = u.Text
 Other : (zh .i64 f.fields 1024 != 0) = u.Other
 Mask : (zh .i64 f.fields 2048 != 0) = u.Mask
 Target : (zh .i64 f.fields 4096 != 0) = u.Target
 Pointer : (zh .i64 f.fields 8192 != 0) = u.Pointer
 Source : (zh .i64 f.fields 16384 != 0) = u.Source
 Calc : (zh .i64 f.fields 32768 != 0) = u.Calculation
 class1 : u.Type_ = 0 ∨ u.Type_ = f.types
 class2 : u.Second = 0 ∨ u.Second = f.types
 cls : f.types = 0 ∨ f.types = 1 ∨ f.types = 2 ∨ f.types = 3
def z4a (f : hardware_form) (u : ref15_fields) : Bool :=
 ((zh .i64 f.fields 1 != 0) == u.R) && (((zh .i64 f.fields 2 != 0) == u.A) && (((zh .i64 f.fields 4 != 0) == u.B) && (((zh .i64 f.fields 8 != 0) == u.Place) && (((zh .i64 f.fields 16 != 0) == u.From) &&
 (((zh .i64 f.fields 32 != 0) == (u.Type_ != 0)) && (((zh .i64 f.fields 64 != 0) == (u.Second != 0)) && (((zh .i64 f.fields 128 != 0) == u.Half) && (((zh .i64 f.fields 256 != 0) == u.Number) && (((zh .i64 f.fields 512 != 0) == u.Text) &&
 (((zh .i64 f.fields 1024 != 0) == u.Other) && (((zh .i64 f.fields 2048 != 0) == u.Mask) && (((zh .i64 f.fields 4096 != 0) == u.Target) && (((zh .i64 f.fields 8192 != 0) == u.Pointer) && (((zh .i64 f.fields 16384 != 0) == u.Source) &&
 (((zh .i64 f.fields 32768 != 0) == u.Calculation) && ((u.Type_ == 0 || u.Type_ == f.types) && ((u.Second == 0 || u.Second == f.types) && (f.types == 0 || (f.types == 1 || (f.types == 2 || f.types == 3))))))))))))))))))))
theorem zaab {f : hardware_form} {u : ref15_fields} (h : z4a f u = true) : Agree f u := by
 simp only [z4a, Bool.and_eq_true, beq_iff_eq, Bool.or_eq_true] at h
 obtain ⟨h1, h2, h3, h4, h5, h6, h7, h8, h9, h10, h11, h12, h13, h14, h15, h16, h17, h18, h19⟩ := h
 exact ⟨h1, h2, h3, h4, h5, h6, h7, h8, h9, h10, h11, h12, h13, h14, h15, h16, h17, h18, h19⟩
def z59 (op : Int) (ins : Bool) : Bool := match zaar op ins, z5m op ins with
 | some f, some u => (z4a f u && ((!u.From || u.Second != 0) && (!u.Place || cond (op == 4) (u.Second != 0) (u.Type_ != 0)))) && (cond (op == 4) (u.R && u.A && u.Calculation && (u.Place == ins) && (u.Second != 0) == ins) (u.Calculation == false))
 | _, _ => false
theorem zadf : ((List.range 27).all fun k => z59 (k : Int) true && z59 (k : Int) false) = true := by kernel_rfl
theorem z1b (x : HwInstruction) (h : inB x.Op 0 26 = true) : ∃ f u, zbs x = some f ∧ zfh x = some u ∧ Agree f u ∧ (x.Op = 4 → u.Place = x.InStorage) ∧ (u.From = true → u.Second ≠ 0) ∧ (u.Place = true → if x.Op = 4 then u.Second ≠ 0 else u.Type_ ≠ 0) := by
 obtain ⟨h1, h2⟩ := zbc.1 h
 obtain ⟨k, hk⟩ : ∃ k : Nat, x.Op = (k : Int) := ⟨x.Op.toNat, by omega⟩
 have hlt : k < 27 := by omega
 have h3 := List.all_eq_true.1 zadf k (by simpa using hlt)
 have h4 : z59 x.Op x.InStorage = true := by
  rw [hk]; cases x.InStorage
  · exact ((Bool.and_eq_true _ _).mp h3).2
  · exact ((Bool.and_eq_true _ _).mp h3).1
 rw [zadx, z67]
 unfold z59 at h4
 split at h4
 · rename_i f u hf hu; obtain ⟨h5, h6⟩ := (Bool.and_eq_true _ _).mp h4; simp only [Bool.and_eq_true] at h5; obtain ⟨h5, h8, h9⟩ := h5; refine ⟨f, u, hf, hu, zaab h5, fun h7 => ?_, fun h7 => ?_, fun h7 => ?_⟩
   · rw [h7] at h6; simp only [beq_self_eq_true, ctr, Bool.and_eq_true, beq_iff_eq] at h6; exact h6.1.2
   · rw [h7] at h8; simpa using h8
   · rw [h7] at h9; split
     · rename_i h10; rw [h10] at h9; simpa using h9
     · rename_i h10; rw [zam, dcf h10] at h9; simpa using h9
 · cases h4
theorem zsm (a b : Int) : (a == b) = !(a != b) := by simp [bne]
def zl9 (x : HwInstruction) (u : ref15_fields) : Bool :=
 (!u.R && x.R != 0) || ((!u.A && x.A != 0) || ((!u.B && x.B != 0) || ((!u.Calculation && x.Calculation != 0) || ((!u.Place && !(!x.Place.Based && (x.Place.Pointer == 0 && x.Place.Offset == 0))) ||
 ((!u.From && !(!x.From.Based && (x.From.Pointer == 0 && x.From.Offset == 0))) || ((u.Type_ == 0 && !(x.Type_.Kind == 0 && (x.Type_.Length == 0 && x.Type_.Scale == 0))) || ((u.Second == 0 && !(x.Second.Kind == 0 && (x.Second.Length == 0 && x.Second.Scale == 0))) ||
 ((!u.Half && x.Half) || ((x.Op != 4 && x.InStorage) || ((!u.Number && !(x.Number.N == 0 && x.Number.Scale == 0)) || ((!u.Text && !(x.Text.toList == [])) || ((!u.Other && !(x.Other.toList == [])) ||
 ((!u.Mask && x.Mask != 0) || ((!u.Target && x.Target != 0) || ((!u.Pointer && x.Pointer != 0) || ((!u.Source && x.Source != 0) || ((!x.Place.Based && x.Place.Pointer != 0) || (!x.From.Based && x.From.Pointer != 0))))))))))))))))))
theorem orB (a b : Bool) : (cond a (some true) (some b)) = some (a || b) := by cases a <;> rfl
theorem znr (a b : Bool) : (cond a (some b) (some false)) = some (a && b) := by cases a <;> rfl
theorem z9l (x : HwInstruction) (u : ref15_fields) : zih x u = some (zl9 x u) := by
 unfold zih zl9
 have e : (⟨#[]⟩ : ByteArray).toList = [] := by kernel_rfl
 simp only [znr, orB, obs, zgj, Bool.and_true, e, Bool.or_assoc, beq_false]
def zo6 (p : HwPlace) (b : Bool) : HwPlace := cond b (cond p.Based p ⟨p.Based, 0, p.Offset⟩) ⟨false, 0, 0⟩
theorem z8d (p : HwPlace) (b : Bool) : zha p b = some (zo6 p b) := by
 unfold zha zo6
 cases b <;> cases p.Based <;> rfl
theorem zaf9 (k v fl : Int) : zca k v fl = some (cond (zh .i64 fl k != 0) v 0) := by
 unfold zca
 rw [zsm]
 cases (zh .i64 fl k != 0) <;> rfl
def z1s (x : HwInstruction) (u : ref15_fields) : HwInstruction :=
 ⟨x.Op, cond u.R x.R 0, cond u.A x.A 0, cond u.B x.B 0, cond u.Calculation x.Calculation 0, zo6 x.Place u.Place, zo6 x.From u.From, cond (u.Type_ != 0) x.Type_ ⟨0, 0, 0⟩, cond (u.Second != 0) x.Second ⟨0, 0, 0⟩,
  cond x.Half u.Half false, cond x.InStorage (x.Op == 4) false, cond u.Number x.Number ⟨0, 0⟩, cond u.Text x.Text ⟨#[]⟩, cond u.Other x.Other ⟨#[]⟩, cond u.Mask x.Mask 0, cond u.Target x.Target 0, cond u.Pointer x.Pointer 0, cond u.Source x.Source 0⟩
theorem zabv {x : HwInstruction} {f : hardware_form} {u : ref15_fields} (hf : zbs x = some f) (ag : Agree f u) : zi8 x = some (z1s x u) := by
 have b2 : ∀ a b : Bool, (cond a (some b) (some false)) = some (cond a b false) := fun a b => by cases a <;> rfl
 unfold zi8 z1s
 simp only [hf, zaf9, z8d, b2, obs, zsm (zh .i64 f.fields 32), zsm (zh .i64 f.fields 64), zsm (zh .i64 f.fields 256), zsm (zh .i64 f.fields 512), zsm (zh .i64 f.fields 1024),
  ag.R, ag.A, ag.B, ag.Place, ag.From, ag.Type_, ag.Second, ag.Half, ag.Number, ag.Text, ag.Other, ag.Mask, ag.Target, ag.Pointer, ag.Source, ag.Calc]
 cases (u.Type_ != 0) <;> cases (u.Second != 0) <;> cases u.Number <;> cases u.Text <;> cases u.Other <;> rfl
theorem zafp (b : Bool) (n : Int) : (!(cond b n 0 == n)) = (!b && n != 0) := by
 cases b
 · by_cases h : n = 0
   · simp [h]
   · simp [h, zam, zcx, Ne.symm h]
 · simp
theorem bbeq (a b : ByteArray) : (a == b) = decide (a = b) := by
 cases a with | mk x =>
 cases b with | mk y =>
 show ByteArray.beq _ _ = _
 unfold ByteArray.beq
 by_cases h : x = y
 · simp [h]
 · simp [h]
theorem zafo (b : Bool) (t : ByteArray) : (!(cond b t (⟨#[]⟩ : ByteArray) == t)) = (!b && !(t.toList == [])) := by
 rw [bbeq]
 cases b
 · simp only [cfa, Bool.not_false, Bool.true_and]
   congr 1
   rw [Lib.toList_data]
   by_cases h : t = ⟨#[]⟩
   · subst h; rfl
   · rw [dcf (Ne.symm h)]
     symm
     rw [beq_eq_false_iff_ne]; intro hh; apply h; cases t with
     | mk d => simp at hh; rw [hh]
 · simp
theorem zafr (a b : Bool) : (!(cond a b false == a)) = (!b && a) := by cases a <;> cases b <;> rfl
theorem zafq (a : Bool) (op : Int) : (!(cond a (op == 4) false == a)) = (op != 4 && a) := by
 cases a
 · simp
 · simp [bne]
theorem zaal (p : HwPlace) (b r : Bool) : (!((zo6 p b).Based == p.Based) || (!((zo6 p b).Pointer == p.Pointer) || (!((zo6 p b).Offset == p.Offset) || r))) =
 ((!b && !(!p.Based && (p.Pointer == 0 && p.Offset == 0))) || ((!p.Based && p.Pointer != 0) || r)) := by
 obtain ⟨ba, pt, of⟩ := p
 cases b <;> cases ba <;> by_cases h1 : pt = 0 <;> by_cases h2 : of = 0 <;> simp [zo6, zam, zcx, h1, h2, eq_comm (a := (0 : Int))]
theorem zaam (t : DataType) (b : Int) (r : Bool) : (!((cond (b != 0) t ⟨0, 0, 0⟩).Kind == t.Kind) || (!((cond (b != 0) t ⟨0, 0, 0⟩).Length == t.Length) || (!((cond (b != 0) t ⟨0, 0, 0⟩).Scale == t.Scale) || r))) =
 ((b == 0 && !(t.Kind == 0 && (t.Length == 0 && t.Scale == 0))) || r) := by
 obtain ⟨k, l, s⟩ := t
 by_cases h0 : b = 0 <;> by_cases h1 : k = 0 <;> by_cases h2 : l = 0 <;> by_cases h3 : s = 0 <;> simp [zam, zcx, h0, h1, h2, h3, eq_comm (a := (0 : Int))]
theorem zafn (t : Number) (b r : Bool) : (!((cond b t ⟨0, 0⟩).N == t.N) || (!((cond b t ⟨0, 0⟩).Scale == t.Scale) || r)) = ((!b && !(t.N == 0 && t.Scale == 0)) || r) := by
 obtain ⟨n, s⟩ := t
 cases b <;> by_cases h1 : n = 0 <;> by_cases h2 : s = 0 <;> simp [zam, zcx, h1, h2, eq_comm (a := (0 : Int))]
theorem z6h (x : HwInstruction) (u : ref15_fields) (r2 : HwInstruction) (h : r2 = z1s x u) :
 (!(zgj [(r2.Op == x.Op), (r2.R == x.R), (r2.A == x.A), (r2.B == x.B), (r2.Calculation == x.Calculation), (r2.Place.Based == x.Place.Based), (r2.Place.Pointer == x.Place.Pointer), (r2.Place.Offset == x.Place.Offset), (r2.From.Based == x.From.Based), (r2.From.Pointer == x.From.Pointer), (r2.From.Offset == x.From.Offset), (r2.Type_.Kind == x.Type_.Kind), (r2.Type_.Length == x.Type_.Length), (r2.Type_.Scale == x.Type_.Scale), (r2.Second.Kind == x.Second.Kind), (r2.Second.Length == x.Second.Length), (r2.Second.Scale == x.Second.Scale), (r2.Half == x.Half), (r2.InStorage == x.InStorage), (r2.Number.N == x.Number.N), (r2.Number.Scale == x.Number.Scale), (r2.Text == x.Text), (r2.Other == x.Other), (r2.Mask == x.Mask), (r2.Target == x.Target), (r2.Pointer == x.Pointer), (r2.Source == x.Source)])) = zl9 x u := by
 subst h
 simp only [zgj, Bool.not_and, z1s]
 rw [zaal x.Place, zaal x.From, zaam x.Type_, zaam x.Second, zafn x.Number]
 simp only [zafp, zafo, zafr, zafq, beq_self_eq_true, Bool.not_true, Bool.false_or, Bool.or_false, zl9, bne]
 ac_rfl
def zdz (t : DataType) (c : Int) : Int := if c = 0 then 0 else if zdk t = 0 then (if (c = 1 ∧ ¬ (1 ≤ t.Kind ∧ t.Kind ≤ 3)) ∨ (c = 2 ∧ t.Kind ≠ 0) ∨ (c = 3 ∧ t.Kind = 4) then 17 else 0) else zdk t
theorem zpr {t : DataType} {c : Int} (h : zdz t c = 0) (hc : c ≠ 0) : zdk t = 0 := by
 unfold zdz at h
 rw [ifn hc] at h
 by_cases h0 : zdk t = 0
 · exact h0
 · rw [ifn h0] at h; exact absurd h h0
theorem zzs (N : Nat) (hN : 10 < N) (t : DataType) (c : Int) (hc : c = 1 ∨ c = 2 ∨ c = 3) : zfb N t c = some (zdz t c) := by
 have f2 : ∀ a b : Int, zai N [a, b] = some (zeu [a, b]) := fun a b => zyo N _ (by simp; omega) (by simp)
 unfold zfb zdz
 rw [zp8 N hN]
 simp only [zsb, f2, znr, orB, obs, zam, zcx]
 have hc0 : c ≠ 0 := by omega
 rw [ifn hc0]
 by_cases h : zdk t = 0
 · rw [ifp h, h]; simp only [zeu, if_true]; rcases zm4 h with ⟨h0, _⟩ | ⟨h0 | h0, _⟩ | ⟨h0, _⟩ | ⟨h0, _⟩ <;> rcases hc with rfl | rfl | rfl <;> simp [h0]
 · rw [ifn h]; simp only [zeu, h, if_false]
theorem zzc (t : DataType) (c : Int) (hc : c = 0 ∨ c = 1 ∨ c = 2 ∨ c = 3) : zhy t c = some (zdz t c) := by
 unfold zhy zdz
 rw [z0b]
 simp only [zs1, znr, orB, obs, zam, zcx]
 by_cases hc0 : c = 0
 · simp [hc0]
 · rw [ifn hc0]; simp only [hc0, decide_false, cfa]
   by_cases h : zdk t = 0
   · rw [ifp h, h]; rcases zm4 h with ⟨h0, _⟩ | ⟨h0 | h0, _⟩ | ⟨h0, _⟩ | ⟨h0, _⟩ <;> rcases hc with rfl | rfl | rfl | rfl <;> first | exact absurd rfl hc0 | simp [h0, inB]
   · rw [ifn h]; simp [h]
theorem z9w (N : Nat) (hN : 10 < N) {x : HwInstruction} {f : hardware_form} {u : ref15_fields} (ag : Agree f u) : zgu N x f = some (zeu [zdz x.Type_ u.Type_, zdz x.Second u.Second]) := by
 have w0 : ∀ t, zdz t 0 = 0 := fun t => by simp [zdz]
 have hcls : ∀ c, c ≠ 0 → (c = 0 ∨ c = f.types) → c = f.types ∧ (f.types = 1 ∨ f.types = 2 ∨ f.types = 3) := by
  intro c h0 h1; have := ag.cls; omega
 have eta : ∀ t : DataType, (⟨t.Kind, t.Length, t.Scale⟩ : DataType) = t := fun t => rfl
 unfold zgu
 rw [ag.Type_, ag.Second]
 by_cases h1 : u.Type_ = 0
 · by_cases h2 : u.Second = 0
   · simp [h1, h2, w0, zeu]
   · obtain ⟨e2, c2⟩ := hcls _ h2 ag.class2; have ht := fun t => zzs N hN t f.types c2; have h0 : f.types ≠ 0 := by omega
     simp only [eta, ht, h1, e2, w0]
     by_cases h3 : zdz x.Second f.types = 0 <;> simp [h3, h0, zeu, zcx]
 · obtain ⟨e1, c1⟩ := hcls _ h1 ag.class1; have ht := fun t => zzs N hN t f.types c1; have h0 : f.types ≠ 0 := by omega
   by_cases h2 : u.Second = 0
   · simp only [eta, ht, h2, e1, w0]
     by_cases h3 : zdz x.Type_ f.types = 0 <;> simp [h3, h0, zeu, zcx]
   · obtain ⟨e2, c2⟩ := hcls _ h2 ag.class2; simp only [eta, ht, e2, e1]
     by_cases h3 : zdz x.Type_ f.types = 0 <;> by_cases h4 : zdz x.Second f.types = 0 <;> simp [h3, h4, h0, zeu, zcx]
def zna (x : HwInstruction) (u : ref15_fields) : List Int := cond u.R [x.R] [] ++ (cond u.A [x.A] [] ++ cond u.B [x.B] [])
theorem zabu (n : Nat) {x : HwInstruction} {f : hardware_form} {u : ref15_fields} (hf : zbs x = some f) (ag : Agree f u) : zu (n + 10) x = some (zna x u) := by
 have s0 : w6 (1 * 2 ^ (min ((0 : Int).toNat) 64)) = 1 := by decide
 have s1 : w6 (1 * 2 ^ (min ((1 : Int).toNat) 64)) = 2 := by decide
 have s2 : w6 (1 * 2 ^ (min ((2 : Int).toNat) 64)) = 4 := by decide
 have a0 : w6 (0 + 1) = 1 := by decide
 have a1 : w6 (1 + 1) = 2 := by decide
 have a2 : w6 (2 + 1) = 3 := by decide
 have rm : ∀ k : Nat, k ≤ 3 → Nat.ble (k * 8) z9 = true := fun k hk => Nat.ble_eq_true_of_le (by unfold z9; omega)
 unfold zu
 rw [hf]
 simp only [obs]
 have i0 : ∀ l, zu.r0 (n + 10) (l, f.fields, [x.R, x.A, x.B], (([x.R, x.A, x.B] : List Int).length : Int), 0) = some (.again (cond u.R (l ++ [x.R]) l, f.fields, [x.R, x.A, x.B], (([x.R, x.A, x.B] : List Int).length : Int), 1)) ∨ l.length > 2 := by
  intro l
  by_cases hl : l.length > 2
  · exact .inr hl
  · left; simp only [zu.r0, zu.b0, s0, a0, ag.R]; have := rm (l.length + 1) (by omega); cases u.R <;> simp [this]
 have i1 : ∀ l, zu.r0 (n + 10) (l, f.fields, [x.R, x.A, x.B], (([x.R, x.A, x.B] : List Int).length : Int), 1) = some (.again (cond u.A (l ++ [x.A]) l, f.fields, [x.R, x.A, x.B], (([x.R, x.A, x.B] : List Int).length : Int), 2)) ∨ l.length > 2 := by
  intro l
  by_cases hl : l.length > 2
  · exact .inr hl
  · left; simp only [zu.r0, zu.b0, s1, a1, ag.A]; have := rm (l.length + 1) (by omega); cases u.A <;> simp [this]
 have i2 : ∀ l, zu.r0 (n + 10) (l, f.fields, [x.R, x.A, x.B], (([x.R, x.A, x.B] : List Int).length : Int), 2) = some (.again (cond u.B (l ++ [x.B]) l, f.fields, [x.R, x.A, x.B], (([x.R, x.A, x.B] : List Int).length : Int), 3)) ∨ l.length > 2 := by
  intro l
  by_cases hl : l.length > 2
  · exact .inr hl
  · left; simp only [zu.r0, zu.b0, s2, a2, ag.B]; have := rm (l.length + 1) (by omega); cases u.B <;> simp [this]
 have i3 : ∀ l, zu.r0 (n + 10) (l, f.fields, [x.R, x.A, x.B], (([x.R, x.A, x.B] : List Int).length : Int), 3) = some (.leave (l, f.fields, [x.R, x.A, x.B], (([x.R, x.A, x.B] : List Int).length : Int), 3)) := by
  intro l; simp [zu.r0, zu.b0]
 have l1 : (cond u.R ([] ++ [x.R]) ([] : List Int)).length ≤ 1 := by cases u.R <;> simp
 have l2 : (cond u.A (cond u.R ([] ++ [x.R]) ([] : List Int) ++ [x.A]) (cond u.R ([] ++ [x.R]) ([] : List Int))).length ≤ 2 := by cases u.R <;> cases u.A <;> simp
 show (zl (zu.r0 (n + 10)) (n + 10) _).bind _ = _
 simp only [zl]
 rw [(i0 []).resolve_right (by simp)]
 simp only [obs]
 rw [(i1 _).resolve_right (by omega)]
 simp only [obs]
 rw [(i2 _).resolve_right (by omega)]
 simp only [obs]
 rw [i3]
 simp only [obs, zna]
 cases u.R <;> cases u.A <;> cases u.B <;> rfl
def zfu (m : HwModel) (r : Int) : Bool := !inB r 0 (m.Registers - 1)
theorem z4r (N : Nat) (l : List Int) (h : l.length < N) (hl : l.length < 1000000000) (m : HwModel) (hm : 2 ≤ m.Registers ∧ m.Registers ≤ 8) : zc5 N l m = some (l.any (zfu m)) := by
 unfold zc5 zaa
 have c1 : ∀ r, zfp r m = some (zfu m r) := fun r => by
  unfold zfp zfu; rw [w6e (by omega) (by omega), zni]; rfl
 have := zc2 (f := zaa.r0 N) (fun i => (l, (l.length : Int), (i : Int), m)) (fun i => (l[i]?).bind fun x => if zfu m x then some (i : Int) else none) l.length
  (fun i hi => by
   have hx := lge hi; simp only [zaa.r0, zaa.b0, zbg, hx, obs, dct (show (i : Int) < (l.length : Int) by omega), ctr, c1]; rw [w6e (by omega) (by omega)]; cases hb : zfu m l[i] <;> simp)
  (by simp only [zaa.r0, zaa.b0, dcf (show ¬ (l.length : Int) < (l.length : Int) by omega), cfa]) h
 simp only [Int.natCast_zero] at this
 rw [this]
 simp only [obs]
 cases hfs : (List.range l.length).findSome? (fun i : Nat => (l[i]?).bind fun x => if zfu m x = true then some (i : Int) else none) with
 | some r =>
  simp only [zd5, obs]; obtain ⟨i, hi, hr⟩ := List.exists_of_findSome?_eq_some hfs; rw [Option.bind_eq_some_iff] at hr; obtain ⟨x, hx, hr⟩ := hr; split at hr
  · rename_i hb; cases hr; have : l.any (zfu m) = true := List.any_eq_true.2 ⟨x, lmg hx, hb⟩; rw [this]; simp
  · cases hr
 | none =>
  simp only [zd5, obs]; rw [List.findSome?_eq_none_iff] at hfs; have : l.any (zfu m) = false := by
   rw [List.any_eq_false]; intro x hx hb; obtain ⟨i, hi⟩ := List.getElem?_of_mem hx; have := hfs i (by simp; exact (List.getElem?_eq_some_iff.1 hi).1); rw [hi] at this; simp [hb] at this
  rw [this]; rfl
theorem zabd (m : HwModel) (hm : 2 ≤ m.Registers ∧ m.Registers ≤ 8) {x : HwInstruction} {u : ref15_fields} (hu : zfh x = some u) : ze4 m x = some (!(zna x u).any (zfu m)) := by
 have c1 : ∀ r, ze3 m r = some (!zfu m r) := fun r => by
  unfold ze3 zfu; rw [w6e (by omega) (by omega), zhi]; simp
 unfold ze4
 rw [hu]
 have aux : ∀ b r, (cond b [r] []).any (zfu m) = (b && zfu m r) := fun b r => by cases b <;> simp
 simp only [c1, obs, zna, List.any_append, aux]
 generalize zfu m x.R = p
 generalize zfu m x.A = q
 generalize zfu m x.B = r
 cases u.R <;> cases u.A <;> cases u.B <;> cases p <;> cases q <;> cases r <;> rfl
def zgf (x : HwInstruction) : DataType := if x.Op = 4 then x.Second else x.Type_
def zmm (m : HwModel) (c : HwCode) (x : HwInstruction) (u : ref15_fields) : Bool :=
 (zna x u).any (zfu m) || ((u.Target && !inB x.Target 0 ((c.Instructions.length : Int) - 1)) || ((u.Mask && !inB x.Mask 1 7) || ((u.Pointer && !zen c.Storage x.Pointer) || ((u.Source && !zen c.Storage x.Source) ||
  ((u.Place && !zcf c.Storage x.Place (szE (zgf x))) || ((u.From && !zcf c.Storage x.From (szE x.Second)) || (u.Calculation && !inB x.Calculation 0 4)))))))
theorem eD (t : DataType) : (⟨t.Kind, t.Length, t.Scale⟩ : DataType) = t := rfl
theorem eP (t : HwPlace) : (⟨t.Based, t.Pointer, t.Offset⟩ : HwPlace) = t := rfl
theorem eS (t : Storage) : (⟨t.Bytes, t.Tags⟩ : Storage) = t := rfl
theorem eN (t : Number) : (⟨t.N, t.Scale⟩ : Number) = t := rfl
theorem eM (t : HwModel) : (⟨t.Registers, t.Fused, t.Memory⟩ : HwModel) = t := rfl
theorem eC (t : HwCode) : (⟨t.Storage, t.Instructions, t.Traps⟩ : HwCode) = t := rfl
theorem eX (t : HwInstruction) : (⟨t.Op, t.R, t.A, t.B, t.Calculation, t.Place, t.From, t.Type_, t.Second, t.Half, t.InStorage, t.Number, t.Text, t.Other, t.Mask, t.Target, t.Pointer, t.Source⟩ : HwInstruction) = t := rfl
theorem eF (t : hardware_form) : (⟨t.fields, t.types⟩ : hardware_form) = t := rfl
theorem nF (a b : Bool) : (cond a (some (!b)) (some false)) = some (a && !b) := by cases a <;> rfl
structure InsOk (c : HwCode) (x : HwInstruction) (u : ref15_fields) : Prop where
 sto : StoOk c.Storage
 len : c.Instructions.length < 1000000000
 pt : u.Place = true → zdk (zgf x) = 0
 ft : u.From = true → zdk x.Second = 0
 po : -9223372036854775808 ≤ x.Place.Offset ∧ x.Place.Offset ≤ 9223372036854775807
 fo : -9223372036854775808 ≤ x.From.Offset ∧ x.From.Offset ≤ 9223372036854775807
theorem z6y {a b : Bool} {o : Option Bool} (h : a = true → o = some b) : (cond a o (some false)) = some (a && b) := by
 cases a
 · rfl
 · exact h rfl
theorem z9y (N : Nat) (hN : 20 < N) {m : HwModel} (hm : 2 ≤ m.Registers ∧ m.Registers ≤ 8) {c : HwCode} {x : HwInstruction} {f : hardware_form} {u : ref15_fields} (hf : zbs x = some f) (ag : Agree f u) (ok : InsOk c x u) :
 zhb N m c x = some (!zmm m c x u) := by
 obtain ⟨n, rfl⟩ : ∃ n, N = n + 10 := ⟨N - 10, by omega⟩
 have hl : (zna x u).length ≤ 3 := by unfold zna; cases u.R <;> cases u.A <;> cases u.B <;> simp
 have hlen := ok.len
 have g1 : ∀ p t, (u.Place = true → zdk t = 0) → (cond u.Place ((zdc (n + 10) c.Storage p t).bind fun r => some (!r)) (some false)) = some (u.Place && !zcf c.Storage p (szE t)) := fun p t h => z6y fun hp => by rw [z3d ok.sto _ (by omega) _ (h hp)]; rfl
 have g2 : ∀ p t, (u.From = true → zdk t = 0) → (cond u.From ((zdc (n + 10) c.Storage p t).bind fun r => some (!r)) (some false)) = some (u.From && !zcf c.Storage p (szE t)) := fun p t h => z6y fun hp => by rw [z3d ok.sto _ (by omega) _ (h hp)]; rfl
 unfold zhb
 simp only [eD, eP, eS, eM, eC, eX]
 rw [hf, zabu n hf ag]
 simp only [obs]
 rw [z4r _ _ (by omega) (by omega) m hm]
 simp only [obs]
 unfold zmm
 cases hr : (zna x u).any (zfu m) with
 | true => rfl
 | false =>
  simp only [cfa, Bool.false_or, ag.Place, ag.From, ag.Target, ag.Mask, ag.Pointer, ag.Source, ag.Calc, znr, zam, obs]; rw [w6e (by omega) (by omega)]; simp only [zni, z45, nF, obs]
  by_cases h4 : x.Op = 4
  · have hp : zgf x = x.Second := ifp h4; have k := ok.pt; rw [hp] at k ⊢; rw [g2 _ _ ok.ft]; cases hup : u.Place with
    | true =>
     simp only [h4, decide_true, Bool.and_true, ctr, Bool.true_and]; have := g1 x.Place x.Second k; rw [hup] at this; simp only [ctr, Bool.true_and] at this; rw [this]; simp only [orB, obs, Bool.or_assoc, Bool.true_and]
    | false =>
     simp only [h4, decide_true, Bool.false_and, cfa, obs, orB, Bool.or_assoc, Bool.false_or]
  · have hp : zgf x = x.Type_ := ifn h4; have k := ok.pt; rw [hp] at k ⊢; rw [g1 _ _ k, g2 _ _ ok.ft]; simp only [h4, decide_false, Bool.and_false, cfa, obs, orB, Bool.or_assoc]
def zpc (m : HwModel) (x : HwInstruction) : Bool := (decide (x.Op = 7) && !m.Fused) || (x.InStorage && !m.Memory)
def zos (x : HwInstruction) : Bool := decide ((x.Text.size : Int) > 256) || decide ((x.Other.size : Int) > 256)
theorem zadt (m : HwModel) (x : HwInstruction) (h : x.InStorage = true → x.Op = 4) : zhv m x = some (!zpc m x) := by
 unfold zhv zpc
 by_cases h7 : x.Op = 7
 · have h4 : x.InStorage = false := by
    cases hi : x.InStorage with
    | false => rfl
    | true => have := h hi; omega
   rw [h4]; simp only [h7, zcx]; cases m.Fused <;> rfl
 · by_cases h4 : x.Op = 4
   · simp only [h4, zcx]; cases x.InStorage <;> cases m.Memory <;> rfl
   · have h5 : x.InStorage = false := by
      cases hi : x.InStorage with
      | false => rfl
      | true => exact absurd (h hi) h4
     simp [h5, h7, h4, zcx]
theorem z9j (m : HwModel) (x : HwInstruction) : zkm m x = some (zpc m x) := by
 unfold zkm zpc
 simp only [zam]
 cases decide (x.Op = 7) <;> cases m.Fused <;> cases x.InStorage <;> cases m.Memory <;> rfl
def zyl (m : HwModel) (c : HwCode) (x : HwInstruction) (u : ref15_fields) : Int :=
 cond (zl9 x u) 5 (cond (zpc m x) 39 (if zdz x.Type_ u.Type_ ≠ 0 then zdz x.Type_ u.Type_ else if zdz x.Second u.Second ≠ 0 then zdz x.Second u.Second else
  cond (zmm m c x u) 3 (if zpk x.Number ≠ 0 then zpk x.Number else cond (zos x) 2 0)))
theorem zrz {x : HwInstruction} {u : ref15_fields} (h : zl9 x u = false) : (x.InStorage = true → x.Op = 4) ∧ (u.Number = false → zpk x.Number = 0) := by
 unfold zl9 at h
 simp only [Bool.or_eq_false_iff] at h
 obtain ⟨_, _, _, _, _, _, _, _, _, h10, h11, _⟩ := h
 constructor
 · intro hi; rw [hi] at h10; simpa using h10
 · intro hn; rw [hn] at h11; simp only [Bool.not_false, Bool.true_and, Bool.not_eq_eq_eq_not, Bool.not_true, Bool.and_eq_true, beq_iff_eq, Bool.not_eq_false'] at h11; obtain ⟨e1, e2⟩ : x.Number.N = 0 ∧ x.Number.Scale = 0 := by simpa using h11
   unfold zpk; rw [e1, e2]
   decide
theorem zads (N : Nat) (hN : 20 < N) {m : HwModel} (hm : 2 ≤ m.Registers ∧ m.Registers ≤ 8) {c : HwCode} {x : HwInstruction} {f : hardware_form} {u : ref15_fields} (hop : inB x.Op 0 26 = true) (hf : zbs x = some f) (ag : Agree f u)
 (ok : zdz x.Type_ u.Type_ = 0 → zdz x.Second u.Second = 0 → InsOk c x u) : zcr N m c x = some (zyl m c x u) := by
 have f3 : ∀ a b d : Int, zai N [a, b, d] = some (zeu [a, b, d]) := fun a b d => zyo N _ (by simp; omega) (by simp)
 unfold zcr zyl
 simp only [eD, eP, eS, eM, eC, eX, eN, eF]
 rw [zni, hop, hf, zabv hf ag]
 simp only [obs, Bool.not_true, cfa]
 rw [z9w N (by omega) ag]
 rw [z6h x u _ rfl]
 simp only [zsb, zle, obs, f3, orB]
 cases he : zl9 x u with
 | true =>
  have hx : ∃ b, zhv m x = some b := by
   unfold zhv; cases (x.Op != 7) <;> cases m.Fused <;> cases (x.Op != 4) <;> cases x.InStorage <;> cases m.Memory <;> exact ⟨_, rfl⟩
  obtain ⟨b, hb⟩ := hx; rw [hb]; simp [zeu]
 | false =>
  obtain ⟨h1, h2⟩ := zrz he; rw [zadt m x h1]; simp only [obs, Bool.not_not, cfa]; cases zpc m x with
  | true => simp [zeu]
  | false =>
   simp only [cfa]
   by_cases e1 : zdz x.Type_ u.Type_ = 0
   · by_cases e2 : zdz x.Second u.Second = 0
     · rw [z9y N hN hm hf ag (ok e1 e2)]; simp only [e1, e2, zeu, if_true, obs, Bool.not_not]; cases zmm m c x u with
       | true => simp
       | false =>
        by_cases e3 : zpk x.Number = 0
        · cases hl : zos x with
          | true => unfold zos at hl; simp [e3, hl]
          | false => unfold zos at hl; simp [e3, hl]
        · simp [e3]
     · simp [zeu, e1, e2, zcx]
   · simp [zeu, e1, zcx]
theorem zab4 {f : hardware_form} {u : ref15_fields} (ag : Agree f u) : (u.Type_ = 0 ∨ u.Type_ = 1 ∨ u.Type_ = 2 ∨ u.Type_ = 3) ∧ (u.Second = 0 ∨ u.Second = 1 ∨ u.Second = 2 ∨ u.Second = 3) := by
 have h1 := ag.class1
 have h2 := ag.class2
 have h3 := ag.cls
 omega
theorem zac6 {m : HwModel} (hm : 2 ≤ m.Registers ∧ m.Registers ≤ 8) {c : HwCode} {x : HwInstruction} {f : hardware_form} {u : ref15_fields} (hop : inB x.Op 0 26 = true) (hu : zfh x = some u) (ag : Agree f u)
 (ok : zdz x.Type_ u.Type_ = 0 → zdz x.Second u.Second = 0 → InsOk c x u) : zdp m c x = some (zyl m c x u) := by
 obtain ⟨c1, c2⟩ := zab4 ag
 unfold zdp zyl
 simp only [eD, eP, eS, eM, eC, eX, eN, eF]
 rw [zhi, hop, hu]
 simp only [obs, Bool.not_true, cfa]
 rw [z9l, z9j, zzc _ _ c1, zzc _ _ c2, zabd m hm hu]
 simp only [obs]
 cases he : zl9 x u with
 | true => rfl
 | false =>
  obtain ⟨h1, h2⟩ := zrz he; simp only [cfa]; cases zpc m x with
  | true => rfl
  | false =>
   simp only [cfa]
   by_cases e1 : zdz x.Type_ u.Type_ = 0
   · by_cases e2 : zdz x.Second u.Second = 0
     · have o := ok e1 e2; have hlen := o.len; have hb : ∀ t, zdk t = 0 → zau t = some (szE t) := fun t h => zi3 h; have g1 : ∀ t, (u.Place = true → zdk t = 0) → (cond u.Place ((zau t).bind fun r => (zek c x.Place r).bind fun r => some (!r)) (some false)) = some (u.Place && !zcf c.Storage x.Place (szE t)) := fun t h => z6y fun hp => by rw [zi3 (h hp)]; simp only [obs]; rw [z2i o.sto rfl _ o.po (h hp)]; rfl
       have g2 : (cond u.From ((zau x.Second).bind fun r => (zek c x.From r).bind fun r => some (!r)) (some false)) = some (u.From && !zcf c.Storage x.From (szE x.Second)) := z6y fun hp => by rw [zi3 (o.ft hp)]; simp only [obs]; rw [z2i o.sto rfl _ o.fo (o.ft hp)]; rfl
       have k := o.pt; have kn : ∀ e : Int, (u.Number = false → e = 0) → (cond (u.Number && e != 0) (some e) (cond (zos x) (some 2) (some 0))) = some (if e ≠ 0 then e else cond (zos x) 2 0) := by
        intro e h
        by_cases h0 : e = 0
        · subst h0; cases u.Number <;> cases zos x <;> rfl
        · cases hn : u.Number with
          | false => exact absurd (h hn) h0
          | true => simp [h0, zcx]
       simp only [e1, e2, bsf, cfa, ne_eq, not_true_eq_false, if_false, zam]; rw [w6e (by omega) (by omega)]; simp only [zhi, z0c o.sto, zq5, nF, znr, orB, g2, obs, ← zos.eq_def]; unfold zmm
       by_cases h4 : x.Op = 4
       · have hp : zgf x = x.Second := ifp h4; rw [hp] at k ⊢; rw [g1 _ k]; simp only [h4, decide_true, ctr, obs, kn _ h2]; generalize (zna x u).any (zfu m) = t1; generalize (u.Target && !inB x.Target 0 ((c.Instructions.length : Int) - 1)) = t2; generalize (u.Mask && !inB x.Mask 1 7) = t3; generalize (u.Pointer && !zen c.Storage x.Pointer) = t4; generalize (u.Source && !zen c.Storage x.Source) = t5; generalize (u.Place && !zcf c.Storage x.Place (szE x.Second)) = t6; generalize (u.From && !zcf c.Storage x.From (szE x.Second)) = t7; generalize (u.Calculation && !inB x.Calculation 0 4) = t8; cases t1 <;> cases t2 <;> cases t3 <;> cases t4 <;> cases t5 <;> cases t6 <;> cases t7 <;> cases t8 <;> rfl
       · have hp : zgf x = x.Type_ := ifn h4; rw [hp] at k ⊢; rw [g1 _ k]; simp only [h4, decide_false, cfa, obs, kn _ h2]; generalize (zna x u).any (zfu m) = t1; generalize (u.Target && !inB x.Target 0 ((c.Instructions.length : Int) - 1)) = t2; generalize (u.Mask && !inB x.Mask 1 7) = t3; generalize (u.Pointer && !zen c.Storage x.Pointer) = t4; generalize (u.Source && !zen c.Storage x.Source) = t5; generalize (u.Place && !zcf c.Storage x.Place (szE x.Type_)) = t6; generalize (u.From && !zcf c.Storage x.From (szE x.Second)) = t7; generalize (u.Calculation && !inB x.Calculation 0 4) = t8; cases t1 <;> cases t2 <;> cases t3 <;> cases t4 <;> cases t5 <;> cases t6 <;> cases t7 <;> cases t8 <;> rfl
     · simp [e1, e2, zcx]
   · simp [e1, zcx]
theorem zqd {n : Nat} {c : HwCode} (h : Wft En n Ty.HwCode c) : c.Storage.Bytes.size ≤ n ∧ c.Storage.Tags.length ≤ n ∧ c.Instructions.length ≤ n ∧ c.Traps.length ≤ n ∧ ∀ x ∈ c.Instructions, Wft En n Ty.HwInstruction x := by
 have h1 := h (.sc (.string c.Storage.Bytes)) (by show _ ∈ zks c; simp [zks])
 have h2 := h (.lst Ty.bool c.Storage.Tags) (by show _ ∈ zks c; simp [zks])
 have h3 := h (.lst Ty.HwInstruction c.Instructions) (by show _ ∈ zks c; simp [zks])
 have h4 := h (.lst Ty.HwTrap c.Traps) (by show _ ∈ zks c; simp [zks])
 cases h1 with
 | str h1 =>
  cases h2 with
  | lst h2 _ =>
   cases h3 with
   | lst h3 h3' =>
    cases h4 with
    | lst h4 _ => exact ⟨h1, h2, h3, h4, h3'⟩
theorem z4x {n : Nat} {z : Int} (h : Wfc En n (.sc (.int .i64 z))) : -9223372036854775808 ≤ z ∧ z ≤ 9223372036854775807 := by
 cases h with
 | int h1 h2 =>
  have e1 : IntKind.i64.min = -9223372036854775808 := by decide
  have e2 : IntKind.i64.max = 9223372036854775807 := by decide
  rw [e1] at h1; rw [e2] at h2; exact ⟨h1, h2⟩
theorem zadq {n : Nat} {x : HwInstruction} (h : Wft En n Ty.HwInstruction x) : (-9223372036854775808 ≤ x.Place.Offset ∧ x.Place.Offset ≤ 9223372036854775807) ∧ (-9223372036854775808 ≤ x.From.Offset ∧ x.From.Offset ≤ 9223372036854775807) :=
 ⟨z4x (h _ (by show _ ∈ zin x; simp [zin])), z4x (h _ (by show _ ∈ zin x; simp [zin]))⟩
def zof (m : HwModel) (c : HwCode) (x : HwInstruction) : Int := if inB x.Op 0 26 = true then zyl m c x ((zfh x).getD ⟨false, false, false, false, false, false, false, false, false, false, false, false, false, false, 0, 0⟩) else 4
theorem z34 (N : Nat) (hN : 20 < N) {m : HwModel} (hm : 2 ≤ m.Registers ∧ m.Registers ≤ 8) {c : HwCode} (hs : StoOk c.Storage) (hlen : c.Instructions.length < 1000000000) {n : Nat} {x : HwInstruction} (hx : Wft En n Ty.HwInstruction x) :
 zcr N m c x = some (zof m c x) ∧ zdp m c x = some (zof m c x) := by
 obtain ⟨w1, w2⟩ := zadq hx
 unfold zof
 by_cases hop : inB x.Op 0 26 = true
 · obtain ⟨f, u, hf, hu, ag, h4, h5, h6⟩ := z1b x hop; have ok : zdz x.Type_ u.Type_ = 0 → zdz x.Second u.Second = 0 → InsOk c x u := fun e1 e2 => {
    sto := hs, len := hlen, po := w1, fo := w2,
    pt := fun hp => (by
     have := h6 hp; unfold zgf; split
     · rename_i h7; rw [ifp h7] at this; exact zpr e2 this
     · rename_i h7; rw [ifn h7] at this; exact zpr e1 this),
    ft := fun hp => zpr e2 (h5 hp) }
   rw [ifp hop, hu]; exact ⟨zads N hN hm hop hf ag ok, zac6 hm hop hu ag ok⟩
 · rw [ifn hop]; have e : inB x.Op 0 26 = false := by simpa using hop
   constructor
   · unfold zcr; rw [zni, e]; rfl
   · unfold zdp; rw [zhi, e]; rfl
def zpt (c : HwCode) (t : HwTrap) : Bool := (inB t.From 0 t.To && (decide (t.To ≤ (c.Instructions.length : Int)) && (inB t.Exception 0 999 && inB t.Handler 0 ((c.Instructions.length : Int) - 1))))
theorem zabs (c : HwCode) (hlen : c.Instructions.length < 1000000000) (t : HwTrap) : zg9 c t = some (cond (zpt c t) 0 3) := by
 unfold zg9 zpt
 rw [w6e (by omega) (by omega)]
 simp only [zni, zsb, znr, obs, Bool.and_assoc]
 generalize (inB t.From 0 t.To && (decide (t.To ≤ (c.Instructions.length : Int)) && (inB t.Exception 0 999 && inB t.Handler 0 ((c.Instructions.length : Int) - 1)))) = b
 cases b <;> rfl
theorem zabb (c : HwCode) (t : HwTrap) : ((decide (t.From < 0) || decide (t.From > t.To)) || (decide (t.To > (c.Instructions.length : Int)))) = !(inB t.From 0 t.To && decide (t.To ≤ (c.Instructions.length : Int))) := by
 unfold inB
 by_cases h1 : t.From < 0
 · simp [h1, show ¬ (0 ≤ t.From) by omega]
 · by_cases h2 : t.From > t.To
   · simp [h1, h2, show ¬ (t.From ≤ t.To) by omega]
   · by_cases h3 : t.To > (c.Instructions.length : Int)
     · simp [h1, h2, h3, show ¬ (t.To ≤ (c.Instructions.length : Int)) by omega]
     · simp [h1, h2, h3, show (0 ≤ t.From) by omega, show (t.From ≤ t.To) by omega, show (t.To ≤ (c.Instructions.length : Int)) by omega]
def gI (m : HwModel) (c : HwCode) (i : Nat) : Option (Int × Int) := (c.Instructions[i]?).bind fun x => if zof m c x = 0 then none else some ((i : Int), zof m c x)
def gT (c : HwCode) (i : Nat) : Option (Int × Int) := (c.Traps[i]?).bind fun t => if zpt c t = true then none else some ((i : Int), 3)
def zs2 (m : HwModel) (c : HwCode) : Int × Int :=
 match (List.range c.Instructions.length).findSome? (gI m c) with
 | some r => r
 | none => match (List.range c.Traps.length).findSome? (gT c) with
  | some r => r
  | none => ((c.Instructions.length : Int), 0)
theorem z9z (N : Nat) (hN : 1048600 < N) {m : HwModel} (hm : 2 ≤ m.Registers ∧ m.Registers ≤ 8) {c : HwCode} (hs : StoOk c.Storage) (hc : Wft En 1048576 Ty.HwCode c) :
 ((z5 (zn.r0 N) N (c.Instructions, (c.Instructions.length : Int), 0, m, c)).bind fun z10 =>
 zd5 z10 (fun z => some z) (fun y9 => (z5 (zn.r2 N) N (y9.2.2.2.2.Traps, (y9.2.2.2.2.Traps.length : Int), 0, y9.2.2.2.2)).bind fun z12 => zd5 z12 (fun z =>
 some z) (fun y11 => some ((y11.2.2.2.Instructions.length : Int), 0)))) = some (zs2 m c) := by
 obtain ⟨w1, w2, w3, w4, w5⟩ := zqd hc
 have l1 := zc2 (f := zn.r0 N) (fun i => (c.Instructions, (c.Instructions.length : Int), (i : Int), m, c)) (gI m c) c.Instructions.length
  (fun i hi => by
   have hx := lge hi; have hb := (z34 N (by omega) hm hs (by omega) (w5 _ (List.getElem_mem hi))).1; simp only [zn.r0, zn.b0, zbg, hx, obs, dct (show (i : Int) < (c.Instructions.length : Int) by omega), ctr, eD, eP, eS, eM, eC, eX, eN, gI, hb]; rw [w6e (by omega) (by omega)]
   by_cases h0 : zof m c c.Instructions[i] = 0 <;> simp [h0, zcx])
  (by simp only [zn.r0, zn.b0, dcf (show ¬ (c.Instructions.length : Int) < (c.Instructions.length : Int) by omega), cfa]) (N := N) (by omega)
 have l2 := zc2 (f := zn.r2 N) (fun i => (c.Traps, (c.Traps.length : Int), (i : Int), c)) (gT c) c.Traps.length
  (fun i hi => by
   have hx := lge hi; simp only [zn.r2, zn.b2, zbg, hx, obs, dct (show (i : Int) < (c.Traps.length : Int) by omega), ctr, gT, zabs c (by omega)]; rw [w6e (by omega) (by omega)]; cases zpt c c.Traps[i] <;> simp)
  (by simp only [zn.r2, zn.b2, dcf (show ¬ (c.Traps.length : Int) < (c.Traps.length : Int) by omega), cfa]) (N := N) (by omega)
 simp only [Int.natCast_zero] at l1 l2
 rw [l1]
 unfold zs2
 simp only [obs]
 cases (List.range c.Instructions.length).findSome? (gI m c) with
 | some r => rfl
 | none =>
  simp only [zd5]; rw [l2]; simp only [obs]; cases (List.range c.Traps.length).findSome? (gT c) <;> rfl
theorem z2j (N : Nat) (hN : 1048600 < N) {m : HwModel} (hm : 2 ≤ m.Registers ∧ m.Registers ≤ 8) {c : HwCode} (hs : StoOk c.Storage) (hc : Wft En 1048576 Ty.HwCode c) :
 ((z5 (zq.r1 N) N (0, m, c)).bind fun z6 =>
 zd5 z6 (fun z => some z) (fun y5 => (z5 (zq.r3 N) N (0, y5.2.2)).bind fun z8 => zd5 z8 (fun z => some z) (fun y7 =>
 some ((y7.2.Instructions.length : Int), 0)))) = some (zs2 m c) := by
 obtain ⟨w1, w2, w3, w4, w5⟩ := zqd hc
 have l1 := zc2 (f := zq.r1 N) (fun i => ((i : Int), m, c)) (gI m c) c.Instructions.length
  (fun i hi => by
   have hx := lge hi; have hb := (z34 N (by omega) hm hs (by omega) (w5 _ (List.getElem_mem hi))).2; simp only [zq.r1, zq.b1, zbg, hx, obs, dct (show (i : Int) < (c.Instructions.length : Int) by omega), ctr, eD, eP, eS, eM, eC, eX, eN, gI, hb]; rw [w6e (by omega) (by omega)]
   by_cases h0 : zof m c c.Instructions[i] = 0 <;> simp [h0, zcx])
  (by simp only [zq.r1, zq.b1, dcf (show ¬ (c.Instructions.length : Int) < (c.Instructions.length : Int) by omega), cfa]) (N := N) (by omega)
 have l2 := zc2 (f := zq.r3 N) (fun i => ((i : Int), c)) (gT c) c.Traps.length
  (fun i hi => by
   have hx := lge hi; simp only [zq.r3, zq.b3, zbg, hx, obs, dct (show (i : Int) < (c.Traps.length : Int) by omega), ctr, gT, orB, zhi, zabb]; rw [w6e (n := (i : Int) + 1) (by omega) (by omega), w6e (n := (c.Instructions.length : Int) - 1) (by omega) (by omega)]; have bl : ∀ a b d e : Bool, ((!(a && b) || !d) || !e) = !(a && (b && (d && e))) := fun a b d e => by cases a <;> cases b <;> cases d <;> cases e <;> rfl
   simp only [zhi, obs, orB, bl, ← zpt.eq_def]; cases zpt c c.Traps[i] <;> simp)
  (by simp only [zq.r3, zq.b3, dcf (show ¬ (c.Traps.length : Int) < (c.Traps.length : Int) by omega), cfa]) (N := N) (by omega)
 simp only [Int.natCast_zero] at l1 l2
 rw [l1]
 unfold zs2
 simp only [obs]
 cases (List.range c.Instructions.length).findSome? (gI m c) with
 | some r => rfl
 | none =>
  simp only [zd5]; rw [l2]; simp only [obs]; cases (List.range c.Traps.length).findSome? (gT c) <;> rfl
theorem zaah (n lo hi : Int) : zf2 n lo hi = some (inB n lo hi) := by
 unfold zf2 inB
 cases decide (lo ≤ n) <;> rfl
theorem zqb {b : ByteArray} {i : Int} (h0 : 0 ≤ i) (h1 : i < (b.size : Int)) : ∃ x, zga b i = some x := by
 unfold zga
 rw [ifp h0]
 exact ⟨_, getElem?_pos b i.toNat (by omega)⟩
theorem zud (N : Nat) (b : ByteArray) (h : b.size < N) (hb : b.size < 1000) : ∃ x, zar N b = some x := by
 unfold zar
 obtain ⟨s', h1, _⟩ := zry (f := zar.r0 N) (fun i s => ∃ a : Int, s = (b, a, (b.size : Int), (i : Int))) b.size
  (fun i s hi hs => by
   obtain ⟨a, rfl⟩ := hs; obtain ⟨x, hx⟩ := zqb (b := b) (i := (i : Int)) (by omega) (by omega); simp only [zar.r0, zar.b0, dct (show (i : Int) < (b.size : Int) by omega), ctr, hx, obs]; rw [w6e (n := (i : Int) + 1) (by omega) (by omega)]; exact ⟨_, rfl, _, rfl⟩)
  (fun s hs => by
   obtain ⟨a, rfl⟩ := hs; simp only [zar.r0, zar.b0, dcf (show ¬ (b.size : Int) < (b.size : Int) by omega), cfa]; exact ⟨_, rfl, _, rfl⟩) h (s := (b, 0, (b.size : Int), 0)) ⟨0, rfl⟩
 rw [h1]
 exact ⟨_, rfl⟩
theorem z2k (N : Nat) (b : ByteArray) (hb : b.size = 16) (k n : Nat) (hn : k + n ≤ 16) (hN : 20 < N) : ∃ x, zbh N b (k : Int) (n : Int) = some x := by
 unfold zbh
 obtain ⟨s', h1, _⟩ := zry (f := zbh.r0 N) (fun i s => ∃ a : Int, s = (b, (k : Int), (n : Int), a, (i : Int))) n
  (fun i s hi hs => by
   obtain ⟨a, rfl⟩ := hs; obtain ⟨x, hx⟩ := zqb (b := b) (i := (k : Int) + (i : Int)) (by omega) (by omega); simp only [zbh.r0, zbh.b0, dct (show (i : Int) < (n : Int) by omega), ctr]; rw [w6e (n := (k : Int) + (i : Int)) (by omega) (by omega), hx, w6e (n := (i : Int) + 1) (by omega) (by omega)]; exact ⟨_, rfl, _, rfl⟩)
  (fun s hs => by
   obtain ⟨a, rfl⟩ := hs; simp only [zbh.r0, zbh.b0, dcf (show ¬ (n : Int) < (n : Int) by omega), cfa]; exact ⟨_, rfl, _, rfl⟩) (N := N) (by omega) (s := (b, (k : Int), (n : Int), 0, 0)) ⟨0, rfl⟩
 rw [h1]
 exact ⟨_, rfl⟩
theorem z88 (p : Pointer) : ∃ e, zcm p = some e := by
 unfold zcm
 simp only [zaah, obs, znr]
 generalize inB p.Kind 0 2 = a
 generalize inB p.Address.Segment 0 1099511627775 = b
 generalize inB p.Address.Offset 0 16777215 = c
 generalize inB p.Authority 0 1023 = d
 generalize (p.Authority != 0 && p.Kind != 1) = e
 cases a <;> cases b <;> cases c <;> cases d <;> cases e <;> exact ⟨_, rfl⟩
theorem z9m (p : Pointer) : ∃ e, ze6 p = some e := by
 unfold ze6
 simp only [zhi, obs, znr, orB]
 generalize inB p.Kind 0 2 = a
 generalize inB p.Address.Segment 0 1099511627775 = b
 generalize inB p.Address.Offset 0 16777215 = c
 generalize inB p.Authority 0 1023 = d
 generalize (p.Kind != 1 && p.Authority != 0) = e
 cases a <;> cases b <;> cases c <;> cases d <;> cases e <;> exact ⟨_, rfl⟩
theorem zb0 (b : ByteArray) (i j : Nat) (h : j ≤ b.size) (hij : i ≤ j) : (b.extract i j).size = j - i := by
 rw [ByteArray.size_extract]
 omega
theorem z5n (N : Nat) (hN : 20 < N) (b : ByteArray) (hb : b.size = 16) : ∃ r, zdx N b = some r := by
 obtain ⟨x1, h1⟩ := zqb (b := b) (i := 1) (by omega) (by omega)
 obtain ⟨x0, h0⟩ := zqb (b := b) (i := 0) (by omega) (by omega)
 have z1 : (b.extract (2 : Int).toNat (4 : Int).toNat).size = 2 := zb0 b 2 4 (by omega) (by omega)
 have z2 : (b.extract (4 : Int).toNat (10 : Int).toNat).size = 6 := zb0 b 4 10 (by omega) (by omega)
 have z3 : (b.extract (10 : Int).toNat b.size).size = 6 := (zb0 b 10 b.size (by omega) (by omega)).trans (by omega)
 obtain ⟨n1, e1⟩ := zud N _ (by omega : (b.extract (2 : Int).toNat (4 : Int).toNat).size < N) (by omega)
 obtain ⟨n2, e2⟩ := zud N _ (by omega : (b.extract (4 : Int).toNat (10 : Int).toNat).size < N) (by omega)
 obtain ⟨n3, e3⟩ := zud N _ (by omega : (b.extract (10 : Int).toNat b.size).size < N) (by omega)
 unfold zdx
 rw [show ((b.size : Int) != 16) = false by rw [hb]; rfl]
 simp only [cfa, h1, h0, obs]
 cases ((x1.toNat : Int) != 0) with
 | true => exact ⟨_, rfl⟩
 | false =>
  simp only [cfa]; rw [ifp (by omega), ifp (by omega), e1]; simp only [obs]; rw [ifp (by omega), ifp (by omega), e2]; simp only [obs]; rw [ifp (by omega), e3]; simp only [obs]; obtain ⟨e, he⟩ := z88 (⟨(w6 (x0.toNat : Int)), (⟨n2, n3⟩ : Address), n1⟩ : Pointer); rw [he]; simp only [obs]; cases (e != 0) <;> exact ⟨_, rfl⟩
theorem z53 (N : Nat) (hN : 20 < N) (b : ByteArray) (hb : b.size = 16) : ∃ r, zji N b = some r := by
 obtain ⟨x1, h1⟩ := zqb (b := b) (i := 1) (by omega) (by omega)
 obtain ⟨x0, h0⟩ := zqb (b := b) (i := 0) (by omega) (by omega)
 obtain ⟨n1, e1⟩ := z2k N b hb 2 2 (by omega) hN
 obtain ⟨n2, e2⟩ := z2k N b hb 4 6 (by omega) hN
 obtain ⟨n3, e3⟩ := z2k N b hb 10 6 (by omega) hN
 have e1' : zbh N b 2 2 = some n1 := e1
 have e2' : zbh N b 4 6 = some n2 := e2
 have e3' : zbh N b 10 6 = some n3 := e3
 unfold zji
 rw [show ((b.size : Int) != 16) = false by rw [hb]; rfl]
 simp only [cfa, h1, h0, obs]
 cases ((x1.toNat : Int) != 0) with
 | true => exact ⟨_, rfl⟩
 | false =>
  simp only [cfa, e1', e2', e3', obs]; obtain ⟨e, he⟩ := z9m (⟨(w6 (x0.toNat : Int)), (⟨n2, n3⟩ : Address), n1⟩ : Pointer); rw [he]; simp only [obs]; cases (e != 0) <;> exact ⟨_, rfl⟩
theorem z11 (N : Nat) (hN : 2000 < N) (s : Storage) : ∃ i1 e1 e2, zm N s = some (i1, e1) ∧ zk8 N s = some e2 ∧
 ((e1 = e2 ∧ e1 ≠ 0) ∨ (StoOk s ∧ s.Tags.length ≤ 64 ∧ (e1 = 0 ∨ (e1 = 22 ∧ true ∈ s.Tags)) ∧ (e2 = 0 ∨ (e2 = 22 ∧ true ∈ s.Tags)))) := by
 unfold zm zk8 zbp
 simp only [eS]
 by_cases h1 : (s.Bytes.size : Int) > 1024
 · rw [dct h1]; exact ⟨_, _, _, rfl, rfl, .inl ⟨rfl, by decide⟩⟩
 · rw [dcf h1]; have hm : (s.Bytes.size : Int).tmod 16 = (s.Bytes.size : Int) % 16 := Int.tmod_eq_emod_of_nonneg (by omega); have hd : (s.Bytes.size : Int).tdiv 16 = (s.Bytes.size : Int) / 16 := Int.tdiv_eq_ediv_of_nonneg (by omega)
   by_cases h2 : (s.Bytes.size : Int) % 16 = 0
   · rw [hm, hd, w6e (by omega) (by omega)]
     by_cases h3 : (s.Tags.length : Int) = (s.Bytes.size : Int) / 16
     · rw [show (((s.Bytes.size : Int) % 16) != 0) = false by rw [h2]; rfl, show ((s.Tags.length : Int) != (s.Bytes.size : Int) / 16) = false by rw [← h3]; exact bsf _]; simp only [cfa]; have ok : StoOk s := ⟨by omega, by omega⟩; have hw : ∀ i : Nat, i < s.Tags.length → w6 ((i : Int) * 16) = (i : Int) * 16 ∧ w6 ((i : Int) * 16 + 16) = (i : Int) * 16 + 16 := fun i hi => ⟨w6e (by omega) (by omega), w6e (by omega) (by omega)⟩; have hx : ∀ i : Nat, i < s.Tags.length → (s.Bytes.extract ((i : Int) * 16).toNat ((i : Int) * 16 + 16).toNat).size = 16 := fun i hi => by
        rw [zb0 _ _ _ (by omega) (by omega)]; omega
       have l1 := zrx (f := zm.r1 N) (fun i t => t = (s.Tags, (s.Tags.length : Int), (i : Int), s)) (fun r => r.2 = 22 ∧ true ∈ s.Tags) s.Tags.length
        (fun i t hi ht => by
         subst ht; obtain ⟨w1, w2⟩ := hw i hi; have hx1 := lge hi; simp only [zm.r1, zm.b1, zbg, hx1, obs, dct (show (i : Int) < (s.Tags.length : Int) by omega), ctr]; rw [w6e (n := (i : Int) + 1) (by omega) (by omega)]; cases hb : s.Tags[i] with
         | false => exact .inl ⟨_, rfl, rfl⟩
         | true =>
          simp only [Bool.not_true, cfa, w1, w2]; rw [ifp (by omega), ifp (by omega)]; obtain ⟨r, hr⟩ := z5n N (by omega) _ (hx i hi); rw [hr]; simp only [obs]; cases (r.2 != 0) with
          | true => exact .inr ⟨_, rfl, rfl, by rw [← hb]; exact List.getElem_mem hi⟩
          | false => exact .inl ⟨_, rfl, rfl⟩)
        (fun t ht => by
         subst ht; exact ⟨_, by simp only [zm.r1, zm.b1, dcf (show ¬ (s.Tags.length : Int) < (s.Tags.length : Int) by omega), cfa], rfl⟩) (N := N) (by omega) (s := (s.Tags, (s.Tags.length : Int), 0, s)) rfl
       have l2 := zrx (f := zbp.r0 N) (fun i t => t = ((s.Bytes.size : Int) / 16, (i : Int), s)) (fun r => r.2 = 22 ∧ true ∈ s.Tags) s.Tags.length
        (fun i t hi ht => by
         subst ht; obtain ⟨w1, w2⟩ := hw i hi; have hx1 := lge hi; simp only [zbp.r0, zbp.b0, zbg, hx1, obs, dct (show (i : Int) < (s.Bytes.size : Int) / 16 by omega), ctr]; rw [w6e (n := (i : Int) + 1) (by omega) (by omega)]; cases hb : s.Tags[i] with
         | false => exact .inl ⟨_, rfl, rfl⟩
         | true =>
          simp only [ctr, zh5, w1, w2]; rw [ifp (by omega), ifp (by omega)]; simp only [obs]; obtain ⟨r, hr⟩ := z53 N (by omega) _ (hx i hi); rw [hr]; simp only [obs]; cases (r.2 != 0) with
          | true => exact .inr ⟨_, rfl, rfl, by rw [← hb]; exact List.getElem_mem hi⟩
          | false => exact .inl ⟨_, rfl, rfl⟩)
        (fun t ht => by
         subst ht; exact ⟨_, by simp only [zbp.r0, zbp.b0, dcf (show ¬ (s.Tags.length : Int) < (s.Bytes.size : Int) / 16 by omega), cfa], rfl⟩) (N := N) (by omega) (s := ((s.Bytes.size : Int) / 16, 0, s)) rfl
       have r1 : ∃ i1 e1, ((z5 (zm.r1 N) N (s.Tags, (s.Tags.length : Int), 0, s)).bind fun z2 => zd5 z2 (fun z => some z) (fun y1 => some ((y1.2.2.2.Tags.length : Int), (0 : Int)))) = some (i1, e1) ∧ (e1 = 0 ∨ (e1 = 22 ∧ true ∈ s.Tags)) := by
        rcases l1 with ⟨t, g1, _⟩ | ⟨r, g1, g2⟩
        · rw [g1]; exact ⟨_, _, rfl, .inl rfl⟩
        · rw [g1]; exact ⟨r.1, r.2, rfl, .inr g2⟩
       have r2 : ∃ e2, ((((z5 (zbp.r0 N) N ((s.Bytes.size : Int) / 16, 0, s)).bind fun z2 => zd5 z2 (fun z => some z) (fun y1 => some (y1.1, (0 : Int)))).bind fun r1 => some r1.2) = some e2) ∧ (e2 = 0 ∨ (e2 = 22 ∧ true ∈ s.Tags)) := by
        rcases l2 with ⟨t, g1, _⟩ | ⟨r, g1, g2⟩
        · rw [g1]; exact ⟨_, rfl, .inl rfl⟩
        · rw [g1]; exact ⟨r.2, rfl, .inr g2⟩
       obtain ⟨i1, e1, g1, g2⟩ := r1; obtain ⟨e2, g3, g4⟩ := r2; exact ⟨i1, e1, e2, g1, g3, .inr ⟨ok, by omega, g2, g4⟩⟩
     · rw [show (((s.Bytes.size : Int) % 16) != 0) = false by rw [h2]; rfl, show ((s.Tags.length : Int) != (s.Bytes.size : Int) / 16) = true by rw [zcx]; exact dct h3]; exact ⟨_, _, _, rfl, rfl, .inl ⟨rfl, by decide⟩⟩
   · rw [hm, show (((s.Bytes.size : Int) % 16) != 0) = true by rw [zcx]; exact dct h2]; exact ⟨_, _, _, rfl, rfl, .inl ⟨rfl, by decide⟩⟩
theorem zabt (N : Nat) (l : List Bool) (h : l.length < N) (hl : l.length < 1000000000) : zfg N l true = some (l.contains true) := by
 unfold zfg zbm
 have := zc2 (f := zbm.r0 N) (fun i => (l, true, (l.length : Int), (i : Int))) (fun i => (l[i]?).bind fun x => if x = true then some (i : Int) else none) l.length
  (fun i hi => by
   have hx := lge hi; simp only [zbm.r0, zbm.b0, zbg, hx, obs, dct (show (i : Int) < (l.length : Int) by omega), ctr]; rw [w6e (by omega) (by omega)]; cases hb : l[i] <;> simp)
  (by simp only [zbm.r0, zbm.b0, dcf (show ¬ (l.length : Int) < (l.length : Int) by omega), cfa]) h
 simp only [Int.natCast_zero] at this
 rw [this]
 simp only [obs]
 cases hfs : (List.range l.length).findSome? (fun i : Nat => (l[i]?).bind fun x => if x = true then some (i : Int) else none) with
 | some r =>
  simp only [zd5, obs]; obtain ⟨i, hi, hr⟩ := List.exists_of_findSome?_eq_some hfs; rw [Option.bind_eq_some_iff] at hr; obtain ⟨x, hx, hr⟩ := hr; split at hr
  · rename_i hb; cases hr; have : l.contains true = true := by rw [List.contains_iff_mem, ← hb]; exact lmg hx
    rw [this]; simp
  · cases hr
 | none =>
  simp only [zd5, obs]; rw [List.findSome?_eq_none_iff] at hfs; have : l.contains true = false := by
   rw [Bool.eq_false_iff]; intro hc; rw [List.contains_iff_mem] at hc; obtain ⟨i, hi⟩ := List.getElem?_of_mem hc; have := hfs i (by simp; exact (List.getElem?_eq_some_iff.1 hi).1); rw [hi] at this; simp at this
  rw [this]; rfl
theorem z42 (N : Nat) (s : Storage) (h : s.Tags.length ≤ 64) (hN : 2000 < N) : ∃ l, zb1 N s = some l ∧ (decide ((l.length : Int) > 0)) = s.Tags.contains true := by
 unfold zb1
 obtain ⟨s', h1, l, h2, h3, h4⟩ := zry (f := zb1.r0 N) (fun i t => ∃ l : List Int, t = (l, (i : Int), s) ∧ l.length ≤ i ∧ (decide ((l.length : Int) > 0)) = (s.Tags.take i).contains true) s.Tags.length
  (fun i t hi ht => by
   obtain ⟨l, rfl, h3, h4⟩ := ht; have hx := lge hi; have rm : Nat.ble ((l.length + ([(w6 ((i : Int) * 16))] : List Int).length) * 8) z9 = true := Nat.ble_eq_true_of_le (by unfold z9; simp; omega); simp only [zb1.r0, zb1.b0, zbg, hx, obs, dct (show (i : Int) < (s.Tags.length : Int) by omega), ctr, rm]; rw [w6e (n := (i : Int) + 1) (by omega) (by omega)]; have tk : s.Tags.take (i + 1) = s.Tags.take i ++ [s.Tags[i]] := by rw [List.take_add_one, hx]; rfl
   cases hb : s.Tags[i] with
   | true => exact ⟨_, rfl, _, rfl, by simp; omega, by rw [tk, hb]; simp⟩
   | false => exact ⟨_, rfl, _, rfl, by omega, by rw [tk, hb, h4]; simp⟩)
  (fun t ht => by
   obtain ⟨l, rfl, h3, h4⟩ := ht; simp only [zb1.r0, zb1.b0, dcf (show ¬ (s.Tags.length : Int) < (s.Tags.length : Int) by omega), cfa]; exact ⟨_, rfl, l, rfl, h3, h4⟩) (N := N) (by omega) (s := ([], 0, s)) ⟨[], rfl, by simp, by simp⟩
 rw [h1, h2]
 exact ⟨l, rfl, by rw [h4, List.take_length]⟩
theorem z9t {c : HwCode} (hc : Wft En 1048576 Ty.HwCode c) : zi4 c = some c := by
 obtain ⟨w1, w2, w3, w4, w5⟩ := zqd hc
 unfold zi4 zcl ziq
 rw [show Nat.ble (c.Storage.Tags.length * 1) z9 = true from Nat.ble_eq_true_of_le (by unfold z9; omega), show Nat.ble (c.Instructions.length * 224) z9 = true from Nat.ble_eq_true_of_le (by unfold z9; omega), show Nat.ble (c.Traps.length * 32) z9 = true from Nat.ble_eq_true_of_le (by unfold z9; omega)]
 rfl
theorem z8q (N : Nat) (hN : 1048600 < N) (m : HwModel) {c : HwCode} (hc : Wft En 1048576 Ty.HwCode c) : ∃ r, zn N m c = some r ∧ zq N m c = some r := by
 obtain ⟨e, he1, he2, he3⟩ := zzn m
 obtain ⟨i1, e1, e2, hs1, hs2, hs⟩ := z11 N (by omega) c.Storage
 obtain ⟨w1, w2, w3, w4, w5⟩ := zqd hc
 have f3 : ∀ a b d : Int, zai N [a, b, d] = some (zeu [a, b, d]) := fun a b d => zyo N _ (by simp; omega) (by simp)
 unfold zn zq
 simp only [eS, eM, eC]
 rw [he1, he2, hs1, hs2]
 simp only [obs]
 by_cases h0 : e = 0
 · subst h0; have hm := he3 rfl; simp only [bsf, cfa]; rcases hs with ⟨rfl, hs⟩ | ⟨ok, htl, hs3, hs4⟩
   · rw [show (e1 != 0) = true by rw [zcx]; exact dct hs]; exact ⟨_, rfl, rfl⟩
   · obtain ⟨l, hl1, hl2⟩ := z42 N c.Storage htl (by omega); rw [zabt N _ (by omega) (by omega), hl1]; simp only [obs, zsb, f3, orB, hl2]
     by_cases ht : c.Storage.Tags.contains true = true
     · rw [ht]; refine ⟨(0, 22), ?_, ?_⟩
       · rcases hs3 with rfl | ⟨rfl, _⟩
         · simp [zeu]
         · rfl
       · rcases hs4 with rfl | ⟨rfl, _⟩
         · rfl
         · rfl
     · have ht' : c.Storage.Tags.contains true = false := by simpa using ht
       have hn : ¬ true ∈ c.Storage.Tags := fun hh => ht (List.contains_iff_mem.2 hh); obtain rfl : e1 = 0 := hs3.resolve_right fun hh => hn hh.2; obtain rfl : e2 = 0 := hs4.resolve_right fun hh => hn hh.2; rw [ht']; have hl1 := z9z N hN hm ok hc; have hl2 := z2j N hN hm ok hc
       by_cases hz : (c.Instructions.length : Int) = 0
       · refine ⟨(0, 1), ?_, ?_⟩
         · simp [zeu, hz]
         · simp [hz]
       · cases hbig : (decide ((c.Instructions.length : Int) > 240) || decide ((c.Traps.length : Int) > 40)) with
         | true =>
          refine ⟨(0, 2), ?_, ?_⟩
          · simp only [bsf, cfa, ctr, obs, zam, dcf hz, zeu, if_true]; rfl
          · simp only [bsf, cfa, ctr, obs, zam, dcf hz]
         | false =>
          refine ⟨zs2 m c, ?_, ?_⟩
          · rw [← hl1]; simp only [bsf, cfa, obs, zam, dcf hz, zeu, if_true]
          · rw [← hl2]; simp only [bsf, cfa, obs, zam, dcf hz]
 · rw [show (e != 0) = true by rw [zcx]; exact dct h0]; exact ⟨_, rfl, rfl⟩
theorem z8h (N : Nat) (hN : 1048600 < N) {c : HwCode} (hc : Wft En 1048576 Ty.HwCode c) : ∃ b, zet N c = some b := by
 obtain ⟨w1, w2, w3, w4, w5⟩ := zqd hc
 unfold zet
 have ft : ∀ s, ∃ b, zg7 s = some b := fun s => by
  unfold zg7; cases decide ((s.Bytes.size : Int) ≤ 1072) <;> exact ⟨_, rfl⟩
 have e1 : ∀ i : Nat, i ≤ c.Instructions.length → (cond (decide ((i : Int) < (c.Instructions.length : Int))) (some (decide ((i : Int) < 244))) (some false)) = some (decide ((i : Int) < (c.Instructions.length : Int)) && decide ((i : Int) < 244)) := fun i _ => znr _ _
 have l1 := zrx (f := zet.r0 N) (fun i t => t = ((i : Int), c)) (fun r => True) (min c.Instructions.length 244)
  (fun i t hi ht => by
   subst ht; have hlt : i < c.Instructions.length := by omega
   have hx := lge hlt; simp only [zet.r0, zet.b0, znr, obs, dct (show (i : Int) < (c.Instructions.length : Int) by omega), dct (show (i : Int) < 244 by omega), Bool.and_self, ctr, zbg, hx, orB]; rw [w6e (n := (i : Int) + 1) (by omega) (by omega)]; cases (decide ((c.Instructions[i].Text.size : Int) > 300) || decide ((c.Instructions[i].Other.size : Int) > 300)) with
   | true => exact .inr ⟨_, rfl, trivial⟩
   | false => exact .inl ⟨_, rfl, rfl⟩)
  (fun t ht => by
   subst ht; have e : (decide (((min c.Instructions.length 244 : Nat) : Int) < (c.Instructions.length : Int)) && decide (((min c.Instructions.length 244 : Nat) : Int) < 244)) = false := by
    by_cases h : c.Instructions.length < 244
    · rw [dcf (show ¬ ((min c.Instructions.length 244 : Nat) : Int) < (c.Instructions.length : Int) by omega)]; rfl
    · rw [dcf (show ¬ ((min c.Instructions.length 244 : Nat) : Int) < 244 by omega)]; simp
   simp only [zet.r0, zet.b0, znr, obs, e, cfa]; exact ⟨_, rfl, rfl⟩) (N := N) (by omega) (s := (0, c)) rfl
 rcases l1 with ⟨t, g1, _⟩ | ⟨r, g1, _⟩
 · rw [g1]; simp only [obs, zd5]; obtain ⟨b, hb⟩ := ft t.2.Storage; rw [hb]; simp only [obs, znr]; exact ⟨_, rfl⟩
 · rw [g1]; exact ⟨_, rfl⟩
theorem zj6 {α : Type} {f : α → Option (Stp α)} (I : α → Prop) (m : α → Nat) (Q : α → Prop) (h : ∀ s, I s → (∃ s', f s = some (.again s') ∧ I s' ∧ m s' < m s) ∨ ∃ s', f s = some (.leave s') ∧ Q s') : ∀ {N : Nat} {s : α}, I s → m s < N → ∃ s', zl f N s = some s' ∧ Q s' := by
 intro N
 induction N with
 | zero => intro s _ h0; omega
 | succ N ih =>
  intro s hs hN; rcases h s hs with ⟨s1, h1, h2, h3⟩ | ⟨s', h1, h2⟩
  · obtain ⟨s', h4, h5⟩ := ih h2 (show m s1 < N by omega); exact ⟨s', by simp only [zl, h1, obs]; exact h4, h5⟩
  · exact ⟨s', by simp only [zl, h1, obs], h2⟩
theorem z8c {R α : Type} {f : α → Option (Round R α)} (I : α → Prop) (m : α → Nat) (J : R → Prop) (Q : α → Prop) (h : ∀ s, I s → (∃ s', f s = some (.again s') ∧ I s' ∧ m s' < m s) ∨ (∃ s', f s = some (.leave s') ∧ Q s') ∨ ∃ r, f s = some (.result r) ∧ J r) : ∀ {N : Nat} {s : α}, I s → m s < N → (∃ s', z5 f N s = some (.inr s') ∧ Q s') ∨ ∃ r, z5 f N s = some (.inl r) ∧ J r := by
 intro N
 induction N with
 | zero => intro s _ h0; omega
 | succ N ih =>
  intro s hs hN; rcases h s hs with ⟨s1, h1, h2, h3⟩ | ⟨s', h1, h2⟩ | ⟨r, h1, h2⟩
  · rcases ih h2 (show m s1 < N by omega) with ⟨s', h4, h5⟩ | ⟨r, h4, h5⟩
    · exact .inl ⟨s', by simp only [z5, h1, obs]; exact h4, h5⟩
    · exact .inr ⟨r, by simp only [z5, h1, obs]; exact h4, h5⟩
  · exact .inl ⟨s', by simp only [z5, h1, obs], h2⟩
  · exact .inr ⟨r, by simp only [z5, h1, obs], h2⟩
theorem zaae {n : Int} (h1 : 0 ≤ n) (h2 : n < 18446744073709551616) : IntKind.wrap .u64 n = n := by
 have e : (2 : Int) ^ (IntKind.u64.bits) = 18446744073709551616 := by decide
 unfold IntKind.wrap
 simp only [e, show IntKind.u64.signed = false from rfl, Bool.false_and]
 simp only [Bool.false_eq_true, if_false]
 omega
theorem zke {n : Int} (h1 : 0 ≤ n) (h2 : n < 256) : IntKind.wrap .u8 n = n := by
 have e : (2 : Int) ^ (IntKind.u8.bits) = 256 := by decide
 unfold IntKind.wrap
 simp only [e, show IntKind.u8.signed = false from rfl, Bool.false_and]
 simp only [Bool.false_eq_true, if_false]
 omega
theorem orU (x y : Nat) (hx : x < 2 ^ 64) (hy : y < 2 ^ 64) : orI .u64 (x : Int) (y : Int) = ((x ||| y : Nat) : Int) := by
 have h := Nat.or_lt_two_pow hx hy
 unfold orI
 have e : (BitVec.ofInt IntKind.u64.bits (x : Int) ||| BitVec.ofInt IntKind.u64.bits (y : Int)).toNat = (x ||| y) := by
  show (BitVec.ofInt 64 (x : Int) ||| BitVec.ofInt 64 (y : Int)).toNat = _; rw [BitVec.toNat_or, BitVec.ofInt_natCast, BitVec.ofInt_natCast, BitVec.toNat_ofNat, BitVec.toNat_ofNat, Nat.mod_eq_of_lt hx, Nat.mod_eq_of_lt hy]
 rw [e]
 exact zaae (by omega) (by omega)
theorem andU (x y : Nat) (hx : x < 2 ^ 64) (hy : y < 2 ^ 64) : zh .u64 (x : Int) (y : Int) = ((x &&& y : Nat) : Int) := by
 have h := Nat.and_lt_two_pow x hy
 unfold zh
 have e : (BitVec.ofInt IntKind.u64.bits (x : Int) &&& BitVec.ofInt IntKind.u64.bits (y : Int)).toNat = (x &&& y) := by
  show (BitVec.ofInt 64 (x : Int) &&& BitVec.ofInt 64 (y : Int)).toNat = _; rw [BitVec.toNat_and, BitVec.ofInt_natCast, BitVec.ofInt_natCast, BitVec.toNat_ofNat, BitVec.toNat_ofNat, Nat.mod_eq_of_lt hx, Nat.mod_eq_of_lt hy]
 rw [e]
 exact zaae (by omega) (by omega)
def wn (n : Nat) : A4_u64 := ⟨(n % 18446744073709551616 : Nat), (n / 18446744073709551616 % 18446744073709551616 : Nat), (n / 18446744073709551616 / 18446744073709551616 % 18446744073709551616 : Nat), (n / 18446744073709551616 / 18446744073709551616 / 18446744073709551616 % 18446744073709551616 : Nat)⟩
def zjq : Nat := 115792089237316195423570985008687907853269984665640564039457584007913129639936
theorem z65 {x y : A4_u64} (h0 : x.e0 = y.e0) (h1 : x.e1 = y.e1) (h2 : x.e2 = y.e2) (h3 : x.e3 = y.e3) : x = y := by
 cases x; cases y; simp_all
theorem z07 {n : Nat} (h : n < 18446744073709551616) : zbe (n : Int) = some (wn n) := by
 unfold zbe wn
 congr 2 <;> omega
theorem zafl (N : Nat) (a b w o : A4_u64) : zw.r0 N (0, 0, a, b, w, o) = some (.again (((a.e0.toNat + b.e0.toNat + 0) / 2 ^ 64 : Nat), 1, a, b, w, ⟨((a.e0.toNat + b.e0.toNat + 0) % 2 ^ 64 : Nat), o.e1, o.e2, o.e3⟩)) := by kernel_rfl
theorem zafk (N c : Nat) (hc : ¬ c > 1) (a b w o : A4_u64) : zw.r0 N (c, 1, a, b, w, o) = some (.again (((a.e1.toNat + b.e1.toNat + c) / 2 ^ 64 : Nat), 2, a, b, w, ⟨o.e0, ((a.e1.toNat + b.e1.toNat + c) % 2 ^ 64 : Nat), o.e2, o.e3⟩)) := by
 have : zw.r0 N (c, 1, a, b, w, o) = if c > 1 then none else some (.again (((a.e1.toNat + b.e1.toNat + c) / 2 ^ 64 : Nat), 2, a, b, w, ⟨o.e0, ((a.e1.toNat + b.e1.toNat + c) % 2 ^ 64 : Nat), o.e2, o.e3⟩)) := by kernel_rfl
 rw [this, ifn hc]
theorem zafj (N c : Nat) (hc : ¬ c > 1) (a b w o : A4_u64) : zw.r0 N (c, 2, a, b, w, o) = some (.again (((a.e2.toNat + b.e2.toNat + c) / 2 ^ 64 : Nat), 3, a, b, w, ⟨o.e0, o.e1, ((a.e2.toNat + b.e2.toNat + c) % 2 ^ 64 : Nat), o.e3⟩)) := by
 have : zw.r0 N (c, 2, a, b, w, o) = if c > 1 then none else some (.again (((a.e2.toNat + b.e2.toNat + c) / 2 ^ 64 : Nat), 3, a, b, w, ⟨o.e0, o.e1, ((a.e2.toNat + b.e2.toNat + c) % 2 ^ 64 : Nat), o.e3⟩)) := by kernel_rfl
 rw [this, ifn hc]
theorem zafi (N c : Nat) (hc : ¬ c > 1) (a b w o : A4_u64) : zw.r0 N (c, 3, a, b, w, o) = some (.again (((a.e3.toNat + b.e3.toNat + c) / 2 ^ 64 : Nat), 4, a, b, w, ⟨o.e0, o.e1, o.e2, ((a.e3.toNat + b.e3.toNat + c) % 2 ^ 64 : Nat)⟩)) := by
 have : zw.r0 N (c, 3, a, b, w, o) = if c > 1 then none else some (.again (((a.e3.toNat + b.e3.toNat + c) / 2 ^ 64 : Nat), 4, a, b, w, ⟨o.e0, o.e1, o.e2, ((a.e3.toNat + b.e3.toNat + c) % 2 ^ 64 : Nat)⟩)) := by kernel_rfl
 rw [this, ifn hc]
theorem zafh (N : Nat) (c : Int) (a b w o : A4_u64) : zw.r0 N (c, 4, a, b, w, o) = some (.leave (c, 4, a, b, w, o)) := by kernel_rfl
theorem z61 (x y c : Nat) : (x % 18446744073709551616 + y % 18446744073709551616 + c) % 2 ^ 64 = (x + y + c) % 18446744073709551616 ∧ x / 18446744073709551616 + y / 18446744073709551616 + (x % 18446744073709551616 + y % 18446744073709551616 + c) / 2 ^ 64 = (x + y + c) / 18446744073709551616 ∧ (c ≤ 1 → ¬ (x % 18446744073709551616 + y % 18446744073709551616 + c) / 2 ^ 64 > 1) := by omega
theorem zwf (N : Nat) (hN : 10 < N) (a b : Nat) : zw N (wn a) (wn b) = some (wn (a + b)) := by
 obtain ⟨n, rfl⟩ : ∃ n, N = n + 5 := ⟨N - 5, by omega⟩
 obtain ⟨l0, m0, c0⟩ := z61 a b 0
 have c0' := c0 (by omega)
 obtain ⟨l1, m1, c1⟩ := z61 (a / 18446744073709551616) (b / 18446744073709551616) ((a % 18446744073709551616 + b % 18446744073709551616 + 0) / 2 ^ 64)
 have c1' := c1 (by omega)
 rw [m0] at l1 m1
 obtain ⟨l2, m2, c2⟩ := z61 (a / 18446744073709551616 / 18446744073709551616) (b / 18446744073709551616 / 18446744073709551616) ((a / 18446744073709551616 % 18446744073709551616 + b / 18446744073709551616 % 18446744073709551616 + (a % 18446744073709551616 + b % 18446744073709551616 + 0) / 2 ^ 64) / 2 ^ 64)
 have c2' := c2 (by omega)
 rw [m1] at l2 m2
 obtain ⟨l3, _, _⟩ := z61 (a / 18446744073709551616 / 18446744073709551616 / 18446744073709551616) (b / 18446744073709551616 / 18446744073709551616 / 18446744073709551616) ((a / 18446744073709551616 / 18446744073709551616 % 18446744073709551616 + b / 18446744073709551616 / 18446744073709551616 % 18446744073709551616 + (a / 18446744073709551616 % 18446744073709551616 + b / 18446744073709551616 % 18446744073709551616 + (a % 18446744073709551616 + b % 18446744073709551616 + 0) / 2 ^ 64) / 2 ^ 64) / 2 ^ 64)
 rw [m2] at l3
 unfold zw
 simp only [zl, zafl, obs]
 simp only [wn, itn]
 rw [zafk _ _ c0']
 simp only [obs, itn]
 rw [zafj _ _ c1']
 simp only [obs, itn]
 rw [zafi _ _ c2']
 simp only [obs, itn]
 rw [zafh, l0, l1, l2, l3]
 rfl
theorem zadm (N : Nat) (a b w o : A4_u64) : zt.r0 N (0, 0, a, b, w, o) = some (.again (((if a.e0.toNat < b.e0.toNat + 0 then 1 else 0 : Nat) : Int), 1, a, b, w, ⟨((a.e0.toNat + 2 ^ 64 - b.e0.toNat - 0) % 2 ^ 64 : Nat), o.e1, o.e2, o.e3⟩)) := by kernel_rfl
theorem zadl (N c : Nat) (hc : ¬ c > 1) (a b w o : A4_u64) : zt.r0 N (c, 1, a, b, w, o) = some (.again (((if a.e1.toNat < b.e1.toNat + c then 1 else 0 : Nat) : Int), 2, a, b, w, ⟨o.e0, ((a.e1.toNat + 2 ^ 64 - b.e1.toNat - c) % 2 ^ 64 : Nat), o.e2, o.e3⟩)) := by
 have : zt.r0 N (c, 1, a, b, w, o) = if c > 1 then none else some (.again (((if a.e1.toNat < b.e1.toNat + c then 1 else 0 : Nat) : Int), 2, a, b, w, ⟨o.e0, ((a.e1.toNat + 2 ^ 64 - b.e1.toNat - c) % 2 ^ 64 : Nat), o.e2, o.e3⟩)) := by kernel_rfl
 rw [this, ifn hc]
theorem zadk (N c : Nat) (hc : ¬ c > 1) (a b w o : A4_u64) : zt.r0 N (c, 2, a, b, w, o) = some (.again (((if a.e2.toNat < b.e2.toNat + c then 1 else 0 : Nat) : Int), 3, a, b, w, ⟨o.e0, o.e1, ((a.e2.toNat + 2 ^ 64 - b.e2.toNat - c) % 2 ^ 64 : Nat), o.e3⟩)) := by
 have : zt.r0 N (c, 2, a, b, w, o) = if c > 1 then none else some (.again (((if a.e2.toNat < b.e2.toNat + c then 1 else 0 : Nat) : Int), 3, a, b, w, ⟨o.e0, o.e1, ((a.e2.toNat + 2 ^ 64 - b.e2.toNat - c) % 2 ^ 64 : Nat), o.e3⟩)) := by kernel_rfl
 rw [this, ifn hc]
theorem zadj (N c : Nat) (hc : ¬ c > 1) (a b w o : A4_u64) : zt.r0 N (c, 3, a, b, w, o) = some (.again (((if a.e3.toNat < b.e3.toNat + c then 1 else 0 : Nat) : Int), 4, a, b, w, ⟨o.e0, o.e1, o.e2, ((a.e3.toNat + 2 ^ 64 - b.e3.toNat - c) % 2 ^ 64 : Nat)⟩)) := by
 have : zt.r0 N (c, 3, a, b, w, o) = if c > 1 then none else some (.again (((if a.e3.toNat < b.e3.toNat + c then 1 else 0 : Nat) : Int), 4, a, b, w, ⟨o.e0, o.e1, o.e2, ((a.e3.toNat + 2 ^ 64 - b.e3.toNat - c) % 2 ^ 64 : Nat)⟩)) := by kernel_rfl
 rw [this, ifn hc]
theorem zadi (N : Nat) (c : Int) (a b w o : A4_u64) : zt.r0 N (c, 4, a, b, w, o) = some (.leave (c, 4, a, b, w, o)) := by kernel_rfl
theorem zzr (p : Prop) [Decidable p] : (if p then 1 else 0 : Nat) ≤ 1 := by split <;> omega
theorem z5q (x y c k : Nat) (hk : k = c) (hc : c ≤ 1) : ((x + y + c) % 18446744073709551616 + 2 ^ 64 - y % 18446744073709551616 - k) % 2 ^ 64 = x % 18446744073709551616 ∧ (if (x + y + c) % 18446744073709551616 < y % 18446744073709551616 + k then 1 else 0 : Nat) = (x % 18446744073709551616 + y % 18446744073709551616 + c) / 2 ^ 64 ∧ (x % 18446744073709551616 + y % 18446744073709551616 + c) / 2 ^ 64 ≤ 1 ∧ (x + y + c) / 18446744073709551616 = x / 18446744073709551616 + y / 18446744073709551616 + (x % 18446744073709551616 + y % 18446744073709551616 + c) / 2 ^ 64 := by
 subst hk
 refine ⟨by omega, ?_, by omega, by omega⟩
 split <;> omega
theorem zu5 (N : Nat) (hN : 10 < N) (a b : Nat) : ∃ r, zt N (wn a) (wn b) = some r ∧ (b ≤ a → r = wn (a - b)) := by
 obtain ⟨n, rfl⟩ : ∃ n, N = n + 5 := ⟨N - 5, by omega⟩
 unfold zt
 simp only [zl, zadm, obs]
 have t1 : ¬ (if (wn a).e0.toNat < (wn b).e0.toNat + 0 then 1 else 0 : Nat) > 1 := by have := zzr ((wn a).e0.toNat < (wn b).e0.toNat + 0); omega
 rw [zadl _ _ t1]
 simp only [obs]
 have t2 := zzr ((wn a).e1.toNat < (wn b).e1.toNat + (if (wn a).e0.toNat < (wn b).e0.toNat + 0 then 1 else 0 : Nat))
 rw [zadk _ _ (by omega)]
 simp only [obs]
 have t3 := zzr ((wn a).e2.toNat < (wn b).e2.toNat + (if (wn a).e1.toNat < (wn b).e1.toNat + (if (wn a).e0.toNat < (wn b).e0.toNat + 0 then 1 else 0 : Nat) then 1 else 0 : Nat))
 rw [zadj _ _ (by omega)]
 simp only [obs]
 rw [zadi]
 refine ⟨_, rfl, fun hb => ?_⟩
 obtain ⟨d, rfl⟩ : ∃ d, a = d + b := ⟨a - b, by omega⟩
 clear t1 t2 t3
 rw [Nat.add_sub_cancel]
 obtain ⟨s0, u0, v0, w0⟩ := z5q d b 0 0 rfl (by omega)
 rw [Nat.add_zero (d + b)] at s0 u0 w0
 obtain ⟨s1, u1, v1, w1⟩ := z5q (d / 18446744073709551616) (b / 18446744073709551616) _ _ u0 v0
 rw [← w0] at s1 u1 w1
 obtain ⟨s2, u2, v2, w2⟩ := z5q (d / 18446744073709551616 / 18446744073709551616) (b / 18446744073709551616 / 18446744073709551616) _ _ u1 v1
 rw [← w1] at s2 u2 w2
 obtain ⟨s3, u3, v3, w3⟩ := z5q (d / 18446744073709551616 / 18446744073709551616 / 18446744073709551616) (b / 18446744073709551616 / 18446744073709551616 / 18446744073709551616) _ _ u2 v2
 rw [← w2] at s3
 refine z65 ?_ ?_ ?_ ?_
 · exact congrArg Int.ofNat s0
 · exact congrArg Int.ofNat s1
 · exact congrArg Int.ofNat s2
 · exact congrArg Int.ofNat s3
theorem zyg (N : Nat) (hN : 10 < N) {a b : Nat} (h : b ≤ a) : zt N (wn a) (wn b) = some (wn (a - b)) := by
 obtain ⟨r, h1, h2⟩ := zu5 N hN a b
 rw [h1, h2 h]
def zhq (a b : Nat) : Int := if a < b then -1 else if b < a then 1 else 0
theorem cmp3 (N : Nat) (a b : A4_u64) : zk.r0 N (3, a, b) = cond (decide (a.e3 < b.e3)) (some (.result (-1))) (cond (decide (a.e3 > b.e3)) (some (.result 1)) (some (.again (2, a, b)))) := by kernel_rfl
theorem cmp2 (N : Nat) (a b : A4_u64) : zk.r0 N (2, a, b) = cond (decide (a.e2 < b.e2)) (some (.result (-1))) (cond (decide (a.e2 > b.e2)) (some (.result 1)) (some (.again (1, a, b)))) := by kernel_rfl
theorem cmp1 (N : Nat) (a b : A4_u64) : zk.r0 N (1, a, b) = cond (decide (a.e1 < b.e1)) (some (.result (-1))) (cond (decide (a.e1 > b.e1)) (some (.result 1)) (some (.again (0, a, b)))) := by kernel_rfl
theorem cmp0 (N : Nat) (a b : A4_u64) : zk.r0 N (0, a, b) = cond (decide (a.e0 < b.e0)) (some (.result (-1))) (cond (decide (a.e0 > b.e0)) (some (.result 1)) (some (.again ((-1), a, b)))) := by kernel_rfl
theorem cmpE (N : Nat) (a b : A4_u64) : zk.r0 N ((-1), a, b) = some (.leave ((-1), a, b)) := by kernel_rfl
def zn7 (x y R : Int) : Int := if x < y then -1 else if y < x then 1 else R
theorem z8r (n : Nat) (a b : A4_u64) : zk (n + 5) a b = some (zn7 a.e3 b.e3 (zn7 a.e2 b.e2 (zn7 a.e1 b.e1 (zn7 a.e0 b.e0 0)))) := by
 unfold zk zn7
 simp only [z5, cmp3]
 by_cases h3 : a.e3 < b.e3
 · rw [ifp h3, dct h3]; rfl
 · rw [ifn h3, dcf h3]
   by_cases g3 : b.e3 < a.e3
   · rw [ifp g3, dct g3]; rfl
   · rw [ifn g3, dcf g3]; simp only [cfa, obs, cmp2]
     by_cases h2 : a.e2 < b.e2
     · rw [ifp h2, dct h2]; rfl
     · rw [ifn h2, dcf h2]
       by_cases g2 : b.e2 < a.e2
       · rw [ifp g2, dct g2]; rfl
       · rw [ifn g2, dcf g2]; simp only [cfa, obs, cmp1]
         by_cases h1 : a.e1 < b.e1
         · rw [ifp h1, dct h1]; rfl
         · rw [ifn h1, dcf h1]
           by_cases g1 : b.e1 < a.e1
           · rw [ifp g1, dct g1]; rfl
           · rw [ifn g1, dcf g1]; simp only [cfa, obs, cmp0]
             by_cases h0 : a.e0 < b.e0
             · rw [ifp h0, dct h0]; rfl
             · rw [ifn h0, dcf h0]
               by_cases g0 : b.e0 < a.e0
               · rw [ifp g0, dct g0]; rfl
               · rw [ifn g0, dcf g0]; simp only [cfa, obs, cmpE]; rfl
theorem zlr (N : Nat) (hN : 10 < N) {a b : Nat} (ha : a < zjq) (hb : b < zjq) : zk N (wn a) (wn b) = some (zhq a b) := by
 obtain ⟨n, rfl⟩ : ∃ n, N = n + 5 := ⟨N - 5, by omega⟩
 unfold zjq at ha hb
 rw [z8r]
 have k0 : ∀ x y : Nat, zn7 (x : Int) (y : Int) 0 = zhq x y := fun x y => by
  unfold zn7 zhq
  repeat' split
  all_goals first | rfl | (exfalso; omega)
 have top : a / 18446744073709551616 / 18446744073709551616 / 18446744073709551616 < 18446744073709551616 := by omega
 have top2 : b / 18446744073709551616 / 18446744073709551616 / 18446744073709551616 < 18446744073709551616 := by omega
 have s1 : ∀ (x y : Nat) (R : Int), zn7 ((x : Nat) : Int) ((y : Nat) : Int) R = if zhq x y = 0 then R else zhq x y := fun x y R => by
  unfold zn7 zhq
  repeat' split
  all_goals first | rfl | (exfalso; omega) | contradiction
 have s2 : ∀ x y : Nat, zhq x y = if zhq (x / 18446744073709551616) (y / 18446744073709551616) = 0 then zhq (x % 18446744073709551616) (y % 18446744073709551616) else zhq (x / 18446744073709551616) (y / 18446744073709551616) := fun x y => by
  unfold zhq
  repeat' split
  all_goals first | rfl | (exfalso; omega) | contradiction
 show some (zn7 (((a / 18446744073709551616 / 18446744073709551616 / 18446744073709551616 % 18446744073709551616 : Nat) : Int)) (((b / 18446744073709551616 / 18446744073709551616 / 18446744073709551616 % 18446744073709551616 : Nat) : Int)) (zn7 (((a / 18446744073709551616 / 18446744073709551616 % 18446744073709551616 : Nat) : Int)) (((b / 18446744073709551616 / 18446744073709551616 % 18446744073709551616 : Nat) : Int)) (zn7 (((a / 18446744073709551616 % 18446744073709551616 : Nat) : Int)) (((b / 18446744073709551616 % 18446744073709551616 : Nat) : Int)) (zn7 (((a % 18446744073709551616 : Nat) : Int)) (((b % 18446744073709551616 : Nat) : Int)) 0)))) = _
 rw [Nat.mod_eq_of_lt top, Nat.mod_eq_of_lt top2, s1, s1, s1, s1]
 have r3 := s2 (a / 18446744073709551616 / 18446744073709551616) (b / 18446744073709551616 / 18446744073709551616)
 have r2 := s2 (a / 18446744073709551616) (b / 18446744073709551616)
 have r1 := s2 a b
 clear s1 s2 top top2 ha hb k0
 generalize zhq (a / 18446744073709551616 / 18446744073709551616 / 18446744073709551616) (b / 18446744073709551616 / 18446744073709551616 / 18446744073709551616) = o3 at *
 generalize zhq (a / 18446744073709551616 / 18446744073709551616 % 18446744073709551616) (b / 18446744073709551616 / 18446744073709551616 % 18446744073709551616) = m2 at *
 generalize zhq (a / 18446744073709551616 % 18446744073709551616) (b / 18446744073709551616 % 18446744073709551616) = m1 at *
 generalize zhq (a % 18446744073709551616) (b % 18446744073709551616) = m0 at *
 rw [r1, r2, r3]
 congr 1
 by_cases h3 : o3 = 0
 · by_cases h2 : m2 = 0
   · by_cases h1 : m1 = 0
     · by_cases h0 : m0 = 0
       · simp only [h3, h2, h1, h0, if_true]
       · simp only [h3, h2, h1, h0, if_true, if_false]
     · simp only [h3, h2, h1, if_true, if_false]
   · simp only [h3, h2, if_true, if_false]
 · simp only [h3, if_true, if_false]
theorem zr4 (m : Nat) : IntKind.wrap .u64 (m : Int) = ((m % 18446744073709551616 : Nat) : Int) := by
 have e : (2 : Int) ^ (IntKind.u64.bits) = 18446744073709551616 := by decide
 unfold IntKind.wrap
 simp only [e, show IntKind.u64.signed = false from rfl, Bool.false_and]
 simp only [Bool.false_eq_true, if_false]
 omega
theorem zto (p q : Nat) : (p : Int).fdiv (q : Int) = ((p / q : Nat) : Int) := by
 rw [Int.fdiv_eq_ediv_of_nonneg _ (by omega)]
 exact (Int.natCast_ediv p q).symm
theorem z3l (p : Nat) : (p : Int).fdiv (2 ^ (min (32 : Int).toNat 64)) = ((p / 4294967296 : Nat) : Int) := zto p 4294967296
theorem z6z (p : Nat) (h : p < 18446744073709551616) : zh .u64 (p : Int) 4294967295 = ((p % 4294967296 : Nat) : Int) := by
 rw [show (4294967295 : Int) = ((4294967295 : Nat) : Int) from rfl, andU p 4294967295 h (by decide)]
 rw [show (4294967295 : Nat) = 2 ^ 32 - 1 from rfl, Nat.and_two_pow_sub_one_eq_mod]
theorem z1r (p q : Nat) (hp : p < 18446744073709551616) (hq : q < 18446744073709551616) : zea (p : Int) (q : Int) = some (((p * q / 18446744073709551616 : Nat) : Int), ((p * q % 18446744073709551616 : Nat) : Int)) := by
 unfold zea
 simp only [z3l, z6z p hp, z6z q hq, ← Int.natCast_mul, zr4, ← Int.natCast_add, z3l]
 rw [z6z _ (Nat.mod_lt _ (by decide))]
 simp only [z3l, ← Int.natCast_mul, zr4, ← Int.natCast_add]
 have e1 := Nat.div_add_mod p 4294967296
 have e2 := Nat.div_add_mod q 4294967296
 have b1 : p / 4294967296 ≤ 4294967295 := by omega
 have b2 : q / 4294967296 ≤ 4294967295 := by omega
 have b3 : p % 4294967296 ≤ 4294967295 := by omega
 have b4 : q % 4294967296 ≤ 4294967295 := by omega
 have m : p * q = 18446744073709551616 * ((p / 4294967296) * (q / 4294967296)) + 4294967296 * ((p / 4294967296) * (q % 4294967296)) + (4294967296 * ((p % 4294967296) * (q / 4294967296)) + (p % 4294967296) * (q % 4294967296)) := by
  conv => lhs; rw [← e1, ← e2]
  rw [Nat.add_mul, Nat.mul_add, Nat.mul_add, Nat.mul_mul_mul_comm, Nat.mul_assoc 4294967296 (p / 4294967296) (q % 4294967296), Nat.mul_left_comm (p % 4294967296) 4294967296 (q / 4294967296)]
 have c1 := Nat.mul_le_mul b1 b2
 have c2 := Nat.mul_le_mul b1 b4
 have c3 := Nat.mul_le_mul b3 b2
 have c4 := Nat.mul_le_mul b3 b4
 rw [m]
 clear m e1 e2 b1 b2 b3 b4
 generalize (p / 4294967296) * (q / 4294967296) = A at *
 generalize (p / 4294967296) * (q % 4294967296) = B at *
 generalize (p % 4294967296) * (q / 4294967296) = C at *
 generalize (p % 4294967296) * (q % 4294967296) = D at *
 simp only [Option.some.injEq, Prod.mk.injEq, Int.natCast_inj]
 refine ⟨?_, trivial⟩
 omega
theorem zacu (N : Nat) (n c : Int) (a w o : A4_u64) : zan.r0 N (n, c, 0, a, w, o) = (zea a.e0 n).bind fun r => some (.again (n, (IntKind.wrap .u64 (r.1 + (((r.2.toNat + c.toNat + 0) / 2 ^ 64 : Nat) : Int))), 1, a, w, ⟨((r.2.toNat + c.toNat + 0) % 2 ^ 64 : Nat), o.e1, o.e2, o.e3⟩)) := by kernel_rfl
theorem zact (N : Nat) (n c : Int) (a w o : A4_u64) : zan.r0 N (n, c, 1, a, w, o) = (zea a.e1 n).bind fun r => some (.again (n, (IntKind.wrap .u64 (r.1 + (((r.2.toNat + c.toNat + 0) / 2 ^ 64 : Nat) : Int))), 2, a, w, ⟨o.e0, ((r.2.toNat + c.toNat + 0) % 2 ^ 64 : Nat), o.e2, o.e3⟩)) := by kernel_rfl
theorem zacs (N : Nat) (n c : Int) (a w o : A4_u64) : zan.r0 N (n, c, 2, a, w, o) = (zea a.e2 n).bind fun r => some (.again (n, (IntKind.wrap .u64 (r.1 + (((r.2.toNat + c.toNat + 0) / 2 ^ 64 : Nat) : Int))), 3, a, w, ⟨o.e0, o.e1, ((r.2.toNat + c.toNat + 0) % 2 ^ 64 : Nat), o.e3⟩)) := by kernel_rfl
theorem zacr (N : Nat) (n c : Int) (a w o : A4_u64) : zan.r0 N (n, c, 3, a, w, o) = (zea a.e3 n).bind fun r => some (.again (n, (IntKind.wrap .u64 (r.1 + (((r.2.toNat + c.toNat + 0) / 2 ^ 64 : Nat) : Int))), 4, a, w, ⟨o.e0, o.e1, o.e2, ((r.2.toNat + c.toNat + 0) % 2 ^ 64 : Nat)⟩)) := by kernel_rfl
theorem zacq (N : Nat) (n c : Int) (a w o : A4_u64) : zan.r0 N (n, c, 4, a, w, o) = some (.leave (n, c, 4, a, w, o)) := by kernel_rfl
theorem z5k (x c n : Nat) (hn : n < 18446744073709551616) (hc : c ≤ n) : IntKind.wrap .u64 ((((x % 18446744073709551616) * n / 18446744073709551616 : Nat) : Int) + ((((x % 18446744073709551616) * n % 18446744073709551616 + c + 0) / 2 ^ 64 : Nat) : Int)) = ((((x % 18446744073709551616) * n + c) / 18446744073709551616 : Nat) : Int) ∧ ((x % 18446744073709551616) * n % 18446744073709551616 + c + 0) % 2 ^ 64 = (x * n + c) % 18446744073709551616 ∧ ((x % 18446744073709551616) * n + c) / 18446744073709551616 ≤ n ∧ x / 18446744073709551616 * n + ((x % 18446744073709551616) * n + c) / 18446744073709551616 = (x * n + c) / 18446744073709551616 := by
 have hp : (x % 18446744073709551616) * n ≤ 18446744073709551615 * n := Nat.mul_le_mul_right n (by omega)
 have e : x * n = (x % 18446744073709551616) * n + 18446744073709551616 * (x / 18446744073709551616 * n) := by
  have := Nat.mod_add_div x 18446744073709551616
  conv => lhs; rw [← this]
  rw [Nat.add_mul, Nat.mul_assoc]
 rw [e]
 generalize (x % 18446744073709551616) * n = p at *
 generalize x / 18446744073709551616 * n = q at *
 refine ⟨?_, by omega, by omega, by omega⟩
 rw [← Int.natCast_add, zr4]
 omega
theorem z20 (N : Nat) (hN : 10 < N) (a n : Nat) (hn : n < 18446744073709551616) : zan N (wn a) (n : Int) = some (wn (a * n)) := by
 obtain ⟨k, rfl⟩ : ∃ k, N = k + 5 := ⟨N - 5, by omega⟩
 have hB : ∀ x : Nat, x % 18446744073709551616 < 18446744073709551616 := fun x => Nat.mod_lt _ (by decide)
 obtain ⟨w1, w2, w3, w4⟩ := z5k a 0 n hn (Nat.zero_le _)
 rw [Nat.add_zero (a * n)] at w2 w4
 obtain ⟨x1, x2, x3, x4⟩ := z5k (a / 18446744073709551616) _ n hn w3
 rw [w4] at x2 x4
 obtain ⟨y1, y2, y3, y4⟩ := z5k (a / 18446744073709551616 / 18446744073709551616) _ n hn x3
 rw [x4] at y2 y4
 obtain ⟨z1, z2, z3, z4⟩ := z5k (a / 18446744073709551616 / 18446744073709551616 / 18446744073709551616) _ n hn y3
 rw [y4] at z2
 unfold zan
 simp only [zl, zacu]
 rw [show (wn a).e0 = ((a % 18446744073709551616 : Nat) : Int) from rfl, z1r _ _ (hB _) hn]
 simp only [obs, itn, zact]
 rw [show (wn a).e1 = ((a / 18446744073709551616 % 18446744073709551616 : Nat) : Int) from rfl, z1r _ _ (hB _) hn]
 simp only [obs, itn, zacs]
 rw [show (wn a).e2 = ((a / 18446744073709551616 / 18446744073709551616 % 18446744073709551616 : Nat) : Int) from rfl, z1r _ _ (hB _) hn]
 simp only [obs, itn, zacr]
 rw [show (wn a).e3 = ((a / 18446744073709551616 / 18446744073709551616 / 18446744073709551616 % 18446744073709551616 : Nat) : Int) from rfl, z1r _ _ (hB _) hn]
 simp only [obs, itn, zacq]
 rw [show Int.toNat 0 = 0 from rfl, w1, itn, x1, itn, y1, itn, w2, x2, y2, z2]
 rfl
theorem ztf (N : Nat) (hN : 100 < N) (a k : Nat) (hk : k < 100) : zj N (wn a) (k : Int) = some (wn (a * 10 ^ k)) := by
 unfold zj
 have := zbq (f := zj.r0 N) (fun i => ((k : Int), (i : Int), wn (a * 10 ^ i), (⟨0, 0, 0, 0⟩ : A4_u64))) k
  (fun i hi => by
   simp only [zj.r0, zj.b0, dct (show (i : Int) < (k : Int) by omega), ctr]; rw [show (10 : Int) = ((10 : Nat) : Int) from rfl, z20 N (by omega) _ 10 (by decide), w6e (by omega) (by omega)]; simp only [obs, Nat.mul_assoc, ← Nat.pow_succ, Int.natCast_add, Int.natCast_one])
  (by simp only [zj.r0, zj.b0, dcf (show ¬ (k : Int) < (k : Int) by omega), cfa]) (N := N) (by omega)
 simp only [Nat.pow_zero, Nat.mul_one, Int.natCast_zero] at this
 rw [this]
 rfl
theorem z4u (a j r : Nat) (hr : r < 64) : (a / 2 ^ (64 * j) % 2 ^ 64 / 2 ^ r) &&& 1 = a / 2 ^ (64 * j + r) % 2 := by
 rw [Nat.and_one_is_mod]
 have h : (a / 2 ^ (64 * j) % 2 ^ 64 / 2 ^ r).testBit 0 = (a / 2 ^ (64 * j) % 2 ^ 64).testBit (r + 0) := by rw [Nat.testBit_div_two_pow, Nat.add_comm]
 have h1 : Nat.testBit (a / 2 ^ (64 * j) % 2 ^ 64) (r + 0) = Nat.testBit (a / 2 ^ (64 * j + r)) 0 := by
  rw [Nat.testBit_mod_two_pow, Nat.testBit_div_two_pow, Nat.testBit_div_two_pow]; simp [hr, Nat.add_comm, Nat.add_left_comm]
 rw [Nat.testBit_zero] at h
 rw [h1, Nat.testBit_zero] at h
 have := Nat.mod_two_eq_zero_or_one (a / 2 ^ (64 * j) % 2 ^ 64 / 2 ^ r)
 have := Nat.mod_two_eq_zero_or_one (a / 2 ^ (64 * j + r))
 simp only [decide_eq_decide] at h
 omega
theorem zaaz (Q i j : Nat) (h : Q % 2 ^ (i + 1) = 0) : (Q + 2 ^ i) / 2 ^ (64 * j) % 2 ^ 64 = if i / 64 = j then (Q / 2 ^ (64 * j) % 2 ^ 64) ||| 2 ^ (i % 64) else Q / 2 ^ (64 * j) % 2 ^ 64 := by
 have e : Q + 2 ^ i = Q ||| 2 ^ i := by
  have := Nat.two_pow_add_eq_or_of_lt (i := i + 1) (b := 2 ^ i) (Nat.pow_lt_pow_right (by decide) (by omega)) (Q / 2 ^ (i + 1)); have e2 : 2 ^ (i + 1) * (Q / 2 ^ (i + 1)) = Q := by
   have := Nat.div_add_mod Q (2 ^ (i + 1)); omega
  rw [e2] at this; exact this
 rw [e]
 refine Nat.eq_of_testBit_eq fun k => ?_
 split
 · rename_i hj; simp only [Nat.testBit_mod_two_pow, Nat.testBit_div_two_pow, Nat.testBit_or, Nat.testBit_two_pow]
   by_cases hk : k < 64
   · simp only [hk, decide_true, Bool.true_and]
     congr 1
     simp only [decide_eq_decide]; omega
   · simp only [hk, decide_false, Bool.false_and, Bool.false_or]; rw [dcf (by omega)]
 · rename_i hj; simp only [Nat.testBit_mod_two_pow, Nat.testBit_div_two_pow, Nat.testBit_or, Nat.testBit_two_pow]
   by_cases hk : k < 64
   · simp only [hk, decide_true, Bool.true_and]; rw [dcf (by omega), Bool.or_false]
   · simp only [hk, decide_false, Bool.false_and]
def z30 (a : A4_u64) (s : Int) : Int := zh .u64 (((zak [a.e0, a.e1, a.e2, a.e3] ((w6 (s.tdiv 64)).toNat)) : Int).fdiv (2 ^ (min (s.tmod 64).toNat 64))) 1
def dsh (x : A4_u64) (t : Int) : A4_u64 := ⟨orI .u64 x.e0 t, x.e1, x.e2, x.e3⟩
def z92 (q : A4_u64) (j : Nat) (v : Int) : A4_u64 := ⟨if j = 0 then v else q.e0, if j = 1 then v else q.e1, if j = 2 then v else q.e2, if j = 3 then v else q.e3⟩
theorem z1g (N : Nat) (s : Int) (a b q r : A4_u64) : zaq.r0 N (s, a, b, q, r) =
 cond (decide (s ≥ 0)) ((zw N r r).bind fun x => if 0 ≤ w6 (s.tdiv 64) then (if w6 (s.tdiv 64) < 4 then (if (s.tmod 64) < 0 then none else (zk N (dsh x (z30 a s)) b).bind fun c =>
  cond (decide (c ≥ 0)) ((zt N (dsh x (z30 a s)) b).bind fun y => if 0 ≤ w6 (s.tdiv 64) then (if w6 (s.tdiv 64) < 4 then (if (s.tmod 64) < 0 then none else if 0 ≤ w6 (s.tdiv 64) then (if w6 (s.tdiv 64) < 4 then
   (some (.again (w6 (s - 1), a, b, z92 q (w6 (s.tdiv 64)).toNat (orI .u64 (zak [q.e0, q.e1, q.e2, q.e3] ((w6 (s.tdiv 64)).toNat)) (IntKind.wrap .u64 (1 * 2 ^ (min (s.tmod 64).toNat 64)))), y))) else none) else none) else none) else none)
   (some (.again (w6 (s - 1), a, b, q, dsh x (z30 a s))))) else none) else none)
  (some (.leave (s, a, b, q, r))) := by kernel_rfl
theorem z95 (a : Nat) : a / 18446744073709551616 / 18446744073709551616 = a / 340282366920938463463374607431768211456 := Nat.div_div_eq_div_mul _ _ _
theorem div3 (a : Nat) : a / 18446744073709551616 / 18446744073709551616 / 18446744073709551616 = a / 6277101735386680763835789423207666416102355444464034512896 := by rw [z95]; exact Nat.div_div_eq_div_mul _ _ _
theorem limb (a j : Nat) (hj : j < 4) : zak [(wn a).e0, (wn a).e1, (wn a).e2, (wn a).e3] j = ((a / 2 ^ (64 * j) % 2 ^ 64 : Nat) : Int) := by
 match j, hj with
 | 0, _ => show ((a % 18446744073709551616 : Nat) : Int) = ((a / 1 % 18446744073709551616 : Nat) : Int); rw [Nat.div_one]
 | 1, _ => rfl
 | 2, _ => show ((a / 18446744073709551616 / 18446744073709551616 % 18446744073709551616 : Nat) : Int) = ((a / 340282366920938463463374607431768211456 % 18446744073709551616 : Nat) : Int); rw [z95]
 | 3, _ => show ((a / 18446744073709551616 / 18446744073709551616 / 18446744073709551616 % 18446744073709551616 : Nat) : Int) = ((a / 6277101735386680763835789423207666416102355444464034512896 % 18446744073709551616 : Nat) : Int); rw [div3]
theorem zab1 (a i : Nat) (hi : i < 256) : z30 (wn a) (i : Int) = ((a / 2 ^ i % 2 : Nat) : Int) := by
 unfold z30
 have e1 : w6 ((i : Int).tdiv 64) = ((i / 64 : Nat) : Int) := by
  rw [Int.tdiv_eq_ediv_of_nonneg (by omega), w6e (by omega) (by omega)]; omega
 have e2 : ((i : Int).tmod 64) = ((i % 64 : Nat) : Int) := by
  rw [Int.tmod_eq_emod_of_nonneg (by omega)]; omega
 rw [e1, e2, itn, itn, limb a _ (by omega), Nat.min_eq_left (by omega)]
 rw [show (2 : Int) ^ (i % 64) = ((2 ^ (i % 64) : Nat) : Int) by rw [Int.natCast_pow]; rfl, zto]
 have hb : a / 2 ^ (64 * (i / 64)) % 2 ^ 64 / 2 ^ (i % 64) < 2 ^ 64 := Nat.lt_of_le_of_lt (Nat.div_le_self _ _) (Nat.mod_lt _ (by decide))
 rw [show (1 : Int) = ((1 : Nat) : Int) from rfl, andU _ 1 hb (by decide), z4u a _ _ (by omega), show 64 * (i / 64) + i % 64 = i by omega]
theorem zadz (x t : Nat) (ht : t < 2) : dsh (wn (x + x)) (t : Int) = wn (2 * x + t) := by
 have h0 : (x + x) % 18446744073709551616 ||| t = (2 * x + t) % 18446744073709551616 := by
  have := Nat.two_pow_add_eq_or_of_lt (i := 1) (b := t) (by omega) ((x + x) % 18446744073709551616 / 2); have e : 2 ^ 1 * ((x + x) % 18446744073709551616 / 2) = (x + x) % 18446744073709551616 := by omega
  rw [e] at this; rw [← this]; omega
 unfold dsh
 simp only [wn]
 have h1 : (x + x) / 18446744073709551616 = (2 * x + t) / 18446744073709551616 := by omega
 rw [orU _ t (Nat.mod_lt _ (by decide)) (by omega), h0, h1]
theorem zab0 (Q i : Nat) (hi : i < 256) (h : Q % 2 ^ (i + 1) = 0) :
 z92 (wn Q) (w6 ((i : Int).tdiv 64)).toNat (orI .u64 (zak [(wn Q).e0, (wn Q).e1, (wn Q).e2, (wn Q).e3] ((w6 ((i : Int).tdiv 64)).toNat)) (IntKind.wrap .u64 (1 * 2 ^ (min ((i : Int).tmod 64).toNat 64)))) = wn (Q + 2 ^ i) := by
 have e1 : w6 ((i : Int).tdiv 64) = ((i / 64 : Nat) : Int) := by
  rw [Int.tdiv_eq_ediv_of_nonneg (by omega), w6e (by omega) (by omega)]; omega
 have e2 : ((i : Int).tmod 64) = ((i % 64 : Nat) : Int) := by
  rw [Int.tmod_eq_emod_of_nonneg (by omega)]; omega
 have e3 : IntKind.wrap .u64 (1 * 2 ^ (i % 64)) = ((2 ^ (i % 64) : Nat) : Int) := by
  rw [Int.one_mul, show (2 : Int) ^ (i % 64) = ((2 ^ (i % 64) : Nat) : Int) by rw [Int.natCast_pow]; rfl, zr4, Nat.mod_eq_of_lt]; exact Nat.pow_lt_pow_right (a := 2) (n := 64) (m := i % 64) (by decide) (by omega)
 rw [e1, e2, itn, itn, limb Q _ (by omega), Nat.min_eq_left (by omega), e3]
 rw [orU (Q / 2 ^ (64 * (i / 64)) % 2 ^ 64) (2 ^ (i % 64)) (Nat.mod_lt _ (by decide)) (Nat.pow_lt_pow_right (a := 2) (n := 64) (m := i % 64) (by decide) (by omega))]
 have w := fun j => zaaz Q i j h
 have w0 := w 0
 rw [show 2 ^ (64 * 0) = 1 from rfl, Nat.div_one, Nat.div_one] at w0
 have w1 := w 1
 have w2 := w 2
 have w3 := w 3
 have k1 : (2 : Nat) ^ (64 * 1) = 18446744073709551616 := by decide
 have k2 : (2 : Nat) ^ (64 * 2) = 340282366920938463463374607431768211456 := by decide
 have k3 : (2 : Nat) ^ (64 * 3) = 6277101735386680763835789423207666416102355444464034512896 := by decide
 have k0 : (2 : Nat) ^ 64 = 18446744073709551616 := by decide
 simp only [k1, k0] at w1
 simp only [k2, k0] at w2
 simp only [k3, k0] at w3
 simp only [k0] at w0
 unfold z92
 refine z65 ?_ ?_ ?_ ?_
 · simp only [wn]; rw [w0]
   by_cases hj : i / 64 = 0
   · rw [ifp hj, ifp hj, hj, show 64 * 0 = 0 from rfl, Nat.pow_zero, Nat.div_one, k0]
   · rw [ifn hj, ifn hj]
 · simp only [wn]; rw [w1]
   by_cases hj : i / 64 = 1
   · rw [ifp hj, ifp hj, hj]
   · rw [ifn hj, ifn hj]
 · simp only [wn, z95]; rw [w2]
   by_cases hj : i / 64 = 2
   · rw [ifp hj, ifp hj, hj]
   · rw [ifn hj, ifn hj]
 · simp only [wn, div3]; rw [w3]
   by_cases hj : i / 64 = 3
   · rw [ifp hj, ifp hj, hj]
   · rw [ifn hj, ifn hj]
theorem zr8 (a b : Nat) : decide (zhq a b ≥ 0) = decide (b ≤ a) := by
 unfold zhq
 by_cases h : a < b
 · rw [ifp h, dcf (show ¬ b ≤ a by omega)]; rfl
 · rw [ifn h, dct (show b ≤ a by omega)]
   by_cases h2 : b < a
   · rw [ifp h2]; rfl
   · rw [ifn h2]; rfl
theorem z8p (N : Nat) (hN : 10 < N) (i : Nat) (hi : i < 256) (a d : Nat) (hd : 0 < d) (hd2 : d ≤ 57896044618658097711785492504343953926634992332820282019728792003956564819968) :
 zaq.r0 N ((i : Int), wn a, wn d, wn (a / 2 ^ (i + 1) / d * 2 ^ (i + 1)), wn (a / 2 ^ (i + 1) % d)) = some (.again ((i : Int) - 1, wn a, wn d, wn (a / 2 ^ i / d * 2 ^ i), wn (a / 2 ^ i % d))) := by
 have e1 : w6 ((i : Int).tdiv 64) = ((i / 64 : Nat) : Int) := by
  rw [Int.tdiv_eq_ediv_of_nonneg (by omega), w6e (by omega) (by omega)]; omega
 have e2 : ((i : Int).tmod 64) = ((i % 64 : Nat) : Int) := by
  rw [Int.tmod_eq_emod_of_nonneg (by omega)]; omega
 have c1 : 0 ≤ w6 ((i : Int).tdiv 64) := by rw [e1]; omega
 have c2 : w6 ((i : Int).tdiv 64) < 4 := by rw [e1]; omega
 have c3 : ¬ (i : Int).tmod 64 < 0 := by rw [e2]; omega
 have hp : a / 2 ^ i = 2 * (a / 2 ^ (i + 1)) + a / 2 ^ i % 2 := by
  rw [Nat.pow_succ, ← Nat.div_div_eq_div_mul]; omega
 have hbit : a / 2 ^ i % 2 < 2 := Nat.mod_lt _ (by decide)
 have hdm := Nat.div_add_mod (a / 2 ^ (i + 1)) d
 have hr := Nat.mod_lt (a / 2 ^ (i + 1)) hd
 rw [z1g, dct (show (i : Int) ≥ 0 by omega), ctr, zwf N hN, obs, ifp c1, ifp c2, ifn c3, zab1 a i hi, zadz _ _ hbit]
 rw [zlr N hN (by unfold zjq; omega) (by unfold zjq; omega), obs, zr8]
 rw [w6e (n := (i : Int) - 1) (by omega) (by omega)]
 generalize hq : a / 2 ^ (i + 1) / d = q at *
 generalize hs : a / 2 ^ (i + 1) % d = r at *
 generalize hb : a / 2 ^ i % 2 = t at *
 have hp2 : a / 2 ^ i = d * (2 * q) + (2 * r + t) := by
  rw [hp, ← hdm, Nat.mul_left_comm]; omega
 by_cases h : d ≤ 2 * r + t
 · rw [dct h, ctr, zyg N hN h, obs, ifp c1, ifp c2, ifn c3, ifp c1, ifp c2]; rw [zab0 _ i hi (Nat.mul_mod_left _ _)]; have hp3 : a / 2 ^ i = d * (2 * q + 1) + (2 * r + t - d) := by rw [hp2, Nat.mul_add d]; omega
   rw [hp3, Nat.mul_add_div hd, Nat.mul_add_mod, Nat.div_eq_of_lt (show 2 * r + t - d < d by omega), Nat.mod_eq_of_lt (show 2 * r + t - d < d by omega)]; have : q * 2 ^ (i + 1) + 2 ^ i = (2 * q + 1 + 0) * 2 ^ i := by
    rw [Nat.pow_succ, Nat.add_zero, Nat.add_mul, Nat.one_mul, Nat.mul_comm (2 ^ i) 2, ← Nat.mul_assoc, Nat.mul_comm q 2]
   rw [this]
 · rw [dcf h, cfa]; rw [hp2, Nat.mul_add_div hd, Nat.mul_add_mod, Nat.div_eq_of_lt (show 2 * r + t < d by omega), Nat.mod_eq_of_lt (show 2 * r + t < d by omega)]; have : q * 2 ^ (i + 1) = (2 * q + 0) * 2 ^ i := by
    rw [Nat.pow_succ, Nat.add_zero, Nat.mul_comm (2 ^ i) 2, ← Nat.mul_assoc, Nat.mul_comm q 2]
   rw [this]
theorem zzl (N : Nat) (hN : 300 < N) (a d : Nat) (ha : a < zjq) (hd : 0 < d) (hd2 : d ≤ 57896044618658097711785492504343953926634992332820282019728792003956564819968) :
 zaq N (wn a) (wn d) = some (wn (a / d), wn (a % d)) := by
 unfold zaq
 have := zbq (f := zaq.r0 N) (fun k => ((255 : Int) - (k : Int), wn a, wn d, wn (a / 2 ^ (256 - k) / d * 2 ^ (256 - k)), wn (a / 2 ^ (256 - k) % d))) 256
  (fun k hk => by
   have e := z8p N (by omega) (255 - k) (by omega) a d hd hd2; rw [show 255 - k + 1 = 256 - k by omega, show ((255 - k : Nat) : Int) = (255 : Int) - (k : Int) by omega] at e; rw [e, show 256 - (k + 1) = 255 - k by omega, show (255 : Int) - (k : Int) - 1 = (255 : Int) - ((k + 1 : Nat) : Int) by omega])
  (by rw [z1g]; rfl) (N := N) (by omega)
 have z : a / 2 ^ (256 - 0) = 0 := Nat.div_eq_of_lt (by unfold zjq at ha; exact Nat.lt_of_lt_of_le ha (by decide))
 simp only [z, Nat.zero_div, Nat.zero_mul, Nat.zero_mod] at this
 have z2 : a / 2 ^ (256 - 256) = a := Nat.div_one a
 simp only [z2] at this
 rw [show ((255 : Int) - ((0 : Nat) : Int)) = 255 from rfl, show wn 0 = (⟨0, 0, 0, 0⟩ : A4_u64) from rfl] at this
 rw [this, obs, show a / d * 2 ^ (256 - 256) = a / d from Nat.mul_one _]
def zcw (x : Number) : Prop := (-999999999999999 ≤ x.N ∧ x.N ≤ 999999999999999) ∧ 0 ≤ x.Scale ∧ x.Scale ≤ 15
theorem zkq {x : Number} : zpk x = 0 ↔ zcw x := by
 unfold zpk zcw
 cases h : (inB x.N (-999999999999999) 999999999999999 && inB x.Scale 0 15) with
 | true =>
  rw [Bool.and_eq_true, zbc, zbc] at h; simp [h]
 | false =>
  simp only [cfa]; constructor
  · intro h2; cases h2
  · intro h2; rw [show (inB x.N (-999999999999999) 999999999999999) = true from zbc.2 h2.1, show inB x.Scale 0 15 = true from zbc.2 h2.2] at h; cases h
def zh7 (t : DataType) : Prop := zdk t = 0 ∧ 1 ≤ t.Kind ∧ t.Kind ≤ 3
theorem zf4 {t : DataType} (h : zh7 t) : (1 ≤ t.Length ∧ t.Length ≤ 15) ∧ 0 ≤ t.Scale ∧ t.Scale ≤ t.Length := by
 obtain ⟨h0, h1, h2⟩ := h
 unfold zdk at h0
 rw [ifn (by omega)] at h0
 by_cases hk : t.Kind = 3
 · rw [ifn (by omega), ifp hk] at h0; split at h0
   · split at h0
     · rename_i h3 h4; have := zbc.1 h4; omega
     · cases h0
   · cases h0
 · rw [ifp (by omega)] at h0; split at h0
   · split at h0
     · rename_i h3 h4; have := zbc.1 h4; have := zbc.1 h3; omega
     · cases h0
   · cases h0
theorem zbz {k m : Nat} (h : k ≤ m) : 10 ^ k ≤ 10 ^ m := Nat.pow_le_pow_right (by decide) h
theorem zb8 (k : Nat) : 0 < 10 ^ k := Nat.pow_pos (by decide)
theorem zo9 (N : Nat) (hN : 300 < N) {x : Number} (hx : zcw x) (k : Nat) (hk : k < 100) : zcj N x (k : Int) = some (wn (x.N.natAbs * 10 ^ k)) := by
 obtain ⟨⟨h1, h2⟩, _⟩ := hx
 unfold zcj
 have e : (if w6 (0 - x.N) > x.N then w6 (0 - x.N) else x.N) = ((x.N.natAbs : Nat) : Int) := by
  rw [w6e (by omega) (by omega)]; split <;> omega
 rw [e, zr4, Nat.mod_eq_of_lt (by omega), z07 (by omega), obs, ztf N (by omega) _ k hk]
 rfl
theorem zzm (N : Nat) (hN : 300 < N) {x : Number} (hx : zcw x) : zcj N x 0 = some (wn x.N.natAbs) := by
 have := zo9 N hN hx 0 (by decide)
 rw [Nat.pow_zero, Nat.mul_one] at this
 exact this
theorem zqn : zbe 1 = some (wn 1) := z07 (n := 1) (by decide)
theorem zu4 (N : Nat) (hN : 300 < N) {k : Int} (h0 : 0 ≤ k) (h1 : k < 100) : zj N (wn 1) k = some (wn (10 ^ k.toNat)) := by
 have := ztf N (by omega) 1 k.toNat (by omega)
 rw [Nat.one_mul, Int.toNat_of_nonneg h0] at this
 exact this
def zhz (b : Bool) (p q : Nat) (t : DataType) (half : Bool) : Value × Int :=
 if 10 ^ t.Length.toNat ≤ p * 10 ^ t.Scale.toNat / q + cond (half && decide (q ≤ p * 10 ^ t.Scale.toNat % q + p * 10 ^ t.Scale.toNat % q)) 1 0 then (⟨0, ⟨#[]⟩⟩, 19)
 else (⟨cond b (-((p * 10 ^ t.Scale.toNat / q + cond (half && decide (q ≤ p * 10 ^ t.Scale.toNat % q + p * 10 ^ t.Scale.toNat % q)) 1 0 : Nat) : Int)) ((p * 10 ^ t.Scale.toNat / q + cond (half && decide (q ≤ p * 10 ^ t.Scale.toNat % q + p * 10 ^ t.Scale.toNat % q)) 1 0 : Nat) : Int), ⟨#[]⟩⟩, 0)
theorem eW (a : A4_u64) : (⟨a.e0, a.e1, a.e2, a.e3⟩ : A4_u64) = a := rfl
theorem z44 (N : Nat) (hN : 300 < N) (b : Bool) (Q : Nat) (hQ : Q < zjq) {t : DataType} (ht : zh7 t) :
 ((zbe 1).bind fun r11 => (zj N r11 t.Length).bind fun r12 => (zk N (wn Q) r12).bind fun r13 => cond (decide (r13 ≥ 0)) (some ((⟨0, (⟨#[]⟩ : ByteArray)⟩ : Value), (19 : Int)))
 (cond b (some ((⟨(w6 (0 - (w6 (zak [(wn Q).e0, (wn Q).e1, (wn Q).e2, (wn Q).e3] 0)))), (⟨#[]⟩ : ByteArray)⟩ : Value), (0 : Int)))
 (some ((⟨(w6 (zak [(wn Q).e0, (wn Q).e1, (wn Q).e2, (wn Q).e3] 0)), (⟨#[]⟩ : ByteArray)⟩ : Value), (0 : Int))))) =
 some (if 10 ^ t.Length.toNat ≤ Q then (⟨0, ⟨#[]⟩⟩, 19) else (⟨cond b (-(Q : Int)) (Q : Int), ⟨#[]⟩⟩, 0)) := by
 obtain ⟨⟨l1, l2⟩, l3, l4⟩ := zf4 ht
 have hp : 10 ^ t.Length.toNat ≤ 10 ^ 15 := zbz (by omega)
 rw [zqn, obs, zu4 N hN (by omega) (by omega), obs, zlr N (by omega) hQ (by unfold zjq; omega), obs, zr8]
 by_cases h : 10 ^ t.Length.toNat ≤ Q
 · rw [dct h, ifp h]; rfl
 · rw [dcf h, ifn h, cfa]; have e : zak [(wn Q).e0, (wn Q).e1, (wn Q).e2, (wn Q).e3] 0 = (Q : Int) := by
    show ((Q % 18446744073709551616 : Nat) : Int) = Q; rw [Nat.mod_eq_of_lt (by omega)]
   rw [e, w6e (n := (Q : Int)) (by omega) (by omega), w6e (by omega) (by omega)]; cases b
   · rfl
   · simp only [ctr, Int.zero_sub]
theorem zr9 (N : Nat) (hN : 300 < N) (b : Bool) (p q : Nat) (hp : p ≤ 10 ^ 46) (hq : 0 < q) (hq2 : q ≤ 10 ^ 46) {t : DataType} (ht : zh7 t) (half : Bool) : zdr N ⟨b, wn p, wn q⟩ t half = some (zhz b p q t half) := by
 obtain ⟨⟨l1, l2⟩, l3, l4⟩ := zf4 ht
 have hs : p * 10 ^ t.Scale.toNat ≤ 10 ^ 46 * 10 ^ 15 := Nat.mul_le_mul hp (zbz (by omega))
 have hd : p * 10 ^ t.Scale.toNat / q ≤ 10 ^ 46 * 10 ^ 15 := Nat.le_trans (Nat.div_le_self _ _) hs
 have hm : p * 10 ^ t.Scale.toNat % q < q := Nat.mod_lt _ hq
 unfold zdr zhz
 simp only [eW]
 have e1 := ztf N (by omega) p t.Scale.toNat (by omega)
 rw [Int.toNat_of_nonneg l3] at e1
 rw [e1, obs, zzl N hN _ q (by unfold zjq; omega) hq (by omega)]
 simp only [obs]
 rw [zwf N (by omega), obs, zlr N (by omega) (by unfold zjq; omega) (by unfold zjq; omega)]
 simp only [obs, zr8]
 have k : (cond half (some (decide (q ≤ p * 10 ^ t.Scale.toNat % q + p * 10 ^ t.Scale.toNat % q))) (some false)) = some (half && decide (q ≤ p * 10 ^ t.Scale.toNat % q + p * 10 ^ t.Scale.toNat % q)) := by cases half <;> rfl
 rw [k, obs]
 cases hc : (half && decide (q ≤ p * 10 ^ t.Scale.toNat % q + p * 10 ^ t.Scale.toNat % q)) with
 | true =>
  simp only [ctr]; rw [zqn, obs, zwf N (by omega), obs, ← zqn]; exact z44 N hN b _ (by unfold zjq; omega) ht
 | false =>
  simp only [cfa, Nat.add_zero]; exact z44 N hN b _ (by unfold zjq; omega) ht
theorem zzg (b : Bool) (p q k : Nat) (hk : 0 < k) (hq : 0 < q) (t : DataType) (half : Bool) : zhz b (p * k) (q * k) t half = zhz b p q t half := by
 have e : p * k * 10 ^ t.Scale.toNat = p * 10 ^ t.Scale.toNat * k := Nat.mul_right_comm _ _ _
 have e2 : p * k * 10 ^ t.Scale.toNat / (q * k) = p * 10 ^ t.Scale.toNat / q := by rw [e, Nat.mul_div_mul_right _ _ hk]
 have e3 : decide (q * k ≤ p * k * 10 ^ t.Scale.toNat % (q * k) + p * k * 10 ^ t.Scale.toNat % (q * k)) = decide (q ≤ p * 10 ^ t.Scale.toNat % q + p * 10 ^ t.Scale.toNat % q) := by
  rw [e, Nat.mul_mod_mul_right, ← Nat.add_mul]; simp only [decide_eq_decide]; exact ⟨fun h => Nat.le_of_mul_le_mul_right h hk, fun h => Nat.mul_le_mul_right k h⟩
 unfold zhz
 rw [e2, e3]
theorem z03 (b b' : Bool) (p q : Nat) (hq : 0 < q) (t : DataType) (half : Bool) (h : p ≠ 0 → b = b') : zhz b p q t half = zhz b' p q t half := by
 by_cases hp : p = 0
 · subst hp; unfold zhz; simp only [Nat.zero_mul, Nat.zero_div, Nat.zero_mod, Nat.zero_add, dcf (show ¬ q ≤ 0 by omega), Bool.and_false, cfa]; cases b <;> cases b' <;> rfl
 · rw [h hp]
def z0f (p : Int) (q : Nat) (t : DataType) (half : Bool) : Value × Int := zhz (decide (p < 0)) p.natAbs q t half
theorem z2t (b : Bool) (p q : Nat) (hq : 0 < q) (t : DataType) (half : Bool) : zhz b p q t half = z0f (cond b (-(p : Int)) p) q t half := by
 unfold z0f
 have : (cond b (-(p : Int)) (p : Int)).natAbs = p := by cases b <;> simp
 rw [this]
 refine z03 _ _ _ _ hq _ _ fun h => ?_
 cases b
 · symm; simp
 · symm; simp; omega
theorem z71 {t : DataType} (ht : zh7 t) : zes t = some true := by
 obtain ⟨_, h1, h2⟩ := ht
 unfold zes
 rcases (by omega : t.Kind = 1 ∨ t.Kind = 2 ∨ t.Kind = 3) with h | h | h <;> rw [h] <;> rfl
def zlt (x : Number) (t : DataType) (half : Bool) : Value × Int := z0f x.N (10 ^ x.Scale.toNat) t half
theorem zabo (N : Nat) (hN : 300 < N) {x : Number} (hx : zcw x) {t : DataType} (ht : zh7 t) (half : Bool) : zgt N x t half = some (zlt x t half) := by
 have f3 : ∀ a b c : Int, zp N [a, b, c] = some (zeu [a, b, c]) := fun a b c => zn8 N _ (by simp; omega) (by simp)
 have hx' := hx
 obtain ⟨⟨h1, h2⟩, h3, h4⟩ := hx'
 have hp : 10 ^ x.Scale.toNat ≤ 10 ^ 15 := zbz (by omega)
 unfold zgt zng
 simp only [eN, eD, eW]
 rw [zle, zkq.2 hx]
 simp only [obs]
 rw [zp8 N (by omega), ht.1]
 simp only [obs]
 rw [z71 ht]
 simp only [obs, zn9, f3]
 rw [zzm N hN hx, zqn]
 simp only [obs]
 rw [zu4 N hN h3 (by omega)]
 simp only [obs]
 rw [show zeu [0, 0, cond (!true) 17 0] = 0 from rfl]
 simp only [bsf, cfa]
 rw [zr9 N hN _ _ _ (by omega) (zb8 _) (by omega) ht]
 simp only [obs]
 rfl
def zac (x : Number) (s : Int) : Int := x.N * 10 ^ (s - x.Scale).toNat
def zi (a b : Number) : Int := if b.Scale > a.Scale then b.Scale else a.Scale
theorem zh4 (x : Number) (s : Int) : (zac x s).natAbs = x.N.natAbs * 10 ^ (s - x.Scale).toNat := by
 unfold zac
 rw [Int.natAbs_mul, Int.natAbs_pow]
 rfl
theorem zzh (k : Nat) : (0 : Int) < 10 ^ k := Int.pow_pos (by decide)
theorem zm7 (x : Number) (s : Int) : (zac x s < 0) ↔ x.N < 0 := by
 unfold zac
 have := zzh (s - x.Scale).toNat
 constructor
 · intro h; refine Classical.byContradiction fun h2 => ?_; have := Int.mul_nonneg (show 0 ≤ x.N by omega) (Int.le_of_lt this); omega
 · intro h; exact Int.mul_neg_of_neg_of_pos h this
theorem zw4 (x : Number) (s : Int) : zac x s = 0 ↔ x.N = 0 := by
 unfold zac
 have := zzh (s - x.Scale).toNat
 constructor
 · intro h; rcases Int.mul_eq_zero.1 h with h | h
   · exact h
   · omega
 · intro h; rw [h, Int.zero_mul]
theorem ztg (N : Nat) (hN : 300 < N) {a b : Number} (ha : zcw a) (hb : zcw b) : zd9 N a b = some (wn (zac a (zi a b)).natAbs, wn (zac b (zi a b)).natAbs, zi a b) := by
 have ha' := ha
 have hb' := hb
 obtain ⟨_, a3, a4⟩ := ha'
 obtain ⟨_, b3, b4⟩ := hb'
 unfold zd9
 have hs : (if b.Scale > a.Scale then b.Scale else a.Scale) = zi a b := rfl
 have h1 : a.Scale ≤ zi a b ∧ b.Scale ≤ zi a b ∧ zi a b ≤ 15 := by unfold zi; split <;> omega
 rw [hs, w6e (by omega) (by omega), w6e (by omega) (by omega)]
 have e1 := zo9 N hN ha (zi a b - a.Scale).toNat (by omega)
 have e2 := zo9 N hN hb (zi a b - b.Scale).toNat (by omega)
 rw [Int.toNat_of_nonneg (by omega)] at e1 e2
 rw [e1, obs, e2, obs, zh4, zh4]
theorem zib {x : Number} (hx : zcw x) {s : Int} (hs : s ≤ 15) : (zac x s).natAbs ≤ 10 ^ 30 := by
 obtain ⟨⟨h1, h2⟩, h3, h4⟩ := hx
 rw [zh4]
 have := Nat.mul_le_mul (show x.N.natAbs ≤ 10 ^ 15 by omega) (zbz (k := (s - x.Scale).toNat) (m := 15) (by omega))
 exact Nat.le_trans this (by decide)
theorem zlm {a b : Number} (ha : zcw a) (hb : zcw b) : a.Scale ≤ zi a b ∧ b.Scale ≤ zi a b ∧ 0 ≤ zi a b ∧ zi a b ≤ 15 := by
 obtain ⟨_, a3, a4⟩ := ha
 obtain ⟨_, b3, b4⟩ := hb
 unfold zi; split <;> omega
def z0h (a b : Int) : Int := if a < b then -1 else if b < a then 1 else 0
theorem z4q (N : Nat) (hN : 300 < N) {a b : Number} (ha : zcw a) (hb : zcw b) : zg6 N a b = some (z0h (zac a (zi a b)) (zac b (zi a b)), 0) := by
 have f2 : ∀ a b : Int, zp N [a, b] = some (zeu [a, b]) := fun a b => zn8 N _ (by simp; omega) (by simp)
 obtain ⟨s1, s2, s3, s4⟩ := zlm ha hb
 have la := zib ha s4
 have lb := zib hb s4
 have na := zm7 a (zi a b)
 have nb := zm7 b (zi a b)
 unfold zg6
 rw [zle, zle, zkq.2 ha, zkq.2 hb]
 simp only [obs, f2]
 rw [ztg N hN ha hb]
 simp only [show zeu [0, 0] = 0 from rfl, bsf, cfa, obs]
 rw [zlr N (by omega) (by unfold zjq; omega) (by unfold zjq; omega), zlr N (by omega) (by unfold zjq; omega) (by unfold zjq; omega)]
 generalize zac a (zi a b) = A at *
 generalize zac b (zi a b) = B at *
 have k : ∀ x y, (cond (decide (a.N < 0)) x y : Option (Int × Int)) = if A < 0 then x else y := fun x y => by
  by_cases h : A < 0
  · rw [ifp h, dct (na.1 h), ctr]
  · rw [ifn h, dcf (fun h2 => h (na.2 h2)), cfa]
 have k2 : ∀ x y, (cond (decide (b.N < 0)) x y : Option (Int × Int)) = if B < 0 then x else y := fun x y => by
  by_cases h : B < 0
  · rw [ifp h, dct (nb.1 h), ctr]
  · rw [ifn h, dcf (fun h2 => h (nb.2 h2)), cfa]
 rw [show (cond (decide (a.N < 0)) (some (decide (b.N < 0))) (some false)) = some (decide (A < 0 ∧ B < 0)) by
  by_cases h : A < 0
  · rw [dct (na.1 h), ctr]
    by_cases h2 : B < 0
    · rw [dct (nb.1 h2), dct ⟨h, h2⟩]
    · rw [dcf (fun h3 => h2 (nb.2 h3)), dcf (fun h3 => h2 h3.2)]
  · rw [dcf (fun h2 => h (na.2 h2)), cfa, dcf (fun h3 => h h3.1)]]
 simp only [obs, k, k2]
 unfold zhq z0h
 by_cases h1 : A < 0 ∧ B < 0
 · rw [dct h1]; simp only [ctr, Option.some.injEq, Prod.mk.injEq, and_true]
   repeat' split
   all_goals first | rfl | omega
 · rw [dcf h1]; simp only [cfa]
   repeat' split
   all_goals first | rfl | (exfalso; omega)
theorem z7z (N : Nat) (hN : 300 < N) {a b : Number} (ha : zcw a) (hb : zcw b) : ∃ s p, zjn N a b = some ⟨s, wn p, wn (10 ^ (zi a b).toNat)⟩ ∧ p ≤ 10 ^ 31 ∧ cond s (-(p : Int)) p = zac a (zi a b) + zac b (zi a b) := by
 obtain ⟨s1, s2, s3, s4⟩ := zlm ha hb
 have la := zib ha s4
 have lb := zib hb s4
 have na := zm7 a (zi a b)
 have nb := zm7 b (zi a b)
 unfold zjn
 rw [ztg N hN ha hb]
 simp only [obs]
 rw [zwf N (by omega), zqn]
 simp only [obs]
 rw [zu4 N hN s3 (by omega)]
 simp only [obs]
 obtain ⟨r, hr1, hr2⟩ := zu5 N (by omega) (zac a (zi a b)).natAbs (zac b (zi a b)).natAbs
 rw [hr1]
 simp only [obs]
 rw [zlr N (by omega) (by unfold zjq; omega) (by unfold zjq; omega)]
 simp only [obs]
 generalize zac a (zi a b) = A at *
 generalize zac b (zi a b) = B at *
 rw [show decide (a.N < 0) = decide (A < 0) by simp only [decide_eq_decide]; exact na.symm, show decide (b.N < 0) = decide (B < 0) by simp only [decide_eq_decide]; exact nb.symm]
 by_cases hA : A < 0
 · by_cases hB : B < 0
   · rw [dct hA, dct hB]; refine ⟨true, _, rfl, by omega, ?_⟩; simp only [ctr]; omega
   · rw [dct hA, dcf hB]; unfold zhq
     by_cases h : A.natAbs < B.natAbs
     · rw [ifp h, zyg N (by omega) (Nat.le_of_lt h)]; refine ⟨false, _, rfl, by omega, ?_⟩; simp only [cfa]; omega
     · rw [ifn h, hr2 (by omega)]; refine ⟨true, A.natAbs - B.natAbs, ?_, by omega, ?_⟩
       · split <;> rfl
       · simp only [ctr]; omega
 · by_cases hB : B < 0
   · rw [dcf hA, dct hB]; unfold zhq
     by_cases h : A.natAbs < B.natAbs
     · rw [ifp h, zyg N (by omega) (Nat.le_of_lt h)]; refine ⟨true, _, rfl, by omega, ?_⟩; simp only [ctr]; omega
     · rw [ifn h, hr2 (by omega)]; refine ⟨false, A.natAbs - B.natAbs, ?_, by omega, ?_⟩
       · split <;> rfl
       · simp only [cfa]; omega
   · rw [dcf hA, dcf hB]; refine ⟨false, _, rfl, by omega, ?_⟩; simp only [cfa]; omega
def zg1 (op : Int) (a b : Number) (t : DataType) (half : Bool) : Value × Int :=
 if (op = 3 ∨ op = 4) ∧ b.N = 0 then (⟨0, ⟨#[]⟩⟩, 20)
 else if op = 0 then z0f (zac a (zi a b) + zac b (zi a b)) (10 ^ (zi a b).toNat) t half
 else if op = 1 then z0f (zac a (zi a b) - zac b (zi a b)) (10 ^ (zi a b).toNat) t half
 else if op = 2 then zhz (decide (a.N < 0) != decide (b.N < 0)) (a.N.natAbs * b.N.natAbs) (10 ^ (a.Scale + b.Scale).toNat) t half
 else if op = 3 then zhz (decide (a.N < 0) != decide (b.N < 0)) (a.N.natAbs * 10 ^ b.Scale.toNat) (b.N.natAbs * 10 ^ a.Scale.toNat) t half
 else zhz (decide (a.N < 0)) ((zac a (zi a b)).natAbs % (zac b (zi a b)).natAbs) (10 ^ (zi a b).toNat) t half
theorem zabp (N : Nat) (hN : 300 < N) {op : Int} (hop : 0 ≤ op ∧ op ≤ 4) {a b : Number} (ha : zcw a) (hb : zcw b) {t : DataType} (ht : zh7 t) (half : Bool) : zcg N op a b t half = some (zg1 op a b t half) := by
 have f5 : ∀ a b c d e : Int, zp N [a, b, c, d, e] = some (zeu [a, b, c, d, e]) := fun a b c d e => zn8 N _ (by simp; omega) (by simp)
 obtain ⟨s1, s2, s3, s4⟩ := zlm ha hb
 have ha' := ha
 have hb' := hb
 obtain ⟨⟨a1, a2⟩, a3, a4⟩ := ha'
 obtain ⟨⟨b1, b2⟩, b3, b4⟩ := hb'
 have p15 : ∀ k : Int, k ≤ 15 → 10 ^ k.toNat ≤ 10 ^ 15 := fun k hk => zbz (by omega)
 have q1 := p15 _ s4
 have q2 := p15 _ a4
 have q3 := p15 _ b4
 unfold zcg zld zhr zjf
 simp only [z1q, zn9, obs]
 rw [zle, zle, zkq.2 ha, zkq.2 hb, show inB op 0 4 = true from zbc.2 hop]
 simp only [obs]
 rw [zp8 N (by omega), ht.1]
 simp only [obs]
 rw [z71 ht]
 simp only [obs, f5, show zeu [cond (!true) 4 0, 0, 0, 0, cond (!true) 17 0] = 0 from rfl, bsf, cfa]
 have g : ((cond (op == 3) (some true) (some (op == 4))).bind fun g1 => some g1) = some (decide (op = 3 ∨ op = 4)) := by
  rw [zam, zam]
  by_cases h : op = 3
  · rw [dct h, dct (Or.inl h)]; rfl
  · rw [dcf h]
    by_cases h2 : op = 4
    · rw [dct h2, dct (Or.inr h2)]; rfl
    · rw [dcf h2, dcf (by omega)]; rfl
 rw [g]
 simp only [obs]
 rw [show (cond (decide (op = 3 ∨ op = 4)) (some (b.N == 0)) (some false)) = some (decide ((op = 3 ∨ op = 4) ∧ b.N = 0)) by
  rw [zam]
  by_cases h : op = 3 ∨ op = 4
  · rw [dct h, ctr]; congr 1; simp [h]
  · rw [dcf h, cfa]; congr 1; simp [h]]
 simp only [obs]
 unfold zg1
 by_cases hz : (op = 3 ∨ op = 4) ∧ b.N = 0
 · rw [dct hz, ifp hz]; rfl
 · rw [dcf hz, ifn hz, cfa]; unfold zjz
   by_cases o0 : op = 0
   · obtain ⟨s, p, h1, h2, h3⟩ := z7z N hN ha hb; rw [ifp o0, o0, h1]; simp only [beq_self_eq_true, ctr, obs]; rw [zr9 N hN _ _ _ (by omega) (zb8 _) (by omega) ht, ← h3, z2t _ _ _ (zb8 _)]; rfl
   · rw [ifn o0, zam, dcf o0, cfa]
     by_cases o1 : op = 1
     · have hb2 : zcw ⟨-b.N, b.Scale⟩ := ⟨⟨by show -999999999999999 ≤ -b.N; omega, by show -b.N ≤ 999999999999999; omega⟩, b3, b4⟩; obtain ⟨s, p, h1, h2, h3⟩ := z7z N hN ha hb2; rw [ifp o1, zam, dct o1, ctr, w6e (by omega) (by omega), Int.zero_sub, h1]; simp only [obs]; have e1 : zi a ⟨-b.N, b.Scale⟩ = zi a b := rfl; have e2 : zac ⟨-b.N, b.Scale⟩ (zi a b) = -zac b (zi a b) := by unfold zac; exact Int.neg_mul _ _
       rw [e1] at h3 ⊢; rw [e2] at h3; rw [zr9 N hN _ _ _ (by omega) (zb8 _) (by omega) ht, Int.sub_eq_add_neg, ← h3, z2t _ _ _ (zb8 _)]; rfl
     · rw [ifn o1, zam, dcf o1, cfa]
       by_cases o2 : op = 2
       · rw [ifp o2, zam, dct o2, ctr, zzm N hN ha, obs]; have e : (if w6 (0 - b.N) > b.N then w6 (0 - b.N) else b.N) = ((b.N.natAbs : Nat) : Int) := by
          rw [w6e (by omega) (by omega)]; split <;> omega
         rw [e, zr4, Nat.mod_eq_of_lt (by omega), z20 N (by omega) _ _ (by omega), obs, zqn, obs, w6e (by omega) (by omega), zu4 N hN (by omega) (by omega)]; simp only [obs]; have hm : a.N.natAbs * b.N.natAbs ≤ 10 ^ 15 * 10 ^ 15 := Nat.mul_le_mul (by omega) (by omega); have hm2 : 10 ^ (a.Scale + b.Scale).toNat ≤ 10 ^ 30 := zbz (by omega); rw [zr9 N hN _ _ _ (by omega) (zb8 _) (by omega) ht]; rfl
       · rw [ifn o2, zam, dcf o2, cfa]
         by_cases o3 : op = 3
         · have hb0 : b.N ≠ 0 := fun h => hz ⟨.inl o3, h⟩; have e1 := zo9 N hN ha b.Scale.toNat (by omega); have e2 := zo9 N hN hb a.Scale.toNat (by omega); rw [Int.toNat_of_nonneg (by omega)] at e1 e2; have hm : a.N.natAbs * 10 ^ b.Scale.toNat ≤ 10 ^ 15 * 10 ^ 15 := Nat.mul_le_mul (by omega) (by omega); have hm2 : b.N.natAbs * 10 ^ a.Scale.toNat ≤ 10 ^ 15 * 10 ^ 15 := Nat.mul_le_mul (by omega) (by omega); rw [ifp o3, zam, dct o3, ctr, e1, obs, e2, obs, obs]; rw [zr9 N hN _ _ _ (by omega) (Nat.mul_pos (by omega) (zb8 _)) (by omega) ht]; rfl
         · have hb0 : b.N ≠ 0 := fun h => hz ⟨by omega, h⟩; have la := zib ha s4; have lb := zib hb s4; have hb1 : (zac b (zi a b)).natAbs ≠ 0 := fun h => hb0 ((zw4 b (zi a b)).1 (Int.natAbs_eq_zero.1 h)); have hm := Nat.mod_lt (zac a (zi a b)).natAbs (show 0 < (zac b (zi a b)).natAbs by omega); rw [ifn o3, zam, dcf o3, cfa, ztg N hN ha hb, obs]; simp only []; rw [zzl N hN _ _ (by unfold zjq; omega) (by omega) (by omega), obs, zqn, obs]; rw [zu4 N hN s3 (by omega)]; simp only [obs]; rw [zr9 N hN _ _ _ (by omega) (zb8 _) (by omega) ht]; rfl
def dv : List Int → Nat
 | [] => 0
 | d :: l => d.toNat + 10 * dv l
def dok (l : List Int) : Prop := ∀ d ∈ l, 0 ≤ d ∧ d < 10
def zmp (l : List Int) : Prop := l.getLast? ≠ some 0
def dg (n : Nat) : List Int := if n = 0 then [] else ((n % 10 : Nat) : Int) :: dg (n / 10)
termination_by n
decreasing_by omega
theorem zj1 : dg 0 = [] := by rw [dg]; rfl
theorem znn {n : Nat} (h : n ≠ 0) : dg n = ((n % 10 : Nat) : Int) :: dg (n / 10) := by rw [dg, ifn h]
theorem zyt (n : Nat) : dv (dg n) = n ∧ dok (dg n) ∧ zmp (dg n) ∧ (dg n = [] ↔ n = 0) := by
 induction n using Nat.strongRecOn with
 | _ n ih =>
  by_cases h : n = 0
  · subst h; rw [zj1]; exact ⟨rfl, fun d hd => (List.not_mem_nil hd).elim, by unfold zmp; simp, by simp⟩
  · obtain ⟨h1, h2, h3, h4⟩ := ih (n / 10) (by omega); rw [znn h]; refine ⟨?_, ?_, ?_, by simp [h]⟩
    · simp only [dv, h1, itn]; omega
    · intro d hd; rcases List.mem_cons.1 hd with rfl | hd
      · omega
      · exact h2 d hd
    · unfold zmp at h3 ⊢; cases hl : dg (n / 10) with
      | nil =>
       have := h4.1 hl; simp only [List.getLast?_singleton, ne_eq, Option.some.injEq]; omega
      | cons x l =>
       rw [hl] at h3; rw [List.getLast?_cons_cons]; exact h3
theorem zjt (n : Nat) : dv (dg n) = n := (zyt n).1
theorem zjg (n : Nat) : dok (dg n) := (zyt n).2.1
theorem z5d (n : Nat) : zmp (dg n) := (zyt n).2.2.1
theorem zz0 : ∀ {l : List Int}, dok l → zmp l → dg (dv l) = l
 | [], _, _ => zj1
 | d :: l, h, hc => by
  have hl : dok l := fun x hx => h x (List.mem_cons_of_mem _ hx); obtain ⟨h0, h1⟩ := h d List.mem_cons_self; cases l with
  | nil =>
   unfold zmp at hc; simp only [List.getLast?_singleton, ne_eq, Option.some.injEq] at hc; have e : dv [d] = d.toNat := by simp [dv]
   rw [e, znn (by omega), show d.toNat / 10 = 0 by omega, zj1, show ((d.toNat % 10 : Nat) : Int) = d by omega]
  | cons x l =>
   have hcl : zmp (x :: l) := by
    unfold zmp at hc ⊢; rw [List.getLast?_cons_cons] at hc; exact hc
   have ih := zz0 hl hcl; have hn : dv (x :: l) ≠ 0 := fun h => by rw [h, zj1] at ih; cases ih
   have e : dv (d :: x :: l) = d.toNat + 10 * dv (x :: l) := rfl; rw [e, znn (by omega), show (d.toNat + 10 * dv (x :: l)) / 10 = dv (x :: l) by omega, ih, show (((d.toNat + 10 * dv (x :: l)) % 10 : Nat) : Int) = d by omega]
theorem zrg : ∀ (a b : List Int), dv (a ++ b) = dv a + 10 ^ a.length * dv b
 | [], b => by simp [dv]
 | d :: a, b => by
  simp only [List.cons_append, dv, zrg a b, List.length_cons, Nat.pow_succ]; rw [Nat.mul_add, Nat.add_assoc, Nat.mul_comm (10 ^ a.length) 10, Nat.mul_assoc]
theorem zqt : ∀ k : Nat, dv (List.replicate k (0 : Int)) = 0
 | 0 => rfl
 | k + 1 => by simp only [List.replicate_succ, dv, zqt k]; rfl
theorem zpg (k : Nat) : dok (List.replicate k (0 : Int)) := fun d hd => by
 obtain ⟨_, rfl⟩ := List.mem_replicate.1 hd
 omega
theorem ztq {a b : List Int} (ha : dok a) (hb : dok b) : dok (a ++ b) := fun d hd => (List.mem_append.1 hd).elim (ha d) (hb d)
theorem zzy : ∀ {l : List Int}, dok l → dv l < 10 ^ l.length
 | [], _ => by simp [dv]
 | d :: l, h => by
  have ih := zzy (l := l) fun x hx => h x (List.mem_cons_of_mem _ hx); obtain ⟨h0, h1⟩ := h d List.mem_cons_self; simp only [dv, List.length_cons, Nat.pow_succ]; omega
theorem zg3 (n k : Nat) : (dg n).length ≤ k ↔ n < 10 ^ k := by
 induction k generalizing n with
 | zero =>
  by_cases h : n = 0
  · rw [h, zj1]; simp
  · rw [znn h]; simp; omega
 | succ k ih =>
  by_cases h : n = 0
  · rw [h, zj1]; simp [zb8]
  · rw [znn h, List.length_cons, Nat.add_le_add_iff_right, ih (n / 10), Nat.pow_succ]; omega
theorem z3y (l : List Int) (i : Nat) (hi : i < l.length) : dv l = dv (l.take i) + 10 ^ i * (l[i].toNat + 10 * dv (l.drop (i + 1))) := by
 have h := List.take_append_drop i l
 have e : l.drop i = l[i] :: l.drop (i + 1) := List.drop_eq_getElem_cons hi
 conv => lhs; rw [← h, zrg, e]
 simp only [dv, List.length_take, Nat.min_eq_left (Nat.le_of_lt hi)]
theorem zyr {l : List Int} (h : dok l) (i : Nat) : dok (l.take i) := fun d hd => h d (List.mem_of_mem_take hd)
theorem z94 {l : List Int} (h : dok l) (i : Nat) : dok (l.drop i) := fun d hd => h d (List.mem_of_mem_drop hd)
theorem z8o {a b : List Int} (ha : dok a) (hb : dok b) (i : Nat) (hi : i < a.length) (hj : i < b.length) (h : a.drop (i + 1) = b.drop (i + 1)) (hlt : a[i] < b[i]) : dv a < dv b := by
 rw [z3y a i hi, z3y b i hj, h]
 have l1 := zzy (zyr ha i)
 rw [List.length_take, Nat.min_eq_left (Nat.le_of_lt hi)] at l1
 obtain ⟨x0, _⟩ := ha a[i] (List.getElem_mem hi)
 have : 10 ^ i * (a[i].toNat + 10 * dv (b.drop (i + 1))) + 10 ^ i ≤ 10 ^ i * (b[i].toNat + 10 * dv (b.drop (i + 1))) := by
  rw [← Nat.mul_succ]; exact Nat.mul_le_mul_left _ (by omega)
 omega
theorem zzz {a b : Nat} (h : (dg a).length < (dg b).length) : a < b := by
 have h1 := (zg3 a (dg a).length).1 (Nat.le_refl _)
 refine Nat.lt_of_lt_of_le h1 (Classical.byContradiction fun h2 => ?_)
 have := (zg3 b (dg a).length).2 (by omega)
 omega
def bl (b : ByteArray) : List UInt8 := b.data.toList
theorem zad (b : ByteArray) : (bl b).length = b.size := rfl
theorem zgq {a b : ByteArray} (h : bl a = bl b) : a = b := by
 cases a; cases b
 unfold bl at h
 simp only at h
 congr 1
 exact Array.toList_inj.1 h
theorem zg8 (b : ByteArray) (i : Nat) : zga b (i : Int) = (bl b)[i]? := by
 unfold zga bl
 rw [ifp (by omega)]
 show b[i]? = _
 by_cases h : i < b.size
 · rw [getElem?_pos b i h, lge (by simpa using h)]
   congr 1
 · rw [getElem?_neg b i h, List.getElem?_eq_none (by simpa using h)]
theorem zej (b : ByteArray) (i j : Nat) : bl (b.extract i j) = ((bl b).take j).drop i := by
 unfold bl
 rw [ByteArray.data_extract, Array.toList_extract, List.extract_eq_drop_take', List.drop_take]
theorem zc4 (a b : ByteArray) : bl (a ++ b) = bl a ++ bl b := by
 unfold bl
 rw [ByteArray.data_append, Array.toList_append]
theorem zaat (l : List UInt8) : bl ⟨l.toArray⟩ = l := rfl
def beV (l : List UInt8) : Nat := l.foldl (fun n c => n * 256 + c.toNat) 0
theorem zqy (l : List UInt8) (x : UInt8) : beV (l ++ [x]) = beV l * 256 + x.toNat := by
 unfold beV; rw [List.foldl_append]; rfl
theorem zz4 (l : List UInt8) : beV l < 256 ^ l.length := by
 have key : ∀ (l r : List UInt8), l = r.reverse → beV l < 256 ^ l.length := by
  intro l r
  induction r generalizing l with
  | nil => intro h; subst h; decide
  | cons x r ih =>
   intro h; rw [List.reverse_cons] at h; subst h; have := ih _ rfl; rw [zqy, lna, lns, Nat.pow_succ]; have := x.toNat_lt; omega
 exact key l l.reverse (by simp)
theorem zd2 {α : Type} (l : List α) (i : Nat) {x : α} (h : l[i]? = some x) : l.take (i + 1) = l.take i ++ [x] := by
 obtain ⟨h1, h2⟩ := List.getElem?_eq_some_iff.1 h
 rw [List.take_succ_eq_append_getElem h1, h2]
theorem zeh {α : Type} {l : List α} {i : Nat} (h : i < l.length) : ∃ x, l[i]? = some x := ⟨_, lge h⟩
theorem or8 (n : Int) (c : Nat) (h1 : -36028797018963968 ≤ n) (h2 : n < 36028797018963968) (hc : c < 256) : orI .i64 (n * 256) (c : Int) = n * 256 + c := by
 unfold orI
 have e : (BitVec.ofInt IntKind.i64.bits (n * 256) ||| BitVec.ofInt IntKind.i64.bits (c : Int)).toNat = ((n * 256) % 18446744073709551616).toNat + c := by
  show (BitVec.ofInt 64 (n * 256) ||| BitVec.ofInt 64 (c : Int)).toNat = _; rw [BitVec.toNat_or, BitVec.ofInt_natCast, BitVec.toNat_ofNat, BitVec.toNat_ofInt, Nat.mod_eq_of_lt (by omega)]; show ((n * 256) % 18446744073709551616).toNat ||| c = _; have := Nat.two_pow_add_eq_or_of_lt (i := 8) (b := c) hc (((n * 256) % 18446744073709551616).toNat / 256); rw [show 2 ^ 8 * (((n * 256) % 18446744073709551616).toNat / 256) = ((n * 256) % 18446744073709551616).toNat by omega] at this; exact this.symm
 rw [e]
 have k : (2 : Int) ^ (IntKind.i64.bits) = 18446744073709551616 := by decide
 have k' : (2 : Int) ^ (IntKind.i64.bits - 1) = 9223372036854775808 := by decide
 unfold IntKind.wrap
 simp only [k, k', show IntKind.i64.signed = true from rfl, Bool.true_and, decide_eq_true_eq, ge_iff_le]
 split <;> omega
theorem z1z (N : Nat) (hN : 20 < N) (b : ByteArray) (hb : b.size ≤ 6) : zar N b = some (beV (bl b) : Int) := by
 unfold zar
 have := zbq (f := zar.r0 N) (fun i => (b, ((beV ((bl b).take i) : Nat) : Int), (b.size : Int), (i : Int))) b.size
  (fun i hi => by
   obtain ⟨x, hx⟩ : ∃ x, (bl b)[i]? = some x := zeh (by rw [zad]; exact hi); have hl := zz4 ((bl b).take i); have hl2 : 256 ^ ((bl b).take i).length ≤ 256 ^ 6 := Nat.pow_le_pow_right (by decide) (by rw [List.length_take, zad]; omega); have hc := x.toNat_lt; simp only [zar.r0, zar.b0, dct (show (i : Int) < (b.size : Int) by omega), ctr, zg8, hx, obs]; rw [show (2 : Int) ^ (min (8 : Int).toNat 64) = 256 from rfl, w6e (n := ((beV ((bl b).take i) : Nat) : Int) * 256) (by omega) (by omega), w6e (n := (x.toNat : Int)) (by omega) (by omega), w6e (n := (i : Int) + 1) (by omega) (by omega), or8 _ _ (by omega) (by omega) hc, zd2 _ _ hx, zqy]; simp only [Int.natCast_add, Int.natCast_mul, Int.natCast_one]; rfl)
  (by simp only [zar.r0, zar.b0, dcf (show ¬ (b.size : Int) < (b.size : Int) by omega), cfa]) (N := N) (by omega)
 simp only [List.take_zero, Int.natCast_zero] at this
 rw [show ((beV [] : Nat) : Int) = 0 from rfl] at this
 rw [this, ← zad, List.take_length]
 rfl
theorem zwa (N : Nat) (hN : 20 < N) (b : ByteArray) (k n : Nat) (hn : n ≤ 6) (hk : k + n ≤ b.size) (hb : b.size < 1000000) : zbh N b (k : Int) (n : Int) = some (beV (((bl b).drop k).take n) : Int) := by
 unfold zbh
 have := zbq (f := zbh.r0 N) (fun i => (b, (k : Int), (n : Int), ((beV (((bl b).drop k).take i) : Nat) : Int), (i : Int))) n
  (fun i hi => by
   have hlen : i < ((bl b).drop k).length := by rw [List.length_drop, zad]; omega
   obtain ⟨x, hy⟩ : ∃ x, ((bl b).drop k)[i]? = some x := zeh hlen; have hx : (bl b)[k + i]? = some x := by rw [← List.getElem?_drop]; exact hy
   have hl := zz4 (((bl b).drop k).take i); have hl2 : 256 ^ (((bl b).drop k).take i).length ≤ 256 ^ 6 := Nat.pow_le_pow_right (by decide) (by rw [List.length_take]; omega); have hc := x.toNat_lt; simp only [zbh.r0, zbh.b0, dct (show (i : Int) < (n : Int) by omega), ctr]; rw [w6e (n := (k : Int) + (i : Int)) (by omega) (by omega), ← Int.natCast_add, zg8, hx]; simp only [obs]; rw [w6e (n := ((beV (((bl b).drop k).take i) : Nat) : Int) * 256) (by omega) (by omega), w6e (n := (x.toNat : Int)) (by omega) (by omega), w6e (n := (i : Int) + 1) (by omega) (by omega), w6e (by omega) (by omega), zd2 _ _ hy, zqy]; simp only [Int.natCast_add, Int.natCast_mul, Int.natCast_one]; rfl)
  (by simp only [zbh.r0, zbh.b0, dcf (show ¬ (n : Int) < (n : Int) by omega), cfa]) (N := N) (by omega)
 simp only [List.take_zero, Int.natCast_zero] at this
 rw [show ((beV [] : Nat) : Int) = 0 from rfl] at this
 rw [this]
 rfl
def zbb (v k : Nat) : List Int := (List.range k).map fun j => ((v / 256 ^ (k - 1 - j) % 256 : Nat) : Int)
theorem zyv (v k : Nat) : (zbb v k).length = k := by simp [zbb]
def zgk (f : Nat → Int) (k i : Nat) : List Int := (List.range k).map fun j => if k - i ≤ j then f (k - 1 - j) else 0
theorem zqk (f : Nat → Int) (k i : Nat) : (zgk f k i).length = k := by simp [zgk]
theorem zo2 (f : Nat → Int) (k : Nat) : zgk f k 0 = List.replicate k (0 : Int) := by
 unfold zgk
 refine List.ext_getElem? fun j => ?_
 rw [List.getElem?_map, List.getElem?_replicate]
 by_cases h : j < k
 · rw [lge (by simpa using h), ifp h]; simp only [List.getElem_range, Option.map_some]; rw [ifn (by omega)]
 · rw [List.getElem?_eq_none (by simpa using h), ifn h]; rfl
theorem zo4 (f : Nat → Int) (k : Nat) : zgk f k k = (List.range k).map fun j => f (k - 1 - j) := by
 unfold zgk
 refine List.map_congr_left fun j _ => ?_
 rw [ifp (by omega)]
theorem zo3 (f : Nat → Int) (k i : Nat) (h : i < k) : (zgk f k i).set (k - 1 - i) (f i) = zgk f k (i + 1) := by
 refine List.ext_getElem? fun j => ?_
 rw [List.getElem?_set]
 unfold zgk
 simp only [List.length_map, List.length_range, List.getElem?_map]
 by_cases hj : j < k
 · rw [lge (by simpa using hj)]; simp only [List.getElem_range, Option.map_some]
   by_cases he : k - 1 - i = j
   · rw [ifp he, ifp (by omega), ifp (by omega), show k - 1 - j = i by omega]
   · rw [ifn he]
     congr 1
     by_cases h2 : k - i ≤ j
     · rw [ifp h2, ifp (by omega)]
     · rw [ifn h2, ifn (by omega)]
 · rw [List.getElem?_eq_none (by simpa using hj)]
   by_cases he : k - 1 - i = j
   · omega
   · rw [ifn he]; rfl
def z0o (v k i : Nat) : List Int := zgk (fun e => ((v / 256 ^ e % 256 : Nat) : Int)) k i
theorem z8v (v k : Nat) : z0o v k 0 = List.replicate k (0 : Int) := zo2 _ k
theorem z8x (v k : Nat) : z0o v k k = zbb v k := zo4 _ k
theorem z8w (v k i : Nat) (h : i < k) : (z0o v k i).set (k - 1 - i) ((v / 256 ^ i % 256 : Nat) : Int) = z0o v k (i + 1) := zo3 _ k i h
theorem zaay (m : Nat) : IntKind.wrap .u8 (m : Int) = ((m % 256 : Nat) : Int) := by
 have e : (2 : Int) ^ (IntKind.u8.bits) = 256 := by decide
 unfold IntKind.wrap
 simp only [e, show IntKind.u8.signed = false from rfl, Bool.false_and]
 simp only [Bool.false_eq_true, if_false]
 omega
theorem zacv (N : Nat) (hN : 20 < N) (v k : Nat) (hk : k ≤ 8) : zbu N (v : Int) (k : Int) = some (zbb v k) := by
 unfold zbu
 have := zbq (f := zbu.r0 N) (fun i => ((v : Int), (k : Int), z0o v k i, (k : Int), (i : Int))) k
  (fun i hi => by
   have hl : (z0o v k i).length = k := zqk _ _ _; simp only [zbu.r0, zbu.b0, dct (show (i : Int) < (k : Int) by omega), ctr, hl]; rw [w6e (n := 8 * (i : Int)) (by omega) (by omega), w6e (n := (k : Int) - 1) (by omega) (by omega), w6e (n := (k : Int) - 1 - (i : Int)) (by omega) (by omega), ifn (by omega), ifp (by omega), ifp (by omega)]; have e0 : ((k : Int) - 1 - (i : Int)).toNat = k - 1 - i := by omega
   rw [e0, lge (by omega), obs, w6e (n := (i : Int) + 1) (by omega) (by omega)]; have e1 : ((v : Int).fdiv (2 ^ (min (8 * (i : Int)).toNat 64))) = ((v / 256 ^ i : Nat) : Int) := by
    rw [show (8 * (i : Int)).toNat = 8 * i by omega, Nat.min_eq_left (by omega), show (2 : Int) ^ (8 * i) = ((256 ^ i : Nat) : Int) by
     rw [show (256 : Nat) = 2 ^ 8 from rfl, ← Nat.pow_mul, Int.natCast_pow]; rfl, zto]
   rw [e1, zaay, z8w v k i hi]; rfl)
  (by simp only [zbu.r0, zbu.b0, dcf (show ¬ (k : Int) < (k : Int) by omega), cfa]) (N := N) (by omega)
 rw [ifp (by omega), ifp (by omega)]
 have hr : Nat.ble ((k : Int).toNat * 1) z9 = true := by
  rw [Nat.ble_eq]; unfold z9; omega
 rw [hr, ctr, itn, List.length_replicate]
 simp only [z8v, Int.natCast_zero] at this
 rw [this, obs, z8x]
def zyw : Pointer := ⟨0, ⟨0, 0⟩, 0⟩
def zh0 (off : Int) : Pointer := ⟨0, ⟨1, off⟩, 0⟩
def zpl (p : Pointer) : Int := cond (!inB p.Kind 0 2) 4 (cond (!inB p.Address.Segment 0 1099511627775 || (!inB p.Address.Offset 0 16777215 || !inB p.Authority 0 1023)) 3 (cond (p.Authority != 0 && p.Kind != 1) 5 0))
theorem z0x (p : Pointer) : zcm p = some (zpl p) := by
 unfold zcm zpl
 simp only [zaah, obs, znr]
 generalize inB p.Kind 0 2 = a
 generalize inB p.Address.Segment 0 1099511627775 = b
 generalize inB p.Address.Offset 0 16777215 = c
 generalize inB p.Authority 0 1023 = d
 generalize (p.Authority != 0 && p.Kind != 1) = e
 cases a <;> cases b <;> cases c <;> cases d <;> cases e <;> rfl
theorem z7t (p : Pointer) : ze6 p = some (zpl p) := by
 unfold ze6 zpl
 rw [Bool.and_comm (p.Authority != 0) (p.Kind != 1)]
 simp only [zhi, obs, znr, orB]
 generalize inB p.Kind 0 2 = a
 generalize inB p.Address.Segment 0 1099511627775 = b
 generalize inB p.Address.Offset 0 16777215 = c
 generalize inB p.Authority 0 1023 = d
 generalize (p.Kind != 1 && p.Authority != 0) = e
 cases a <;> cases b <;> cases c <;> cases d <;> cases e <;> rfl
def zta (l : List UInt8) : Pointer := ⟨((l.getD 0 0).toNat : Nat), ⟨(beV ((l.drop 4).take 6) : Nat), (beV ((l.drop 10).take 6) : Nat)⟩, (beV ((l.drop 2).take 2) : Nat)⟩
def zn5 (l : List UInt8) : Pointer × Int := if (l.getD 1 0).toNat ≠ 0 then (zyw, 5) else if zpl (zta l) ≠ 0 then (zyw, zpl (zta l)) else (zta l, 0)
theorem zqc {l : List UInt8} {i : Nat} (h : i < l.length) : l[i]? = some (l.getD i 0) := by
 rw [List.getD_eq_getElem?_getD, lge h]; rfl
theorem z69 (N : Nat) (hN : 20 < N) (b : ByteArray) (hb : b.size = 16) : zdx N b = some (zn5 (bl b)) := by
 have hl : (bl b).length = 16 := hb
 have i1 : zga b 1 = some ((bl b).getD 1 0) := by rw [show (1 : Int) = ((1 : Nat) : Int) from rfl, zg8, zqc (by omega)]
 have i0 : zga b 0 = some ((bl b).getD 0 0) := by rw [show (0 : Int) = ((0 : Nat) : Int) from rfl, zg8, zqc (by omega)]
 have z1 : (b.extract (2 : Int).toNat (4 : Int).toNat).size = 2 := zb0 b 2 4 (by omega) (by omega)
 have z2 : (b.extract (4 : Int).toNat (10 : Int).toNat).size = 6 := zb0 b 4 10 (by omega) (by omega)
 have z3 : (b.extract (10 : Int).toNat b.size).size = 6 := (zb0 b 10 b.size (by omega) (by omega)).trans (by omega)
 have e1 := z1z N hN (b.extract (2 : Int).toNat (4 : Int).toNat) (by omega)
 have e2 := z1z N hN (b.extract (4 : Int).toNat (10 : Int).toNat) (by omega)
 have e3 := z1z N hN (b.extract (10 : Int).toNat b.size) (by omega)
 rw [zej, show (2 : Int).toNat = 2 from rfl, show (4 : Int).toNat = 4 from rfl, List.drop_take] at e1
 rw [zej, show (4 : Int).toNat = 4 from rfl, show (10 : Int).toNat = 10 from rfl, List.drop_take] at e2
 rw [zej, show (10 : Int).toNat = 10 from rfl, List.drop_take, hb] at e3
 unfold zdx
 rw [show ((b.size : Int) != 16) = false by rw [hb]; rfl]
 simp only [cfa, i1, i0, obs]
 by_cases h : ((bl b).getD 1 0).toNat = 0
 · rw [h, show ((((0 : Nat) : Int)) != 0) = false from rfl, cfa]; rw [ifp (by omega), ifp (by omega), show (2 : Int).toNat = 2 from rfl, show (4 : Int).toNat = 4 from rfl, e1]; simp only [obs]; rw [ifp (by omega), ifp (by omega), show (10 : Int).toNat = 10 from rfl, e2]; simp only [obs]; rw [ifp (by omega), hb, e3]; simp only [obs]; have hx := ((bl b).getD 0 0).toNat_lt; rw [w6e (by omega) (by omega)]; rw [show (⟨(((bl b).getD 0 0).toNat : Int), ⟨(beV (((bl b).drop 4).take (10 - 4)) : Int), (beV (((bl b).drop 10).take (16 - 10)) : Int)⟩, (beV (((bl b).drop 2).take (4 - 2)) : Int)⟩ : Pointer) = zta (bl b) from rfl, z0x]; simp only [obs]; unfold zn5; rw [ifn (by omega)]
   by_cases h2 : zpl (zta (bl b)) = 0
   · rw [h2]; rfl
   · rw [ifp h2, zcx, dct h2]; rfl
 · unfold zn5; rw [ifp h, zcx, dct (by omega)]; rfl
theorem z7p (N : Nat) (hN : 20 < N) (b : ByteArray) (hb : b.size = 16) : zji N b = some (zn5 (bl b)) := by
 have hl : (bl b).length = 16 := hb
 have i1 : zga b 1 = some ((bl b).getD 1 0) := by rw [show (1 : Int) = ((1 : Nat) : Int) from rfl, zg8, zqc (by omega)]
 have i0 : zga b 0 = some ((bl b).getD 0 0) := by rw [show (0 : Int) = ((0 : Nat) : Int) from rfl, zg8, zqc (by omega)]
 have e1 : zbh N b 2 2 = _ := zwa N hN b 2 2 (by omega) (by omega) (by omega)
 have e2 : zbh N b 4 6 = _ := zwa N hN b 4 6 (by omega) (by omega) (by omega)
 have e3 : zbh N b 10 6 = _ := zwa N hN b 10 6 (by omega) (by omega) (by omega)
 unfold zji
 rw [show ((b.size : Int) != 16) = false by rw [hb]; rfl]
 simp only [cfa, i1, i0, obs]
 by_cases h : ((bl b).getD 1 0).toNat = 0
 · rw [h, show ((((0 : Nat) : Int)) != 0) = false from rfl, cfa]; rw [e1, e2, e3]; simp only [obs]; have hx := ((bl b).getD 0 0).toNat_lt; rw [w6e (by omega) (by omega)]; rw [show (⟨(((bl b).getD 0 0).toNat : Int), ⟨(beV (((bl b).drop 4).take 6) : Int), (beV (((bl b).drop 10).take 6) : Int)⟩, (beV (((bl b).drop 2).take 2) : Int)⟩ : Pointer) = zta (bl b) from rfl, z7t]; simp only [obs]; unfold zn5; rw [ifn (by omega)]
   by_cases h2 : zpl (zta (bl b)) = 0
   · rw [h2]; rfl
   · rw [ifp h2, zcx, dct h2]; rfl
 · unfold zn5; rw [ifp h, zcx, dct (by omega)]; rfl
def znd (s : Storage) (i : Nat) : List UInt8 := ((bl s.Bytes).drop (16 * i)).take 16
def gS (s : Storage) (i : Nat) : Option (Int × Int) := (s.Tags[i]?).bind fun t => if t = true ∧ (zn5 (znd s i)).2 ≠ 0 then some ((i : Int), 22) else none
def zst (s : Storage) : Int × Int :=
 if s.Bytes.size > 1024 then (0, 2) else if s.Bytes.size % 16 ≠ 0 then (0, 18) else if s.Tags.length ≠ s.Bytes.size / 16 then (0, 6)
 else match (List.range s.Tags.length).findSome? (gS s) with | some r => r | none => ((s.Tags.length : Int), 0)
theorem znc (s : Storage) (i : Nat) : bl (s.Bytes.extract (16 * i) (16 * i + 16)) = znd s i := by
 rw [zej, List.drop_take, znd, show 16 * i + 16 - 16 * i = 16 by omega]
theorem zss (N : Nat) (hN : 2000 < N) (s : Storage) : zm N s = some (zst s) ∧ zbp N s = some (zst s) := by
 unfold zm zbp zst
 by_cases h1 : (s.Bytes.size : Int) > 1024
 · rw [dct h1, ifp (by omega)]; exact ⟨rfl, rfl⟩
 · rw [dcf h1, ifn (by omega)]; have hm : (s.Bytes.size : Int).tmod 16 = (s.Bytes.size : Int) % 16 := Int.tmod_eq_emod_of_nonneg (by omega); have hd : (s.Bytes.size : Int).tdiv 16 = (s.Bytes.size : Int) / 16 := Int.tdiv_eq_ediv_of_nonneg (by omega)
   by_cases h2 : (s.Bytes.size : Int) % 16 = 0
   · rw [hm, hd, w6e (by omega) (by omega), ifn (by omega)]
     by_cases h3 : (s.Tags.length : Int) = (s.Bytes.size : Int) / 16
     · rw [show (((s.Bytes.size : Int) % 16) != 0) = false by rw [h2]; rfl, show ((s.Tags.length : Int) != (s.Bytes.size : Int) / 16) = false by rw [← h3]; exact bsf _, ifn (by omega)]; simp only [cfa]; have hw : ∀ i : Nat, i < s.Tags.length → w6 ((i : Int) * 16) = (i : Int) * 16 ∧ w6 ((i : Int) * 16 + 16) = (i : Int) * 16 + 16 := fun i hi => ⟨w6e (by omega) (by omega), w6e (by omega) (by omega)⟩; have hx : ∀ i : Nat, i < s.Tags.length → s.Bytes.extract ((i : Int) * 16).toNat ((i : Int) * 16 + 16).toNat = s.Bytes.extract (16 * i) (16 * i + 16) := fun i hi => by
        rw [show ((i : Int) * 16).toNat = 16 * i by omega, show ((i : Int) * 16 + 16).toNat = 16 * i + 16 by omega]
       have hz : ∀ i : Nat, i < s.Tags.length → (s.Bytes.extract (16 * i) (16 * i + 16)).size = 16 := fun i hi => by
        rw [zb0 _ _ _ (by omega) (by omega)]; omega
       constructor
       · have l1 := zc2 (f := zm.r1 N) (fun i => (s.Tags, (s.Tags.length : Int), (i : Int), s)) (gS s) s.Tags.length
          (fun i hi => by
           obtain ⟨w1, w2⟩ := hw i hi; have hx1 := lge hi; simp only [zm.r1, zm.b1, zbg, hx1, obs, dct (show (i : Int) < (s.Tags.length : Int) by omega), ctr, gS]; rw [w6e (n := (i : Int) + 1) (by omega) (by omega)]; cases hb : s.Tags[i] with
           | false => simp
           | true =>
            simp only [Bool.not_true, cfa, w1, w2]; rw [ifp (by omega), ifp (by omega), hx i hi, z69 N (by omega) _ (hz i hi), znc]; simp only [obs]
            by_cases hq : (zn5 (znd s i)).2 = 0
            · rw [hq]; simp
            · rw [zcx, dct hq, ifp ⟨trivial, hq⟩]; rfl)
          (by simp only [zm.r1, zm.b1, dcf (show ¬ (s.Tags.length : Int) < (s.Tags.length : Int) by omega), cfa]) (N := N) (by omega)
         simp only [Int.natCast_zero] at l1; rw [l1]; simp only [obs]; cases (List.range s.Tags.length).findSome? (gS s) <;> rfl
       · have l1 := zc2 (f := zbp.r0 N) (fun i => ((s.Bytes.size : Int) / 16, (i : Int), s)) (gS s) s.Tags.length
          (fun i hi => by
           obtain ⟨w1, w2⟩ := hw i hi; have hx1 := lge hi; simp only [zbp.r0, zbp.b0, zbg, hx1, obs, dct (show (i : Int) < (s.Bytes.size : Int) / 16 by omega), ctr, gS]; rw [w6e (n := (i : Int) + 1) (by omega) (by omega)]; cases hb : s.Tags[i] with
           | false => simp
           | true =>
            simp only [ctr, zh5, w1, w2]; rw [ifp (by omega), ifp (by omega)]; simp only [obs]; rw [hx i hi, z7p N (by omega) _ (hz i hi), znc]; simp only [obs]
            by_cases hq : (zn5 (znd s i)).2 = 0
            · rw [hq]; simp
            · rw [zcx, dct hq, ifp ⟨trivial, hq⟩]; rfl)
          (by simp only [zbp.r0, zbp.b0, dcf (show ¬ (s.Tags.length : Int) < (s.Bytes.size : Int) / 16 by omega), cfa]) (N := N) (by omega)
         simp only [Int.natCast_zero] at l1; rw [l1]; simp only [obs]; cases (List.range s.Tags.length).findSome? (gS s) with
         | some r => rfl
         | none => simp only [zd5, ← h3]
     · rw [show (((s.Bytes.size : Int) % 16) != 0) = false by rw [h2]; rfl, show ((s.Tags.length : Int) != (s.Bytes.size : Int) / 16) = true by rw [zcx]; exact dct h3, ifp (by omega)]; exact ⟨rfl, rfl⟩
   · rw [hm, show (((s.Bytes.size : Int) % 16) != 0) = true by rw [zcx]; exact dct h2, ifp (by omega)]; exact ⟨rfl, rfl⟩
structure zh9 (s : Storage) : Prop where
 le : s.Bytes.size ≤ 1024
 quad : s.Bytes.size % 16 = 0
 tags : s.Tags.length = s.Bytes.size / 16
 ptr : ∀ i, s.Tags[i]? = some true → ∃ off : Int, (0 ≤ off ∧ off ≤ 16777215) ∧ zn5 (znd s i) = (zh0 off, 0)
theorem zh9.err {s : Storage} (h : zh9 s) : zst s = ((s.Tags.length : Int), 0) := by
 obtain ⟨h1, h2, h3, h4⟩ := h
 unfold zst
 rw [ifn (by omega), ifn (by omega), ifn (by omega)]
 have : (List.range s.Tags.length).findSome? (gS s) = none := by
  rw [List.findSome?_eq_none_iff]; intro i _; unfold gS; cases ht : s.Tags[i]? with
  | none => rfl
  | some t =>
   rw [obs]; split
   · rename_i h5; rw [h5.1] at ht; obtain ⟨off, _, h6⟩ := h4 i ht; rw [h6] at h5; exact absurd rfl h5.2
   · rfl
 rw [this]
theorem zh9.ok {s : Storage} (h : zh9 s) : StoOk s := ⟨h.le, h.quad⟩
def ldV (s : Storage) (at_ : Int) : Option Int := if s.Tags[(at_ / 16).toNat]? = some true then some (zn5 (znd s (at_ / 16).toNat)).1.Address.Offset else none
theorem zu9 {s : Storage} (h : zh9 s) {at_ o : Int} (hl : ldV s at_ = some o) : 0 ≤ o ∧ o ≤ 16777215 := by
 unfold ldV at hl
 split at hl
 · rename_i ht; obtain ⟨off, h1, h2⟩ := h.ptr _ ht; rw [h2] at hl; cases hl; exact h1
 · cases hl
theorem zjl {s : Storage} {a : Int} (h : zen s a = true) : 0 ≤ a ∧ a % 16 = 0 ∧ a < (s.Bytes.size : Int) := by
 unfold zen at h
 simpa using h
theorem zaa1 (N : Nat) (hN : 2000 < N) {s : Storage} (h : zh9 s) {a : Int} (ha : zen s a = true) :
 zge N s a = some (match ldV s a with | some o => (zh0 o, 0) | none => (zyw, 22)) := by
 obtain ⟨a1, a2, a3⟩ := zjl ha
 have hl := h.le
 have hq := h.quad
 have ht := h.tags
 unfold zge zho
 rw [(zss N hN s).1, h.err]
 simp only [obs, bsf, cfa]
 rw [dcf (show ¬ a < 0 by omega), dcf (show ¬ a ≥ (s.Bytes.size : Int) by omega), Int.tmod_eq_emod_of_nonneg a1, a2]
 simp only [bsf, cfa, obs]
 have ed : w6 (a.tdiv 16) = (((a / 16).toNat : Nat) : Int) := by
  rw [Int.tdiv_eq_ediv_of_nonneg a1, w6e (by omega) (by omega)]; omega
 have hi : (a / 16).toNat < s.Tags.length := by omega
 rw [ed, zbg, lge hi]
 simp only [obs]
 unfold ldV
 rw [lge hi]
 cases hb : s.Tags[(a / 16).toNat] with
 | false => rfl
 | true =>
  simp only [Bool.not_true, cfa, if_true]; rw [w6e (by omega) (by omega), ifp (by omega), ifp (by omega)]; have e : s.Bytes.extract a.toNat (a + 16).toNat = s.Bytes.extract (16 * (a / 16).toNat) (16 * (a / 16).toNat + 16) := by
   rw [show a.toNat = 16 * (a / 16).toNat by omega, show (a + 16).toNat = 16 * (a / 16).toNat + 16 by omega]
  rw [e, z69 N (by omega) _ (by rw [zb0 _ _ _ (by omega) (by omega)]; omega), znc]; obtain ⟨off, _, h2⟩ := h.ptr (a / 16).toNat (by rw [lge hi, hb]); rw [h2]; rfl
theorem zae {n : Nat} (h : n ≤ 1000000) : Nat.ble n z9 = true := by
 rw [Nat.ble_eq]; unfold z9; omega
def spl (l : List UInt8) (a : Nat) (d : List UInt8) : List UInt8 := l.take a ++ d ++ l.drop (a + d.length)
theorem zaa2 {l : List UInt8} {a : Nat} {d : List UInt8} (h : a + d.length ≤ l.length) : (spl l a d).length = l.length := by
 unfold spl
 simp only [lna, List.length_take, List.length_drop]
 omega
def clr (t : List Bool) (a n : Nat) : List Bool := (List.range t.length).map fun k => if 16 * k < a + n ∧ a < 16 * k + 16 then false else t.getD k false
theorem zwj (t : List Bool) (a n : Nat) : (clr t a n).length = t.length := by simp [clr]
theorem zwk (t : List Bool) (a n k : Nat) : (clr t a n)[k]? = if 16 * k < a + n ∧ a < 16 * k + 16 then (if k < t.length then some false else none) else t[k]? := by
 unfold clr
 rw [List.getElem?_map]
 by_cases h : k < t.length
 · rw [lge (by simpa using h)]; simp only [List.getElem_range, Option.map_some]; split
   · simp [h]
   · rw [lge h, List.getD_eq_getElem?_getD, lge h]; rfl
 · rw [List.getElem?_eq_none (by simpa using h), List.getElem?_eq_none (by simpa using h)]; simp [h]
def wrV (s : Storage) (a : Nat) (d : ByteArray) : Storage := ⟨⟨(spl (bl s.Bytes) a (bl d)).toArray⟩, clr s.Tags a d.size⟩
theorem zsp {s : Storage} {a : Nat} {d : ByteArray} (h : a + d.size ≤ s.Bytes.size) : (wrV s a d).Bytes.size = s.Bytes.size := zaa2 (l := bl s.Bytes) (d := bl d) h
theorem z93 {l : List UInt8} {a : Nat} {d : List UInt8} (h : a + d.length ≤ l.length) (i n : Nat) (hi : i + n ≤ a ∨ a + d.length ≤ i) : ((spl l a d).drop i).take n = (l.drop i).take n := by
 refine List.ext_getElem? fun k => ?_
 rw [List.getElem?_take, List.getElem?_take]
 by_cases hk : k < n
 · rw [ifp hk, ifp hk, List.getElem?_drop, List.getElem?_drop]; unfold spl; rcases hi with hi | hi
   · rw [List.append_assoc, List.getElem?_append_left (by rw [List.length_take]; omega), List.getElem?_take, ifp (by omega)]
   · rw [List.getElem?_append_right (by rw [lna, List.length_take]; omega), lna, List.length_take, List.getElem?_drop]
     congr 1
     omega
 · rw [ifn hk, ifn hk]
theorem zacz {l : List UInt8} {a : Nat} {d : List UInt8} (h : a + d.length ≤ l.length) : ((spl l a d).drop a).take d.length = d := by
 unfold spl
 rw [List.append_assoc, List.drop_append_of_le_length (by rw [List.length_take]; omega), List.drop_of_length_le (by rw [List.length_take]; omega), List.nil_append, List.take_append_of_le_length (Nat.le_refl _), List.take_length]
theorem z1w {s : Storage} (h : zh9 s) {a : Nat} {d : ByteArray} (hd : a + d.size ≤ s.Bytes.size) (hd0 : 0 < d.size) : zh9 (wrV s a d) := by
 have hs := zsp hd
 refine ⟨by rw [hs]; exact h.le, by rw [hs]; exact h.quad, by rw [hs]; exact (zwj _ _ _).trans h.tags, fun i hi => ?_⟩
 have hi' : (clr s.Tags a d.size)[i]? = some true := hi
 rw [zwk] at hi'
 split at hi'
 · split at hi' <;> cases hi'
 · rename_i hn; obtain ⟨off, h1, h2⟩ := h.ptr i hi'; refine ⟨off, h1, ?_⟩; have : znd (wrV s a d) i = znd s i := z93 (l := bl s.Bytes) (d := bl d) hd _ _ (by rw [zad]; omega); rw [this]; exact h2
theorem zq0 (b : ByteArray) : b.toList = bl b := ByteArray.toList_eq b
theorem z68 {s : Storage} (h : zh9 s) {a : Nat} {d : ByteArray} (hd : a + d.size ≤ s.Bytes.size) (hd0 : 0 < d.size) : zja s (a : Int) d = some (wrV s a d) := by
 have hl := h.le
 have hq := h.quad
 have ht := h.tags
 have hmax : IntKind.i64.max = 9223372036854775807 := by decide
 unfold zja
 rw [hmax]
 have z1 : (s.Bytes.extract (0 : Int).toNat (a : Int).toNat).size = a := by rw [zb0 _ _ _ (by omega) (by omega)]; omega
 rw [ifp (by omega), ifp (by omega), ifn (by rw [z1]; omega), w6e (n := (a : Int) + (d.size : Int)) (by omega) (by omega), ifp (by omega)]
 have z2 : (s.Bytes.extract ((a : Int) + (d.size : Int)).toNat s.Bytes.size).size = s.Bytes.size - (a + d.size) := by rw [zb0 _ _ _ (by omega) (by omega)]; omega
 rw [ifn (by rw [z2, ByteArray.size_append, z1]; omega)]
 have hc : zdh 1 s.Tags = some s.Tags := by unfold zdh; rw [zae (by omega)]; rfl
 rw [hc]
 simp only [obs]
 have hne : (d.toList == (⟨#[]⟩ : ByteArray).toList) = false := by
  rw [zq0, zq0]; refine beq_eq_false_iff_ne.2 fun h => ?_; have := congrArg List.length h; rw [zad, zad] at this; have : d.size = 0 := this; omega
 rw [hne]
 simp only [Bool.not_false, ctr]
 have e1 : w6 ((w6 ((w6 ((a : Int) + (d.size : Int) - 1)).tdiv 16)) + 1) = (((a + d.size - 1) / 16 + 1 : Nat) : Int) := by
  rw [w6e (n := (a : Int) + (d.size : Int) - 1) (by omega) (by omega), Int.tdiv_eq_ediv_of_nonneg (by omega), w6e (n := ((a : Int) + (d.size : Int) - 1) / 16) (by omega) (by omega), w6e (by omega) (by omega)]; omega
 have e2 : w6 ((a : Int).tdiv 16) = ((a / 16 : Nat) : Int) := by
  rw [Int.tdiv_eq_ediv_of_nonneg (by omega), w6e (by omega) (by omega)]; omega
 rw [e1, e2, ifp (by omega), ifp (by omega)]
 simp only [itn]
 have f1 : ((s.Bytes.extract (0 : Int).toNat a) ++ d) ++ (s.Bytes.extract ((a : Int) + (d.size : Int)).toNat s.Bytes.size) = (wrV s a d).Bytes := by
  refine zgq ?_; rw [zc4, zc4, zej, zej, show (0 : Int).toNat = 0 from rfl, List.drop_zero, show ((a : Int) + (d.size : Int)).toNat = a + d.size by omega, ← zad s.Bytes, List.take_length]; rfl
 have f2 : s.Tags.take (a / 16) ++ List.replicate ((a + d.size - 1) / 16 + 1 - a / 16) false ++ s.Tags.drop (a / 16 + ((a + d.size - 1) / 16 + 1 - a / 16)) = (wrV s a d).Tags := by
  refine List.ext_getElem? fun k => ?_; show _ = (clr s.Tags a d.size)[k]?; rw [zwk]
  by_cases h1 : k < a / 16
  · rw [List.append_assoc, List.getElem?_append_left (by rw [List.length_take]; omega), List.getElem?_take, ifp h1, ifn (by omega)]
  · by_cases h2 : k < (a + d.size - 1) / 16 + 1
    · rw [List.append_assoc, List.getElem?_append_right (by rw [List.length_take]; omega), List.getElem?_append_left (by rw [List.length_take, List.length_replicate]; omega), List.getElem?_replicate, ifp (by rw [List.length_take]; omega), ifp (by omega), ifp (by omega)]
    · rw [List.getElem?_append_right (by rw [lna, List.length_take, List.length_replicate]; omega), lna, List.length_take, List.length_replicate, List.getElem?_drop, ifn (by omega)]
      congr 1
      omega
 rw [f1, f2]
theorem z1y (N : Nat) (hN : 2000 < N) {s : Storage} (h : zh9 s) {a : Nat} {d : ByteArray} (hd : a + d.size ≤ s.Bytes.size) (hd0 : 0 < d.size) : zgr N s (a : Int) d = some (wrV s a d, 0) := by
 have hl := h.le
 unfold zgr zkf
 rw [(zss N hN s).1, h.err]
 simp only [obs, bsf, cfa]
 rw [dcf (show ¬ (a : Int) < 0 by omega), dcf (show ¬ (d.size : Int) < 0 by omega), dcf (show ¬ (a : Int) > (s.Bytes.size : Int) by omega), w6e (by omega) (by omega), dcf (show ¬ (d.size : Int) > (s.Bytes.size : Int) - (a : Int) by omega)]
 simp only [cfa, obs, bsf]
 rw [z68 h hd hd0]
 rfl
def pbV (off : Nat) : ByteArray := zc6 (zbb 0 1 ++ zbb 0 1 ++ zbb 0 2 ++ zbb 1 6 ++ zbb off 6)
theorem zf8 (l : List Int) : bl (zc6 l) = l.map fun n => UInt8.ofNat n.toNat := rfl
theorem zkc (off : Nat) : (pbV off).size = 16 := by
 show (bl (pbV off)).length = 16
 unfold pbV
 rw [zf8]
 simp only [List.length_map, lna, zyv]
theorem z37 (v k : Nat) : beV ((zbb v k).map fun n => UInt8.ofNat n.toNat) = v % 256 ^ k := by
 induction k generalizing v with
 | zero => rw [Nat.pow_zero, Nat.mod_one]; rfl
 | succ k ih =>
  have e : zbb v (k + 1) = zbb (v / 256) k ++ [((v % 256 : Nat) : Int)] := by
   unfold zbb; rw [List.range_succ, List.map_append]
   congr 1
   · refine List.map_congr_left fun j hj => ?_; have := List.mem_range.1 hj; rw [Nat.div_div_eq_div_mul, ← Nat.pow_succ', show k + 1 - 1 - j = k - 1 - j + 1 by omega]
   · simp
  rw [e, List.map_append, List.map_singleton, zqy, ih, itn, UInt8.toNat_ofNat', show 256 ^ (k + 1) = 256 * 256 ^ k from Nat.pow_succ', Nat.mod_mul]; omega
theorem zabj (off : Nat) (h : off ≤ 16777215) : zn5 (bl (pbV off)) = (zh0 off, 0) := by
 have e : bl (pbV off) = (zbb 0 1).map (fun n => UInt8.ofNat n.toNat) ++ ((zbb 0 1).map (fun n => UInt8.ofNat n.toNat) ++ ((zbb 0 2).map (fun n => UInt8.ofNat n.toNat) ++ ((zbb 1 6).map (fun n => UInt8.ofNat n.toNat) ++ (zbb off 6).map (fun n => UInt8.ofNat n.toNat)))) := by
  unfold pbV; rw [zf8]; simp only [List.map_append, List.append_assoc]
 have l6 : ∀ v, ((zbb v 6).map (fun n => UInt8.ofNat n.toNat)).length = 6 := fun v => by simp [zyv]
 have e2 : bl (pbV off) = 0 :: 0 :: 0 :: 0 :: ((zbb 1 6).map (fun n => UInt8.ofNat n.toNat) ++ (zbb off 6).map (fun n => UInt8.ofNat n.toNat)) := e
 have hp : zta (bl (pbV off)) = zh0 off := by
  unfold zta zh0; rw [e2]; simp only [List.drop_succ_cons, List.drop_zero, List.take_succ_cons, List.take_zero, List.getD_cons_zero]; rw [List.take_append_of_le_length (by rw [l6]; omega), List.take_of_length_le (by rw [l6]; omega), z37, List.drop_append_of_le_length (by rw [l6]; omega), List.drop_of_length_le (by rw [l6]; omega), List.nil_append, List.take_of_length_le (by rw [l6]; omega), z37, Nat.mod_eq_of_lt (show off < 256 ^ 6 by omega)]; rfl
 have h1 : ((bl (pbV off)).getD 1 0).toNat = 0 := by rw [e2]; rfl
 have hc : zpl (zh0 off) = 0 := by
  unfold zpl zh0; rw [show inB (off : Int) 0 16777215 = true from zbc.2 ⟨by omega, by omega⟩]; rfl
 unfold zn5
 rw [ifn (by rw [h1]; exact fun h => h rfl), hp, hc]
 rfl
def stV (s : Storage) (a : Nat) (off : Nat) : Storage := ⟨(wrV s a (pbV off)).Bytes, (wrV s a (pbV off)).Tags.set (a / 16) true⟩
theorem zxs {s : Storage} {a off : Nat} (h : a + 16 ≤ s.Bytes.size) : (stV s a off).Bytes.size = s.Bytes.size := zsp (d := pbV off) (by rw [zkc]; exact h)
theorem z14 {s : Storage} (h : zh9 s) {a off : Nat} (ha : a + 16 ≤ s.Bytes.size) (hq : a % 16 = 0) (ho : off ≤ 16777215) : zh9 (stV s a off) := by
 have hw := z1w h (a := a) (d := pbV off) (by rw [zkc]; exact ha) (by rw [zkc]; omega)
 refine ⟨hw.le, hw.quad, ?_, fun i hi => ?_⟩
 · show ((wrV s a (pbV off)).Tags.set (a / 16) true).length = _; rw [List.length_set]; exact hw.tags
 · have hi' : ((wrV s a (pbV off)).Tags.set (a / 16) true)[i]? = some true := hi; rw [List.getElem?_set] at hi'; split at hi'
   · rename_i he; refine ⟨off, ⟨by omega, by omega⟩, ?_⟩; have : znd (stV s a off) i = bl (pbV off) := by
      have := zacz (l := bl s.Bytes) (a := a) (d := bl (pbV off)) (by rw [zad, zad, zkc]; exact ha); rw [zad, zkc] at this; unfold znd; rw [← he, show 16 * (a / 16) = a by omega]; exact this
     rw [this]; exact zabj off ho
   · obtain ⟨o, h1, h2⟩ := hw.ptr i hi'; exact ⟨o, h1, h2⟩
theorem z5o (N : Nat) (hN : 100 < N) (off : Nat) (h : off ≤ 16777215) : zig N (zh0 off) = some (pbV off) := by
 unfold zig zh0
 have b := fun v k hk => zacv N (by omega) v k hk
 rw [show zbu N 0 1 = _ from b 0 1 (by decide), show zbu N 0 2 = _ from b 0 2 (by decide), show zbu N 1 6 = _ from b 1 6 (by decide), show zbu N (off : Int) 6 = _ from b off 6 (by decide)]
 simp only [obs]
 unfold zax
 obtain ⟨n, rfl⟩ : ∃ n, N = n + 10 := ⟨N - 10, by omega⟩
 have c1 : zl (zax.r0 (n + 10)) (n + 10) ([zbb 0 1, zbb 0 1, zbb 0 2, zbb 1 6, zbb off 6], 0, [zbb 0 1, zbb 0 1, zbb 0 2, zbb 1 6, zbb off 6], (([zbb 0 1, zbb 0 1, zbb 0 2, zbb 1 6, zbb off 6] : List (List Int)).length : Int), 0) = some ([zbb 0 1, zbb 0 1, zbb 0 2, zbb 1 6, zbb off 6], 16, [zbb 0 1, zbb 0 1, zbb 0 2, zbb 1 6, zbb off 6], 5, 5) := by rfl
 rw [c1]
 simp only [obs]
 have c2 : zit () 16 = some [] := by rfl
 rw [c2]
 simp only [obs]
 have c3 : zl (zax.r2 (n + 10)) (n + 10) ([], [zbb 0 1, zbb 0 1, zbb 0 2, zbb 1 6, zbb off 6], (([zbb 0 1, zbb 0 1, zbb 0 2, zbb 1 6, zbb off 6] : List (List Int)).length : Int), 0) = some ((((([] ++ zbb 0 1) ++ zbb 0 1) ++ zbb 0 2) ++ zbb 1 6) ++ zbb off 6, [zbb 0 1, zbb 0 1, zbb 0 2, zbb 1 6, zbb off 6], 5, 5) := by rfl
 rw [c3]
 rfl
theorem zab5 (off : Nat) (h : off ≤ 16777215) : zpl (zh0 off) = 0 := by
 unfold zpl zh0
 rw [show inB (off : Int) 0 16777215 = true from zbc.2 ⟨by omega, by omega⟩]
 rfl
theorem zxp (N : Nat) (hN : 2000 < N) {s : Storage} (h : zh9 s) {a : Int} (ha : zen s a = true) (off : Nat) (ho : off ≤ 16777215) : zb4 N s a (zh0 off) = some (stV s a.toNat off, 0) := by
 obtain ⟨a1, a2, a3⟩ := zjl ha
 have hl := h.le
 have hq := h.quad
 have ht := h.tags
 have hA : a = ((a.toNat : Nat) : Int) := by omega
 have hw : a.toNat + (pbV off).size ≤ s.Bytes.size := by rw [zkc]; omega
 unfold zb4 zho
 rw [(zss N hN s).1, h.err]
 simp only [obs, bsf, cfa]
 rw [dcf (show ¬ a < 0 by omega), dcf (show ¬ a ≥ (s.Bytes.size : Int) by omega), Int.tmod_eq_emod_of_nonneg a1, a2]
 simp only [bsf, cfa, obs]
 rw [z0x, zab5 off ho]
 simp only [obs, bsf, cfa]
 rw [z5o N (by omega) off ho]
 simp only [obs, eS]
 have hp := z68 h hw (by rw [zkc]; omega)
 rw [← hA] at hp
 rw [hp]
 simp only [obs]
 have ed : w6 (a.tdiv 16) = ((a.toNat / 16 : Nat) : Int) := by
  rw [Int.tdiv_eq_ediv_of_nonneg a1, w6e (by omega) (by omega)]; omega
 have hlen : (wrV s a.toNat (pbV off)).Tags.length = s.Tags.length := zwj _ _ _
 rw [ed, ifp (by omega), ifp (by rw [hlen]; omega), itn, lge (by rw [hlen]; omega)]
 rfl
def zew (l : List Int) : Int := l.foldl (fun n d => n * 10 + d) 0
theorem znk (l : List Int) (x : Int) : zew (l ++ [x]) = zew l * 10 + x := by
 unfold zew; rw [List.foldl_append]; rfl
theorem zl7 : ∀ (l r : List Int), l = r.reverse → (∀ d ∈ l, 0 ≤ d ∧ d ≤ 15) → 0 ≤ zew l ∧ zew l ≤ 2 * (10 ^ l.length : Nat) - 2 := by
 intro l r
 induction r generalizing l with
 | nil => intro h _; subst h; decide
 | cons x r ih =>
  intro h hd; rw [List.reverse_cons] at h; subst h; have h1 := ih _ rfl fun d hd' => hd d (List.mem_append_left _ hd'); have h2 := hd x (List.mem_append_right _ List.mem_cons_self); rw [znk, lna, lns, Nat.pow_succ]; omega
def zht (l : List UInt8) : List Int := l.flatMap fun b => [((b.toNat / 16 : Nat) : Int), ((b.toNat % 16 : Nat) : Int)]
def zfa (l : List UInt8) : List Int := l.map fun b => ((b.toNat % 16 : Nat) : Int)
def zd1 (l : List UInt8) : List Int := zfa l ++ [(((l.getD (l.length - 1) 0).toNat / 16 : Nat) : Int)]
def zh8 (l : List Int) (len : Int) (i : Nat) : Bool := decide (l.getD i 0 > 9) || (decide (l.getD i 0 > 0) && decide ((i : Int) < (l.length : Int) - 1 - len))
def zjw (l : List Int) : Int := l.getD (l.length - 1) 0
def zvw (l : List Int) (len : Int) : Option Int :=
 if (List.range (l.length - 1)).any (zh8 l len) = true ∨ zjw l < 10 then none
 else some (if zjw l = 11 ∨ zjw l = 13 then -zew (l.take (l.length - 1)) else zew (l.take (l.length - 1)))
def zky (l : List UInt8) : Int := if 128 ≤ (l.getD 0 0).toNat then (beV l : Int) - (256 ^ l.length : Nat) else (beV l : Int)
def zlh (t : DataType) (b : ByteArray) : Option Int :=
 if t.Kind = 3 then (if -((10 ^ t.Length.toNat : Nat) : Int) < zky (bl b) ∧ zky (bl b) < ((10 ^ t.Length.toNat : Nat) : Int) then some (zky (bl b)) else none)
 else zvw (if t.Kind = 1 then zht (bl b) else zd1 (bl b)) t.Length
theorem zoa (l : List UInt8) : (zht l).length = 2 * l.length := by
 unfold zht
 induction l with
 | nil => rfl
 | cons x l ih => simp only [List.flatMap_cons, lna, List.length_cons, List.length_nil, ih]; omega
theorem zpa {l : List UInt8} : (∀ d ∈ zht l, 0 ≤ d ∧ d ≤ 15) ∧ (∀ d ∈ zd1 l, 0 ≤ d ∧ d ≤ 15) := by
 constructor
 · intro d hd; obtain ⟨b, _, hb⟩ := List.mem_flatMap.1 hd; have := b.toNat_lt; rcases List.mem_cons.1 hb with rfl | hb
   · omega
   · rcases List.mem_cons.1 hb with rfl | hb
     · omega
     · cases hb
 · intro d hd; rcases List.mem_append.1 hd with hd | hd
   · obtain ⟨b, _, rfl⟩ := List.mem_map.1 hd; omega
   · rcases List.mem_cons.1 hd with rfl | hd
     · have := (l.getD (l.length - 1) 0).toNat_lt; omega
     · cases hd
theorem zaau (x : UInt8) : zh .u8 (x.toNat : Int) 15 = ((x.toNat % 16 : Nat) : Int) := by
 have hx := x.toNat_lt
 unfold zh
 have e : (BitVec.ofInt IntKind.u8.bits (x.toNat : Int) &&& BitVec.ofInt IntKind.u8.bits 15).toNat = x.toNat % 16 := by
  show (BitVec.ofInt 8 (x.toNat : Int) &&& BitVec.ofInt 8 ((15 : Nat) : Int)).toNat = _; rw [BitVec.toNat_and, BitVec.ofInt_natCast, BitVec.ofInt_natCast, BitVec.toNat_ofNat, BitVec.toNat_ofNat, Nat.mod_eq_of_lt (by omega), Nat.mod_eq_of_lt (by omega)]; exact Nat.and_two_pow_sub_one_eq_mod _ 4
 rw [e]
 exact zke (by omega) (by omega)
theorem z8i (x : UInt8) : ((x.toNat : Int).fdiv (2 ^ (min (4 : Int).toNat 8))) = ((x.toNat / 16 : Nat) : Int) := zto x.toNat 16
def zu0 (n : Nat) : List Int := (List.range n).flatMap fun (i : Nat) => [(i : Int), (i : Int)]
def zs9 (n : Nat) : List Int := (List.range n).map fun (i : Nat) => (i : Int)
theorem z2u (n : Nat) : (zu0 n).length = 2 * n := by
 unfold zu0
 induction n with
 | zero => rfl
 | succ n ih => rw [List.range_succ, List.flatMap_append, lna, ih]; simp; omega
theorem z72 (N : Nat) (hN : 2000 < N) (t : DataType) (hk : t.Kind = 1 ∨ t.Kind = 2) (b : ByteArray) (hb : 0 < b.size) (hb2 : b.size ≤ 1000) :
 ∃ pl, za3 N t b = some (if t.Kind = 1 then zht (bl b) else zd1 (bl b), pl) ∧ pl.length = (if t.Kind = 1 then zht (bl b) else zd1 (bl b)).length := by
 unfold za3
 rcases hk with hk | hk
 · have := zbq (f := za3.r0 N) (fun i => (b, zht ((bl b).take i), zu0 i, (b.size : Int), (i : Int), t)) b.size
    (fun i hi => by
     obtain ⟨x, hx⟩ : ∃ x, (bl b)[i]? = some x := zeh (by rw [zad]; exact hi); simp only [za3.r0, za3.b0, dct (show (i : Int) < (b.size : Int) by omega), ctr, zg8, hx, obs, hk, beq_self_eq_true, z8i, zaau]; have hl := zoa ((bl b).take i); rw [List.length_take, zad] at hl; rw [zae (by rw [hl]; simp only [List.length_cons, List.length_nil]; omega), zae (by rw [z2u]; simp only [List.length_cons, List.length_nil]; omega)]; simp only [ctr]; rw [w6e (by omega) (by omega), zd2 _ _ hx]; have e1 : zht ((bl b).take i ++ [x]) = zht ((bl b).take i) ++ [((x.toNat / 16 : Nat) : Int), ((x.toNat % 16 : Nat) : Int)] := by
      unfold zht; rw [List.flatMap_append]; rfl
     have e2 : zu0 (i + 1) = zu0 i ++ [(i : Int), (i : Int)] := by
      unfold zu0; rw [List.range_succ, List.flatMap_append]; rfl
     rw [e1, e2]; rfl)
    (by simp only [za3.r0, za3.b0, dcf (show ¬ (b.size : Int) < (b.size : Int) by omega), cfa]) (N := N) (by omega)
   simp only [List.take_zero, Int.natCast_zero] at this; rw [show zht [] = [] from rfl, show zu0 0 = [] from rfl] at this; rw [this]; simp only [obs, hk, if_true]; refine ⟨zu0 b.size, ?_, by rw [z2u, zoa, zad]⟩; rw [show ((1 : Int) == 2) = false from rfl, cfa, ← zad, List.take_length]
 · have := zbq (f := za3.r0 N) (fun i => (b, zfa ((bl b).take i), zs9 i, (b.size : Int), (i : Int), t)) b.size
    (fun i hi => by
     obtain ⟨x, hx⟩ : ∃ x, (bl b)[i]? = some x := zeh (by rw [zad]; exact hi); simp only [za3.r0, za3.b0, dct (show (i : Int) < (b.size : Int) by omega), ctr, zg8, hx, obs, hk, show ((2 : Int) == 1) = false from rfl, cfa, zaau]; have hl : (zfa ((bl b).take i)).length = i := by unfold zfa; rw [List.length_map, List.length_take, zad]; omega
     have hl2 : (zs9 i).length = i := by simp [zs9]
     rw [zae (by rw [hl]; simp only [List.length_cons, List.length_nil]; omega), zae (by rw [hl2]; simp only [List.length_cons, List.length_nil]; omega)]; simp only [ctr]; rw [w6e (by omega) (by omega), zd2 _ _ hx]; have e1 : zfa ((bl b).take i ++ [x]) = zfa ((bl b).take i) ++ [((x.toNat % 16 : Nat) : Int)] := by
      unfold zfa; rw [List.map_append]; rfl
     have e2 : zs9 (i + 1) = zs9 i ++ [(i : Int)] := by
      unfold zs9; rw [List.range_succ, List.map_append]; rfl
     rw [e1, e2]; rfl)
    (by simp only [za3.r0, za3.b0, dcf (show ¬ (b.size : Int) < (b.size : Int) by omega), cfa]) (N := N) (by omega)
   simp only [List.take_zero, Int.natCast_zero] at this; rw [show zfa [] = [] from rfl, show zs9 0 = [] from rfl] at this; rw [this]; have hx : (bl b)[b.size - 1]? = some ((bl b).getD (b.size - 1) 0) := zqc (by rw [zad]; omega); have hl : (zfa (bl b)).length = b.size := by unfold zfa; rw [List.length_map, zad]
   have hl2 : (zs9 b.size).length = b.size := by simp [zs9]
   simp only [obs, hk, beq_self_eq_true, ctr]; rw [← zad, List.take_length, zad, w6e (by omega) (by omega), show (b.size : Int) - 1 = ((b.size - 1 : Nat) : Int) by omega, zg8, hx]; simp only [obs, z8i]; rw [zae (by rw [hl]; simp only [List.length_cons, List.length_nil]; omega), zae (by rw [hl2]; simp only [List.length_cons, List.length_nil]; omega)]; simp only [ctr]; rw [ifn (by omega)]; refine ⟨_, rfl, ?_⟩; unfold zd1; rw [lna, lna, hl, hl2]; rfl
theorem z6b (N : Nat) (hN : 2000 < N) (t : DataType) (hk : t.Kind = 1 ∨ t.Kind = 2) (b : ByteArray) (hb : 0 < b.size) (hb2 : (if t.Kind = 1 then zht (bl b) else zd1 (bl b)).length ≤ 17) (hb3 : b.size ≤ 16) (hlen : 0 ≤ t.Length ∧ t.Length ≤ 15) :
 ∃ n a e, zbn N t b = some (n, a, e) ∧ (match zlh t b with | some v => n = v ∧ e = 0 | none => e ≠ 0) := by
 obtain ⟨pl, h1, h2⟩ := z72 N hN t hk b hb (by omega)
 have hr : ∀ d ∈ (if t.Kind = 1 then zht (bl b) else zd1 (bl b)), 0 ≤ d ∧ d ≤ 15 := by
  split
  · exact zpa.1
  · exact zpa.2
 have hpos : 0 < (if t.Kind = 1 then zht (bl b) else zd1 (bl b)).length := by
  split
  · rw [zoa, zad]; omega
  · unfold zd1; rw [lna, lns]; omega
 have hd : zlh t b = zvw (if t.Kind = 1 then zht (bl b) else zd1 (bl b)) t.Length := by
  unfold zlh; rw [ifn (by omega)]
 rw [hd]
 unfold zbn
 rw [h1]
 simp only [obs]
 generalize (if t.Kind = 1 then zht (bl b) else zd1 (bl b)) = l at *
 have hi2 : w6 ((l.length : Int) - 1) = ((l.length - 1 : Nat) : Int) := by rw [w6e (by omega) (by omega)]; omega
 rw [hi2, ifp (by omega), ifp (by omega)]
 rw [show (0 : Int).toNat = 0 from rfl, List.drop_zero, itn]
 have hlt : (l.take (l.length - 1)).length = l.length - 1 := by rw [List.length_take]; omega
 have lp := zc2 (f := zbn.r0 N) (fun i => (l, pl, ((l.length - 1 : Nat) : Int), zew (l.take i), l.take (l.length - 1), ((l.length - 1 : Nat) : Int), (i : Int), t))
  (fun i => if zh8 l t.Length i = true then some ((0 : Int), pl.getD i 0, (21 : Int)) else none) (l.length - 1)
  (fun i hi => by
   have hx : l[i]? = some (l.getD i 0) := by rw [List.getD_eq_getElem?_getD, lge (by omega)]; rfl
   have hx2 : (l.take (l.length - 1))[i]? = some (l.getD i 0) := by rw [List.getElem?_take, ifp hi, hx]
   have hp : pl[i]? = some (pl.getD i 0) := by rw [List.getD_eq_getElem?_getD, lge (by omega)]; rfl
   have hxr := hr (l.getD i 0) (lmg hx); have hf := zl7 (l.take i) _ (List.reverse_reverse _).symm fun d hd => hr d (List.mem_of_mem_take hd); have hpow : 10 ^ (l.take i).length ≤ 10 ^ 16 := zbz (by rw [List.length_take]; omega); simp only [zbn.r0, zbn.b0, dct (show (i : Int) < ((l.length - 1 : Nat) : Int) by omega), ctr, zbg, hx2, hp, obs]; rw [w6e (n := ((l.length - 1 : Nat) : Int) - t.Length) (by omega) (by omega), w6e (n := (i : Int) + 1) (by omega) (by omega), w6e (n := l.getD i 0) (by omega) (by omega), w6e (n := zew (l.take i) * 10) (by omega) (by omega), w6e (by omega) (by omega)]; have e : (cond (decide (l.getD i 0 > 9)) (some true) ((cond (decide (l.getD i 0 > 0)) (some (decide ((i : Int) < ((l.length - 1 : Nat) : Int) - t.Length))) (some false)).bind fun g1002 => some g1002)) = some (zh8 l t.Length i) := by
    unfold zh8; rw [show ((l.length - 1 : Nat) : Int) = (l.length : Int) - 1 by omega]; cases decide (l.getD i 0 > 9) <;> cases decide (l.getD i 0 > 0) <;> rfl
   rw [e]; simp only [obs]; rw [zd2 l i hx, znk]; cases zh8 l t.Length i with
   | true => rfl
   | false => simp)
  (by simp only [zbn.r0, zbn.b0, dcf (show ¬ ((l.length - 1 : Nat) : Int) < ((l.length - 1 : Nat) : Int) by omega), cfa]) (N := N) (by omega)
 simp only [List.take_zero, Int.natCast_zero] at lp
 rw [show zew [] = 0 from rfl] at lp
 rw [hlt, lp]
 simp only [obs]
 have hany : (List.range (l.length - 1)).any (zh8 l t.Length) = ((List.range (l.length - 1)).findSome? (fun i => if zh8 l t.Length i = true then some ((0 : Int), pl.getD i 0, (21 : Int)) else none)).isSome := by
  rw [Bool.eq_iff_iff, List.any_eq_true, List.findSome?_isSome_iff]; constructor
  · rintro ⟨x, hx, hb⟩
    exact ⟨x, hx, by rw [ifp hb]; rfl⟩
  · rintro ⟨x, hx, hb⟩
    refine ⟨x, hx, ?_⟩; split at hb
    · assumption
    · cases hb
 unfold zvw
 rw [hany]
 cases hf : (List.range (l.length - 1)).findSome? (fun i => if zh8 l t.Length i = true then some ((0 : Int), pl.getD i 0, (21 : Int)) else none) with
 | some r =>
  obtain ⟨i, _, hi⟩ := List.exists_of_findSome?_eq_some hf; split at hi
  · cases hi; exact ⟨_, _, _, rfl, by simp⟩
  · cases hi
 | none =>
  have hx : l[l.length - 1]? = some (zjw l) := by unfold zjw; rw [List.getD_eq_getElem?_getD, lge (by omega)]; rfl
  have hp : pl[l.length - 1]? = some (pl.getD (l.length - 1) 0) := by rw [List.getD_eq_getElem?_getD, lge (by omega)]; rfl
  have hb := zl7 (l.take (l.length - 1)) _ (List.reverse_reverse _).symm fun d hd => hr d (List.mem_of_mem_take hd); have hpow : 10 ^ (l.take (l.length - 1)).length ≤ 10 ^ 16 := zbz (by omega); simp only [zd5, zbg, hx, hp, obs, Option.isSome_none, Bool.false_eq_true, false_or]
  by_cases hs : zjw l < 10
  · rw [dct hs, ifp hs]; exact ⟨_, _, _, rfl, by decide⟩
  · rw [dcf hs, ifn hs, cfa, w6e (by omega) (by omega), zam, zam]
    by_cases h11 : zjw l = 11
    · rw [dct h11, ifp (.inl h11)]; exact ⟨_, _, _, rfl, by omega, rfl⟩
    · rw [dcf h11]
      by_cases h13 : zjw l = 13
      · rw [dct h13, ifp (.inr h13)]; exact ⟨_, _, _, rfl, by omega, rfl⟩
      · rw [dcf h13, ifn (by omega)]; exact ⟨_, _, _, rfl, rfl, rfl⟩
theorem z9v (N : Nat) (hN : 100 < N) (k : Nat) (hk : k ≤ 18) : zcd N (k : Int) = some ((10 ^ k : Nat) : Int) := by
 unfold zcd
 have := zbq (f := zcd.r0 N) (fun i => (((10 ^ i : Nat) : Int), (k : Int), (i : Int))) k
  (fun i hi => by
   have : 10 ^ (i + 1) ≤ 10 ^ 18 := zbz (by omega); rw [Nat.pow_succ] at this; simp only [zcd.r0, zcd.b0, dct (show (i : Int) < (k : Int) by omega), ctr]; rw [w6e (n := ((10 ^ i : Nat) : Int) * 10) (by omega) (by omega), w6e (by omega) (by omega), Nat.pow_succ]; simp only [Int.natCast_add, Int.natCast_mul, Int.natCast_one]; rfl)
  (by simp only [zcd.r0, zcd.b0, dcf (show ¬ (k : Int) < (k : Int) by omega), cfa]) (N := N) (by omega)
 simp only [Nat.pow_zero, Int.natCast_zero] at this
 rw [ifn (by omega), show (1 : Int) = ((1 : Nat) : Int) from rfl, this]
 rfl
theorem zt1 (N : Nat) (hN : 100 < N) {t : DataType} (ht : zh7 t) (n : Int) : zds N t ⟨n, ⟨#[]⟩⟩ = some (if -((10 ^ t.Length.toNat : Nat) : Int) < n ∧ n < ((10 ^ t.Length.toNat : Nat) : Int) then 0 else 19) := by
 have f2 : ∀ a b : Int, zp N [a, b] = some (zeu [a, b]) := fun a b => zn8 N _ (by simp; omega) (by simp)
 obtain ⟨⟨l1, l2⟩, l3, l4⟩ := zf4 ht
 have hp := z9v N hN t.Length.toNat (by omega)
 rw [Int.toNat_of_nonneg (by omega)] at hp
 have hp2 : 10 ^ t.Length.toNat ≤ 10 ^ 15 := zbz (by omega)
 have hp3 := zb8 t.Length.toNat
 obtain ⟨h0, h1, h2⟩ := ht
 unfold zds
 rw [zp8 N (by omega), h0, zam, zam, dcf (show ¬ t.Kind = 4 by omega), dcf (show ¬ t.Kind = 0 by omega)]
 simp only [zn9, cfa, obs, f2, show zeu [0, 0] = 0 from rfl, bsf]
 rw [hp]
 simp only [obs, beq_self_eq_true, Bool.not_true, cfa, z1q, zn9]
 generalize 10 ^ t.Length.toNat = P at *
 rw [w6e (n := (P : Int) - 1) (by omega) (by omega), w6e (by omega) (by omega)]
 by_cases h : -(P : Int) < n ∧ n < (P : Int)
 · rw [ifp h, show inB n (0 - ((P : Int) - 1)) ((P : Int) - 1) = true from zbc.2 ⟨by omega, by omega⟩]; rfl
 · rw [ifn h, show inB n (0 - ((P : Int) - 1)) ((P : Int) - 1) = false by
    cases hb : inB n (0 - ((P : Int) - 1)) ((P : Int) - 1) with
    | false => rfl
    | true => have := zbc.1 hb; omega]
   rfl
theorem z8u {l : List UInt8} (h : l ≠ []) (x : UInt8) : zky (l ++ [x]) = zky l * 256 + x.toNat := by
 cases l with
 | nil => exact absurd rfl h
 | cons y l =>
  unfold zky; rw [List.cons_append, List.getD_cons_zero, List.getD_cons_zero, ← List.cons_append, zqy, lna, lns, Nat.pow_succ]; split
  · simp only [Int.natCast_add, Int.natCast_mul]; omega
  · simp only [Int.natCast_add, Int.natCast_mul]; omega
theorem z6w {l : List UInt8} (h : l.length ≤ 4) : -4294967296 ≤ zky l ∧ zky l < 4294967296 := by
 have h1 := zz4 l
 have h2 : 256 ^ l.length ≤ 256 ^ 4 := Nat.pow_le_pow_right (by decide) h
 unfold zky
 split <;> omega
theorem z77 (N : Nat) (hN : 100 < N) (b : ByteArray) (h0 : 0 < b.size) (h4 : b.size ≤ 4) : zbt N b = some (zky (bl b)) := by
 obtain ⟨x0, hx0⟩ : ∃ x, (bl b)[0]? = some x := zeh (by rw [zad]; exact h0)
 have i0 : zga b 0 = some x0 := by rw [show (0 : Int) = ((0 : Nat) : Int) from rfl, zg8, hx0]
 have hL : zi6 (b.extract (1 : Int).toNat b.size) = ((bl b).drop 1).map fun x => (x.toNat : Int) := by
  unfold zi6; have := zej b 1 b.size; unfold bl at this ⊢; rw [show (1 : Int).toNat = 1 from rfl, this]
  congr 2
  exact List.take_of_length_le (Nat.le_of_eq rfl)
 have hlen : (((bl b).drop 1).map fun x => (x.toNat : Int)).length = b.size - 1 := by rw [List.length_map, List.length_drop, zad]
 have hx00 := x0.toNat_lt
 unfold zbt
 rw [i0]
 simp only [obs]
 rw [ifp (by omega), hL, hlen]
 have hw : w6 (IntKind.wrap .i8 (x0.toNat : Int)) = zky ((bl b).take 1) := by
  have e : (bl b).take 1 = [x0] := by rw [zd2 _ _ hx0]; rfl
  have e8 : (2 : Int) ^ (IntKind.i8.bits) = 256 := by decide
  have e8' : (2 : Int) ^ (IntKind.i8.bits - 1) = 128 := by decide
  have : IntKind.wrap .i8 (x0.toNat : Int) = if 128 ≤ x0.toNat then (x0.toNat : Int) - 256 else x0.toNat := by
   unfold IntKind.wrap; simp only [e8, e8', show IntKind.i8.signed = true from rfl, Bool.true_and, decide_eq_true_eq, ge_iff_le]
   repeat' split
   all_goals omega
  rw [this, e, w6e (by split <;> omega) (by split <;> omega)]; unfold zky; rw [List.getD_cons_zero, show beV [x0] = x0.toNat by unfold beV; simp]; rfl
 rw [hw]
 have := zbq (f := zbt.r0 N) (fun i => (zky ((bl b).take (i + 1)), ((bl b).drop 1).map (fun x => (x.toNat : Int)), ((b.size - 1 : Nat) : Int), (i : Int))) (b.size - 1)
  (fun i hi => by
   obtain ⟨x, hx⟩ : ∃ x, (bl b)[i + 1]? = some x := zeh (by rw [zad]; omega); have hm : (((bl b).drop 1).map (fun x => (x.toNat : Int)))[i]? = some (x.toNat : Int) := by
    rw [List.getElem?_map, List.getElem?_drop, Nat.add_comm 1 i, hx]; rfl
   have hb := z6w (l := (bl b).take (i + 1)) (by rw [List.length_take]; omega); have hxl := x.toNat_lt; simp only [zbt.r0, zbt.b0, dct (show (i : Int) < ((b.size - 1 : Nat) : Int) by omega), ctr, hlen]; rw [ifp (by omega), ifp (by omega), itn, hm]; simp only [obs]; rw [show (2 : Int) ^ (min (8 : Int).toNat 64) = 256 from rfl, w6e (n := zky ((bl b).take (i + 1)) * 256) (by omega) (by omega), w6e (n := (x.toNat : Int)) (by omega) (by omega), w6e (n := (i : Int) + 1) (by omega) (by omega), or8 _ _ (by omega) (by omega) hxl, zd2 _ _ hx, z8u]
   · rfl
   · intro h; have := congrArg List.length h; rw [List.length_take, zad] at this; simp only [List.length_nil] at this; omega)
  (by simp only [zbt.r0, zbt.b0, dcf (show ¬ ((b.size - 1 : Nat) : Int) < ((b.size - 1 : Nat) : Int) by omega), cfa]) (N := N) (by omega)
 simp only [Nat.zero_add, Int.natCast_zero] at this
 rw [this, show b.size - 1 + 1 = (bl b).length by rw [zad]; omega, List.take_length]
 rfl
theorem zp5 {t : DataType} (ht : zh7 t) : szE t = (if t.Kind = 1 then t.Length / 2 + 1 else if t.Kind = 3 then (if t.Length = 9 then 4 else 2) else t.Length) := by
 obtain ⟨_, h1, h2⟩ := ht
 unfold szE
 split
 · rfl
 · split
   · rfl
   · rw [ifn (by omega)]
theorem z76 (N : Nat) (hN : 2000 < N) {t : DataType} (ht : zh7 t) {b : ByteArray} (hb : (b.size : Int) = szE t) :
 ∃ v a e, zil N t b = some (v, a, e) ∧ (match zlh t b with | some n => v.N = n ∧ e = 0 | none => e ≠ 0) := by
 have f2 : ∀ a b : Int, zp N [a, b] = some (zeu [a, b]) := fun a b => zn8 N _ (by simp; omega) (by simp)
 obtain ⟨⟨l1, l2⟩, l3, l4⟩ := zf4 ht
 have hsz := zp5 ht
 have ht' := ht
 obtain ⟨h0, h1, h2⟩ := ht'
 unfold zil
 rw [zp8 N (by omega), h0, zam, zam, zam, dcf (show ¬ t.Kind = 4 by omega), dcf (show ¬ t.Kind = 0 by omega)]
 simp only [zn9, cfa, obs, f2, show zeu [0, 0] = 0 from rfl, beq_self_eq_true, ctr]
 rw [z0i h0]
 simp only [obs]
 rw [hb]
 simp only [bsf, cfa, eD]
 by_cases hk : t.Kind = 3
 · rw [dct hk, ctr]; have hs4 : b.size ≤ 4 ∧ 0 < b.size := by
    rw [hsz, ifn (by omega), ifp hk] at hb; split at hb <;> omega
   rw [z77 N (by omega) b hs4.2 hs4.1]; simp only [obs]; rw [zt1 N (by omega) ht]; simp only [obs]; unfold zlh; rw [ifp hk]
   by_cases hr : -((10 ^ t.Length.toNat : Nat) : Int) < zky (bl b) ∧ zky (bl b) < ((10 ^ t.Length.toNat : Nat) : Int)
   · rw [ifp hr, ifp hr]; exact ⟨_, _, _, rfl, rfl, rfl⟩
   · rw [ifn hr, ifn hr]; exact ⟨_, _, _, rfl, by decide⟩
 · rw [dcf hk, cfa]; have hs : 0 < b.size ∧ b.size ≤ 15 ∧ (t.Kind = 1 → b.size ≤ 8) := by
    rw [hsz] at hb
    by_cases h1 : t.Kind = 1
    · rw [ifp h1] at hb; omega
    · rw [ifn h1, ifn hk] at hb; omega
   have hn : (if t.Kind = 1 then zht (bl b) else zd1 (bl b)).length ≤ 17 := by
    split
    · rename_i hk1; have := hs.2.2 hk1; rw [zoa, zad]; omega
    · unfold zd1 zfa; rw [lna, List.length_map, lns, zad]; omega
   obtain ⟨n, a, e, g1, g2⟩ := z6b N hN t (by omega) b hs.1 hn (by omega) ⟨by omega, l2⟩; rw [g1]; exact ⟨_, _, _, rfl, g2⟩
def zqu (n len : Nat) : List Int := (List.range len).map fun j => ((n / 10 ^ (len - 1 - j) % 10 : Nat) : Int)
theorem zts (n len : Nat) : (zqu n len).length = len := by simp [zqu]
theorem ztr {n len : Nat} : ∀ d ∈ zqu n len, 0 ≤ d ∧ d ≤ 9 := by
 intro d hd
 obtain ⟨j, _, rfl⟩ := List.mem_map.1 hd
 omega
def z1v (l : List Int) (neg : Bool) : List Int := (l.take (l.length - 1)).map (· + 240) ++ [l.getD (l.length - 1) 0 + cond neg 208 240]
def zje : List Int → List Int
 | a :: b :: l => (16 * a + b) :: zje l
 | _ => []
def z6q (n : Int) (k : Nat) : List Int := (List.range k).map fun j => n / 256 ^ (k - 1 - j) % 256
def zrt (t : DataType) (n : Int) : List Int := (if t.Length % 2 = 0 then [0] else []) ++ zqu n.natAbs t.Length.toNat ++ [if n < 0 then 13 else 15]
def zqs (t : DataType) (n : Int) : ByteArray :=
 zc6 (if t.Kind = 3 then z6q n (szE t).toNat else if t.Kind = 2 then z1v (zqu n.natAbs t.Length.toNat) (decide (n < 0)) else zje (zrt t n))
theorem z75 (N : Nat) (hN : 100 < N) (n len : Nat) (hn : n ≤ 1000000000000000000) (hl : len ≤ 20) : zb2 N (n : Int) (len : Int) = some (zqu n len) := by
 unfold zb2
 have := zbq (f := zb2.r0 N) (fun i => (((n / 10 ^ i : Nat) : Int), zgk (fun e => ((n / 10 ^ e % 10 : Nat) : Int)) len i, (len : Int) - 1 - (i : Int))) len
  (fun i hi => by
   have hl2 : n / 10 ^ i ≤ n := Nat.div_le_self _ _; have hl : (zgk (fun e => ((n / 10 ^ e % 10 : Nat) : Int)) len i).length = len := zqk _ _ _; have e1 : n / 10 ^ (i + 1) = n / 10 ^ i / 10 := by rw [Nat.pow_succ, ← Nat.div_div_eq_div_mul]
   have e2 : (zgk (fun e => ((n / 10 ^ e % 10 : Nat) : Int)) len i).set (len - 1 - i) ((n / 10 ^ i % 10 : Nat) : Int) = zgk (fun e => ((n / 10 ^ e % 10 : Nat) : Int)) len (i + 1) := zo3 _ len i hi; rw [e1, ← e2]; generalize (zgk (fun e => ((n / 10 ^ e % 10 : Nat) : Int)) len i) = P at *; generalize n / 10 ^ i = q at *; simp only [zb2.r0, zb2.b0, dct (show (len : Int) - 1 - (i : Int) ≥ 0 by omega), ctr, hl]; rw [ifp (by omega), ifp (by omega)]; obtain ⟨x, hx⟩ : ∃ x, P[((len : Int) - 1 - (i : Int)).toNat]? = some x := zeh (by omega); rw [hx]; simp only [obs]
   rw [Int.tdiv_eq_ediv_of_nonneg (by omega), Int.tmod_eq_emod_of_nonneg (by omega), w6e (n := (q : Int) / 10) (by omega) (by omega), w6e (n := (len : Int) - 1 - (i : Int) - 1) (by omega) (by omega), zke (by omega) (by omega), show ((len : Int) - 1 - (i : Int)).toNat = len - 1 - i by omega, show (q : Int) % 10 = ((q % 10 : Nat) : Int) by omega, show (q : Int) / 10 = ((q / 10 : Nat) : Int) by omega, show (len : Int) - 1 - (i : Int) - 1 = (len : Int) - 1 - ((i + 1 : Nat) : Int) by omega])
  (by simp only [zb2.r0, zb2.b0, dcf (show ¬ (len : Int) - 1 - (len : Int) ≥ 0 by omega), cfa]) (N := N) (by omega)
 rw [ifp (by omega), ifp (by omega), zae (by omega), ctr, itn, w6e (by omega) (by omega)]
 simp only [Nat.pow_zero, Nat.div_one, zo2, Int.natCast_zero, Int.sub_zero, zo4] at this
 rw [this]
 rfl
theorem or4 (x y : Nat) (hx : x < 16) (hy : y < 16) : orI .u8 (IntKind.wrap .u8 ((x : Int) * 2 ^ (min (4 : Int).toNat 8))) (y : Int) = ((16 * x + y : Nat) : Int) := by
 rw [show (2 : Int) ^ (min (4 : Int).toNat 8) = 16 from rfl, zke (by omega) (by omega)]
 unfold orI
 have e : (BitVec.ofInt IntKind.u8.bits ((x : Int) * 16) ||| BitVec.ofInt IntKind.u8.bits (y : Int)).toNat = 16 * x + y := by
  show (BitVec.ofInt 8 ((x : Int) * 16) ||| BitVec.ofInt 8 (y : Int)).toNat = _; rw [show (x : Int) * 16 = ((16 * x : Nat) : Int) by omega, BitVec.toNat_or, BitVec.ofInt_natCast, BitVec.ofInt_natCast, BitVec.toNat_ofNat, BitVec.toNat_ofNat, Nat.mod_eq_of_lt (by omega), Nat.mod_eq_of_lt (by omega)]; exact (Nat.two_pow_add_eq_or_of_lt (i := 4) (b := y) hy x).symm
 rw [e]
 exact zke (by omega) (by omega)
theorem ztb : ∀ (n : Nat) (l : List Int) (x y : Int), l.length = 2 * n → zje (l ++ [x, y]) = zje l ++ [16 * x + y]
 | 0, l, x, y, h => by
  obtain rfl := List.length_eq_zero_iff.1 (by omega : l.length = 0); rfl
 | n + 1, [], x, y, h => by simp at h
 | n + 1, [a], x, y, h => by simp at h; omega
 | n + 1, a :: b :: l, x, y, h => by
  simp only [List.cons_append, zje]; rw [ztb n l x y (by simp only [List.length_cons] at h; omega)]
theorem zo8 : ∀ (n : Nat) (l : List Int), l.length = 2 * n → (zje l).length = n
 | 0, l, h => by
  obtain rfl := List.length_eq_zero_iff.1 (by omega : l.length = 0); rfl
 | n + 1, [], h => by simp at h
 | n + 1, [a], h => by simp at h; omega
 | n + 1, a :: b :: l, h => by
  simp only [zje, List.length_cons]; rw [zo8 n l (by simp only [List.length_cons] at h; omega)]
theorem z70 (N : Nat) (hN : 100 < N) (l : List Int) (n : Nat) (hl : l.length = 2 * n) (hn : n ≤ 20) (hd : ∀ d ∈ l, 0 ≤ d ∧ d < 16) : zbf N l = some (zc6 (zje l)) := by
 unfold zbf
 have := zbq (f := zbf.r0 N) (fun i => (l, zje (l.take (2 * i)), 2 * (i : Int))) n
  (fun i hi => by
   obtain ⟨x, hx⟩ : ∃ x, l[2 * i]? = some x := zeh (by omega); obtain ⟨y, hy⟩ : ∃ y, l[2 * i + 1]? = some y := zeh (by omega); obtain ⟨x1, x2⟩ := hd x (lmg hx); obtain ⟨y1, y2⟩ := hd y (lmg hy); have hlt : (l.take (2 * i)).length = 2 * i := by rw [List.length_take]; omega
   simp only [zbf.r0, zbf.b0, dct (show 2 * (i : Int) < (l.length : Int) by omega), ctr]; rw [w6e (n := 2 * (i : Int) + 1) (by omega) (by omega), w6e (n := 2 * (i : Int) + 2) (by omega) (by omega), show 2 * (i : Int) = ((2 * i : Nat) : Int) by omega, show ((2 * i : Nat) : Int) + 1 = ((2 * i + 1 : Nat) : Int) by omega, zbg, zbg, hx, hy]; simp only [obs]; obtain ⟨u, rfl⟩ : ∃ u : Nat, x = (u : Int) := ⟨x.toNat, by omega⟩; obtain ⟨v, rfl⟩ : ∃ v : Nat, y = (v : Int) := ⟨y.toNat, by omega⟩; rw [or4 u v (by omega) (by omega), zae (by rw [zo8 i _ hlt]; simp only [List.length_cons, List.length_nil]; omega), ctr]; rw [show 2 * (i + 1) = 2 * i + 1 + 1 by omega, zd2 _ _ hy, zd2 _ _ hx, List.append_assoc, show ([(u : Int)] ++ [(v : Int)] : List Int) = [(u : Int), (v : Int)] from rfl, ztb i _ _ _ hlt]
   congr 4)
  (by simp only [zbf.r0, zbf.b0, dcf (show ¬ 2 * (n : Int) < (l.length : Int) by omega), cfa]) (N := N) (by omega)
 simp only [Nat.mul_zero, List.take_zero, Int.natCast_zero, Int.mul_zero] at this
 rw [show zje [] = [] from rfl] at this
 rw [this, obs, ← hl, List.take_length]
theorem zaa3 (f : Int → Int) (l : List Int) (i : Nat) {x : Int} (hx : l[i]? = some x) : ((l.take i).map f ++ l.drop i)[i]? = some x ∧ ((l.take i).map f ++ l.drop i).set i (f x) = (l.take (i + 1)).map f ++ l.drop (i + 1) := by
 obtain ⟨h1, h2⟩ := List.getElem?_eq_some_iff.1 hx
 have hl : ((l.take i).map f).length = i := by rw [List.length_map, List.length_take]; omega
 have hd : l.drop i = x :: l.drop (i + 1) := by rw [List.drop_eq_getElem_cons h1, h2]
 constructor
 · rw [List.getElem?_append_right (by omega), hl, Nat.sub_self, hd]; rfl
 · rw [List.set_append_right _ _ (by omega), hl, Nat.sub_self, hd, zd2 l i hx, List.map_append, List.append_assoc]; rfl
theorem z6g {l : List Int} (h : 0 < l.length) : l = l.take (l.length - 1) ++ [l.getD (l.length - 1) 0] := by
 have hx : l[l.length - 1]? = some (l.getD (l.length - 1) 0) := by rw [List.getD_eq_getElem?_getD, lge (by omega)]; rfl
 have := zd2 l (l.length - 1) hx
 rw [show l.length - 1 + 1 = l.length by omega, List.take_length] at this
 exact this
theorem zaax (z : Int) : IntKind.wrap .u8 z = z % 256 := by
 have e : (2 : Int) ^ (IntKind.u8.bits) = 256 := by decide
 unfold IntKind.wrap
 simp only [e, show IntKind.u8.signed = false from rfl, Bool.false_and]
 simp only [Bool.false_eq_true, if_false]
theorem zpq {l : List Int} (h : 0 < l.length) : l.map (· + 240) = z1v l false := by
 conv => lhs; rw [z6g h]
 rw [List.map_append]
 rfl
theorem zns {n : Int} (h1 : -9223372036854775807 ≤ n) (h2 : n ≤ 9223372036854775807) : (if w6 (0 - n) > n then w6 (0 - n) else n) = ((n.natAbs : Nat) : Int) := by
 rw [w6e (by omega) (by omega)]
 split <;> omega
theorem ztc {t : DataType} (h1 : 1 ≤ t.Length) (n : Int) : (zrt t n).length = 2 * (t.Length.toNat / 2 + 1) ∧ ∀ d ∈ zrt t n, 0 ≤ d ∧ d < 16 := by
 unfold zrt
 constructor
 · rw [lna, lna, zts, lns]; split
   · rw [lns]; omega
   · rw [List.length_nil]; omega
 · intro d hd; rcases List.mem_append.1 hd with hd | hd
   · rcases List.mem_append.1 hd with hd | hd
     · split at hd
       · rcases List.mem_cons.1 hd with rfl | hd
         · omega
         · cases hd
       · cases hd
     · have := ztr d hd; omega
   · rcases List.mem_cons.1 hd with rfl | hd
     · split <;> omega
     · cases hd
theorem z6a (N : Nat) (hN : 100 < N) {t : DataType} (ht : zh7 t) (n : Int) (hn : -((10 ^ t.Length.toNat : Nat) : Int) < n ∧ n < ((10 ^ t.Length.toNat : Nat) : Int)) : z7 N t ⟨n, ⟨#[]⟩⟩ = some (zqs t n) := by
 obtain ⟨⟨l1, l2⟩, l3, l4⟩ := zf4 ht
 have hp2 : 10 ^ t.Length.toNat ≤ 10 ^ 15 := zbz (by omega)
 have hsz := zp5 ht
 have ht' := ht
 obtain ⟨h0, h1, h2⟩ := ht'
 have hd := z75 N hN n.natAbs t.Length.toNat (by omega) (by omega)
 rw [Int.toNat_of_nonneg (by omega)] at hd
 unfold z7 zqs
 simp only [eD]
 rw [zns (by omega) (by omega), hd]
 simp only [obs]
 have hlen := zts n.natAbs t.Length.toNat
 have hrange := ztr (n := n.natAbs) (len := t.Length.toNat)
 have hpac := ztc (t := t) l1 n
 have epac : zrt t n = (if t.Length % 2 = 0 then [0] else []) ++ zqu n.natAbs t.Length.toNat ++ [if n < 0 then 13 else 15] := rfl
 generalize zqu n.natAbs t.Length.toNat = d at *
 simp only [zam]
 by_cases k2 : t.Kind = 2
 · rw [dct k2, ctr, ifn (by omega), ifp k2]; have lp := zbq (f := z7.r1 N) (fun i => ((d.take i).map (· + 240) ++ d.drop i, (d.length : Int), (i : Int), (⟨n, ⟨#[]⟩⟩ : Value))) d.length
    (fun i hi => by
     obtain ⟨x, hx⟩ : ∃ x, d[i]? = some x := zeh hi; obtain ⟨e1, e2⟩ := zaa3 (· + 240) d i hx; have hxr := hrange x (lmg hx); have hl : ((d.take i).map (· + 240) ++ d.drop i).length = d.length := by rw [lna, List.length_map, List.length_take, List.length_drop]; omega
     simp only [z7.r1, z7.b1, dct (show (i : Int) < (d.length : Int) by omega), ctr, hl]; rw [ifp (by omega), ifp (by omega), itn, e1]; simp only [obs]; rw [ifp (by omega), ifp (by omega), zke (by omega) (by omega), w6e (by omega) (by omega), e2]; rfl)
    (by simp only [z7.r1, z7.b1, dcf (show ¬ (d.length : Int) < (d.length : Int) by omega), cfa]) (N := N) (by omega)
   simp only [List.take_zero, Int.natCast_zero, List.drop_zero, List.map_nil, List.nil_append, List.take_length, List.drop_length, List.append_nil] at lp; rw [lp]; simp only [obs, List.length_map]
   by_cases hneg : n < 0
   · rw [dct hneg, ctr, w6e (by omega) (by omega), ifp (by omega), ifp (by omega)]; have hi : (d.length : Int) - 1 = ((d.length - 1 : Nat) : Int) := by omega
     have hx : d[d.length - 1]? = some (d.getD (d.length - 1) 0) := by rw [List.getD_eq_getElem?_getD, lge (by omega)]; rfl
     have hxr := hrange _ (lmg hx); rw [hi, itn, List.getElem?_map, hx]; simp only [Option.map_some, obs]; rw [ifp (by omega), ifp (by omega), zke (by omega) (by omega)]
     congr 2
     conv => lhs; rw [show d.map (· + 240) = (d.take (d.length - 1)).map (· + 240) ++ [d.getD (d.length - 1) 0 + 240] from zpq (by omega)]
     have hl : ((d.take (d.length - 1)).map (· + 240)).length = d.length - 1 := by rw [List.length_map, List.length_take]; omega
     rw [List.set_append_right _ _ (by omega), hl, Nat.sub_self]; unfold z1v
     congr 1
     show [_] = [_]
     congr 1
     simp only [ctr]; omega
   · rw [dcf hneg, cfa, zpq (by omega)]
 · rw [dcf k2, cfa, ifn (c := t.Kind = 2) k2]
   by_cases k1 : t.Kind = 1
   · rw [dct k1, ctr, ifn (by omega)]; have pk := z70 N hN (zrt t n) _ hpac.1 (by omega) hpac.2; have ev : decide ((d.length : Int).tmod 2 = 0) = decide (t.Length % 2 = 0) := by
      rw [Int.tmod_eq_emod_of_nonneg (by omega)]; simp only [decide_eq_decide]; omega
     rw [ev]; rw [epac] at pk ⊢
     by_cases hneg : n < 0
     · rw [dct hneg, ctr]; rw [ifp hneg] at pk ⊢
       by_cases he : t.Length % 2 = 0
       · rw [dct he, ctr]; rw [ifp he] at pk ⊢; rw [zae (by simp only [List.length_cons, List.length_nil]; omega), ctr, zae (by simp only [lna, List.length_cons, List.length_nil]; omega), ctr, pk]; rfl
       · rw [dcf he, cfa]; rw [ifn he, List.nil_append] at pk ⊢; rw [zae (by simp only [List.length_cons, List.length_nil]; omega), ctr, pk]; rfl
     · rw [dcf hneg, cfa]; rw [ifn hneg] at pk ⊢
       by_cases he : t.Length % 2 = 0
       · rw [dct he, ctr]; rw [ifp he] at pk ⊢; rw [zae (by simp only [List.length_cons, List.length_nil]; omega), ctr, zae (by simp only [lna, List.length_cons, List.length_nil]; omega), ctr, pk]; rfl
       · rw [dcf he, cfa]; rw [ifn he, List.nil_append] at pk ⊢; rw [zae (by simp only [List.length_cons, List.length_nil]; omega), ctr, pk]; rfl
   · have k3 : t.Kind = 3 := by omega
     rw [dcf k1, cfa, dct k3, ctr, ifp k3, z0i h0]; have hs : (szE t).toNat ≤ 4 ∧ 0 < (szE t).toNat ∧ szE t = ((szE t).toNat : Int) := by
      rw [hsz, ifn k1, ifp k3]; split <;> decide
     obtain ⟨s1, s2, s3⟩ := hs; generalize (szE t).toNat = k at *; rw [s3]; simp only [obs]; rw [ifp (by omega), ifp (by omega), zae (by omega), ctr, itn, List.length_replicate, w6e (by omega) (by omega)]; have lp := zbq (f := z7.r3 N) (fun i => (zgk (fun e => n / 256 ^ e % 256) k i, (k : Int) - 1 - (i : Int), n / 256 ^ i)) k
      (fun i hi => by
       have e2 : (zgk (fun e => n / 256 ^ e % 256) k i).set (k - 1 - i) (n / 256 ^ i % 256) = zgk (fun e => n / 256 ^ e % 256) k (i + 1) := zo3 _ k i hi; have hl : (zgk (fun e => n / 256 ^ e % 256) k i).length = k := zqk _ _ _; have e1 : n / 256 ^ (i + 1) = n / 256 ^ i / 256 := by rw [Int.pow_succ, Int.ediv_ediv_of_nonneg (Int.le_of_lt (Int.pow_pos (by decide)))]
       rw [e1, ← e2]; generalize zgk (fun e => n / 256 ^ e % 256) k i = P at *; simp only [z7.r3, z7.b3, dct (show (k : Int) - 1 - (i : Int) ≥ 0 by omega), ctr, hl]; rw [ifp (by omega), ifp (by omega)]; obtain ⟨x, hx⟩ : ∃ x, P[((k : Int) - 1 - (i : Int)).toNat]? = some x := zeh (by omega); rw [hx]; simp only [obs]; rw [zaax, w6e (by omega) (by omega), show (2 : Int) ^ (min (8 : Int).toNat 64) = 256 from rfl, Int.fdiv_eq_ediv_of_nonneg _ (by decide), show ((k : Int) - 1 - (i : Int)).toNat = k - 1 - i by omega, show (k : Int) - 1 - (i : Int) - 1 = (k : Int) - 1 - ((i + 1 : Nat) : Int) by omega])
      (by simp only [z7.r3, z7.b3, dcf (show ¬ (k : Int) - 1 - (k : Int) ≥ 0 by omega), cfa]) (N := N) (by omega)
     simp only [Int.pow_zero, Int.ediv_one, zo2, Int.natCast_zero, Int.sub_zero, zo4] at lp; rw [lp]; rfl
theorem z74 (N : Nat) (hN : 100 < N) {t : DataType} (ht : zh7 t) (n : Int) (hn : -((10 ^ t.Length.toNat : Nat) : Int) < n ∧ n < ((10 ^ t.Length.toNat : Nat) : Int)) : zik N t ⟨n, ⟨#[]⟩⟩ = some (zqs t n, 0) := by
 unfold zik
 rw [zt1 N hN ht, ifp hn]
 simp only [obs, bsf, cfa, eD]
 rw [z6a N hN ht n hn]
 rfl
theorem z8l {t : DataType} (ht : zh7 t) (n : Int) : ((zqs t n).size : Int) = szE t := by
 obtain ⟨⟨l1, l2⟩, l3, l4⟩ := zf4 ht
 have hsz := zp5 ht
 obtain ⟨h0, h1, h2⟩ := ht
 rw [← zad]
 unfold zqs
 rw [zf8, List.length_map]
 by_cases k3 : t.Kind = 3
 · rw [ifp k3]; unfold z6q; rw [List.length_map, List.length_range]; rw [hsz, ifn (by omega), ifp k3]; split <;> rfl
 · rw [ifn k3]
   by_cases k2 : t.Kind = 2
   · rw [ifp k2]; unfold z1v; rw [lna, List.length_map, List.length_take, zts, lns, hsz, ifn (by omega), ifn k3]; omega
   · rw [ifn k2, zo8 _ _ (ztc l1 n).1, hsz, ifp (by omega)]; omega
theorem z2h (N : Nat) (hN : 100 < N) (k : Nat) (hk : k ≤ 18) : zde N (k : Int) = some ((10 ^ k : Nat) : Int) := by
 unfold zde
 have := zbq (f := zde.r0 N) (fun i => ((k : Int), ((10 ^ i : Nat) : Int), (i : Int))) k
  (fun i hi => by
   have : 10 ^ (i + 1) ≤ 10 ^ 18 := zbz (by omega); rw [Nat.pow_succ] at this; simp only [zde.r0, zde.b0, dct (show (i : Int) < (k : Int) by omega), ctr]; rw [w6e (n := ((10 ^ i : Nat) : Int) * 10) (by omega) (by omega), w6e (by omega) (by omega), Nat.pow_succ]; simp only [Int.natCast_add, Int.natCast_mul, Int.natCast_one]; rfl)
  (by simp only [zde.r0, zde.b0, dcf (show ¬ (k : Int) < (k : Int) by omega), cfa]) (N := N) (by omega)
 simp only [Nat.pow_zero, Int.natCast_zero] at this
 rw [show (1 : Int) = ((1 : Nat) : Int) from rfl, this]
 rfl
theorem z7r (N : Nat) (hN : 100 < N) (n len : Nat) (hn : n ≤ 1000000000000000000) (hl : len ≤ 20) : zcs N (n : Int) (len : Int) = some (zqu n len) := by
 unfold zcs
 have := zbq (f := zcs.r0 N) (fun i => (((n / 10 ^ i : Nat) : Int), zgk (fun e => ((n / 10 ^ e % 10 : Nat) : Int)) len i, (len : Int) - 1 - (i : Int))) len
  (fun i hi => by
   have hl2 : n / 10 ^ i ≤ n := Nat.div_le_self _ _; have hl : (zgk (fun e => ((n / 10 ^ e % 10 : Nat) : Int)) len i).length = len := zqk _ _ _; have e1 : n / 10 ^ (i + 1) = n / 10 ^ i / 10 := by rw [Nat.pow_succ, ← Nat.div_div_eq_div_mul]
   have e2 : (zgk (fun e => ((n / 10 ^ e % 10 : Nat) : Int)) len i).set (len - 1 - i) ((n / 10 ^ i % 10 : Nat) : Int) = zgk (fun e => ((n / 10 ^ e % 10 : Nat) : Int)) len (i + 1) := zo3 _ len i hi; rw [e1, ← e2]; generalize (zgk (fun e => ((n / 10 ^ e % 10 : Nat) : Int)) len i) = P at *; generalize n / 10 ^ i = q at *; simp only [zcs.r0, zcs.b0, dct (show (len : Int) - 1 - (i : Int) ≥ 0 by omega), ctr, hl]; rw [ifp (by omega), ifp (by omega)]; obtain ⟨x, hx⟩ : ∃ x, P[((len : Int) - 1 - (i : Int)).toNat]? = some x := zeh (by omega); rw [hx]; simp only [obs]
   rw [Int.tdiv_eq_ediv_of_nonneg (by omega), Int.tmod_eq_emod_of_nonneg (by omega), w6e (n := (q : Int) / 10) (by omega) (by omega), w6e (n := (len : Int) - 1 - (i : Int) - 1) (by omega) (by omega), show ((len : Int) - 1 - (i : Int)).toNat = len - 1 - i by omega, show (q : Int) % 10 = ((q % 10 : Nat) : Int) by omega, show (q : Int) / 10 = ((q / 10 : Nat) : Int) by omega, show (len : Int) - 1 - (i : Int) - 1 = (len : Int) - 1 - ((i + 1 : Nat) : Int) by omega])
  (by simp only [zcs.r0, zcs.b0, dcf (show ¬ (len : Int) - 1 - (len : Int) ≥ 0 by omega), cfa]) (N := N) (by omega)
 rw [ifp (by omega), ifp (by omega), zae (by omega), ctr, itn, w6e (by omega) (by omega)]
 simp only [Nat.pow_zero, Nat.div_one, zo2, Int.natCast_zero, Int.sub_zero, zo4] at this
 rw [this]
 rfl
theorem zrq (N : Nat) (hN : 100 < N) (v k : Nat) (hv : v < 9223372036854775807) (hk : k ≤ 8) : zag N (v : Int) (k : Int) = some (zc6 (zbb v k)) := by
 unfold zag
 have := zbq (f := zag.r0 N) (fun i => (((v / 256 ^ i : Nat) : Int), (k : Int), zgk (fun e => ((v / 256 ^ e % 256 : Nat) : Int)) k i, (i : Int))) k
  (fun i hi => by
   have hl2 : v / 256 ^ i ≤ v := Nat.div_le_self _ _; have hl : (zgk (fun e => ((v / 256 ^ e % 256 : Nat) : Int)) k i).length = k := zqk _ _ _; have e1 : v / 256 ^ (i + 1) = v / 256 ^ i / 256 := by rw [Nat.pow_succ, ← Nat.div_div_eq_div_mul]
   have e2 : (zgk (fun e => ((v / 256 ^ e % 256 : Nat) : Int)) k i).set (k - 1 - i) ((v / 256 ^ i % 256 : Nat) : Int) = zgk (fun e => ((v / 256 ^ e % 256 : Nat) : Int)) k (i + 1) := zo3 _ k i hi; rw [e1, ← e2]; generalize (zgk (fun e => ((v / 256 ^ e % 256 : Nat) : Int)) k i) = P at *; generalize v / 256 ^ i = q at *; simp only [zag.r0, zag.b0, dct (show (i : Int) < (k : Int) by omega), ctr, hl]; rw [w6e (n := (k : Int) - 1) (by omega) (by omega), w6e (n := (k : Int) - 1 - (i : Int)) (by omega) (by omega), ifp (by omega), ifp (by omega)]; obtain ⟨x, hx⟩ : ∃ x, P[((k : Int) - 1 - (i : Int)).toNat]? = some x := zeh (by omega); rw [hx]; simp only [obs]
   rw [Int.tdiv_eq_ediv_of_nonneg (by omega), Int.tmod_eq_emod_of_nonneg (by omega), w6e (n := (q : Int) / 256) (by omega) (by omega), w6e (n := (i : Int) + 1) (by omega) (by omega), zke (by omega) (by omega), show ((k : Int) - 1 - (i : Int)).toNat = k - 1 - i by omega, show (q : Int) % 256 = ((q % 256 : Nat) : Int) by omega, show (q : Int) / 256 = ((q / 256 : Nat) : Int) by omega]; rfl)
  (by simp only [zag.r0, zag.b0, dcf (show ¬ (k : Int) < (k : Int) by omega), cfa]) (N := N) (by omega)
 rw [ifp (by omega), ifp (by omega), zae (by omega), ctr, itn]
 simp only [Nat.pow_zero, Nat.div_one, zo2, Int.natCast_zero] at this
 rw [this, obs, zo4]
 rfl
theorem z89 (f : Int → Int) (l : List Int) (m i : Nat) {x : Int} (hx : l[i]? = some x) (hm : i < m) : ((l.take i).map f ++ List.replicate (m - i) 0)[i]? = some 0 ∧ ((l.take i).map f ++ List.replicate (m - i) 0).set i (f x) = (l.take (i + 1)).map f ++ List.replicate (m - (i + 1)) 0 := by
 obtain ⟨h1, h2⟩ := List.getElem?_eq_some_iff.1 hx
 have hl : ((l.take i).map f).length = i := by rw [List.length_map, List.length_take]; omega
 have hd : List.replicate (m - i) (0 : Int) = 0 :: List.replicate (m - (i + 1)) 0 := by rw [show m - i = m - (i + 1) + 1 by omega, List.replicate_succ]
 constructor
 · rw [List.getElem?_append_right (by omega), hl, Nat.sub_self, hd]; rfl
 · rw [List.set_append_right _ _ (by omega), hl, Nat.sub_self, hd, zd2 l i hx, List.map_append, List.append_assoc]; rfl
theorem z3o (n : Int) (k : Nat) (m : Nat) (h : (m : Int) = n ∨ (m : Int) = n + (256 ^ k : Nat)) : zbb m k = z6q n k := by
 unfold zbb z6q
 refine List.map_congr_left fun j hj => ?_
 have hjk := List.mem_range.1 hj
 have hc : (256 : Int) ^ (k - 1 - j) = ((256 ^ (k - 1 - j) : Nat) : Int) := by rw [Int.natCast_pow]; rfl
 rw [hc]
 rcases h with h | h
 · rw [← h]; rfl
 · have hk : (256 ^ k : Nat) = 256 ^ (k - 1 - j) * (256 * 256 ^ j) := by
    rw [← Nat.pow_succ', ← Nat.pow_add]; congr 1; omega
   have hp : ((256 ^ (k - 1 - j) : Nat) : Int) ≠ 0 := by
    have : 0 < 256 ^ (k - 1 - j) := Nat.pow_pos (by decide); omega
   have e : ((m / 256 ^ (k - 1 - j) % 256 : Nat) : Int) = (m : Int) / ((256 ^ (k - 1 - j) : Nat) : Int) % 256 := rfl; rw [e, h, hk, Int.natCast_mul, Int.add_mul_ediv_left _ _ hp, Int.natCast_mul]; exact Int.add_mul_emod_self_left _ _ _
theorem z9n (N : Nat) (hN : 100 < N) {t : DataType} (ht : zh7 t) (n : Int) (hn : -((10 ^ t.Length.toNat : Nat) : Int) < n ∧ n < ((10 ^ t.Length.toNat : Nat) : Int)) : zav N t ⟨n, ⟨#[]⟩⟩ = some (zqs t n) := by
 obtain ⟨⟨l1, l2⟩, l3, l4⟩ := zf4 ht
 have hp2 : 10 ^ t.Length.toNat ≤ 10 ^ 15 := zbz (by omega)
 have hsz := zp5 ht
 have ht' := ht
 obtain ⟨h0, h1, h2⟩ := ht'
 have hd := z7r N hN n.natAbs t.Length.toNat (by omega) (by omega)
 rw [Int.toNat_of_nonneg (by omega)] at hd
 unfold zav zqs ze9
 simp only [eD, zam]
 rw [dcf (show ¬ t.Kind = 0 by omega), cfa]
 by_cases k3 : t.Kind = 3
 · rw [dct k3, ctr, ifp k3, zi3 h0]; have hs : (szE t).toNat ≤ 4 ∧ 0 < (szE t).toNat ∧ szE t = ((szE t).toNat : Int) ∧ ((szE t).toNat = 2 ∨ (szE t).toNat = 4) ∧ ((szE t).toNat = 2 → t.Length = 4) := by
    have h9 := h0; unfold zdk at h9; rw [ifn (by omega), ifn (by omega), ifp k3] at h9; rw [hsz, ifn (by omega), ifp k3]; split at h9
    · split
      · exact ⟨by decide, by decide, by decide, by decide, fun h => by cases h⟩
      · exact ⟨by decide, by decide, by decide, by decide, fun _ => by omega⟩
    · cases h9
   obtain ⟨s1, s2, s3, s4, s5⟩ := hs; generalize (szE t).toNat = k at *; rw [s3]; simp only [obs]
   by_cases hneg : n < 0
   · rw [dct hneg, ctr, w6e (n := 8 * (k : Int)) (by omega) (by omega), ifn (by omega)]; have hpow : (1 : Int) * 2 ^ (min (8 * (k : Int)).toNat 64) = ((256 ^ k : Nat) : Int) := by
      rcases s4 with rfl | rfl <;> decide
     have hlow : -((256 ^ k : Nat) : Int) ≤ n := by
      rcases s4 with rfl | rfl
      · have := s5 rfl; rw [this] at hn; have : (10 ^ (4 : Int).toNat : Nat) = 10000 := by decide
        rw [this] at hn; have : (256 ^ 2 : Nat) = 65536 := by decide
        omega
      · have hl9 : 10 ^ t.Length.toNat ≤ 10 ^ 9 := by
         refine zbz ?_; unfold zdk at h0; rw [ifn (by omega), ifn (by omega), ifp k3] at h0; split at h0
         · omega
         · cases h0
        have : (256 ^ 4 : Nat) = 4294967296 := by decide
        omega
     have hup : 256 ^ k ≤ 4294967296 := by rcases s4 with rfl | rfl <;> decide
     rw [hpow, w6e (n := ((256 ^ k : Nat) : Int)) (by omega) (by omega), w6e (by omega) (by omega)]; obtain ⟨m, hm⟩ : ∃ m : Nat, (m : Int) = n + (256 ^ k : Nat) := ⟨(n + (256 ^ k : Nat)).toNat, by omega⟩; rw [← hm, zrq N hN m k (by omega) (by omega), z3o n k m (.inr hm)]; rfl
   · rw [dcf hneg, cfa]; obtain ⟨m, hm⟩ : ∃ m : Nat, (m : Int) = n := ⟨n.toNat, by omega⟩; rw [← hm, zrq N hN m k (by omega) (by omega), z3o (m : Int) k m (.inl rfl)]; rfl
 · rw [dcf k3, cfa, ifn k3, zns (by omega) (by omega)]; simp only [obs]; rw [hd]; simp only [obs]; have hlen := zts n.natAbs t.Length.toNat; have hrange := ztr (n := n.natAbs) (len := t.Length.toNat); have hpac := ztc (t := t) l1 n; have epac : zrt t n = (if t.Length % 2 = 0 then [0] else []) ++ zqu n.natAbs t.Length.toNat ++ [if n < 0 then 13 else 15] := rfl; generalize zqu n.natAbs t.Length.toNat = d at *
   by_cases k2 : t.Kind = 2
   · rw [dct k2, ctr, ifp k2, ifp (by omega), ifp (by omega), zae (by omega), ctr]; have lp := zbq (f := zav.r1 N) (fun i => (d, (d.take i).map (· + 240) ++ List.replicate (d.length - i) 0, (i : Int), t, (⟨n, ⟨#[]⟩⟩ : Value))) d.length
      (fun i hi => by
       obtain ⟨x, hx⟩ : ∃ x, d[i]? = some x := zeh hi; obtain ⟨e1, e2⟩ := z89 (· + 240) d d.length i hx hi; have hxr := hrange x (lmg hx); have hl : ((d.take i).map (· + 240) ++ List.replicate (d.length - i) 0).length = d.length := by rw [lna, List.length_map, List.length_take, List.length_replicate]; omega
       simp only [zav.r1, zav.b1, dct (show (i : Int) < t.Length by omega), ctr, hl]; rw [ifp (by omega), ifp (by omega), itn, hx]; simp only [obs]; rw [ifp (by omega), ifp (by omega), e1]; simp only [obs]; rw [w6e (n := 240 + x) (by omega) (by omega), zke (by omega) (by omega), w6e (by omega) (by omega), Int.add_comm 240 x, e2]; rfl)
      (by simp only [zav.r1, zav.b1, dcf (show ¬ (d.length : Int) < t.Length by omega), cfa]) (N := N) (by omega)
     simp only [List.take_zero, Int.natCast_zero, List.map_nil, List.nil_append, List.take_length, Nat.sub_self, Nat.sub_zero, List.replicate_zero, List.append_nil] at lp; rw [← hlen, lp]; simp only [obs, List.length_map]
     by_cases hneg : n < 0
     · rw [dct hneg, ctr, w6e (n := t.Length - 1) (by omega) (by omega), ifp (by omega), ifp (by omega)]; have hi : t.Length - 1 = ((d.length - 1 : Nat) : Int) := by omega
       have hx : d[d.length - 1]? = some (d.getD (d.length - 1) 0) := by rw [List.getD_eq_getElem?_getD, lge (by omega)]; rfl
       have hxr := hrange _ (lmg hx); rw [hi, itn, hx]; simp only [obs]; rw [ifp (by omega), ifp (by omega), List.getElem?_map, hx]; simp only [Option.map_some, obs]; rw [w6e (by omega) (by omega), zke (by omega) (by omega)]
       congr 2
       conv => lhs; rw [show d.map (· + 240) = (d.take (d.length - 1)).map (· + 240) ++ [d.getD (d.length - 1) 0 + 240] from zpq (by omega)]
       have hl : ((d.take (d.length - 1)).map (· + 240)).length = d.length - 1 := by rw [List.length_map, List.length_take]; omega
       rw [List.set_append_right _ _ (by omega), hl, Nat.sub_self]; unfold z1v
       congr 1
       show [_] = [_]
       congr 1
       simp only [ctr]; omega
     · rw [dcf hneg, cfa, zpq (by omega)]
   · rw [dcf k2, cfa, ifn k2]; have lp : ∀ (l : List Int) (m : Nat), l.length = 2 * m → m ≤ 20 → (∀ d ∈ l, 0 ≤ d ∧ d < 16) → zl (zav.r3 N) N (l, List.replicate m 0, 0) = some (l, zje l, (m : Int)) := fun l m hl hm hr => by
      have := zbq (f := zav.r3 N) (fun i => (l, zje (l.take (2 * i)) ++ List.replicate (m - i) 0, (i : Int))) m
       (fun i hi => by
        obtain ⟨x, hx⟩ : ∃ x, l[2 * i]? = some x := zeh (by omega); obtain ⟨y, hy⟩ : ∃ y, l[2 * i + 1]? = some y := zeh (by omega); obtain ⟨x1, x2⟩ := hr x (lmg hx); obtain ⟨y1, y2⟩ := hr y (lmg hy); have hlt : (l.take (2 * i)).length = 2 * i := by rw [List.length_take]; omega
        have hpl := zo8 i _ hlt; have hl2 : (zje (l.take (2 * i)) ++ List.replicate (m - i) 0).length = m := by rw [lna, hpl, List.length_replicate]; omega
        have hd : List.replicate (m - i) (0 : Int) = 0 :: List.replicate (m - (i + 1)) 0 := by rw [show m - i = m - (i + 1) + 1 by omega, List.replicate_succ]
        have e1 : (zje (l.take (2 * i)) ++ List.replicate (m - i) 0)[i]? = some 0 := by rw [List.getElem?_append_right (by omega), hpl, Nat.sub_self, hd]; rfl
        have e2 : (zje (l.take (2 * i)) ++ List.replicate (m - i) 0).set i (16 * x + y) = zje (l.take (2 * (i + 1))) ++ List.replicate (m - (i + 1)) 0 := by
         rw [List.set_append_right _ _ (by omega), hpl, Nat.sub_self, hd, show 2 * (i + 1) = 2 * i + 1 + 1 by omega, zd2 _ _ hy, zd2 _ _ hx, List.append_assoc, show ([x] ++ [y] : List Int) = [x, y] from rfl, ztb i _ _ _ hlt, List.append_assoc]; rfl
        simp only [zav.r3, zav.b3, hl2, dct (show (i : Int) < (m : Int) by omega), ctr]; rw [w6e (n := 2 * (i : Int)) (by omega) (by omega), w6e (n := 2 * (i : Int) + 1) (by omega) (by omega), ifp (by omega), ifp (by omega), show (2 * (i : Int)).toNat = 2 * i by omega, hx]; simp only [obs]; rw [ifp (by omega), ifp (by omega), show (2 * (i : Int) + 1).toNat = 2 * i + 1 by omega, hy]; simp only [obs]; rw [ifp (by omega), ifp (by omega), itn, e1]; simp only [obs]; rw [w6e (n := 16 * x) (by omega) (by omega), w6e (n := 16 * x + y) (by omega) (by omega), zke (by omega) (by omega), w6e (by omega) (by omega), e2]; rfl)
       (by simp only [zav.r3, zav.b3]; rw [lna, zo8 m _ (by rw [List.length_take]; omega), Nat.sub_self, List.length_replicate, Nat.add_zero, dcf (show ¬ (m : Int) < (m : Int) by omega), cfa]) (N := N) (by omega)
      simp only [Nat.mul_zero, List.take_zero, Int.natCast_zero, Nat.sub_zero, Nat.sub_self, List.replicate_zero, List.append_nil] at this; rw [show zje [] = [] from rfl, List.nil_append, ← hl, List.take_length] at this; exact this
     have lpp := lp (zrt t n) _ hpac.1 (by omega) hpac.2; have hpl := hpac.1; rw [zg5, show decide (t.Length.tmod 2 = 0) = decide (t.Length % 2 = 0) by rw [Int.tmod_eq_emod_of_nonneg (by omega)]]; simp only [obs]; have hsg : w6 (15 - w6 (2 * cond (decide (n < 0)) 1 0)) = if n < 0 then 13 else 15 := by
      by_cases hneg : n < 0
      · rw [dct hneg, ifp hneg]; decide
      · rw [dcf hneg, ifn hneg]; decide
     rw [hsg]
     by_cases he : t.Length % 2 = 0
     · rw [ifp he] at epac; rw [dct he, ctr, zae (by simp only [List.length_cons, List.length_nil]; omega), ctr, ← epac, zae (by simp only [lna, List.length_cons, List.length_nil]; omega), ctr, Int.tdiv_eq_ediv_of_nonneg (by omega), w6e (by omega) (by omega), ifp (by omega), ifp (by omega), zae (by omega), ctr, show ((zrt t n).length : Int) / 2 = ((t.Length.toNat / 2 + 1 : Nat) : Int) by omega, itn, lpp]; rfl
     · rw [ifn he, List.nil_append] at epac; rw [dcf he, cfa, zae (by simp only [List.length_cons, List.length_nil]; omega), ctr, ← epac, Int.tdiv_eq_ediv_of_nonneg (by omega), w6e (by omega) (by omega), ifp (by omega), ifp (by omega), zae (by omega), ctr, show ((zrt t n).length : Int) / 2 = ((t.Length.toNat / 2 + 1 : Nat) : Int) by omega, itn, lpp]; rfl
end
end Go.Proofs.YtppbpnknfigboaaGreatDoor.M
