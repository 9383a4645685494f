/- HardwareStates: the law answers true for every input of bulk at most 1048576, and its arguments read as they did; by the seat's second form, tied to the program's text. -/
import Derived.Test.YtppbpnknfigboaaGreatDoorF1
import Derived.Test.YtppbpnknfigboaaGreatDoorA3
import Derived.Test.YtppbpnknfigboaaGreatDoorWHardwareStates
import Derived.Lib.Strings
namespace Go.Proofs.YtppbpnknfigboaaGreatDoor.M
open Go Go.Amx
set_option linter.unusedVariables false
set_option linter.unusedSimpArgs false
set_option maxRecDepth 100000
noncomputable section
theorem obs {α β : Type} (a : α) (f : α → Option β) : (some a).bind f = f a := rfl
theorem dct {p : Prop} [Decidable p] (h : p) : decide p = true := decide_eq_true h
theorem dcf {p : Prop} [Decidable p] (h : ¬ p) : decide p = false := decide_eq_false h
theorem lna {α : Type} {a b : List α} : (a ++ b).length = a.length + b.length := List.length_append
theorem lns {α : Type} {a : α} : [a].length = 1 := List.length_singleton
theorem lge {α : Type} {l : List α} {i : Nat} (h : i < l.length) : l[i]? = some l[i] := List.getElem?_eq_getElem h
theorem itn (n : Nat) : Int.toNat (n : Int) = n := Int.toNat_natCast n
theorem ctr {α : Sort _} (a b : α) : cond true a b = a := rfl
theorem cfa {α : Sort _} (a b : α) : cond false a b = b := rfl
theorem ifp {c : Prop} {h : Decidable c} (hc : c := by omega) {α : Sort _} {t e : α} : ite c t e = t := if_pos hc
theorem ifn {c : Prop} {h : Decidable c} (hc : ¬c := by omega) {α : Sort _} {t e : α} : ite c t e = e := if_neg hc
theorem bsf {α : Type _} [BEq α] [LawfulBEq α] (a : α) : (a != a) = false := bne_self_eq_false a
theorem tde {a b : Int} (h : 0 ≤ a := by omega) : a.tdiv b = a / b := Int.tdiv_eq_ediv_of_nonneg h
theorem tme {a b : Int} (h : 0 ≤ a := by omega) : a.tmod b = a % b := Int.tmod_eq_emod_of_nonneg h
theorem lnt {α : Type _} {i : Nat} {l : List α} : (l.take i).length = min i l.length := List.length_take
theorem lnr {α : Type _} {n : Nat} {a : α} : (List.replicate n a).length = n := List.length_replicate
theorem gdd {α : Type _} {l : List α} {i : Nat} {a : α} : l.getD i a = l[i]?.getD a := List.getD_eq_getElem?_getD
theorem nc0 : ((0 : Nat) : Int) = 0 := Int.natCast_zero
theorem bst {α : Type _} [BEq α] [ReflBEq α] (a : α) : (a == a) = true := beq_self_eq_true a
theorem lmg {α : Type _} {l : List α} {i : Nat} {a : α} (h : l[i]? = some a) : a ∈ l := List.mem_of_getElem? h
theorem w6e {n : Int} (h1 : -9223372036854775808 ≤ n := by omega) (h2 : n ≤ 9223372036854775807 := by omega) : w6 n = n := z2v h1 h2
theorem zms (N : Nat) (l : List Int) (h : l.length < N) (hl : l.length < 1000000000) : zq N l = some (zc8 l) := by
 unfold zq
 have := zbn (f := zq.r0 N) (fun i => (l, (l.length : Int), (i : Int))) (fun i => (l[i]?).bind fun x => if x = 0 then none else some x) l.length
  (fun i hi => by
   have hx := lge hi; simp only [zq.r0, zq.b0, zba, hx, obs, dct (show (i : Int) < (l.length : Int) by omega), ctr]
   by_cases h0 : l[i] = 0
   · simp only [h0, bsf, cfa, if_true]; rw [w6e]; rfl
   · simp only [h0, if_false]; rw [show (l[i] != 0) = true by simpa using h0]; rfl)
  (by simp only [zq.r0, zq.b0, dcf (show ¬ (l.length : Int) < (l.length : Int) by omega), cfa]) h
 simp only [nc0] at this
 rw [this, zn2, ← zqb]
 simp only [obs]
 cases l.findSome? (fun x => if x = 0 then none else some x) <;> rfl
theorem z0o (N : Nat) (l : List Int) (h : l.length < N) (hl : l.length < 1000000000) : zm N l = some (zc8 l) := by
 unfold zm
 have := zbn (f := zm.r0 N) (fun i => (l, (l.length : Int), (i : Int))) (fun i => (l[i]?).bind fun x => if x = 0 then none else some x) l.length
  (fun i hi => by
   have hx := lge hi; simp only [zm.r0, zm.b0, zba, hx, obs, dct (show (i : Int) < (l.length : Int) by omega), ctr]
   by_cases h0 : l[i] = 0
   · simp only [h0, bsf, cfa, if_true]; rw [w6e]; rfl
   · simp only [h0, if_false]; rw [show (l[i] != 0) = true by simpa using h0]; rfl)
  (by simp only [zm.r0, zm.b0, dcf (show ¬ (l.length : Int) < (l.length : Int) by omega), cfa]) h
 simp only [nc0] at this
 rw [this, zn2, ← zqb]
 simp only [obs]
 cases l.findSome? (fun x => if x = 0 then none else some x) <;> rfl
def inB (n lo hi : Int) : Bool := decide (lo ≤ n) && decide (n ≤ hi)
theorem zlh (n lo hi : Int) : zn n lo hi = some (inB n lo hi) := by
 unfold zn inB
 cases decide (lo ≤ n) <;> rfl
theorem z1g (n lo hi : Int) : zch n lo hi = some (inB n lo hi) := by
 unfold zch inB
 cases decide (lo ≤ n) <;> rfl
theorem zgt (n lo hi : Int) : zc n lo hi = some (inB n lo hi) := by
 unfold zc inB
 cases decide (lo ≤ n) <;> rfl
theorem zk5 (b : Bool) (e : Int) : zw b e = some (cond b e 0) := by cases b <;> rfl
theorem zw4 (b : Bool) (e : Int) : zab b e = some (cond b e 0) := by cases b <;> rfl
theorem zon (b : Bool) : zci b = some (cond b 1 0) := by cases b <;> rfl
theorem zsw (m : HwModel) : ∃ e, zd3 m = some e ∧ zf8 m = some e ∧ (e = 0 → 2 ≤ m.Registers ∧ m.Registers ≤ 8) := by
 refine ⟨cond (!inB m.Registers 2 8) 3 0, ?_, ?_, ?_⟩
 · simp only [zd3, zlh, zk5, obs]
 · simp only [zf8, zgt, obs]; cases inB m.Registers 2 8 <;> rfl
 · intro h; cases hb : inB m.Registers 2 8 with
   | false => rw [hb] at h; cases h
   | true => simpa [inB] using hb
def zda (t : DataType) : Int :=
 if t.Kind = 0 then (if inB t.Length 1 256 then (if t.Scale = 0 then 0 else 3) else 18)
 else if t.Kind = 1 ∨ t.Kind = 2 then (if inB t.Length 1 15 then (if inB t.Scale 0 t.Length then 0 else 3) else 18)
 else if t.Kind = 3 then (if t.Length = 4 ∨ t.Length = 9 then (if inB t.Scale 0 t.Length then 0 else 3) else 18)
 else if t.Kind = 4 then (if t.Length = 0 then (if t.Scale = 0 then 0 else 3) else 18)
 else 4
theorem z3r (a b : Bool) (x y : Int) (hx : x ≠ 0) (hy : y ≠ 0) : zc8 [cond a x 0, cond b y 0] = cond a x (cond b y 0) := by
 cases a <;> cases b <;> simp [zc8, hx, hy]
theorem zw3 (N : Nat) (hN : 10 < N) (t : DataType) : zaj N t = some (zda t) := by
 have f2 : ∀ a b : Int, zm N [a, b] = some (zc8 [a, b]) := fun a b => z0o N _ (by simp; omega) (by simp)
 unfold zaj zda
 simp only [z1g, zw4, f2, obs, z3r _ _ 18 3 (by decide) (by decide)]
 by_cases h0 : t.Kind = 0
 · simp only [h0, bst, ctr, if_true]; cases inB t.Length 1 256 <;> by_cases hs : t.Scale = 0 <;> simp [ze5, hs]
 · simp only [beq_eq_false_iff_ne.2 h0, h0, cfa, if_false]
   by_cases h1 : t.Kind = 1
   · simp only [h1, bst, ctr, true_or, if_true, obs]; cases inB t.Length 1 15 <;> cases inB t.Scale 0 t.Length <;> simp
   · by_cases h2 : t.Kind = 2
     · simp only [h2, h1]; cases inB t.Length 1 15 <;> cases inB t.Scale 0 t.Length <;> simp
     · by_cases h3 : t.Kind = 3
       · simp only [h3]
         by_cases h4 : t.Length = 4 <;> by_cases h5 : t.Length = 9 <;> cases inB t.Scale 0 t.Length <;> simp [ze5, h4, h5]
       · by_cases h4 : t.Kind = 4
         · simp only [h4]
           by_cases h5 : t.Length = 0 <;> by_cases h6 : t.Scale = 0 <;> simp [ze5, h5, h6]
         · simp [ze5, h1, h2, h3, h4]
theorem zsr (k : Int) : zca k = some (inB k 1 3) := by simp only [zca, zgt, obs]
theorem z1z (t : DataType) : zgq t = some (zda t) := by
 have w0' : w6 0 = 0 := by decide
 have w1 : w6 3 = 3 := by decide
 have hz : inB t.Scale 0 0 = decide (t.Scale = 0) := by
  unfold inB
  by_cases h : t.Scale = 0
  · simp [h]
  · simp only [h, decide_false]
    by_cases h1 : 0 ≤ t.Scale
    · simp [h1, show ¬ t.Scale ≤ 0 by omega]
    · simp [h1]
 unfold zgq zda
 simp only [zgt, zsr, zon, obs, hz]
 by_cases h0 : t.Kind = 0
 · have e : inB (0 : Int) 0 4 = true := by decide
   have e' : inB (0 : Int) 1 3 = false := by decide
   simp only [h0, e, e']; cases inB t.Length 1 256 <;> by_cases hs : t.Scale = 0 <;> simp [ze5, hs, w0', w1]
 · by_cases h1 : t.Kind = 1
   · have e : inB (1 : Int) 0 4 = true := by decide
     have e' : inB (1 : Int) 1 3 = true := by decide
     simp only [h1, e, e']; cases inB t.Length 1 15 <;> cases inB t.Scale 0 t.Length <;> simp [w0', w1]
   · by_cases h2 : t.Kind = 2
     · have e : inB (2 : Int) 0 4 = true := by decide
       have e' : inB (2 : Int) 1 3 = true := by decide
       simp only [h2, e, e']; cases inB t.Length 1 15 <;> cases inB t.Scale 0 t.Length <;> simp [w0', w1]
     · by_cases h3 : t.Kind = 3
       · have e : inB (3 : Int) 0 4 = true := by decide
         have e' : inB (3 : Int) 1 3 = true := by decide
         simp only [h3, e, e']
         by_cases h4 : t.Length = 4 <;> by_cases h5 : t.Length = 9 <;> cases inB t.Scale 0 t.Length <;> simp [ze5, h4, h5, w0', w1]
       · by_cases h4 : t.Kind = 4
         · have e : inB (4 : Int) 0 4 = true := by decide
           have e' : inB (4 : Int) 1 3 = false := by decide
           simp only [h4, e, e']
           by_cases h5 : t.Length = 0 <;> by_cases h6 : t.Scale = 0 <;> simp [ze5, h5, h6, w0', w1]
         · have e : inB t.Kind 0 4 = false := by
            unfold inB
            by_cases hh : 0 ≤ t.Kind
            · simp only [hh, decide_true, Bool.true_and, decide_eq_false_iff_not]; omega
            · simp [hh]
           simp [ze5, h0, h1, h2, h3, h4, e]
theorem zj1 {n lo hi : Int} : inB n lo hi = true ↔ lo ≤ n ∧ n ≤ hi := by simp [inB]
theorem zj8 {t : DataType} (h : zda t = 0) : (t.Kind = 0 ∧ 1 ≤ t.Length ∧ t.Length ≤ 256) ∨ ((t.Kind = 1 ∨ t.Kind = 2) ∧ 1 ≤ t.Length ∧ t.Length ≤ 15) ∨ (t.Kind = 3 ∧ (t.Length = 4 ∨ t.Length = 9)) ∨ (t.Kind = 4 ∧ t.Length = 0) := by
 unfold zda at h
 split at h
 · rename_i h0; split at h
   · rename_i h1; exact .inl ⟨h0, (zj1.1 h1).1, (zj1.1 h1).2⟩
   · cases h
 · split at h
   · rename_i h0; split at h
     · rename_i h1; exact .inr (.inl ⟨h0, (zj1.1 h1).1, (zj1.1 h1).2⟩)
     · cases h
   · split at h
     · rename_i h0; split at h
       · rename_i h1; exact .inr (.inr (.inl ⟨h0, h1⟩))
       · cases h
     · split at h
       · rename_i h0; split at h
         · rename_i h1; exact .inr (.inr (.inr ⟨h0, h1⟩))
         · cases h
       · cases h
def szE (t : DataType) : Int := if t.Kind = 1 then t.Length / 2 + 1 else if t.Kind = 3 then (if t.Length = 9 then 4 else 2) else if t.Kind = 4 then 16 else t.Length
theorem zww {t : DataType} (h : zda t = 0) : 0 < szE t ∧ szE t ≤ 256 := by
 unfold szE
 rcases zj8 h with ⟨h0, h1, h2⟩ | ⟨h0 | h0, h1, h2⟩ | ⟨h0, h1 | h1⟩ | ⟨h0, h1⟩ <;> simp only [h0] <;> simp <;> omega
theorem ztf {t : DataType} (h : zda t = 0) : zex t = some (szE t) := by
 unfold zex szE
 rcases zj8 h with ⟨h0, h1, h2⟩ | ⟨h0 | h0, h1, h2⟩ | ⟨h0, h1 | h1⟩ | ⟨h0, h1⟩ <;> simp only [h0, h1, ze5, zon] <;> simp
 · rw [tde, w6e (n := t.Length / 2), w6e]
 · decide
 · decide
theorem z2g {t : DataType} (h : zda t = 0) : zd4 t = some (szE t) := by
 unfold zd4 szE
 rcases zj8 h with ⟨h0, h1, h2⟩ | ⟨h0 | h0, h1, h2⟩ | ⟨h0, h1 | h1⟩ | ⟨h0, h1⟩ <;> simp only [h0, h1, ze5] <;> simp
 · rw [tde, w6e (n := t.Length / 2), w6e]
 · decide
 · decide
theorem z2k (N : Nat) (hN : 10 < N) {t : DataType} (h : zda t = 0) : zdl N t = some (szE t) := by
 unfold zdl zg8
 rw [zw3 N hN, h]
 simp [z2g h]
structure StoOk (s : Storage) : Prop where
 le : s.Bytes.size ≤ 1024
 quad : s.Bytes.size % 16 = 0
def zhl (s : Storage) (a : Int) : Bool := decide (0 ≤ a) && (decide (a % 16 = 0) && decide (a < (s.Bytes.size : Int)))
theorem zw5 (s : Storage) (a : Int) : zcc s a = some (zhl s a) := by
 unfold zcc zhl
 by_cases h : 0 ≤ a
 · rw [tme h]; simp only [ge_iff_le, h, decide_true, ctr, obs, ze5, Bool.true_and]; cases decide (a % 16 = 0) <;> rfl
 · simp [h]
theorem zw2 {s : Storage} (ok : StoOk s) (a : Int) : zb8 s a = some (zhl s a) := by
 have h1 := ok.le
 have h2 := ok.quad
 unfold zb8 zhl
 rw [w6e, zgt]
 simp only [obs]
 by_cases h : 0 ≤ a
 · rw [tme h]; simp only [inB, h, decide_true, Bool.true_and, ze5]
   by_cases h3 : a % 16 = 0
   · have e : decide (a ≤ (s.Bytes.size : Int) - 16) = decide (a < (s.Bytes.size : Int)) := by
      by_cases h4 : a < (s.Bytes.size : Int)
      · rw [dct h4]; exact dct (by omega)
      · rw [dcf h4]; exact dcf (by omega)
     simp only [h3, decide_true, Bool.true_and, e]; cases decide (a < (s.Bytes.size : Int)) <;> rfl
   · simp only [h3, decide_false, Bool.false_and]; cases decide (a ≤ (s.Bytes.size : Int) - 16) <;> rfl
 · simp [inB, h]
def zfz (s : Storage) (p : HwPlace) (n : Int) : Bool := if p.Based then zhl s p.Pointer && inB p.Offset 0 256 else inB p.Offset 0 ((s.Bytes.size : Int) - n)
theorem zvn {s : Storage} (ok : StoOk s) (N : Nat) (hN : 10 < N) (p : HwPlace) {t : DataType} (h : zda t = 0) : zbv N s p t = some (zfz s p (szE t)) := by
 obtain ⟨h1, h2⟩ := zww h
 have h3 := ok.le
 unfold zbv zfz
 rw [zw5, z2k N hN h, zlh]
 simp only [obs]
 rw [w6e]
 simp only [zlh, obs]
 cases p.Based <;> cases zhl s p.Pointer <;> simp
theorem zu0 {s : Storage} (ok : StoOk s) {c : HwCode} (hc : c.Storage = s) (p : HwPlace) (hp : -9223372036854775808 ≤ p.Offset ∧ p.Offset ≤ 9223372036854775807) {t : DataType} (h : zda t = 0) : zcw c p (szE t) = some (zfz s p (szE t)) := by
 obtain ⟨h1, h2⟩ := zww h
 have h3 := ok.le
 unfold zcw zfz zhq
 rw [hc]
 simp only [zw2 ok, zgt, obs]
 cases p.Based with
 | true => cases zhl s p.Pointer <;> simp
 | false =>
  simp only [cfa]
  by_cases h4 : inB p.Offset 0 (s.Bytes.size : Int) = true
  · obtain ⟨h5, h6⟩ := zj1.1 h4; rw [w6e]; simp only [h4, ctr, obs, Bool.false_eq_true, if_false]
    congr 1
    unfold inB; simp only [h5, decide_true, Bool.true_and, show (0 : Int) ≤ szE t by omega]
    by_cases h7 : szE t ≤ (s.Bytes.size : Int) - p.Offset
    · rw [dct h7]; exact (dct (by omega)).symm
    · rw [dcf h7]; exact (dcf (by omega)).symm
  · have e : inB p.Offset 0 (s.Bytes.size : Int) = false := by simpa using h4
    simp only [e, cfa, obs, Bool.false_eq_true, if_false]
    congr 1
    cases h5 : inB p.Offset 0 ((s.Bytes.size : Int) - szE t) with
    | false => rfl
    | true =>
     obtain ⟨h6, h7⟩ := zj1.1 h5; exact absurd (zj1.2 ⟨h6, by omega⟩) h4
def zjt (n : Number) : Int := cond (inB n.N (-999999999999999) 999999999999999 && inB n.Scale 0 15) 0 3
theorem zt2 (n : Number) : z7 n = some (zjt n) := by
 unfold z7 zjt
 simp only [z1g, zw4, obs]
 cases inB n.N (-999999999999999) 999999999999999 <;> cases inB n.Scale 0 15 <;> rfl
theorem ztw (n : Number) : zb9 n = some (zjt n) := by
 have w0 : w6 (3 * 0) = 0 := by decide
 have w1 : w6 (3 * 1) = 3 := by decide
 unfold zb9 zjt
 simp only [zgt, zon, obs]
 cases inB n.N (-999999999999999) 999999999999999 <;> cases inB n.Scale 0 15 <;> simp [w0, w1, zon] <;> decide
def z1m (op : Int) (ins : Bool) : Option hardware_form :=
 (idx zx6 op).bind fun x1 => (cond (op == 4) (some ins) (some false)).bind fun g2 =>
  cond g2 (some (⟨(orI .i64 (orI .i64 (zxf .i64 x1.fields 4) 8) 64), x1.types⟩ : hardware_form)) (some x1)
theorem z3s (x : HwInstruction) : zat x = z1m x.Op x.InStorage := rfl
def z09 (op : Int) (ins : Bool) : Option ref15_fields := zea ⟨op, 0, 0, 0, 0, ⟨false, 0, 0⟩, ⟨false, 0, 0⟩, ⟨0, 0, 0⟩, ⟨0, 0, 0⟩, false, ins, ⟨0, 0⟩, ⟨#[]⟩, ⟨#[]⟩, 0, 0, 0, 0⟩
theorem z2w (x : HwInstruction) : zea x = z09 x.Op x.InStorage := rfl
structure Agree (f : hardware_form) (u : ref15_fields) : Prop where
 R : (zd .i64 f.fields 1 != 0) = u.R
 A : (zd .i64 f.fields 2 != 0) = u.A
 B : (zd .i64 f.fields 4 != 0) = u.B
 Place : (zd .i64 f.fields 8 != 0) = u.Place
 From : (zd .i64 f.fields 16 != 0) = u.From
 Type_ : (zd .i64 f.fields 32 != 0) = (u.Type_ != 0)
 Second : (zd .i64 f.fields 64 != 0) = (u.Second != 0)
 Half : (zd .i64 f.fields 128 != 0) = u.Half
 Number : (zd .i64 f.fields 256 != 0) = u.Number
 Text : (zd .i64 f.fields 512 != 0) = u.Text
 Other : (zd .i64 f.fields 1024 != 0) = u.Other
 Mask : (zd .i64 f.fields 2048 != 0) = u.Mask
 Target : (zd .i64 f.fields 4096 != 0) = u.Target
 Pointer : (zd .i64 f.fields 8192 != 0) = u.Pointer
 Source : (zd .i64 f.fields 16384 != 0) = u.Source
 Calc : (zd .i64 f.fields 32768 != 0) = u.Calculation
 class1 : u.Type_ = 0 ∨ u.Type_ = f.types
 class2 : u.Second = 0 ∨ u.Second = f.types
 cls : f.types = 0 ∨ f.types = 1 ∨ f.types = 2 ∨ f.types = 3
def zv8 (f : hardware_form) (u : ref15_fields) : Bool :=
 ((zd .i64 f.fields 1 != 0) == u.R) && (((zd .i64 f.fields 2 != 0) == u.A) && (((zd .i64 f.fields 4 != 0) == u.B) && (((zd .i64 f.fields 8 != 0) == u.Place) && (((zd .i64 f.fields 16 != 0) == u.From) &&
 (((zd .i64 f.fields 32 != 0) == (u.Type_ != 0)) && (((zd .i64 f.fields 64 != 0) == (u.Second != 0)) && (((zd .i64 f.fields 128 != 0) == u.Half) && (((zd .i64 f.fields 256 != 0) == u.Number) && (((zd .i64 f.fields 512 != 0) == u.Text) &&
 (((zd .i64 f.fields 1024 != 0) == u.Other) && (((zd .i64 f.fields 2048 != 0) == u.Mask) && (((zd .i64 f.fields 4096 != 0) == u.Target) && (((zd .i64 f.fields 8192 != 0) == u.Pointer) && (((zd .i64 f.fields 16384 != 0) == u.Source) &&
 (((zd .i64 f.fields 32768 != 0) == u.Calculation) && ((u.Type_ == 0 || u.Type_ == f.types) && ((u.Second == 0 || u.Second == f.types) && (f.types == 0 || (f.types == 1 || (f.types == 2 || f.types == 3))))))))))))))))))))
theorem z05 {f : hardware_form} {u : ref15_fields} (h : zv8 f u = true) : Agree f u := by
 simp only [zv8, Bool.and_eq_true, beq_iff_eq, Bool.or_eq_true] at h
 obtain ⟨h1, h2, h3, h4, h5, h6, h7, h8, h9, h10, h11, h12, h13, h14, h15, h16, h17, h18, h19⟩ := h
 exact ⟨h1, h2, h3, h4, h5, h6, h7, h8, h9, h10, h11, h12, h13, h14, h15, h16, h17, h18, h19⟩
def zx1 (op : Int) (ins : Bool) : Bool := match z1m op ins, z09 op ins with
 | some f, some u => (zv8 f u && ((!u.From || u.Second != 0) && (!u.Place || cond (op == 4) (u.Second != 0) (u.Type_ != 0)))) && (cond (op == 4) (u.R && u.A && u.Calculation && (u.Place == ins) && (u.Second != 0) == ins) (u.Calculation == false))
 | _, _ => false
theorem z3e : ((List.range 27).all fun k => zx1 (k : Int) true && zx1 (k : Int) false) = true := by kernel_rfl
theorem zzl (x : HwInstruction) (h : inB x.Op 0 26 = true) : ∃ f u, zat x = some f ∧ zea x = some u ∧ Agree f u ∧ (x.Op = 4 → u.Place = x.InStorage) ∧ (u.From = true → u.Second ≠ 0) ∧ (u.Place = true → if x.Op = 4 then u.Second ≠ 0 else u.Type_ ≠ 0) := by
 obtain ⟨h1, h2⟩ := zj1.1 h
 obtain ⟨k, hk⟩ : ∃ k : Nat, x.Op = (k : Int) := ⟨x.Op.toNat, by omega⟩
 have hlt : k < 27 := by omega
 have h3 := List.all_eq_true.1 z3e k (by simpa using hlt)
 have h4 : zx1 x.Op x.InStorage = true := by
  rw [hk]; cases x.InStorage
  · exact ((Bool.and_eq_true _ _).mp h3).2
  · exact ((Bool.and_eq_true _ _).mp h3).1
 rw [z3s, z2w]
 unfold zx1 at h4
 split at h4
 · rename_i f u hf hu; obtain ⟨h5, h6⟩ := (Bool.and_eq_true _ _).mp h4; simp only [Bool.and_eq_true] at h5; obtain ⟨h5, h8, h9⟩ := h5; refine ⟨f, u, hf, hu, z05 h5, fun h7 => ?_, fun h7 => ?_, fun h7 => ?_⟩
   · rw [h7] at h6; simp only [bst, ctr, Bool.and_eq_true, beq_iff_eq] at h6; exact h6.1.2
   · rw [h7] at h8; simpa using h8
   · rw [h7] at h9; split
     · rename_i h10; rw [h10] at h9; simpa using h9
     · rename_i h10; rw [ze5, dcf h10] at h9; simpa using h9
 · cases h4
theorem zob (a b : Int) : (a == b) = !(a != b) := by simp [bne]
def zkj (x : HwInstruction) (u : ref15_fields) : Bool :=
 (!u.R && x.R != 0) || ((!u.A && x.A != 0) || ((!u.B && x.B != 0) || ((!u.Calculation && x.Calculation != 0) || ((!u.Place && !(!x.Place.Based && (x.Place.Pointer == 0 && x.Place.Offset == 0))) ||
 ((!u.From && !(!x.From.Based && (x.From.Pointer == 0 && x.From.Offset == 0))) || ((u.Type_ == 0 && !(x.Type_.Kind == 0 && (x.Type_.Length == 0 && x.Type_.Scale == 0))) || ((u.Second == 0 && !(x.Second.Kind == 0 && (x.Second.Length == 0 && x.Second.Scale == 0))) ||
 ((!u.Half && x.Half) || ((x.Op != 4 && x.InStorage) || ((!u.Number && !(x.Number.N == 0 && x.Number.Scale == 0)) || ((!u.Text && !(x.Text.toList == [])) || ((!u.Other && !(x.Other.toList == [])) ||
 ((!u.Mask && x.Mask != 0) || ((!u.Target && x.Target != 0) || ((!u.Pointer && x.Pointer != 0) || ((!u.Source && x.Source != 0) || ((!x.Place.Based && x.Place.Pointer != 0) || (!x.From.Based && x.From.Pointer != 0))))))))))))))))))
theorem orB (a b : Bool) : (cond a (some true) (some b)) = some (a || b) := by cases a <;> rfl
theorem ziq (a b : Bool) : (cond a (some b) (some false)) = some (a && b) := by cases a <;> rfl
theorem z0g (x : HwInstruction) (u : ref15_fields) : zf7 x u = some (zkj x u) := by
 unfold zf7 zkj
 have e : (⟨#[]⟩ : ByteArray).toList = [] := by kernel_rfl
 simp only [ziq, orB, obs, zdz, Bool.and_true, e, Bool.or_assoc, beq_false]
def zlq (p : HwPlace) (b : Bool) : HwPlace := cond b (cond p.Based p ⟨p.Based, 0, p.Offset⟩) ⟨false, 0, 0⟩
theorem zzj (p : HwPlace) (b : Bool) : ze7 p b = some (zlq p b) := by
 unfold ze7 zlq
 cases b <;> cases p.Based <;> rfl
theorem z4q (k v fl : Int) : za8 k v fl = some (cond (zd .i64 fl k != 0) v 0) := by
 unfold za8
 rw [zob]
 cases (zd .i64 fl k != 0) <;> rfl
def zuf (x : HwInstruction) (u : ref15_fields) : HwInstruction :=
 ⟨x.Op, cond u.R x.R 0, cond u.A x.A 0, cond u.B x.B 0, cond u.Calculation x.Calculation 0, zlq x.Place u.Place, zlq x.From u.From, cond (u.Type_ != 0) x.Type_ ⟨0, 0, 0⟩, cond (u.Second != 0) x.Second ⟨0, 0, 0⟩,
  cond x.Half u.Half false, cond x.InStorage (x.Op == 4) false, cond u.Number x.Number ⟨0, 0⟩, cond u.Text x.Text ⟨#[]⟩, cond u.Other x.Other ⟨#[]⟩, cond u.Mask x.Mask 0, cond u.Target x.Target 0, cond u.Pointer x.Pointer 0, cond u.Source x.Source 0⟩
theorem z2n {x : HwInstruction} {f : hardware_form} {u : ref15_fields} (hf : zat x = some f) (ag : Agree f u) : zgr x = some (zuf x u) := by
 have b2 : ∀ a b : Bool, (cond a (some b) (some false)) = some (cond a b false) := fun a b => by cases a <;> rfl
 unfold zgr zuf
 simp only [hf, z4q, zzj, b2, obs, zob (zd .i64 f.fields 32), zob (zd .i64 f.fields 64), zob (zd .i64 f.fields 256), zob (zd .i64 f.fields 512), zob (zd .i64 f.fields 1024),
  ag.R, ag.A, ag.B, ag.Place, ag.From, ag.Type_, ag.Second, ag.Half, ag.Number, ag.Text, ag.Other, ag.Mask, ag.Target, ag.Pointer, ag.Source, ag.Calc]
 cases (u.Type_ != 0) <;> cases (u.Second != 0) <;> cases u.Number <;> cases u.Text <;> cases u.Other <;> rfl
theorem z4n (b : Bool) (n : Int) : (!(cond b n 0 == n)) = (!b && n != 0) := by
 cases b
 · by_cases h : n = 0
   · simp [h]
   · simp [h, ze5, zcn, Ne.symm h]
 · simp
theorem z4y (a b : ByteArray) : (a == b) = decide (a = b) := by
 cases a with | mk x =>
 cases b with | mk y =>
 show ByteArray.beq _ _ = _
 unfold ByteArray.beq
 by_cases h : x = y
 · simp [h]
 · simp [h]
theorem z4m (b : Bool) (t : ByteArray) : (!(cond b t (⟨#[]⟩ : ByteArray) == t)) = (!b && !(t.toList == [])) := by
 rw [z4y]
 cases b
 · simp only [cfa, Bool.not_false, Bool.true_and]
   congr 1
   rw [Lib.toList_data]
   by_cases h : t = ⟨#[]⟩
   · subst h; rfl
   · rw [dcf (Ne.symm h)]
     symm
     rw [beq_eq_false_iff_ne]; intro hh; apply h; cases t with
     | mk d => simp at hh; rw [hh]
 · simp
theorem z4p (a b : Bool) : (!(cond a b false == a)) = (!b && a) := by cases a <;> cases b <;> rfl
theorem z4o (a : Bool) (op : Int) : (!(cond a (op == 4) false == a)) = (op != 4 && a) := by
 cases a
 · simp
 · simp [bne]
theorem z1h (p : HwPlace) (b r : Bool) : (!((zlq p b).Based == p.Based) || (!((zlq p b).Pointer == p.Pointer) || (!((zlq p b).Offset == p.Offset) || r))) =
 ((!b && !(!p.Based && (p.Pointer == 0 && p.Offset == 0))) || ((!p.Based && p.Pointer != 0) || r)) := by
 obtain ⟨ba, pt, of⟩ := p
 cases b <;> cases ba <;> by_cases h1 : pt = 0 <;> by_cases h2 : of = 0 <;> simp [zlq, ze5, zcn, h1, h2, eq_comm (a := (0 : Int))]
theorem z1i (t : DataType) (b : Int) (r : Bool) : (!((cond (b != 0) t ⟨0, 0, 0⟩).Kind == t.Kind) || (!((cond (b != 0) t ⟨0, 0, 0⟩).Length == t.Length) || (!((cond (b != 0) t ⟨0, 0, 0⟩).Scale == t.Scale) || r))) =
 ((b == 0 && !(t.Kind == 0 && (t.Length == 0 && t.Scale == 0))) || r) := by
 obtain ⟨k, l, s⟩ := t
 by_cases h0 : b = 0 <;> by_cases h1 : k = 0 <;> by_cases h2 : l = 0 <;> by_cases h3 : s = 0 <;> simp [ze5, zcn, h0, h1, h2, h3, eq_comm (a := (0 : Int))]
theorem z4l (t : Number) (b r : Bool) : (!((cond b t ⟨0, 0⟩).N == t.N) || (!((cond b t ⟨0, 0⟩).Scale == t.Scale) || r)) = ((!b && !(t.N == 0 && t.Scale == 0)) || r) := by
 obtain ⟨n, s⟩ := t
 cases b <;> by_cases h1 : n = 0 <;> by_cases h2 : s = 0 <;> simp [ze5, zcn, h1, h2, eq_comm (a := (0 : Int))]
theorem zx4 (x : HwInstruction) (u : ref15_fields) (r2 : HwInstruction) (h : r2 = zuf x u) :
 (!(zdz [(r2.Op == x.Op), (r2.R == x.R), (r2.A == x.A), (r2.B == x.B), (r2.Calculation == x.Calculation), (r2.Place.Based == x.Place.Based), (r2.Place.Pointer == x.Place.Pointer), (r2.Place.Offset == x.Place.Offset), (r2.From.Based == x.From.Based), (r2.From.Pointer == x.From.Pointer), (r2.From.Offset == x.From.Offset), (r2.Type_.Kind == x.Type_.Kind), (r2.Type_.Length == x.Type_.Length), (r2.Type_.Scale == x.Type_.Scale), (r2.Second.Kind == x.Second.Kind), (r2.Second.Length == x.Second.Length), (r2.Second.Scale == x.Second.Scale), (r2.Half == x.Half), (r2.InStorage == x.InStorage), (r2.Number.N == x.Number.N), (r2.Number.Scale == x.Number.Scale), (r2.Text == x.Text), (r2.Other == x.Other), (r2.Mask == x.Mask), (r2.Target == x.Target), (r2.Pointer == x.Pointer), (r2.Source == x.Source)])) = zkj x u := by
 subst h
 simp only [zdz, Bool.not_and, zuf]
 rw [z1h x.Place, z1h x.From, z1i x.Type_, z1i x.Second, z4l x.Number]
 simp only [z4n, z4m, z4p, z4o, bst, Bool.not_true, Bool.false_or, Bool.or_false, zkj, bne]
 ac_rfl
def zc9 (t : DataType) (c : Int) : Int := if c = 0 then 0 else if zda t = 0 then (if (c = 1 ∧ ¬ (1 ≤ t.Kind ∧ t.Kind ≤ 3)) ∨ (c = 2 ∧ t.Kind ≠ 0) ∨ (c = 3 ∧ t.Kind = 4) then 17 else 0) else zda t
theorem zoe {t : DataType} {c : Int} (h : zc9 t c = 0) (hc : c ≠ 0) : zda t = 0 := by
 unfold zc9 at h
 rw [ifn hc] at h
 by_cases h0 : zda t = 0
 · exact h0
 · rw [ifn h0] at h; exact absurd h h0
theorem zs0 (N : Nat) (hN : 10 < N) (t : DataType) (c : Int) (hc : c = 1 ∨ c = 2 ∨ c = 3) : zdi N t c = some (zc9 t c) := by
 have f2 : ∀ a b : Int, zq N [a, b] = some (zc8 [a, b]) := fun a b => zms N _ (by simp; omega) (by simp)
 unfold zdi zc9
 rw [zw3 N hN]
 simp only [zk5, f2, ziq, orB, obs, ze5, zcn]
 have hc0 : c ≠ 0 := by omega
 rw [ifn hc0]
 by_cases h : zda t = 0
 · rw [ifp h, h]; simp only [zc8, if_true]; rcases zj8 h with ⟨h0, _⟩ | ⟨h0 | h0, _⟩ | ⟨h0, _⟩ | ⟨h0, _⟩ <;> rcases hc with rfl | rfl | rfl <;> simp [h0]
 · rw [ifn h]; simp only [zc8, h, if_false]
theorem zsq (t : DataType) (c : Int) (hc : c = 0 ∨ c = 1 ∨ c = 2 ∨ c = 3) : zfw t c = some (zc9 t c) := by
 unfold zfw zc9
 rw [z1z]
 simp only [zsr, ziq, orB, obs, ze5, zcn]
 by_cases hc0 : c = 0
 · simp [hc0]
 · rw [ifn hc0]; simp only [hc0, decide_false, cfa]
   by_cases h : zda t = 0
   · rw [ifp h, h]; rcases zj8 h with ⟨h0, _⟩ | ⟨h0 | h0, _⟩ | ⟨h0, _⟩ | ⟨h0, _⟩ <;> rcases hc with rfl | rfl | rfl | rfl <;> first | exact absurd rfl hc0 | simp [h0, inB]
   · rw [ifn h]; simp [h]
theorem z0p (N : Nat) (hN : 10 < N) {x : HwInstruction} {f : hardware_form} {u : ref15_fields} (ag : Agree f u) : zet N x f = some (zc8 [zc9 x.Type_ u.Type_, zc9 x.Second u.Second]) := by
 have w0 : ∀ t, zc9 t 0 = 0 := fun t => by simp [zc9]
 have hcls : ∀ c, c ≠ 0 → (c = 0 ∨ c = f.types) → c = f.types ∧ (f.types = 1 ∨ f.types = 2 ∨ f.types = 3) := by
  intro c h0 h1; have := ag.cls; omega
 have eta : ∀ t : DataType, (⟨t.Kind, t.Length, t.Scale⟩ : DataType) = t := fun t => rfl
 unfold zet
 rw [ag.Type_, ag.Second]
 by_cases h1 : u.Type_ = 0
 · by_cases h2 : u.Second = 0
   · simp [h1, h2, w0, zc8]
   · obtain ⟨e2, c2⟩ := hcls _ h2 ag.class2; have ht := fun t => zs0 N hN t f.types c2; have h0 : f.types ≠ 0 := by omega
     simp only [eta, ht, h1, e2, w0]
     by_cases h3 : zc9 x.Second f.types = 0 <;> simp [h3, h0, zc8, zcn]
 · obtain ⟨e1, c1⟩ := hcls _ h1 ag.class1; have ht := fun t => zs0 N hN t f.types c1; have h0 : f.types ≠ 0 := by omega
   by_cases h2 : u.Second = 0
   · simp only [eta, ht, h2, e1, w0]
     by_cases h3 : zc9 x.Type_ f.types = 0 <;> simp [h3, h0, zc8, zcn]
   · obtain ⟨e2, c2⟩ := hcls _ h2 ag.class2; simp only [eta, ht, e2, e1]
     by_cases h3 : zc9 x.Type_ f.types = 0 <;> by_cases h4 : zc9 x.Second f.types = 0 <;> simp [h3, h4, h0, zc8, zcn]
def zno (x : HwInstruction) (u : ref15_fields) : List Int := cond u.R [x.R] [] ++ (cond u.A [x.A] [] ++ cond u.B [x.B] [])
theorem z2l (n : Nat) {x : HwInstruction} {f : hardware_form} {u : ref15_fields} (hf : zat x = some f) (ag : Agree f u) : zj (n + 10) x = some (zno x u) := by
 have s0 : w6 (1 * 2 ^ (min ((0 : Int).toNat) 64)) = 1 := by decide
 have s1 : w6 (1 * 2 ^ (min ((1 : Int).toNat) 64)) = 2 := by decide
 have s2 : w6 (1 * 2 ^ (min ((2 : Int).toNat) 64)) = 4 := by decide
 have a0 : w6 (0 + 1) = 1 := by decide
 have a1 : w6 (1 + 1) = 2 := by decide
 have a2 : w6 (2 + 1) = 3 := by decide
 have rm : ∀ k : Nat, k ≤ 3 → Nat.ble (k * 8) zax = true := fun k hk => Nat.ble_eq_true_of_le (by unfold zax; omega)
 unfold zj
 rw [hf]
 simp only [obs]
 have i0 : ∀ l, zj.r0 (n + 10) (l, f.fields, [x.R, x.A, x.B], (([x.R, x.A, x.B] : List Int).length : Int), 0) = some (.again (cond u.R (l ++ [x.R]) l, f.fields, [x.R, x.A, x.B], (([x.R, x.A, x.B] : List Int).length : Int), 1)) ∨ l.length > 2 := by
  intro l
  by_cases hl : l.length > 2
  · exact .inr hl
  · left; simp only [zj.r0, zj.b0, s0, a0, ag.R]; have := rm (l.length + 1) (by omega); cases u.R <;> simp [this]
 have i1 : ∀ l, zj.r0 (n + 10) (l, f.fields, [x.R, x.A, x.B], (([x.R, x.A, x.B] : List Int).length : Int), 1) = some (.again (cond u.A (l ++ [x.A]) l, f.fields, [x.R, x.A, x.B], (([x.R, x.A, x.B] : List Int).length : Int), 2)) ∨ l.length > 2 := by
  intro l
  by_cases hl : l.length > 2
  · exact .inr hl
  · left; simp only [zj.r0, zj.b0, s1, a1, ag.A]; have := rm (l.length + 1) (by omega); cases u.A <;> simp [this]
 have i2 : ∀ l, zj.r0 (n + 10) (l, f.fields, [x.R, x.A, x.B], (([x.R, x.A, x.B] : List Int).length : Int), 2) = some (.again (cond u.B (l ++ [x.B]) l, f.fields, [x.R, x.A, x.B], (([x.R, x.A, x.B] : List Int).length : Int), 3)) ∨ l.length > 2 := by
  intro l
  by_cases hl : l.length > 2
  · exact .inr hl
  · left; simp only [zj.r0, zj.b0, s2, a2, ag.B]; have := rm (l.length + 1) (by omega); cases u.B <;> simp [this]
 have i3 : ∀ l, zj.r0 (n + 10) (l, f.fields, [x.R, x.A, x.B], (([x.R, x.A, x.B] : List Int).length : Int), 3) = some (.leave (l, f.fields, [x.R, x.A, x.B], (([x.R, x.A, x.B] : List Int).length : Int), 3)) := by
  intro l; simp [zj.r0, zj.b0]
 have l1 : (cond u.R ([] ++ [x.R]) ([] : List Int)).length ≤ 1 := by cases u.R <;> simp
 have l2 : (cond u.A (cond u.R ([] ++ [x.R]) ([] : List Int) ++ [x.A]) (cond u.R ([] ++ [x.R]) ([] : List Int))).length ≤ 2 := by cases u.R <;> cases u.A <;> simp
 show (zac (zj.r0 (n + 10)) (n + 10) _).bind _ = _
 simp only [zac]
 rw [(i0 []).resolve_right (by simp)]
 simp only [obs]
 rw [(i1 _).resolve_right (by omega)]
 simp only [obs]
 rw [(i2 _).resolve_right (by omega)]
 simp only [obs]
 rw [i3]
 simp only [obs, zno]
 cases u.R <;> cases u.A <;> cases u.B <;> rfl
def zei (m : HwModel) (r : Int) : Bool := !inB r 0 (m.Registers - 1)
theorem zwr (N : Nat) (l : List Int) (h : l.length < N) (hl : l.length < 1000000000) (m : HwModel) (hm : 2 ≤ m.Registers ∧ m.Registers ≤ 8) : zbp N l m = some (l.any (zei m)) := by
 unfold zbp zr
 have c1 : ∀ r, zd2 r m = some (zei m r) := fun r => by
  unfold zd2 zei; rw [w6e, zlh]; rfl
 have := zbn (f := zr.r0 N) (fun i => (l, (l.length : Int), (i : Int), m)) (fun i => (l[i]?).bind fun x => if zei m x then some (i : Int) else none) l.length
  (fun i hi => by
   have hx := lge hi; simp only [zr.r0, zr.b0, zba, hx, obs, dct (show (i : Int) < (l.length : Int) by omega), ctr, c1]; rw [w6e]; cases hb : zei m l[i] <;> simp)
  (by simp only [zr.r0, zr.b0, dcf (show ¬ (l.length : Int) < (l.length : Int) by omega), cfa]) h
 simp only [nc0] at this
 rw [this]
 simp only [obs]
 cases hfs : (List.range l.length).findSome? (fun i : Nat => (l[i]?).bind fun x => if zei m x = true then some (i : Int) else none) with
 | some r =>
  simp only [zbe, obs]; obtain ⟨i, hi, hr⟩ := List.exists_of_findSome?_eq_some hfs; rw [Option.bind_eq_some_iff] at hr; obtain ⟨x, hx, hr⟩ := hr; split at hr
  · rename_i hb; cases hr; have : l.any (zei m) = true := List.any_eq_true.2 ⟨x, lmg hx, hb⟩; rw [this]; simp
  · cases hr
 | none =>
  simp only [zbe, obs]; rw [List.findSome?_eq_none_iff] at hfs; have : l.any (zei m) = false := by
   rw [List.any_eq_false]; intro x hx hb; obtain ⟨i, hi⟩ := List.getElem?_of_mem hx; have := hfs i (by simp; exact (List.getElem?_eq_some_iff.1 hi).1); rw [hi] at this; simp [hb] at this
  rw [this]; rfl
theorem z15 (m : HwModel) (hm : 2 ≤ m.Registers ∧ m.Registers ≤ 8) {x : HwInstruction} {u : ref15_fields} (hu : zea x = some u) : zdg m x = some (!(zno x u).any (zei m)) := by
 have c1 : ∀ r, zdf m r = some (!zei m r) := fun r => by
  unfold zdf zei; rw [w6e, zgt]; simp
 unfold zdg
 rw [hu]
 have aux : ∀ b r, (cond b [r] []).any (zei m) = (b && zei m r) := fun b r => by cases b <;> simp
 simp only [c1, obs, zno, List.any_append, aux]
 generalize zei m x.R = p
 generalize zei m x.A = q
 generalize zei m x.B = r
 cases u.R <;> cases u.A <;> cases u.B <;> cases p <;> cases q <;> cases r <;> rfl
def zjy (x : HwInstruction) : DataType := if x.Op = 4 then x.Second else x.Type_
def zmk (m : HwModel) (c : HwCode) (x : HwInstruction) (u : ref15_fields) : Bool :=
 (zno x u).any (zei m) || ((u.Target && !inB x.Target 0 ((c.Instructions.length : Int) - 1)) || ((u.Mask && !inB x.Mask 1 7) || ((u.Pointer && !zhl c.Storage x.Pointer) || ((u.Source && !zhl c.Storage x.Source) ||
  ((u.Place && !zfz c.Storage x.Place (szE (zjy x))) || ((u.From && !zfz c.Storage x.From (szE x.Second)) || (u.Calculation && !inB x.Calculation 0 4)))))))
theorem eD (t : DataType) : (⟨t.Kind, t.Length, t.Scale⟩ : DataType) = t := rfl
theorem eP (t : HwPlace) : (⟨t.Based, t.Pointer, t.Offset⟩ : HwPlace) = t := rfl
theorem eS (t : Storage) : (⟨t.Bytes, t.Tags⟩ : Storage) = t := rfl
theorem eN (t : Number) : (⟨t.N, t.Scale⟩ : Number) = t := rfl
theorem eM (t : HwModel) : (⟨t.Registers, t.Fused, t.Memory⟩ : HwModel) = t := rfl
theorem eC (t : HwCode) : (⟨t.Storage, t.Instructions, t.Traps⟩ : HwCode) = t := rfl
theorem eX (t : HwInstruction) : (⟨t.Op, t.R, t.A, t.B, t.Calculation, t.Place, t.From, t.Type_, t.Second, t.Half, t.InStorage, t.Number, t.Text, t.Other, t.Mask, t.Target, t.Pointer, t.Source⟩ : HwInstruction) = t := rfl
theorem eF (t : hardware_form) : (⟨t.fields, t.types⟩ : hardware_form) = t := rfl
theorem nF (a b : Bool) : (cond a (some (!b)) (some false)) = some (a && !b) := by cases a <;> rfl
structure InsOk (c : HwCode) (x : HwInstruction) (u : ref15_fields) : Prop where
 sto : StoOk c.Storage
 len : c.Instructions.length < 1000000000
 pt : u.Place = true → zda (zjy x) = 0
 ft : u.From = true → zda x.Second = 0
 po : -9223372036854775808 ≤ x.Place.Offset ∧ x.Place.Offset ≤ 9223372036854775807
 fo : -9223372036854775808 ≤ x.From.Offset ∧ x.From.Offset ≤ 9223372036854775807
theorem zyl {a b : Bool} {o : Option Bool} (h : a = true → o = some b) : (cond a o (some false)) = some (a && b) := by
 cases a
 · rfl
 · exact h rfl
theorem z0s (N : Nat) (hN : 20 < N) {m : HwModel} (hm : 2 ≤ m.Registers ∧ m.Registers ≤ 8) {c : HwCode} {x : HwInstruction} {f : hardware_form} {u : ref15_fields} (hf : zat x = some f) (ag : Agree f u) (ok : InsOk c x u) :
 ze9 N m c x = some (!zmk m c x u) := by
 obtain ⟨n, rfl⟩ : ∃ n, N = n + 10 := ⟨N - 10, by omega⟩
 have hl : (zno x u).length ≤ 3 := by unfold zno; cases u.R <;> cases u.A <;> cases u.B <;> simp
 have hlen := ok.len
 have g1 : ∀ p t, (u.Place = true → zda t = 0) → (cond u.Place ((zbv (n + 10) c.Storage p t).bind fun r => some (!r)) (some false)) = some (u.Place && !zfz c.Storage p (szE t)) := fun p t h => zyl fun hp => by rw [zvn ok.sto _ (by omega) _ (h hp)]; rfl
 have g2 : ∀ p t, (u.From = true → zda t = 0) → (cond u.From ((zbv (n + 10) c.Storage p t).bind fun r => some (!r)) (some false)) = some (u.From && !zfz c.Storage p (szE t)) := fun p t h => zyl fun hp => by rw [zvn ok.sto _ (by omega) _ (h hp)]; rfl
 unfold ze9
 simp only [eD, eP, eS, eM, eC, eX]
 rw [hf, z2l n hf ag]
 simp only [obs]
 rw [zwr _ _ (by omega) (by omega) m hm]
 simp only [obs]
 unfold zmk
 cases hr : (zno x u).any (zei m) with
 | true => rfl
 | false =>
  simp only [cfa, Bool.false_or, ag.Place, ag.From, ag.Target, ag.Mask, ag.Pointer, ag.Source, ag.Calc, ziq, ze5, obs]; rw [w6e]; simp only [zlh, zw5, nF, obs]
  by_cases h4 : x.Op = 4
  · have hp : zjy x = x.Second := ifp h4; have k := ok.pt; rw [hp] at k ⊢; rw [g2 _ _ ok.ft]; cases hup : u.Place with
    | true =>
     simp only [h4, decide_true, Bool.and_true, ctr, Bool.true_and]; have := g1 x.Place x.Second k; rw [hup] at this; simp only [ctr, Bool.true_and] at this; rw [this]; simp only [orB, obs, Bool.or_assoc, Bool.true_and]
    | false =>
     simp only [h4, decide_true, Bool.false_and, cfa, obs, orB, Bool.or_assoc, Bool.false_or]
  · have hp : zjy x = x.Type_ := ifn h4; have k := ok.pt; rw [hp] at k ⊢; rw [g1 _ _ k, g2 _ _ ok.ft]; simp only [h4, decide_false, Bool.and_false, cfa, obs, orB, Bool.or_assoc]
def zmr (m : HwModel) (x : HwInstruction) : Bool := (decide (x.Op = 7) && !m.Fused) || (x.InStorage && !m.Memory)
def zm6 (x : HwInstruction) : Bool := decide ((x.Text.size : Int) > 256) || decide ((x.Other.size : Int) > 256)
theorem z3o (m : HwModel) (x : HwInstruction) (h : x.InStorage = true → x.Op = 4) : zfq m x = some (!zmr m x) := by
 unfold zfq zmr
 by_cases h7 : x.Op = 7
 · have h4 : x.InStorage = false := by
    cases hi : x.InStorage with
    | false => rfl
    | true => have := h hi; omega
   rw [h4]; simp only [h7, zcn]; cases m.Fused <;> rfl
 · by_cases h4 : x.Op = 4
   · simp only [h4, zcn]; cases x.InStorage <;> cases m.Memory <;> rfl
   · have h5 : x.InStorage = false := by
      cases hi : x.InStorage with
      | false => rfl
      | true => exact absurd (h hi) h4
     simp [h5, h7, h4, zcn]
theorem z0f (m : HwModel) (x : HwInstruction) : zhw m x = some (zmr m x) := by
 unfold zhw zmr
 simp only [ze5]
 cases decide (x.Op = 7) <;> cases m.Fused <;> cases x.InStorage <;> cases m.Memory <;> rfl
def zvl (m : HwModel) (c : HwCode) (x : HwInstruction) (u : ref15_fields) : Int :=
 cond (zkj x u) 5 (cond (zmr m x) 39 (if zc9 x.Type_ u.Type_ ≠ 0 then zc9 x.Type_ u.Type_ else if zc9 x.Second u.Second ≠ 0 then zc9 x.Second u.Second else
  cond (zmk m c x u) 3 (if zjt x.Number ≠ 0 then zjt x.Number else cond (zm6 x) 2 0)))
theorem zri {x : HwInstruction} {u : ref15_fields} (h : zkj x u = false) : (x.InStorage = true → x.Op = 4) ∧ (u.Number = false → zjt x.Number = 0) := by
 unfold zkj at h
 simp only [Bool.or_eq_false_iff] at h
 obtain ⟨_, _, _, _, _, _, _, _, _, h10, h11, _⟩ := h
 constructor
 · intro hi; rw [hi] at h10; simpa using h10
 · intro hn; rw [hn] at h11; simp only [Bool.not_false, Bool.true_and, Bool.not_eq_eq_eq_not, Bool.not_true, Bool.and_eq_true, beq_iff_eq, Bool.not_eq_false'] at h11; obtain ⟨e1, e2⟩ : x.Number.N = 0 ∧ x.Number.Scale = 0 := by simpa using h11
   unfold zjt; rw [e1, e2]
   decide
theorem z3n (N : Nat) (hN : 20 < N) {m : HwModel} (hm : 2 ≤ m.Registers ∧ m.Registers ≤ 8) {c : HwCode} {x : HwInstruction} {f : hardware_form} {u : ref15_fields} (hop : inB x.Op 0 26 = true) (hf : zat x = some f) (ag : Agree f u)
 (ok : zc9 x.Type_ u.Type_ = 0 → zc9 x.Second u.Second = 0 → InsOk c x u) : zbh N m c x = some (zvl m c x u) := by
 have f3 : ∀ a b d : Int, zq N [a, b, d] = some (zc8 [a, b, d]) := fun a b d => zms N _ (by simp; omega) (by simp)
 unfold zbh zvl
 simp only [eD, eP, eS, eM, eC, eX, eN, eF]
 rw [zlh, hop, hf, z2n hf ag]
 simp only [obs, Bool.not_true, cfa]
 rw [z0p N (by omega) ag]
 rw [zx4 x u _ rfl]
 simp only [zk5, zt2, obs, f3, orB]
 cases he : zkj x u with
 | true =>
  have hx : ∃ b, zfq m x = some b := by
   unfold zfq; cases (x.Op != 7) <;> cases m.Fused <;> cases (x.Op != 4) <;> cases x.InStorage <;> cases m.Memory <;> exact ⟨_, rfl⟩
  obtain ⟨b, hb⟩ := hx; rw [hb]; simp [zc8]
 | false =>
  obtain ⟨h1, h2⟩ := zri he; rw [z3o m x h1]; simp only [obs, Bool.not_not, cfa]; cases zmr m x with
  | true => simp [zc8]
  | false =>
   simp only [cfa]
   by_cases e1 : zc9 x.Type_ u.Type_ = 0
   · by_cases e2 : zc9 x.Second u.Second = 0
     · rw [z0s N hN hm hf ag (ok e1 e2)]; simp only [e1, e2, zc8, if_true, obs, Bool.not_not]; cases zmk m c x u with
       | true => simp
       | false =>
        by_cases e3 : zjt x.Number = 0
        · cases hl : zm6 x with
          | true => unfold zm6 at hl; simp [e3, hl]
          | false => unfold zm6 at hl; simp [e3, hl]
        · simp [e3]
     · simp [zc8, e1, e2, zcn]
   · simp [zc8, e1, zcn]
theorem z2t {f : hardware_form} {u : ref15_fields} (ag : Agree f u) : (u.Type_ = 0 ∨ u.Type_ = 1 ∨ u.Type_ = 2 ∨ u.Type_ = 3) ∧ (u.Second = 0 ∨ u.Second = 1 ∨ u.Second = 2 ∨ u.Second = 3) := by
 have h1 := ag.class1
 have h2 := ag.class2
 have h3 := ag.cls
 omega
theorem z24 {m : HwModel} (hm : 2 ≤ m.Registers ∧ m.Registers ≤ 8) {c : HwCode} {x : HwInstruction} {f : hardware_form} {u : ref15_fields} (hop : inB x.Op 0 26 = true) (hu : zea x = some u) (ag : Agree f u)
 (ok : zc9 x.Type_ u.Type_ = 0 → zc9 x.Second u.Second = 0 → InsOk c x u) : zb7 m c x = some (zvl m c x u) := by
 obtain ⟨c1, c2⟩ := z2t ag
 unfold zb7 zvl
 simp only [eD, eP, eS, eM, eC, eX, eN, eF]
 rw [zgt, hop, hu]
 simp only [obs, Bool.not_true, cfa]
 rw [z0g, z0f, zsq _ _ c1, zsq _ _ c2, z15 m hm hu]
 simp only [obs]
 cases he : zkj x u with
 | true => rfl
 | false =>
  obtain ⟨h1, h2⟩ := zri he; simp only [cfa]; cases zmr m x with
  | true => rfl
  | false =>
   simp only [cfa]
   by_cases e1 : zc9 x.Type_ u.Type_ = 0
   · by_cases e2 : zc9 x.Second u.Second = 0
     · have o := ok e1 e2; have hlen := o.len; have hb : ∀ t, zda t = 0 → zex t = some (szE t) := fun t h => ztf h; have g1 : ∀ t, (u.Place = true → zda t = 0) → (cond u.Place ((zex t).bind fun r => (zcw c x.Place r).bind fun r => some (!r)) (some false)) = some (u.Place && !zfz c.Storage x.Place (szE t)) := fun t h => zyl fun hp => by rw [ztf (h hp)]; simp only [obs]; rw [zu0 o.sto rfl _ o.po (h hp)]; rfl
       have g2 : (cond u.From ((zex x.Second).bind fun r => (zcw c x.From r).bind fun r => some (!r)) (some false)) = some (u.From && !zfz c.Storage x.From (szE x.Second)) := zyl fun hp => by rw [ztf (o.ft hp)]; simp only [obs]; rw [zu0 o.sto rfl _ o.fo (o.ft hp)]; rfl
       have k := o.pt; have kn : ∀ e : Int, (u.Number = false → e = 0) → (cond (u.Number && e != 0) (some e) (cond (zm6 x) (some 2) (some 0))) = some (if e ≠ 0 then e else cond (zm6 x) 2 0) := by
        intro e h
        by_cases h0 : e = 0
        · subst h0; cases u.Number <;> cases zm6 x <;> rfl
        · cases hn : u.Number with
          | false => exact absurd (h hn) h0
          | true => simp [h0, zcn]
       simp only [e1, e2, bsf, cfa, ne_eq, not_true_eq_false, if_false, ze5]; rw [w6e]; simp only [zgt, zw2 o.sto, ztw, nF, ziq, orB, g2, obs, ← zm6.eq_def]; unfold zmk
       by_cases h4 : x.Op = 4
       · have hp : zjy x = x.Second := ifp h4; rw [hp] at k ⊢; rw [g1 _ k]; simp only [h4, decide_true, ctr, obs, kn _ h2]; generalize (zno x u).any (zei m) = t1; generalize (u.Target && !inB x.Target 0 ((c.Instructions.length : Int) - 1)) = t2; generalize (u.Mask && !inB x.Mask 1 7) = t3; generalize (u.Pointer && !zhl c.Storage x.Pointer) = t4; generalize (u.Source && !zhl c.Storage x.Source) = t5; generalize (u.Place && !zfz c.Storage x.Place (szE x.Second)) = t6; generalize (u.From && !zfz c.Storage x.From (szE x.Second)) = t7; generalize (u.Calculation && !inB x.Calculation 0 4) = t8; cases t1 <;> cases t2 <;> cases t3 <;> cases t4 <;> cases t5 <;> cases t6 <;> cases t7 <;> cases t8 <;> rfl
       · have hp : zjy x = x.Type_ := ifn h4; rw [hp] at k ⊢; rw [g1 _ k]; simp only [h4, decide_false, cfa, obs, kn _ h2]; generalize (zno x u).any (zei m) = t1; generalize (u.Target && !inB x.Target 0 ((c.Instructions.length : Int) - 1)) = t2; generalize (u.Mask && !inB x.Mask 1 7) = t3; generalize (u.Pointer && !zhl c.Storage x.Pointer) = t4; generalize (u.Source && !zhl c.Storage x.Source) = t5; generalize (u.Place && !zfz c.Storage x.Place (szE x.Type_)) = t6; generalize (u.From && !zfz c.Storage x.From (szE x.Second)) = t7; generalize (u.Calculation && !inB x.Calculation 0 4) = t8; cases t1 <;> cases t2 <;> cases t3 <;> cases t4 <;> cases t5 <;> cases t6 <;> cases t7 <;> cases t8 <;> rfl
     · simp [e1, e2, zcn]
   · simp [e1, zcn]
theorem zj5 {n : Nat} {c : HwCode} (h : Wft En n Ty.HwCode c) : c.Storage.Bytes.size ≤ n ∧ c.Storage.Tags.length ≤ n ∧ c.Instructions.length ≤ n ∧ c.Traps.length ≤ n ∧ ∀ x ∈ c.Instructions, Wft En n Ty.HwInstruction x := by
 have h1 := h (.sc (.string c.Storage.Bytes)) (by show _ ∈ zh1 c; simp [zh1])
 have h2 := h (.lst Ty.bool c.Storage.Tags) (by show _ ∈ zh1 c; simp [zh1])
 have h3 := h (.lst Ty.HwInstruction c.Instructions) (by show _ ∈ zh1 c; simp [zh1])
 have h4 := h (.lst Ty.HwTrap c.Traps) (by show _ ∈ zh1 c; simp [zh1])
 cases h1 with
 | str h1 =>
  cases h2 with
  | lst h2 _ =>
   cases h3 with
   | lst h3 h3' =>
    cases h4 with
    | lst h4 _ => exact ⟨h1, h2, h3, h4, h3'⟩
theorem zwv {n : Nat} {z : Int} (h : Wfc En n (.sc (.int .i64 z))) : -9223372036854775808 ≤ z ∧ z ≤ 9223372036854775807 := by
 cases h with
 | int h1 h2 =>
  have e1 : IntKind.i64.min = -9223372036854775808 := by decide
  have e2 : IntKind.i64.max = 9223372036854775807 := by decide
  rw [e1] at h1; rw [e2] at h2; exact ⟨h1, h2⟩
theorem z3l {n : Nat} {x : HwInstruction} (h : Wft En n Ty.HwInstruction x) : (-9223372036854775808 ≤ x.Place.Offset ∧ x.Place.Offset ≤ 9223372036854775807) ∧ (-9223372036854775808 ≤ x.From.Offset ∧ x.From.Offset ≤ 9223372036854775807) :=
 ⟨zwv (h _ (by show _ ∈ zgb x; simp [zgb])), zwv (h _ (by show _ ∈ zgb x; simp [zgb]))⟩
def zmv (m : HwModel) (c : HwCode) (x : HwInstruction) : Int := if inB x.Op 0 26 = true then zvl m c x ((zea x).getD ⟨false, false, false, false, false, false, false, false, false, false, false, false, false, false, 0, 0⟩) else 4
theorem zv3 (N : Nat) (hN : 20 < N) {m : HwModel} (hm : 2 ≤ m.Registers ∧ m.Registers ≤ 8) {c : HwCode} (hs : StoOk c.Storage) (hlen : c.Instructions.length < 1000000000) {n : Nat} {x : HwInstruction} (hx : Wft En n Ty.HwInstruction x) :
 zbh N m c x = some (zmv m c x) ∧ zb7 m c x = some (zmv m c x) := by
 obtain ⟨w1, w2⟩ := z3l hx
 unfold zmv
 by_cases hop : inB x.Op 0 26 = true
 · obtain ⟨f, u, hf, hu, ag, h4, h5, h6⟩ := zzl x hop; have ok : zc9 x.Type_ u.Type_ = 0 → zc9 x.Second u.Second = 0 → InsOk c x u := fun e1 e2 => {
    sto := hs, len := hlen, po := w1, fo := w2,
    pt := fun hp => (by
     have := h6 hp; unfold zjy; split
     · rename_i h7; rw [ifp h7] at this; exact zoe e2 this
     · rename_i h7; rw [ifn h7] at this; exact zoe e1 this),
    ft := fun hp => zoe e2 (h5 hp) }
   rw [ifp hop, hu]; exact ⟨z3n N hN hm hop hf ag ok, z24 hm hop hu ag ok⟩
 · rw [ifn hop]; have e : inB x.Op 0 26 = false := by simpa using hop
   constructor
   · unfold zbh; rw [zlh, e]; rfl
   · unfold zb7; rw [zgt, e]; rfl
def zm0 (c : HwCode) (t : HwTrap) : Bool := (inB t.From 0 t.To && (decide (t.To ≤ (c.Instructions.length : Int)) && (inB t.Exception 0 999 && inB t.Handler 0 ((c.Instructions.length : Int) - 1))))
theorem z2i (c : HwCode) (hlen : c.Instructions.length < 1000000000) (t : HwTrap) : ze6 c t = some (cond (zm0 c t) 0 3) := by
 unfold ze6 zm0
 rw [w6e]
 simp only [zlh, zk5, ziq, obs, Bool.and_assoc]
 generalize (inB t.From 0 t.To && (decide (t.To ≤ (c.Instructions.length : Int)) && (inB t.Exception 0 999 && inB t.Handler 0 ((c.Instructions.length : Int) - 1)))) = b
 cases b <;> rfl
theorem z11 (c : HwCode) (t : HwTrap) : ((decide (t.From < 0) || decide (t.From > t.To)) || (decide (t.To > (c.Instructions.length : Int)))) = !(inB t.From 0 t.To && decide (t.To ≤ (c.Instructions.length : Int))) := by
 unfold inB
 by_cases h1 : t.From < 0
 · simp [h1, show ¬ (0 ≤ t.From) by omega]
 · by_cases h2 : t.From > t.To
   · simp [h1, h2, show ¬ (t.From ≤ t.To) by omega]
   · by_cases h3 : t.To > (c.Instructions.length : Int)
     · simp [h1, h2, h3, show ¬ (t.To ≤ (c.Instructions.length : Int)) by omega]
     · simp [h1, h2, h3, show (0 ≤ t.From) by omega, show (t.From ≤ t.To) by omega, show (t.To ≤ (c.Instructions.length : Int)) by omega]
def gI (m : HwModel) (c : HwCode) (i : Nat) : Option (Int × Int) := (c.Instructions[i]?).bind fun x => if zmv m c x = 0 then none else some ((i : Int), zmv m c x)
def gT (c : HwCode) (i : Nat) : Option (Int × Int) := (c.Traps[i]?).bind fun t => if zm0 c t = true then none else some ((i : Int), 3)
def zoo (m : HwModel) (c : HwCode) : Int × Int :=
 match (List.range c.Instructions.length).findSome? (gI m c) with
 | some r => r
 | none => match (List.range c.Traps.length).findSome? (gT c) with
  | some r => r
  | none => ((c.Instructions.length : Int), 0)
theorem z0t (N : Nat) (hN : 1048600 < N) {m : HwModel} (hm : 2 ≤ m.Registers ∧ m.Registers ≤ 8) {c : HwCode} (hs : StoOk c.Storage) (hc : Wft En 1048576 Ty.HwCode c) :
 ((zk (ze.r0 N) N (c.Instructions, (c.Instructions.length : Int), 0, m, c)).bind fun z10 =>
 zbe z10 (fun z => some z) (fun y9 => (zk (ze.r2 N) N (y9.2.2.2.2.Traps, (y9.2.2.2.2.Traps.length : Int), 0, y9.2.2.2.2)).bind fun z12 => zbe z12 (fun z =>
 some z) (fun y11 => some ((y11.2.2.2.Instructions.length : Int), 0)))) = some (zoo m c) := by
 obtain ⟨w1, w2, w3, w4, w5⟩ := zj5 hc
 have l1 := zbn (f := ze.r0 N) (fun i => (c.Instructions, (c.Instructions.length : Int), (i : Int), m, c)) (gI m c) c.Instructions.length
  (fun i hi => by
   have hx := lge hi; have hb := (zv3 N (by omega) hm hs (by omega) (w5 _ (List.getElem_mem hi))).1; simp only [ze.r0, ze.b0, zba, hx, obs, dct (show (i : Int) < (c.Instructions.length : Int) by omega), ctr, eD, eP, eS, eM, eC, eX, eN, gI, hb]; rw [w6e]
   by_cases h0 : zmv m c c.Instructions[i] = 0 <;> simp [h0, zcn])
  (by simp only [ze.r0, ze.b0, dcf (show ¬ (c.Instructions.length : Int) < (c.Instructions.length : Int) by omega), cfa]) (N := N) (by omega)
 have l2 := zbn (f := ze.r2 N) (fun i => (c.Traps, (c.Traps.length : Int), (i : Int), c)) (gT c) c.Traps.length
  (fun i hi => by
   have hx := lge hi; simp only [ze.r2, ze.b2, zba, hx, obs, dct (show (i : Int) < (c.Traps.length : Int) by omega), ctr, gT, z2i c (by omega)]; rw [w6e]; cases zm0 c c.Traps[i] <;> simp)
  (by simp only [ze.r2, ze.b2, dcf (show ¬ (c.Traps.length : Int) < (c.Traps.length : Int) by omega), cfa]) (N := N) (by omega)
 simp only [nc0] at l1 l2
 rw [l1]
 unfold zoo
 simp only [obs]
 cases (List.range c.Instructions.length).findSome? (gI m c) with
 | some r => rfl
 | none =>
  simp only [zbe]; rw [l2]; simp only [obs]; cases (List.range c.Traps.length).findSome? (gT c) <;> rfl
theorem zu1 (N : Nat) (hN : 1048600 < N) {m : HwModel} (hm : 2 ≤ m.Registers ∧ m.Registers ≤ 8) {c : HwCode} (hs : StoOk c.Storage) (hc : Wft En 1048576 Ty.HwCode c) :
 ((zk (zh.r1 N) N (0, m, c)).bind fun z6 =>
 zbe z6 (fun z => some z) (fun y5 => (zk (zh.r3 N) N (0, y5.2.2)).bind fun z8 => zbe z8 (fun z => some z) (fun y7 =>
 some ((y7.2.Instructions.length : Int), 0)))) = some (zoo m c) := by
 obtain ⟨w1, w2, w3, w4, w5⟩ := zj5 hc
 have l1 := zbn (f := zh.r1 N) (fun i => ((i : Int), m, c)) (gI m c) c.Instructions.length
  (fun i hi => by
   have hx := lge hi; have hb := (zv3 N (by omega) hm hs (by omega) (w5 _ (List.getElem_mem hi))).2; simp only [zh.r1, zh.b1, zba, hx, obs, dct (show (i : Int) < (c.Instructions.length : Int) by omega), ctr, eD, eP, eS, eM, eC, eX, eN, gI, hb]; rw [w6e]
   by_cases h0 : zmv m c c.Instructions[i] = 0 <;> simp [h0, zcn])
  (by simp only [zh.r1, zh.b1, dcf (show ¬ (c.Instructions.length : Int) < (c.Instructions.length : Int) by omega), cfa]) (N := N) (by omega)
 have l2 := zbn (f := zh.r3 N) (fun i => ((i : Int), c)) (gT c) c.Traps.length
  (fun i hi => by
   have hx := lge hi; simp only [zh.r3, zh.b3, zba, hx, obs, dct (show (i : Int) < (c.Traps.length : Int) by omega), ctr, gT, orB, zgt, z11]; rw [w6e (n := (i : Int) + 1), w6e (n := (c.Instructions.length : Int) - 1)]; have bl : ∀ a b d e : Bool, ((!(a && b) || !d) || !e) = !(a && (b && (d && e))) := fun a b d e => by cases a <;> cases b <;> cases d <;> cases e <;> rfl
   simp only [zgt, obs, orB, bl, ← zm0.eq_def]; cases zm0 c c.Traps[i] <;> simp)
  (by simp only [zh.r3, zh.b3, dcf (show ¬ (c.Traps.length : Int) < (c.Traps.length : Int) by omega), cfa]) (N := N) (by omega)
 simp only [nc0] at l1 l2
 rw [l1]
 unfold zoo
 simp only [obs]
 cases (List.range c.Instructions.length).findSome? (gI m c) with
 | some r => rfl
 | none =>
  simp only [zbe]; rw [l2]; simp only [obs]; cases (List.range c.Traps.length).findSome? (gT c) <;> rfl
theorem z32 (n lo hi : Int) : zd9 n lo hi = some (inB n lo hi) := by
 unfold zd9 inB
 cases decide (lo ≤ n) <;> rfl
theorem zg9 (b : ByteArray) (i j : Nat) (h : j ≤ b.size) (hij : i ≤ j) : (b.extract i j).size = j - i := by
 rw [ByteArray.size_extract]
 omega
def z1f (x : Number) : Prop := (-999999999999999 ≤ x.N ∧ x.N ≤ 999999999999999) ∧ 0 ≤ x.Scale ∧ x.Scale ≤ 15
def z3g (t : DataType) : Prop := zda t = 0 ∧ 1 ≤ t.Kind ∧ t.Kind ≤ 3
def bl (b : ByteArray) : List UInt8 := b.data.toList
theorem zs9 (b : ByteArray) : (bl b).length = b.size := rfl
theorem zk4 (b : ByteArray) (i : Nat) : zhn b (i : Int) = (bl b)[i]? := by
 unfold zhn bl
 rw [ifp]
 show b[i]? = _
 by_cases h : i < b.size
 · rw [getElem?_pos b i h, lge (by simpa using h)]
   congr 1
 · rw [getElem?_neg b i h, List.getElem?_eq_none (by simpa using h)]
theorem zma (b : ByteArray) (i j : Nat) : bl (b.extract i j) = ((bl b).take j).drop i := by
 unfold bl
 rw [ByteArray.data_extract, Array.toList_extract, List.extract_eq_drop_take', List.drop_take]
def beV (l : List UInt8) : Nat := l.foldl (fun n c => n * 256 + c.toNat) 0
theorem zsa (l : List UInt8) (x : UInt8) : beV (l ++ [x]) = beV l * 256 + x.toNat := by
 unfold beV; rw [List.foldl_append]; rfl
theorem zzv (l : List UInt8) : beV l < 256 ^ l.length := by
 have key : ∀ (l r : List UInt8), l = r.reverse → beV l < 256 ^ l.length := by
  intro l r
  induction r generalizing l with
  | nil => intro h; subst h; decide
  | cons x r ih =>
   intro h; rw [List.reverse_cons] at h; subst h; have := ih _ rfl; rw [zsa, lna, lns, Nat.pow_succ]; have := x.toNat_lt; omega
 exact key l l.reverse (by simp)
theorem ztt {α : Type} (l : List α) (i : Nat) {x : α} (h : l[i]? = some x) : l.take (i + 1) = l.take i ++ [x] := by
 obtain ⟨h1, h2⟩ := List.getElem?_eq_some_iff.1 h
 rw [List.take_succ_eq_append_getElem h1, h2]
theorem z1o {α : Type} {l : List α} {i : Nat} (h : i < l.length) : ∃ x, l[i]? = some x := ⟨_, lge h⟩
theorem or8 (n : Int) (c : Nat) (h1 : -36028797018963968 ≤ n) (h2 : n < 36028797018963968) (hc : c < 256) : orI .i64 (n * 256) (c : Int) = n * 256 + c := by
 unfold orI
 have e : (BitVec.ofInt IntKind.i64.bits (n * 256) ||| BitVec.ofInt IntKind.i64.bits (c : Int)).toNat = ((n * 256) % 18446744073709551616).toNat + c := by
  show (BitVec.ofInt 64 (n * 256) ||| BitVec.ofInt 64 (c : Int)).toNat = _; rw [BitVec.toNat_or, BitVec.ofInt_natCast, BitVec.toNat_ofNat, BitVec.toNat_ofInt, Nat.mod_eq_of_lt (by omega)]; show ((n * 256) % 18446744073709551616).toNat ||| c = _; have := Nat.two_pow_add_eq_or_of_lt (i := 8) (b := c) hc (((n * 256) % 18446744073709551616).toNat / 256); rw [show 2 ^ 8 * (((n * 256) % 18446744073709551616).toNat / 256) = ((n * 256) % 18446744073709551616).toNat by omega] at this; exact this.symm
 rw [e]
 have k : (2 : Int) ^ (IntKind.i64.bits) = 18446744073709551616 := by decide
 have k' : (2 : Int) ^ (IntKind.i64.bits - 1) = 9223372036854775808 := by decide
 unfold IntKind.wrap
 simp only [k, k', show IntKind.i64.signed = true from rfl, Bool.true_and, decide_eq_true_eq, ge_iff_le]
 split <;> omega
theorem zuk (N : Nat) (hN : 20 < N) (b : ByteArray) (hb : b.size ≤ 6) : zav N b = some (beV (bl b) : Int) := by
 unfold zav
 have := zlg (f := zav.r0 N) (fun i => (b, ((beV ((bl b).take i) : Nat) : Int), (b.size : Int), (i : Int))) b.size
  (fun i hi => by
   obtain ⟨x, hx⟩ : ∃ x, (bl b)[i]? = some x := z1o (by rw [zs9]; exact hi); have hl := zzv ((bl b).take i); have hl2 : 256 ^ ((bl b).take i).length ≤ 256 ^ 6 := Nat.pow_le_pow_right (by decide) (by rw [lnt, zs9]; omega); have hc := x.toNat_lt; simp only [zav.r0, zav.b0, dct (show (i : Int) < (b.size : Int) by omega), ctr, zk4, hx, obs]; rw [show (2 : Int) ^ (min (8 : Int).toNat 64) = 256 from rfl, w6e (n := ((beV ((bl b).take i) : Nat) : Int) * 256), w6e (n := (x.toNat : Int)), w6e (n := (i : Int) + 1), or8 _ _ (by omega) (by omega) hc, ztt _ _ hx, zsa]; simp only [Int.natCast_add, Int.natCast_mul, Int.natCast_one]; rfl)
  (by simp only [zav.r0, zav.b0, dcf (show ¬ (b.size : Int) < (b.size : Int) by omega), cfa]) (N := N) (by omega)
 simp only [List.take_zero, nc0] at this
 rw [show ((beV [] : Nat) : Int) = 0 from rfl] at this
 rw [this, ← zs9, List.take_length]
 rfl
theorem ztg (N : Nat) (hN : 20 < N) (b : ByteArray) (k n : Nat) (hn : n ≤ 6) (hk : k + n ≤ b.size) (hb : b.size < 1000000) : zce N b (k : Int) (n : Int) = some (beV (((bl b).drop k).take n) : Int) := by
 unfold zce
 have := zlg (f := zce.r0 N) (fun i => (b, (k : Int), (n : Int), ((beV (((bl b).drop k).take i) : Nat) : Int), (i : Int))) n
  (fun i hi => by
   have hlen : i < ((bl b).drop k).length := by rw [List.length_drop, zs9]; omega
   obtain ⟨x, hy⟩ : ∃ x, ((bl b).drop k)[i]? = some x := z1o hlen; have hx : (bl b)[k + i]? = some x := by rw [← List.getElem?_drop]; exact hy
   have hl := zzv (((bl b).drop k).take i); have hl2 : 256 ^ (((bl b).drop k).take i).length ≤ 256 ^ 6 := Nat.pow_le_pow_right (by decide) (by rw [lnt]; omega); have hc := x.toNat_lt; simp only [zce.r0, zce.b0, dct (show (i : Int) < (n : Int) by omega), ctr]; rw [w6e (n := (k : Int) + (i : Int)), ← Int.natCast_add, zk4, hx]; simp only [obs]; rw [w6e (n := ((beV (((bl b).drop k).take i) : Nat) : Int) * 256), w6e (n := (x.toNat : Int)), w6e (n := (i : Int) + 1), w6e, ztt _ _ hy, zsa]; simp only [Int.natCast_add, Int.natCast_mul, Int.natCast_one]; rfl)
  (by simp only [zce.r0, zce.b0, dcf (show ¬ (n : Int) < (n : Int) by omega), cfa]) (N := N) (by omega)
 simp only [List.take_zero, nc0] at this
 rw [show ((beV [] : Nat) : Int) = 0 from rfl] at this
 rw [this]
 rfl
def z07 : Pointer := ⟨0, ⟨0, 0⟩, 0⟩
def z4x (off : Int) : Pointer := ⟨0, ⟨1, off⟩, 0⟩
def zqe (p : Pointer) : Int := cond (!inB p.Kind 0 2) 4 (cond (!inB p.Address.Segment 0 1099511627775 || (!inB p.Address.Offset 0 16777215 || !inB p.Authority 0 1023)) 3 (cond (p.Authority != 0 && p.Kind != 1) 5 0))
theorem zys (p : Pointer) : zcg p = some (zqe p) := by
 unfold zcg zqe
 simp only [z32, obs, ziq]
 generalize inB p.Kind 0 2 = a
 generalize inB p.Address.Segment 0 1099511627775 = b
 generalize inB p.Address.Offset 0 16777215 = c
 generalize inB p.Authority 0 1023 = d
 generalize (p.Authority != 0 && p.Kind != 1) = e
 cases a <;> cases b <;> cases c <;> cases d <;> cases e <;> rfl
theorem zy8 (p : Pointer) : ze4 p = some (zqe p) := by
 unfold ze4 zqe
 rw [Bool.and_comm (p.Authority != 0) (p.Kind != 1)]
 simp only [zgt, obs, ziq, orB]
 generalize inB p.Kind 0 2 = a
 generalize inB p.Address.Segment 0 1099511627775 = b
 generalize inB p.Address.Offset 0 16777215 = c
 generalize inB p.Authority 0 1023 = d
 generalize (p.Kind != 1 && p.Authority != 0) = e
 cases a <;> cases b <;> cases c <;> cases d <;> cases e <;> rfl
def zr4 (l : List UInt8) : Pointer := ⟨((l.getD 0 0).toNat : Nat), ⟨(beV ((l.drop 4).take 6) : Nat), (beV ((l.drop 10).take 6) : Nat)⟩, (beV ((l.drop 2).take 2) : Nat)⟩
def zik (l : List UInt8) : Pointer × Int := if (l.getD 1 0).toNat ≠ 0 then (z07, 5) else if zqe (zr4 l) ≠ 0 then (z07, zqe (zr4 l)) else (zr4 l, 0)
theorem zqx {l : List UInt8} {i : Nat} (h : i < l.length) : l[i]? = some (l.getD i 0) := by
 rw [gdd, lge h]; rfl
theorem zyr (N : Nat) (hN : 20 < N) (b : ByteArray) (hb : b.size = 16) : zdd N b = some (zik (bl b)) := by
 have hl : (bl b).length = 16 := hb
 have i1 : zhn b 1 = some ((bl b).getD 1 0) := by rw [show (1 : Int) = ((1 : Nat) : Int) from rfl, zk4, zqx (by omega)]
 have i0 : zhn b 0 = some ((bl b).getD 0 0) := by rw [show (0 : Int) = ((0 : Nat) : Int) from rfl, zk4, zqx (by omega)]
 have z1 : (b.extract (2 : Int).toNat (4 : Int).toNat).size = 2 := zg9 b 2 4 (by omega) (by omega)
 have z2 : (b.extract (4 : Int).toNat (10 : Int).toNat).size = 6 := zg9 b 4 10 (by omega) (by omega)
 have z3 : (b.extract (10 : Int).toNat b.size).size = 6 := (zg9 b 10 b.size (by omega) (by omega)).trans (by omega)
 have e1 := zuk N hN (b.extract (2 : Int).toNat (4 : Int).toNat) (by omega)
 have e2 := zuk N hN (b.extract (4 : Int).toNat (10 : Int).toNat) (by omega)
 have e3 := zuk N hN (b.extract (10 : Int).toNat b.size) (by omega)
 rw [zma, show (2 : Int).toNat = 2 from rfl, show (4 : Int).toNat = 4 from rfl, List.drop_take] at e1
 rw [zma, show (4 : Int).toNat = 4 from rfl, show (10 : Int).toNat = 10 from rfl, List.drop_take] at e2
 rw [zma, show (10 : Int).toNat = 10 from rfl, List.drop_take, hb] at e3
 unfold zdd
 rw [show ((b.size : Int) != 16) = false by rw [hb]; rfl]
 simp only [cfa, i1, i0, obs]
 by_cases h : ((bl b).getD 1 0).toNat = 0
 · rw [h, show ((((0 : Nat) : Int)) != 0) = false from rfl, cfa]; rw [ifp, ifp, show (2 : Int).toNat = 2 from rfl, show (4 : Int).toNat = 4 from rfl, e1]; simp only [obs]; rw [ifp, ifp, show (10 : Int).toNat = 10 from rfl, e2]; simp only [obs]; rw [ifp, hb, e3]; simp only [obs]; have hx := ((bl b).getD 0 0).toNat_lt; rw [w6e]; rw [show (⟨(((bl b).getD 0 0).toNat : Int), ⟨(beV (((bl b).drop 4).take (10 - 4)) : Int), (beV (((bl b).drop 10).take (16 - 10)) : Int)⟩, (beV (((bl b).drop 2).take (4 - 2)) : Int)⟩ : Pointer) = zr4 (bl b) from rfl, zys]; simp only [obs]; unfold zik; rw [ifn]
   by_cases h2 : zqe (zr4 (bl b)) = 0
   · rw [h2]; rfl
   · rw [ifp h2, zcn, dct h2]; rfl
 · unfold zik; rw [ifp h, zcn, dct (by omega)]; rfl
theorem zy7 (N : Nat) (hN : 20 < N) (b : ByteArray) (hb : b.size = 16) : zig N b = some (zik (bl b)) := by
 have hl : (bl b).length = 16 := hb
 have i1 : zhn b 1 = some ((bl b).getD 1 0) := by rw [show (1 : Int) = ((1 : Nat) : Int) from rfl, zk4, zqx (by omega)]
 have i0 : zhn b 0 = some ((bl b).getD 0 0) := by rw [show (0 : Int) = ((0 : Nat) : Int) from rfl, zk4, zqx (by omega)]
 have e1 : zce N b 2 2 = _ := ztg N hN b 2 2 (by omega) (by omega) (by omega)
 have e2 : zce N b 4 6 = _ := ztg N hN b 4 6 (by omega) (by omega) (by omega)
 have e3 : zce N b 10 6 = _ := ztg N hN b 10 6 (by omega) (by omega) (by omega)
 unfold zig
 rw [show ((b.size : Int) != 16) = false by rw [hb]; rfl]
 simp only [cfa, i1, i0, obs]
 by_cases h : ((bl b).getD 1 0).toNat = 0
 · rw [h, show ((((0 : Nat) : Int)) != 0) = false from rfl, cfa]; rw [e1, e2, e3]; simp only [obs]; have hx := ((bl b).getD 0 0).toNat_lt; rw [w6e]; rw [show (⟨(((bl b).getD 0 0).toNat : Int), ⟨(beV (((bl b).drop 4).take 6) : Int), (beV (((bl b).drop 10).take 6) : Int)⟩, (beV (((bl b).drop 2).take 2) : Int)⟩ : Pointer) = zr4 (bl b) from rfl, zy8]; simp only [obs]; unfold zik; rw [ifn]
   by_cases h2 : zqe (zr4 (bl b)) = 0
   · rw [h2]; rfl
   · rw [ifp h2, zcn, dct h2]; rfl
 · unfold zik; rw [ifp h, zcn, dct (by omega)]; rfl
def ziw (s : Storage) (i : Nat) : List UInt8 := ((bl s.Bytes).drop (16 * i)).take 16
def gS (s : Storage) (i : Nat) : Option (Int × Int) := (s.Tags[i]?).bind fun t => if t = true ∧ (zik (ziw s i)).2 ≠ 0 then some ((i : Int), 22) else none
def zgg (s : Storage) : Int × Int :=
 if s.Bytes.size > 1024 then (0, 2) else if s.Bytes.size % 16 ≠ 0 then (0, 18) else if s.Tags.length ≠ s.Bytes.size / 16 then (0, 6)
 else match (List.range s.Tags.length).findSome? (gS s) with | some r => r | none => ((s.Tags.length : Int), 0)
theorem zkd (s : Storage) (i : Nat) : bl (s.Bytes.extract (16 * i) (16 * i + 16)) = ziw s i := by
 rw [zma, List.drop_take, ziw, show 16 * i + 16 - 16 * i = 16 by omega]
theorem zkr (N : Nat) (hN : 2000 < N) (s : Storage) : zg N s = some (zgg s) ∧ zb0 N s = some (zgg s) := by
 unfold zg zb0 zgg
 by_cases h1 : (s.Bytes.size : Int) > 1024
 · rw [dct h1, ifp]; exact ⟨rfl, rfl⟩
 · rw [dcf h1, ifn]; have hm : (s.Bytes.size : Int).tmod 16 = (s.Bytes.size : Int) % 16 := tme; have hd : (s.Bytes.size : Int).tdiv 16 = (s.Bytes.size : Int) / 16 := tde
   by_cases h2 : (s.Bytes.size : Int) % 16 = 0
   · rw [hm, hd, w6e, ifn]
     by_cases h3 : (s.Tags.length : Int) = (s.Bytes.size : Int) / 16
     · rw [show (((s.Bytes.size : Int) % 16) != 0) = false by rw [h2]; rfl, show ((s.Tags.length : Int) != (s.Bytes.size : Int) / 16) = false by rw [← h3]; exact bsf _, ifn]; simp only [cfa]; have hw : ∀ i : Nat, i < s.Tags.length → w6 ((i : Int) * 16) = (i : Int) * 16 ∧ w6 ((i : Int) * 16 + 16) = (i : Int) * 16 + 16 := fun i hi => ⟨w6e, w6e⟩; have hx : ∀ i : Nat, i < s.Tags.length → s.Bytes.extract ((i : Int) * 16).toNat ((i : Int) * 16 + 16).toNat = s.Bytes.extract (16 * i) (16 * i + 16) := fun i hi => by
        rw [show ((i : Int) * 16).toNat = 16 * i by omega, show ((i : Int) * 16 + 16).toNat = 16 * i + 16 by omega]
       have hz : ∀ i : Nat, i < s.Tags.length → (s.Bytes.extract (16 * i) (16 * i + 16)).size = 16 := fun i hi => by
        rw [zg9 _ _ _ (by omega) (by omega)]; omega
       constructor
       · have l1 := zbn (f := zg.r1 N) (fun i => (s.Tags, (s.Tags.length : Int), (i : Int), s)) (gS s) s.Tags.length
          (fun i hi => by
           obtain ⟨w1, w2⟩ := hw i hi; have hx1 := lge hi; simp only [zg.r1, zg.b1, zba, hx1, obs, dct (show (i : Int) < (s.Tags.length : Int) by omega), ctr, gS]; rw [w6e (n := (i : Int) + 1)]; cases hb : s.Tags[i] with
           | false => simp
           | true =>
            simp only [Bool.not_true, cfa, w1, w2]; rw [ifp, ifp, hx i hi, zyr N (by omega) _ (hz i hi), zkd]; simp only [obs]
            by_cases hq : (zik (ziw s i)).2 = 0
            · rw [hq]; simp
            · rw [zcn, dct hq, ifp ⟨trivial, hq⟩]; rfl)
          (by simp only [zg.r1, zg.b1, dcf (show ¬ (s.Tags.length : Int) < (s.Tags.length : Int) by omega), cfa]) (N := N) (by omega)
         simp only [nc0] at l1; rw [l1]; simp only [obs]; cases (List.range s.Tags.length).findSome? (gS s) <;> rfl
       · have l1 := zbn (f := zb0.r0 N) (fun i => ((s.Bytes.size : Int) / 16, (i : Int), s)) (gS s) s.Tags.length
          (fun i hi => by
           obtain ⟨w1, w2⟩ := hw i hi; have hx1 := lge hi; simp only [zb0.r0, zb0.b0, zba, hx1, obs, dct (show (i : Int) < (s.Bytes.size : Int) / 16 by omega), ctr, gS]; rw [w6e (n := (i : Int) + 1)]; cases hb : s.Tags[i] with
           | false => simp
           | true =>
            simp only [ctr, zgu, w1, w2]; rw [ifp, ifp]; simp only [obs]; rw [hx i hi, zy7 N (by omega) _ (hz i hi), zkd]; simp only [obs]
            by_cases hq : (zik (ziw s i)).2 = 0
            · rw [hq]; simp
            · rw [zcn, dct hq, ifp ⟨trivial, hq⟩]; rfl)
          (by simp only [zb0.r0, zb0.b0, dcf (show ¬ (s.Tags.length : Int) < (s.Bytes.size : Int) / 16 by omega), cfa]) (N := N) (by omega)
         simp only [nc0] at l1; rw [l1]; simp only [obs]; cases (List.range s.Tags.length).findSome? (gS s) with
         | some r => rfl
         | none => simp only [zbe, ← h3]
     · rw [show (((s.Bytes.size : Int) % 16) != 0) = false by rw [h2]; rfl, show ((s.Tags.length : Int) != (s.Bytes.size : Int) / 16) = true by rw [zcn]; exact dct h3, ifp]; exact ⟨rfl, rfl⟩
   · rw [hm, show (((s.Bytes.size : Int) % 16) != 0) = true by rw [zcn]; exact dct h2, ifp]; exact ⟨rfl, rfl⟩
structure zsc (s : Storage) : Prop where
 le : s.Bytes.size ≤ 1024
 quad : s.Bytes.size % 16 = 0
 tags : s.Tags.length = s.Bytes.size / 16
 ptr : ∀ i, s.Tags[i]? = some true → ∃ off : Int, (0 ≤ off ∧ off ≤ 16777215) ∧ zik (ziw s i) = (z4x off, 0)
theorem zsc.err {s : Storage} (h : zsc s) : zgg s = ((s.Tags.length : Int), 0) := by
 obtain ⟨h1, h2, h3, h4⟩ := h
 unfold zgg
 rw [ifn, ifn, ifn]
 have : (List.range s.Tags.length).findSome? (gS s) = none := by
  rw [List.findSome?_eq_none_iff]; intro i _; unfold gS; cases ht : s.Tags[i]? with
  | none => rfl
  | some t =>
   rw [obs]; split
   · rename_i h5; rw [h5.1] at ht; obtain ⟨off, _, h6⟩ := h4 i ht; rw [h6] at h5; exact absurd rfl h5.2
   · rfl
 rw [this]
theorem zsc.ok {s : Storage} (h : zsc s) : StoOk s := ⟨h.le, h.quad⟩
theorem zul (N : Nat) (hN : 2000 < N) (s : Storage) : ∃ i1 e1 e2, zg N s = some (i1, e1) ∧ zfm N s = some e2 ∧
 ((e1 = e2 ∧ e1 ≠ 0) ∨ (StoOk s ∧ s.Tags.length ≤ 64 ∧ (e1 = 0 ∨ (e1 = 22 ∧ true ∈ s.Tags)) ∧ (e2 = 0 ∨ (e2 = 22 ∧ true ∈ s.Tags)))) := by
 obtain ⟨h1, h2⟩ := zkr N hN s
 refine ⟨(zgg s).1, (zgg s).2, (zgg s).2, h1, by unfold zfm; rw [show (⟨s.Bytes, s.Tags⟩ : Storage) = s from rfl, h2]; rfl, ?_⟩
 unfold zgg
 split
 · exact .inl ⟨rfl, by decide⟩
 split
 · exact .inl ⟨rfl, by decide⟩
 split
 · exact .inl ⟨rfl, by decide⟩
 refine .inr ⟨⟨by omega, by omega⟩, by omega, ?_⟩
 have key : ∀ e : Int, (e = 0 ∨ (e = 22 ∧ true ∈ s.Tags)) → (e = 0 ∨ (e = 22 ∧ true ∈ s.Tags)) ∧ (e = 0 ∨ (e = 22 ∧ true ∈ s.Tags)) := fun _ h => ⟨h, h⟩
 apply key
 cases hf : (List.range s.Tags.length).findSome? (gS s) with
 | none => exact .inl rfl
 | some r =>
  obtain ⟨i, _, hi⟩ := List.exists_of_findSome?_eq_some hf; unfold gS at hi; cases hx : s.Tags[i]? with
  | none => rw [hx] at hi; cases hi
  | some b =>
   rw [hx, obs] at hi; split at hi
   · rename_i h5; injection hi with hi; rw [h5.1] at hx; exact .inr ⟨by rw [← hi], lmg hx⟩
   · cases hi
theorem z2j (N : Nat) (l : List Bool) (h : l.length < N) (hl : l.length < 1000000000) : zdo N l true = some (l.contains true) := by
 unfold zdo zao
 have := zbn (f := zao.r0 N) (fun i => (l, true, (l.length : Int), (i : Int))) (fun i => (l[i]?).bind fun x => if x = true then some (i : Int) else none) l.length
  (fun i hi => by
   have hx := lge hi; simp only [zao.r0, zao.b0, zba, hx, obs, dct (show (i : Int) < (l.length : Int) by omega), ctr]; rw [w6e]; cases hb : l[i] <;> simp)
  (by simp only [zao.r0, zao.b0, dcf (show ¬ (l.length : Int) < (l.length : Int) by omega), cfa]) h
 simp only [nc0] at this
 rw [this]
 simp only [obs]
 cases hfs : (List.range l.length).findSome? (fun i : Nat => (l[i]?).bind fun x => if x = true then some (i : Int) else none) with
 | some r =>
  simp only [zbe, obs]; obtain ⟨i, hi, hr⟩ := List.exists_of_findSome?_eq_some hfs; rw [Option.bind_eq_some_iff] at hr; obtain ⟨x, hx, hr⟩ := hr; split at hr
  · rename_i hb; cases hr; have : l.contains true = true := by rw [List.contains_iff_mem, ← hb]; exact lmg hx
    rw [this]; simp
  · cases hr
 | none =>
  simp only [zbe, obs]; rw [List.findSome?_eq_none_iff] at hfs; have : l.contains true = false := by
   rw [Bool.eq_false_iff]; intro hc; rw [List.contains_iff_mem] at hc; obtain ⟨i, hi⟩ := List.getElem?_of_mem hc; have := hfs i (by simp; exact (List.getElem?_eq_some_iff.1 hi).1); rw [hi] at this; simp at this
  rw [this]; rfl
theorem zw1 (N : Nat) (s : Storage) (h : s.Tags.length ≤ 64) (hN : 2000 < N) : ∃ l, z0 N s = some l ∧ (decide ((l.length : Int) > 0)) = s.Tags.contains true := by
 unfold z0
 obtain ⟨s', h1, l, h2, h3, h4⟩ := zwq (f := z0.r0 N) (fun i t => ∃ l : List Int, t = (l, (i : Int), s) ∧ l.length ≤ i ∧ (decide ((l.length : Int) > 0)) = (s.Tags.take i).contains true) s.Tags.length
  (fun i t hi ht => by
   obtain ⟨l, rfl, h3, h4⟩ := ht; have hx := lge hi; have rm : Nat.ble ((l.length + ([(w6 ((i : Int) * 16))] : List Int).length) * 8) zax = true := Nat.ble_eq_true_of_le (by unfold zax; simp; omega); simp only [z0.r0, z0.b0, zba, hx, obs, dct (show (i : Int) < (s.Tags.length : Int) by omega), ctr, rm]; rw [w6e (n := (i : Int) + 1)]; have tk : s.Tags.take (i + 1) = s.Tags.take i ++ [s.Tags[i]] := by rw [List.take_add_one, hx]; rfl
   cases hb : s.Tags[i] with
   | true => exact ⟨_, rfl, _, rfl, by simp; omega, by rw [tk, hb]; simp⟩
   | false => exact ⟨_, rfl, _, rfl, by omega, by rw [tk, hb, h4]; simp⟩)
  (fun t ht => by
   obtain ⟨l, rfl, h3, h4⟩ := ht; simp only [z0.r0, z0.b0, dcf (show ¬ (s.Tags.length : Int) < (s.Tags.length : Int) by omega), cfa]; exact ⟨_, rfl, l, rfl, h3, h4⟩) (N := N) (by omega) (s := ([], 0, s)) ⟨[], rfl, by simp, by simp⟩
 rw [h1, h2]
 exact ⟨l, rfl, by rw [h4, List.take_length]⟩
theorem z0m {c : HwCode} (hc : Wft En 1048576 Ty.HwCode c) : zeu c = some c := by
 obtain ⟨w1, w2, w3, w4, w5⟩ := zj5 hc
 unfold zeu zbr zfd
 rw [show Nat.ble (c.Storage.Tags.length * 1) zax = true from Nat.ble_eq_true_of_le (by unfold zax; omega), show Nat.ble (c.Instructions.length * 224) zax = true from Nat.ble_eq_true_of_le (by unfold zax; omega), show Nat.ble (c.Traps.length * 32) zax = true from Nat.ble_eq_true_of_le (by unfold zax; omega)]
 rfl
theorem zzr (N : Nat) (hN : 1048600 < N) (m : HwModel) {c : HwCode} (hc : Wft En 1048576 Ty.HwCode c) : ∃ r, ze N m c = some r ∧ zh N m c = some r := by
 obtain ⟨e, he1, he2, he3⟩ := zsw m
 obtain ⟨i1, e1, e2, hs1, hs2, hs⟩ := zul N (by omega) c.Storage
 obtain ⟨w1, w2, w3, w4, w5⟩ := zj5 hc
 have f3 : ∀ a b d : Int, zq N [a, b, d] = some (zc8 [a, b, d]) := fun a b d => zms N _ (by simp; omega) (by simp)
 unfold ze zh
 simp only [eS, eM, eC]
 rw [he1, he2, hs1, hs2]
 simp only [obs]
 by_cases h0 : e = 0
 · subst h0; have hm := he3 rfl; simp only [bsf, cfa]; rcases hs with ⟨rfl, hs⟩ | ⟨ok, htl, hs3, hs4⟩
   · rw [show (e1 != 0) = true by rw [zcn]; exact dct hs]; exact ⟨_, rfl, rfl⟩
   · obtain ⟨l, hl1, hl2⟩ := zw1 N c.Storage htl (by omega); rw [z2j N _ (by omega) (by omega), hl1]; simp only [obs, zk5, f3, orB, hl2]
     by_cases ht : c.Storage.Tags.contains true = true
     · rw [ht]; refine ⟨(0, 22), ?_, ?_⟩
       · rcases hs3 with rfl | ⟨rfl, _⟩
         · simp [zc8]
         · rfl
       · rcases hs4 with rfl | ⟨rfl, _⟩
         · rfl
         · rfl
     · have ht' : c.Storage.Tags.contains true = false := by simpa using ht
       have hn : ¬ true ∈ c.Storage.Tags := fun hh => ht (List.contains_iff_mem.2 hh); obtain rfl : e1 = 0 := hs3.resolve_right fun hh => hn hh.2; obtain rfl : e2 = 0 := hs4.resolve_right fun hh => hn hh.2; rw [ht']; have hl1 := z0t N hN hm ok hc; have hl2 := zu1 N hN hm ok hc
       by_cases hz : (c.Instructions.length : Int) = 0
       · refine ⟨(0, 1), ?_, ?_⟩
         · simp [zc8, hz]
         · simp [hz]
       · cases hbig : (decide ((c.Instructions.length : Int) > 240) || decide ((c.Traps.length : Int) > 40)) with
         | true =>
          refine ⟨(0, 2), ?_, ?_⟩
          · simp only [bsf, cfa, ctr, obs, ze5, dcf hz, zc8, if_true]; rfl
          · simp only [bsf, cfa, ctr, obs, ze5, dcf hz]
         | false =>
          refine ⟨zoo m c, ?_, ?_⟩
          · rw [← hl1]; simp only [bsf, cfa, obs, ze5, dcf hz, zc8, if_true]
          · rw [← hl2]; simp only [bsf, cfa, obs, ze5, dcf hz]
 · rw [show (e != 0) = true by rw [zcn]; exact dct h0]; exact ⟨_, rfl, rfl⟩
theorem zzm (N : Nat) (hN : 1048600 < N) {c : HwCode} (hc : Wft En 1048576 Ty.HwCode c) : ∃ b, zc2 N c = some b := by
 obtain ⟨w1, w2, w3, w4, w5⟩ := zj5 hc
 unfold zc2
 have ft : ∀ s, ∃ b, zcu s = some b := fun s => by
  unfold zcu; cases decide ((s.Bytes.size : Int) ≤ 1072) <;> exact ⟨_, rfl⟩
 have e1 : ∀ i : Nat, i ≤ c.Instructions.length → (cond (decide ((i : Int) < (c.Instructions.length : Int))) (some (decide ((i : Int) < 244))) (some false)) = some (decide ((i : Int) < (c.Instructions.length : Int)) && decide ((i : Int) < 244)) := fun i _ => ziq _ _
 have l1 := zwp (f := zc2.r0 N) (fun i t => t = ((i : Int), c)) (fun r => True) (min c.Instructions.length 244)
  (fun i t hi ht => by
   subst ht; have hlt : i < c.Instructions.length := by omega
   have hx := lge hlt; simp only [zc2.r0, zc2.b0, ziq, obs, dct (show (i : Int) < (c.Instructions.length : Int) by omega), dct (show (i : Int) < 244 by omega), Bool.and_self, ctr, zba, hx, orB]; rw [w6e (n := (i : Int) + 1)]; cases (decide ((c.Instructions[i].Text.size : Int) > 300) || decide ((c.Instructions[i].Other.size : Int) > 300)) with
   | true => exact .inr ⟨_, rfl, trivial⟩
   | false => exact .inl ⟨_, rfl, rfl⟩)
  (fun t ht => by
   subst ht; have e : (decide (((min c.Instructions.length 244 : Nat) : Int) < (c.Instructions.length : Int)) && decide (((min c.Instructions.length 244 : Nat) : Int) < 244)) = false := by
    by_cases h : c.Instructions.length < 244
    · rw [dcf (show ¬ ((min c.Instructions.length 244 : Nat) : Int) < (c.Instructions.length : Int) by omega)]; rfl
    · rw [dcf (show ¬ ((min c.Instructions.length 244 : Nat) : Int) < 244 by omega)]; simp
   simp only [zc2.r0, zc2.b0, ziq, obs, e, cfa]; exact ⟨_, rfl, rfl⟩) (N := N) (by omega) (s := (0, c)) rfl
 rcases l1 with ⟨t, g1, _⟩ | ⟨r, g1, _⟩
 · rw [g1]; simp only [obs, zbe]; obtain ⟨b, hb⟩ := ft t.2.Storage; rw [hb]; simp only [obs, ziq]; exact ⟨_, rfl⟩
 · rw [g1]; exact ⟨_, rfl⟩
theorem zqr {n : Nat} (h : n ≤ 1000000) : Nat.ble n zax = true := by
 rw [Nat.ble_eq]; unfold zax; omega
set_option exponentiation.threshold 3000
theorem z2b {s : Storage} (h : s.Tags.length ≤ 100000) : zbr s = some s := by
 unfold zbr zfd
 rw [zqr (by omega)]
 rfl
structure InsV (m : HwModel) (c : HwCode) (x : HwInstruction) (u : ref15_fields) : Prop where
 r : u.R = true → 0 ≤ x.R ∧ x.R < m.Registers
 a : u.A = true → 0 ≤ x.A ∧ x.A < m.Registers
 b : u.B = true → 0 ≤ x.B ∧ x.B < m.Registers
 ty1 : u.Type_ = 1 → z3g x.Type_
 ty2 : u.Type_ = 2 → zda x.Type_ = 0 ∧ x.Type_.Kind = 0
 ty3 : u.Type_ = 3 → zda x.Type_ = 0
 se1 : u.Second = 1 → z3g x.Second
 se2 : u.Second = 2 → zda x.Second = 0 ∧ x.Second.Kind = 0
 tg : u.Target = true → 0 ≤ x.Target ∧ x.Target < (c.Instructions.length : Int)
 ma : u.Mask = true → 1 ≤ x.Mask ∧ x.Mask ≤ 7
 pt : u.Pointer = true → zhl c.Storage x.Pointer = true
 sr : u.Source = true → zhl c.Storage x.Source = true
 pl : u.Place = true → zfz c.Storage x.Place (szE (zjy x)) = true
 fr : u.From = true → zfz c.Storage x.From (szE x.Second) = true
 ca : u.Calculation = true → 0 ≤ x.Calculation ∧ x.Calculation ≤ 4
 nu : z1f x.Number
 tx : x.Text.size ≤ 256
 ot : x.Other.size ≤ 256
 is : x.InStorage = true → x.Op = 4
structure CodeV (m : HwModel) (c : HwCode) : Prop where
 m1 : 2 ≤ m.Registers
 m2 : m.Registers ≤ 8
 sto : zsc c.Storage
 len : c.Instructions.length ≤ 240
 pos : 0 < c.Instructions.length
 traps : c.Traps.length ≤ 40
 ins : ∀ x ∈ c.Instructions, zmv m c x = 0
 trap : ∀ t ∈ c.Traps, zm0 c t = true
structure StV (m : HwModel) (c : HwCode) (s : HwState) : Prop where
 regs : (s.Registers.length : Int) = m.Registers
 nums : ∀ r ∈ s.Registers, z1f r
 cnd : s.Condition = 0 ∨ s.Condition = 1 ∨ s.Condition = 2 ∨ s.Condition = 4
 sto : zsc s.Storage
 size : s.Storage.Bytes.size = c.Storage.Bytes.size
 at0 : 0 ≤ s.At
 at1 : s.At < (c.Instructions.length : Int)
 stk : s.Stack.length ≤ 6
 calls : ∀ i ∈ s.Stack, (0 ≤ i ∧ i < (c.Instructions.length : Int)) ∧ ∃ x, c.Instructions[i.toNat]? = some x ∧ x.Op = 18
 lines : s.Lines.length ≤ 40
 long : ∀ l ∈ s.Lines, l.size ≤ 256
 st0 : 0 ≤ s.Status
 st1 : s.Status ≤ 3
 ex0 : 0 ≤ s.Exception
 ex1 : s.Exception ≤ 999
 mk0 : 0 ≤ s.Marks
 mk1 : s.Marks ≤ 300
 sp0 : 0 ≤ s.Steps
 sp1 : s.Steps ≤ 3000
section
variable {m : HwModel} {c : HwCode} {s : HwState}
end
section
variable {m : HwModel} {c : HwCode} {s : HwState}
end
section
variable {m : HwModel} {c : HwCode} {s : HwState}
end
section
variable {m : HwModel} {c : HwCode} {s : HwState}
end
section
variable {m : HwModel} {c : HwCode} {s : HwState}
end
theorem z25 {m : HwModel} {c : HwCode} {n : Int} (h : zoo m c = (n, 0)) : (∀ x ∈ c.Instructions, zmv m c x = 0) ∧ (∀ t ∈ c.Traps, zm0 c t = true) ∧ n = (c.Instructions.length : Int) := by
 unfold zoo at h
 cases hf : (List.range c.Instructions.length).findSome? (gI m c) with
 | some r =>
  rw [hf] at h; simp only at h; subst h; obtain ⟨j, _, hj⟩ := List.exists_of_findSome?_eq_some hf; unfold gI at hj; rw [Option.bind_eq_some_iff] at hj; obtain ⟨y, _, hy⟩ := hj
  by_cases h1 : zmv m c y = 0
  · simp [h1] at hy
  · rw [ifn h1] at hy; simp only [Option.some.injEq, Prod.mk.injEq] at hy; exact absurd hy.2 h1
 | none =>
  rw [hf] at h; simp only at h; have hI : ∀ x ∈ c.Instructions, zmv m c x = 0 := fun x hx => by
   refine Classical.byContradiction fun h0 => ?_; obtain ⟨i, hi⟩ := List.getElem?_of_mem hx; rw [List.findSome?_eq_none_iff] at hf; have := hf i (List.mem_range.2 (List.getElem?_eq_some_iff.1 hi).1); unfold gI at this; rw [hi, obs, ifn h0] at this; cases this
  cases hg : (List.range c.Traps.length).findSome? (gT c) with
  | some r =>
   rw [hg] at h; simp only at h; subst h; obtain ⟨j, _, hj⟩ := List.exists_of_findSome?_eq_some hg; unfold gT at hj; rw [Option.bind_eq_some_iff] at hj; obtain ⟨y, _, hy⟩ := hj; split at hy
   · cases hy
   · simp only [Option.some.injEq, Prod.mk.injEq] at hy; cases hy.2
  | none =>
   rw [hg] at h; simp only [Prod.mk.injEq] at h; refine ⟨hI, fun t ht => ?_, h.1.symm⟩; refine Classical.byContradiction fun h0 => ?_; obtain ⟨i, hi⟩ := List.getElem?_of_mem ht; rw [List.findSome?_eq_none_iff] at hg; have := hg i (List.mem_range.2 (List.getElem?_eq_some_iff.1 hi).1); unfold gT at this; rw [hi, obs, ifn h0] at this; cases this
theorem z2z {s : Storage} {i : Int} (h : zgg s = (i, 0)) (hn : ¬ true ∈ s.Tags) : zsc s := by
 unfold zgg at h
 split at h
 · cases h
 · split at h
   · cases h
   · split at h
     · cases h
     · rename_i h1 h2 h3; refine ⟨by omega, by omega, by omega, fun k hk => absurd (lmg hk) hn⟩
theorem z3v (N : Nat) (hN : 1048600 < N) {m : HwModel} {c : HwCode} (hc : Wft En 1048576 Ty.HwCode c) {n : Int} (h : zh N m c = some (n, 0)) : CodeV m c ∧ n = (c.Instructions.length : Int) := by
 obtain ⟨e, _, he2, he3⟩ := zsw m
 obtain ⟨i1, e1, e2, _, hs2, hs⟩ := zul N (by omega) c.Storage
 have hsp := (zkr N (by omega) c.Storage).2
 obtain ⟨w1, w2, w3, w4, w5⟩ := zj5 hc
 unfold zh at h
 simp only [eS, eM, eC] at h
 rw [he2, hs2] at h
 simp only [obs] at h
 by_cases h0 : e = 0
 · subst h0; have hm := he3 rfl; simp only [bsf, cfa] at h
   by_cases h2 : e2 = 0
   · rcases hs with ⟨rfl, hs⟩ | ⟨ok, htl, _, _⟩
     · exact absurd h2 hs
     · subst h2; obtain ⟨l, hl1, hl2⟩ := zw1 N c.Storage htl (by omega); rw [hl1] at h; simp only [bsf, cfa, obs, orB] at h; cases hd : decide ((l.length : Int) > 0) with
       | true => rw [hd] at h; cases h
       | false =>
        rw [hd] at h hl2; simp only [cfa] at h
        by_cases hz : (c.Instructions.length : Int) = 0
        · rw [hz] at h; cases h
        · rw [ze5, dcf hz] at h; simp only [cfa] at h; cases hb : (decide ((c.Instructions.length : Int) > 240) || decide ((c.Traps.length : Int) > 40)) with
          | true => rw [hb] at h; cases h
          | false =>
           rw [hb] at h; simp only [cfa] at h; have := zu1 N hN hm ok hc; rw [this] at h; simp only [Bool.or_eq_false_iff, decide_eq_false_iff_not] at hb; obtain ⟨r1, r2, r3⟩ := z25 (Option.some.inj h); have hn : ¬ true ∈ c.Storage.Tags := fun hh => by
            have := List.contains_iff_mem.2 hh; rw [← hl2] at this; cases this
           have hst : ∃ i, zgg c.Storage = (i, 0) := by
            unfold zfm at hs2; simp only [eS] at hs2; rw [hsp, obs] at hs2; exact ⟨(zgg c.Storage).1, by rw [← Option.some.inj hs2]⟩
           obtain ⟨i, hi⟩ := hst; exact ⟨{ m1 := hm.1, m2 := hm.2, sto := z2z hi hn, len := by omega, pos := by omega, traps := by omega, ins := r1, trap := r2 }, r3⟩
   · rw [zcn, dct h2] at h; simp only [ctr, Option.some.injEq, Prod.mk.injEq] at h; exact absurd h.2 h2
 · rw [zcn, dct h0] at h; simp only [ctr, Option.some.injEq, Prod.mk.injEq] at h; exact absurd h.2 h0
def zun (m : HwModel) (c : HwCode) : HwState := ⟨List.replicate m.Registers.toNat ⟨0, 0⟩, 0, c.Storage, 0, [], [], 0, 0, 0, 0⟩
theorem zz5 {m : HwModel} {c : HwCode} (hc : CodeV m c) : StV m c (zun m c) := by
 have := hc.m1
 have := hc.pos
 exact {
  regs := by show ((List.replicate m.Registers.toNat (⟨0, 0⟩ : Number)).length : Int) = _; rw [lnr]; omega
  nums := fun r hr => by rw [(List.mem_replicate.1 hr).2]; exact ⟨⟨by decide, by decide⟩, by decide, by decide⟩
  cnd := .inl rfl, sto := hc.sto, size := rfl, at0 := by show (0 : Int) ≤ 0; omega, at1 := by show (0 : Int) < _; omega, stk := by show 0 ≤ 6; omega
  calls := fun i hi => (List.not_mem_nil hi).elim
  lines := by show 0 ≤ 40; omega
  long := fun i hi => (List.not_mem_nil hi).elim
  st0 := by show (0 : Int) ≤ 0; omega, st1 := by show (0 : Int) ≤ 3; omega, ex0 := by show (0 : Int) ≤ 0; omega, ex1 := by show (0 : Int) ≤ 999; omega, mk0 := by show (0 : Int) ≤ 0; omega, mk1 := by show (0 : Int) ≤ 300; omega, sp0 := by show (0 : Int) ≤ 0; omega, sp1 := by show (0 : Int) ≤ 3000; omega }
theorem z0c {m : HwModel} {c : HwCode} (hc : CodeV m c) : zhx m c = some (zun m c) := by
 have := hc.m1
 have := hc.m2
 have := hc.sto.le
 have := hc.sto.tags
 unfold zhx
 rw [ifp, ifp, zqr (by omega), ctr, z2b (by omega)]
 rfl
theorem z0r (N : Nat) {m : HwModel} {c : HwCode} (hc : CodeV m c) (hk : zbw N m c = some 0) : zc0 N m c = some (zun m c, 0) := by
 have := hc.m1
 have := hc.m2
 have := hc.sto.le
 have := hc.sto.tags
 unfold zc0
 simp only [eM, eS, eC]
 rw [hk]
 simp only [obs, bsf, cfa]
 have hcl : zge 1 c.Storage.Tags = some c.Storage.Tags := by unfold zge; rw [zqr (by omega)]; rfl
 rw [hcl, obs, ifp, ifp, zqr (by omega)]
 rfl
theorem zuv (N : Nat) (l : List ByteArray) (h : l.length < N) (hl : l.length < 1000000) : za4 N l l = some true := by
 unfold za4
 simp only [bsf, cfa]
 have l1 := zbn (f := za4.r0 N) (fun i => (l, l, (i : Int))) (fun _ => none) l.length
  (fun i hi => by
   have hx := lge hi; simp only [za4.r0, za4.b0, zba, hx, obs, dct (show (i : Int) < (l.length : Int) by omega), ctr, bst, Bool.not_true, cfa]; rw [w6e]; rfl)
  (by simp only [za4.r0, za4.b0, dcf (show ¬ (l.length : Int) < (l.length : Int) by omega), cfa]) h
 simp only [nc0] at l1
 rw [l1]
 have : ∀ l : List Nat, l.findSome? (fun _ => (none : Option Bool)) = none := fun l => by rw [List.findSome?_eq_none_iff]; intros; rfl
 rw [this]
 rfl
theorem zxs (N : Nat) (l : List Bool) (h : l.length < N) (hl : l.length < 1000000) : zcj N l l = some true := by
 unfold zcj
 simp only [bsf, cfa]
 have l1 := zbn (f := zcj.r0 N) (fun i => (l, l, (i : Int))) (fun _ => none) l.length
  (fun i hi => by
   have hx := lge hi; simp only [zcj.r0, zcj.b0, zba, hx, obs, dct (show (i : Int) < (l.length : Int) by omega), ctr, bst, Bool.not_true, cfa]; rw [w6e]; rfl)
  (by simp only [zcj.r0, zcj.b0, dcf (show ¬ (l.length : Int) < (l.length : Int) by omega), cfa]) h
 simp only [nc0] at l1
 rw [l1]
 have : ∀ l : List Nat, l.findSome? (fun _ => (none : Option Bool)) = none := fun l => by rw [List.findSome?_eq_none_iff]; intros; rfl
 rw [this]
 rfl
theorem zz7 (N : Nat) (s : Storage) (h : s.Tags.length < N) (hl : s.Tags.length < 1000000) : zfc N s s = some true := by
 unfold zfc
 rw [bst, ctr, zxs N _ h hl]
 rfl
theorem zur (p : Nat → Bool) (n : Nat) {R : Type} (r : Nat → R) : (List.range n).any p = ((List.range n).findSome? fun i => if p i = true then some (r i) else none).isSome := by
 induction List.range n with
 | nil => rfl
 | cons a l ih =>
  rw [List.any_cons, List.findSome?_cons]; cases h : p a with
  | true => simp
  | false => simpa using ih
theorem zvo {σ : Type} {f : σ → Option (Round Int σ)} (S : Nat → σ) (p : Nat → Bool) (n : Nat) (h : ∀ i, i < n → f (S i) = some (if p i = true then .result (i : Int) else .again (S (i + 1)))) (hl : f (S n) = some (.leave (S n))) {N : Nat} (hN : n < N) :
 (((zk f N (S 0)).bind fun z2 => zbe z2 (fun z => some z) (fun _ => some (-1))).bind fun r1 => some (decide (r1 ≥ 0))) = some ((List.range n).any p) := by
 have l1 := zbn (f := f) S (fun i => if p i = true then some (i : Int) else none) n (fun i hi => by rw [h i hi]; cases p i <;> rfl) hl hN
 rw [l1, zur p n (fun i => (i : Int))]
 cases h2 : (List.range n).findSome? (fun i => if p i = true then some (i : Int) else none) with
 | none => rfl
 | some r =>
  obtain ⟨i, _, hi⟩ := List.exists_of_findSome?_eq_some h2; split at hi
  · injection hi with hi; subst hi; simp only [obs, zbe, Option.isSome_some]; rw [dct (by omega)]
  · cases hi
theorem zpx {σ : Type} {R : Type} {f : σ → Option (Round R σ)} (S : Nat → σ) (p : Nat → Bool) (e : R) (n : Nat) (h : ∀ i, i < n → f (S i) = some (if p i = true then .result e else .again (S (i + 1)))) (hl : f (S n) = some (.leave (S n))) {N : Nat} (hN : n < N) (K : σ → Option R) :
 ((zk f N (S 0)).bind fun z => zbe z (fun z => some z) K) = if (List.range n).any p = true then some e else K (S n) := by
 have l1 := zbn (f := f) S (fun i => if p i = true then some e else none) n (fun i hi => by rw [h i hi]; cases p i <;> rfl) hl hN
 rw [l1, zur p n (fun i => e)]
 cases h2 : (List.range n).findSome? (fun i => if p i = true then some e else none) with
 | none => rfl
 | some r =>
  obtain ⟨i, _, hi⟩ := List.exists_of_findSome?_eq_some h2; split at hi
  · injection hi with hi; subst hi; rfl
  · cases hi
def zc5 (t : List Bool) : Nat → List Int
 | 0 => []
 | i + 1 => if t.getD i false = true then zc5 t i ++ [(i : Int) * 16] else zc5 t i
theorem zmo (t : List Bool) : ∀ i, (zc5 t i).length ≤ i
 | 0 => Nat.le_refl 0
 | i + 1 => by
  have := zmo t i; unfold zc5; split
  · rw [lna, lns]; omega
  · omega
theorem zvc (t : List Bool) (o : Int) : ∀ i, o ∈ zc5 t i ↔ ∃ k : Nat, k < i ∧ t.getD k false = true ∧ o = (k : Int) * 16
 | 0 => by simp [zc5]
 | i + 1 => by
  have ih := zvc t o i; unfold zc5; constructor
  · intro h; split at h
    · rename_i hi; rcases List.mem_append.1 h with h | h
      · obtain ⟨k, h1, h2⟩ := ih.1 h; exact ⟨k, by omega, h2⟩
      · rw [List.mem_singleton] at h; exact ⟨i, by omega, hi, h⟩
    · obtain ⟨k, h1, h2⟩ := ih.1 h; exact ⟨k, by omega, h2⟩
  · rintro ⟨k, h1, h2, h3⟩
    by_cases hk : k = i
    · subst hk; rw [ifp h2]; exact List.mem_append_right _ (by rw [h3]; exact List.mem_singleton_self _)
    · have := ih.2 ⟨k, by omega, h2, h3⟩; split
      · exact List.mem_append_left _ this
      · exact this
structure StoW (s : Storage) : Prop where
 le : s.Bytes.size ≤ 1024
 quad : s.Bytes.size % 16 = 0
 tags : s.Tags.length = s.Bytes.size / 16
 err : zgg s = ((s.Tags.length : Int), 0)
 ptr : ∀ i, s.Tags[i]? = some true → (zik (ziw s i)).2 = 0
theorem zwx {s : Storage} (h : (zgg s).2 = 0) : StoW s := by
 have h0 := h
 unfold zgg at h0
 split at h0
 · cases h0
 split at h0
 · cases h0
 split at h0
 · cases h0
 rename_i a1 a2 a3
 have ht : s.Tags.length = s.Bytes.size / 16 := Classical.byContradiction a3
 cases hf : (List.range s.Tags.length).findSome? (gS s) with
 | some r =>
  rw [hf] at h0; obtain ⟨i, _, hi⟩ := List.exists_of_findSome?_eq_some hf; unfold gS at hi; cases hx : s.Tags[i]? with
  | none => rw [hx] at hi; cases hi
  | some b =>
   rw [hx] at hi; simp only [obs] at hi; split at hi
   · injection hi with hi; subst hi; cases h0
   · cases hi
 | none =>
  refine ⟨by omega, by omega, ht, ?_, fun i hi => ?_⟩
  · unfold zgg; rw [ifn a1, ifn a2, ifn a3, hf]
  · rw [List.findSome?_eq_none_iff] at hf; have hl := (List.getElem?_eq_some_iff.1 hi).1; have := hf i (List.mem_range.2 hl); unfold gS at this; rw [hi] at this; simp only [obs] at this; split at this
    · cases this
    · rename_i h5; exact Classical.byContradiction fun h6 => h5 ⟨trivial, h6⟩
def zsb (s : Storage) (o : Int) : Bool := (zik (ziw s (o / 16).toNat)).1.Kind != 0 || (zik (ziw s (o / 16).toNat)).1.Address.Segment != 1
theorem zxd (s : Storage) (k : Nat) : ((zik (ziw s k)).1.Kind != 0 || (zik (ziw s k)).1.Address.Segment != 1) = zsb s ((k : Int) * 16) := by
 unfold zsb
 rw [show ((k : Int) * 16 / 16).toNat = k by omega]
theorem zwm (N : Nat) (s : Storage) (h : s.Tags.length ≤ 64) (hN : 2000 < N) : z0 N s = some (zc5 s.Tags s.Tags.length) := by
 unfold z0
 have l1 := zlg (f := z0.r0 N) (fun i => (zc5 s.Tags i, (i : Int), s)) s.Tags.length
  (fun i hi => by
   have hx := lge hi; have hg : s.Tags.getD i false = s.Tags[i] := by rw [gdd, hx]; rfl
   have := zmo s.Tags i; have rm : Nat.ble (((zc5 s.Tags i).length + ([(w6 ((i : Int) * 16))] : List Int).length) * 8) zax = true := Nat.ble_eq_true_of_le (by unfold zax; simp; omega); simp only [z0.r0, z0.b0, zba, hx, obs, dct (show (i : Int) < (s.Tags.length : Int) by omega), ctr, rm]; rw [w6e (n := (i : Int) + 1), w6e (n := (i : Int) * 16), zc5, hg]; cases s.Tags[i] <;> rfl)
  (by simp only [z0.r0, z0.b0, dcf (show ¬ (s.Tags.length : Int) < (s.Tags.length : Int) by omega), cfa]) (N := N) (by omega)
 simp only [nc0] at l1
 exact congrArg (fun z => z.bind fun y1 => some y1.1) l1
theorem zwc (N : Nat) (s : Storage) (h : StoW s) (hN : 2000 < N) : zai N s = some (zc5 s.Tags s.Tags.length, 0) := by
 have hle := h.le
 have htg := h.tags
 unfold zai
 rw [(zkr N hN s).1, h.err]
 simp only [obs, bsf, cfa]
 have l1 := zlg (f := zai.r0 N) (fun i => (zc5 s.Tags i, s.Tags, (s.Tags.length : Int), (i : Int))) s.Tags.length
  (fun i hi => by
   have hx := lge hi; have hg : s.Tags.getD i false = s.Tags[i] := by rw [gdd, hx]; rfl
   have := zmo s.Tags i; have rm : Nat.ble (((zc5 s.Tags i).length + ([(w6 ((i : Int) * 16))] : List Int).length) * 8) zax = true := Nat.ble_eq_true_of_le (by unfold zax; simp; omega); simp only [zai.r0, zai.b0, zba, hx, obs, dct (show (i : Int) < (s.Tags.length : Int) by omega), ctr, rm]; rw [w6e (n := (i : Int) + 1), w6e (n := (i : Int) * 16), zc5, hg]; cases s.Tags[i] <;> rfl)
  (by simp only [zai.r0, zai.b0, dcf (show ¬ (s.Tags.length : Int) < (s.Tags.length : Int) by omega), cfa]) (N := N) (by omega)
 simp only [nc0] at l1
 exact congrArg (fun z => z.bind fun y1 => some (y1.1, (0 : Int))) l1
theorem zz4 (N : Nat) (hN : 2000 < N) {s : Storage} (h : StoW s) {k : Nat} (hk : s.Tags[k]? = some true) : zcr N s ((k : Int) * 16) = some (zik (ziw s k)) := by
 have hl := h.le
 have hq := h.quad
 have ht := h.tags
 have hi := (List.getElem?_eq_some_iff.1 hk).1
 unfold zcr zgf
 rw [(zkr N hN s).1, h.err]
 simp only [obs, bsf, cfa]
 rw [dcf (show ¬ (k : Int) * 16 < 0 by omega), dcf (show ¬ (k : Int) * 16 ≥ (s.Bytes.size : Int) by omega), tme, show ((k : Int) * 16) % 16 = 0 by omega]
 simp only [bsf, cfa, obs]
 rw [tde, show ((k : Int) * 16) / 16 = (k : Int) by omega, w6e (n := (k : Int)), zba, hk]
 simp only [obs, Bool.not_true, cfa]
 rw [w6e, ifp, ifp, show ((k : Int) * 16).toNat = 16 * k by omega, show ((k : Int) * 16 + 16).toNat = 16 * k + 16 by omega, zyr N (by omega) _ (by rw [zg9 _ _ _ (by omega) (by omega)]; omega), zkd]
 rfl
theorem z0d (N : Nat) (hN : 2000 < N) {s : Storage} (h : StoW s) {k : Nat} (hk : s.Tags[k]? = some true) : ziv N s ((k : Int) * 16) = some ((zik (ziw s k)).1, 0) := by
 have hl := h.le
 have hq := h.quad
 have ht := h.tags
 have hi := (List.getElem?_eq_some_iff.1 hk).1
 unfold ziv zb8
 rw [zgt, w6e, tme, show ((k : Int) * 16) % 16 = 0 by omega, show inB ((k : Int) * 16) 0 ((s.Bytes.size : Int) - 16) = true by unfold inB; rw [dct (by omega), dct (by omega)]; rfl]
 simp only [obs, bst, ctr, Bool.not_true, cfa]
 rw [tde, show ((k : Int) * 16) / 16 = (k : Int) by omega, w6e (n := (k : Int)), zba, hk]
 simp only [obs, Bool.not_true, cfa]
 unfold zgu
 rw [w6e (n := (k : Int) * 16), w6e, ifp, ifp, show ((k : Int) * 16).toNat = 16 * k by omega, show ((k : Int) * 16 + 16).toNat = 16 * k + 16 by omega]
 simp only [obs]
 rw [zy7 N (by omega) _ (by rw [zg9 _ _ _ (by omega) (by omega)]; omega), zkd]
 rfl
theorem zvb {s : Storage} {i : Nat} (h : i < (zc5 s.Tags s.Tags.length).length) : ∃ k : Nat, s.Tags[k]? = some true ∧ (zc5 s.Tags s.Tags.length)[i] = (k : Int) * 16 := by
 obtain ⟨k, h1, h2, h3⟩ := (zvc s.Tags _ _).1 (List.getElem_mem h)
 refine ⟨k, ?_, h3⟩
 rw [gdd, lge h1] at h2
 rw [lge h1]
 exact congrArg some h2
def zyi (s : Storage) : Bool := (List.range (zc5 s.Tags s.Tags.length).length).any fun i => zsb s ((zc5 s.Tags s.Tags.length).getD i 0)
def zoh (c : HwCode) (s : Storage) : Int := if (s.Bytes.size : Int) ≠ (c.Storage.Bytes.size : Int) then 18 else if (zgg s).2 ≠ 0 then (zgg s).2 else cond (zyi s) 22 0
theorem z3m (N : Nat) (hN : 2000 < N) (c : HwCode) (s : Storage) : zd1 N c s = some (zoh c s) := by
 unfold zd1 zoh
 by_cases h1 : (s.Bytes.size : Int) = (c.Storage.Bytes.size : Int)
 · rw [h1, ifn]; simp only [bsf, cfa]; rw [(zkr N hN s).1]; simp only [obs]
   by_cases h2 : (zgg s).2 = 0
   · have hw := zwx h2; have hle := hw.le; have htg := hw.tags; have hol := zmo s.Tags s.Tags.length; rw [h2, ifn]; simp only [bsf, cfa]; rw [zwc N s hw hN]; simp only [obs]; unfold zck zt; have l1 := zvo (f := zt.r0 N) (fun i => (zc5 s.Tags s.Tags.length, ((zc5 s.Tags s.Tags.length).length : Int), (i : Int), s)) (fun i => zsb s ((zc5 s.Tags s.Tags.length).getD i 0)) (zc5 s.Tags s.Tags.length).length
      (fun i hi => by
       obtain ⟨k, k1, k2⟩ := zvb hi; have hx := lge hi; have hg : (zc5 s.Tags s.Tags.length).getD i 0 = (k : Int) * 16 := by rw [gdd, hx, k2]; rfl
       simp only [zt.r0, zt.b0, zba, hx, obs, dct (show (i : Int) < ((zc5 s.Tags s.Tags.length).length : Int) by omega), ctr, k2, hg, zd6]; rw [zz4 N hN hw k1, w6e]; simp only [obs, orB]; rw [zxd]; cases zsb s ((k : Int) * 16) <;> rfl)
      (by simp only [zt.r0, zt.b0, dcf (show ¬ ((zc5 s.Tags s.Tags.length).length : Int) < ((zc5 s.Tags s.Tags.length).length : Int) by omega), cfa]) (N := N) (by omega)
     simp only [nc0] at l1; rw [l1]; simp only [obs, zk5]; rfl
   · rw [ifp h2, zcn, dct h2]; rfl
 · rw [ifp h1, zcn, dct h1]; rfl
theorem z13 (N : Nat) (hN : 2000 < N) {R : Type} (c : HwCode) (s : HwState) (hw : StoW s.Storage) (K : (List Int) × Int × HwCode × HwState → Option Int) :
 ((zk (zi.r2 N) N (zc5 s.Storage.Tags s.Storage.Tags.length, 0, c, s)).bind fun z10 => zbe z10 (fun z => some z) K) = if zyi s.Storage = true then some 22 else K (zc5 s.Storage.Tags s.Storage.Tags.length, ((zc5 s.Storage.Tags s.Storage.Tags.length).length : Int), c, s) := by
 have hle := hw.le
 have htg := hw.tags
 have hol := zmo s.Storage.Tags s.Storage.Tags.length
 have l1 := zpx (f := zi.r2 N) (fun i => (zc5 s.Storage.Tags s.Storage.Tags.length, (i : Int), c, s)) (fun i => zsb s.Storage ((zc5 s.Storage.Tags s.Storage.Tags.length).getD i 0)) 22 (zc5 s.Storage.Tags s.Storage.Tags.length).length
  (fun i hi => by
   obtain ⟨k, k1, k2⟩ := zvb hi; have hx := lge hi; have hg : (zc5 s.Storage.Tags s.Storage.Tags.length).getD i 0 = (k : Int) * 16 := by rw [gdd, hx, k2]; rfl
   simp only [zi.r2, zi.b2, zba, hx, obs, dct (show (i : Int) < ((zc5 s.Storage.Tags s.Storage.Tags.length).length : Int) by omega), ctr, k2, hg]; rw [z0d N hN hw k1, w6e]; simp only [obs, orB]; rw [zxd]; cases zsb s.Storage ((k : Int) * 16) <;> rfl)
  (by simp only [zi.r2, zi.b2, dcf (show ¬ ((zc5 s.Storage.Tags s.Storage.Tags.length).length : Int) < ((zc5 s.Storage.Tags s.Storage.Tags.length).length : Int) by omega), cfa]) (N := N) (by omega) K
 simp only [nc0] at l1
 exact l1
theorem zrq {n : Nat} {s : HwState} (h : Wft En n Ty.HwState s) : s.Storage.Bytes.size ≤ n ∧ s.Storage.Tags.length ≤ n ∧ s.Registers.length ≤ n ∧ s.Stack.length ≤ n ∧ s.Lines.length ≤ n := by
 have h1 := h (.sc (.string s.Storage.Bytes)) (by show _ ∈ zfy s; simp [zfy])
 have h2 := h (.lst Ty.bool s.Storage.Tags) (by show _ ∈ zfy s; simp [zfy])
 have h3 := h (.lst Ty.Number s.Registers) (by show _ ∈ zfy s; simp [zfy])
 have h4 := h (.lst (Ty.int .i64) s.Stack) (by show _ ∈ zfy s; simp [zfy])
 have h5 := h (.lst Ty.str s.Lines) (by show _ ∈ zfy s; simp [zfy])
 cases h1 with
 | str h1 =>
  cases h2 with
  | lst h2 _ =>
   cases h3 with
   | lst h3 _ =>
    cases h4 with
    | lst h4 _ =>
     cases h5 with
     | lst h5 _ => exact ⟨h1, h2, h3, h4, h5⟩
def zo8 (c : HwCode) (k : Int) : Bool := !inB k 0 ((c.Instructions.length : Int) - 1) || (c.Instructions.getD k.toNat ⟨0, 0, 0, 0, 0, ⟨false, 0, 0⟩, ⟨false, 0, 0⟩, ⟨0, 0, 0⟩, ⟨0, 0, 0⟩, false, false, ⟨0, 0⟩, ⟨#[]⟩, ⟨#[]⟩, 0, 0, 0, 0⟩).Op != 18
theorem zzi {α : Type} (d : α) {l : List α} {k : Int} (h : inB k 0 ((l.length : Int) - 1) = true) : idx l k = some (l.getD k.toNat d) := by
 unfold inB at h
 rw [Bool.and_eq_true, decide_eq_true_iff, decide_eq_true_iff] at h
 obtain ⟨j, rfl⟩ : ∃ j : Nat, k = (j : Int) := ⟨k.toNat, by omega⟩
 rw [zba, itn, gdd, lge (by omega)]
 rfl
theorem z0w (c : HwCode) (hlen : c.Instructions.length < 1000000000) (k : Int) : zc1 k (c.Instructions.length : Int) c = some (zo8 c k) := by
 unfold zc1 zo8
 rw [w6e, zlh]
 simp only [obs]
 cases h : inB k 0 ((c.Instructions.length : Int) - 1) with
 | false => rfl
 | true =>
  rw [zzi ⟨0, 0, 0, 0, 0, ⟨false, 0, 0⟩, ⟨false, 0, 0⟩, ⟨0, 0, 0⟩, ⟨0, 0, 0⟩, false, false, ⟨0, 0⟩, ⟨#[]⟩, ⟨#[]⟩, 0, 0, 0, 0⟩ h]; rfl
theorem z0i (c : HwCode) (hlen : c.Instructions.length < 1000000000) (k : Int) : ((zc k 0 (w6 ((c.Instructions.length : Int) - 1))).bind fun r => (cond (!r) (some true) ((idx c.Instructions k).bind fun x => some (x.Op != 18)))) = some (zo8 c k) := by
 unfold zo8
 rw [w6e, zgt]
 simp only [obs]
 cases h : inB k 0 ((c.Instructions.length : Int) - 1) with
 | false => rfl
 | true =>
  rw [zzi ⟨0, 0, 0, 0, 0, ⟨false, 0, 0⟩, ⟨false, 0, 0⟩, ⟨0, 0, 0⟩, ⟨0, 0, 0⟩, false, false, ⟨0, 0⟩, ⟨#[]⟩, ⟨#[]⟩, 0, 0, 0, 0⟩ h]; rfl
def zyk (c : HwCode) (l : List Int) : Bool := (List.range l.length).any fun i => zo8 c (l.getD i 0)
def zyj (l : List ByteArray) : Bool := (List.range l.length).any fun i => decide (((l.getD i ⟨#[]⟩).size : Int) > 256)
def zv7 (l : List Number) : Bool := (List.range l.length).any fun i => decide (zjt (l.getD i ⟨0, 0⟩) ≠ 0)
theorem zmg {α : Type} (d : α) {l : List α} {i : Nat} (h : i < l.length) : l.getD i d = l[i] := by
 rw [gdd, lge h]; rfl
theorem z0v (N : Nat) (c : HwCode) (hlen : c.Instructions.length < 1000000000) (l : List Int) (h : l.length < N) (hl : l.length < 1000000000) : zby N l (c.Instructions.length : Int) c = some (zyk c l) := by
 unfold zby zx
 have l1 := zvo (f := zx.r0 N) (fun i => (l, (l.length : Int), (i : Int), (c.Instructions.length : Int), c)) (fun i => zo8 c (l.getD i 0)) l.length
  (fun i hi => by
   have hx := lge hi; simp only [zx.r0, zx.b0, zba, hx, obs, dct (show (i : Int) < (l.length : Int) by omega), ctr, z0w c hlen, zmg 0 hi]; rw [w6e]; cases zo8 c l[i] <;> rfl)
  (by simp only [zx.r0, zx.b0, dcf (show ¬ (l.length : Int) < (l.length : Int) by omega), cfa]) (N := N) h
 simp only [nc0] at l1
 exact l1
theorem z0u (N : Nat) (l : List ByteArray) (h : l.length < N) (hl : l.length < 1000000000) : zbf N l = some (zyj l) := by
 unfold zbf zl
 have l1 := zvo (f := zl.r0 N) (fun i => (l, (l.length : Int), (i : Int))) (fun i => decide (((l.getD i ⟨#[]⟩).size : Int) > 256)) l.length
  (fun i hi => by
   have hx := lge hi; simp only [zl.r0, zl.b0, zba, hx, obs, dct (show (i : Int) < (l.length : Int) by omega), ctr, zd7, zmg _ hi]; rw [w6e]; cases decide ((l[i].size : Int) > 256) <;> rfl)
  (by simp only [zl.r0, zl.b0, dcf (show ¬ (l.length : Int) < (l.length : Int) by omega), cfa]) (N := N) h
 simp only [nc0] at l1
 exact l1
theorem z0h (N : Nat) (c : HwCode) (hlen : c.Instructions.length < 1000000000) (s : HwState) (h : s.Stack.length < N) (hl : s.Stack.length < 1000000000) (K : Int × HwCode × HwState → Option Int) :
 ((zk (zi.r4 N) N (0, c, s)).bind fun z => zbe z (fun z => some z) K) = if zyk c s.Stack = true then some 3 else K ((s.Stack.length : Int), c, s) := by
 have l1 := zpx (f := zi.r4 N) (fun i => ((i : Int), c, s)) (fun i => zo8 c (s.Stack.getD i 0)) 3 s.Stack.length
  (fun i hi => by
   have hx := lge hi; have hk := z0i c hlen s.Stack[i]; simp only [zi.r4, zi.b4, zba, hx, obs, dct (show (i : Int) < (s.Stack.length : Int) by omega), ctr, zmg _ hi]; rw [w6e (n := (i : Int) + 1)]; rw [← Option.bind_assoc, hk]; simp only [obs]; cases zo8 c s.Stack[i] <;> rfl)
  (by simp only [zi.r4, zi.b4, dcf (show ¬ (s.Stack.length : Int) < (s.Stack.length : Int) by omega), cfa]) (N := N) h K
 simp only [nc0] at l1
 exact l1
theorem z0e (N : Nat) (s : HwState) (h : s.Lines.length < N) (hl : s.Lines.length < 1000000000) (K : Int × HwState → Option Int) :
 ((zk (zi.r6 N) N (0, s)).bind fun z => zbe z (fun z => some z) K) = if zyj s.Lines = true then some 18 else K ((s.Lines.length : Int), s) := by
 have l1 := zpx (f := zi.r6 N) (fun i => ((i : Int), s)) (fun i => decide (((s.Lines.getD i ⟨#[]⟩).size : Int) > 256)) 18 s.Lines.length
  (fun i hi => by
   have hx := lge hi; simp only [zi.r6, zi.b6, zba, hx, obs, dct (show (i : Int) < (s.Lines.length : Int) by omega), ctr, zmg _ hi]; rw [w6e]; cases decide ((s.Lines[i].size : Int) > 256) <;> rfl)
  (by simp only [zi.r6, zi.b6, dcf (show ¬ (s.Lines.length : Int) < (s.Lines.length : Int) by omega), cfa]) (N := N) h K
 simp only [nc0] at l1
 exact l1
theorem zvd (n : Number) : zjt n = 0 ∨ zjt n = 3 := by
 unfold zjt
 cases (inB n.N (-999999999999999) 999999999999999 && inB n.Scale 0 15) with
 | true => exact .inl rfl
 | false => exact .inr rfl
theorem z17 (N : Nat) (c : HwCode) (s : HwState) (h : s.Registers.length < N) (hl : s.Registers.length < 1000000000) (K : Int × HwCode × HwState → Option Int) :
 ((zk (zi.r0 N) N (0, c, s)).bind fun z => zbe z (fun z => some z) K) = if zv7 s.Registers = true then some 3 else K ((s.Registers.length : Int), c, s) := by
 have l1 := zpx (f := zi.r0 N) (fun i => ((i : Int), c, s)) (fun i => decide (zjt (s.Registers.getD i ⟨0, 0⟩) ≠ 0)) 3 s.Registers.length
  (fun i hi => by
   have hx := lge hi; simp only [zi.r0, zi.b0, zba, hx, obs, dct (show (i : Int) < (s.Registers.length : Int) by omega), ctr, zmg _ hi, ztw]; rw [w6e]; rcases zvd s.Registers[i] with e | e <;> rw [e] <;> rfl)
  (by simp only [zi.r0, zi.b0, dcf (show ¬ (s.Registers.length : Int) < (s.Registers.length : Int) by omega), cfa]) (N := N) h K
 simp only [nc0] at l1
 exact l1
theorem z2m (N : Nat) (c : HwCode) (s : HwState) (h : s.Registers.length < N) (hl : s.Registers.length < 1000000000) (K : List Number × Int × Int × HwCode × HwState → Option Int) :
 ((zk (z9.r0 N) N (s.Registers, (s.Registers.length : Int), 0, c, s)).bind fun z => zbe z (fun z => some z) K) = if zv7 s.Registers = true then some 3 else K (s.Registers, (s.Registers.length : Int), (s.Registers.length : Int), c, s) := by
 have l1 := zpx (f := z9.r0 N) (fun i => (s.Registers, (s.Registers.length : Int), (i : Int), c, s)) (fun i => decide (zjt (s.Registers.getD i ⟨0, 0⟩) ≠ 0)) 3 s.Registers.length
  (fun i hi => by
   have hx := lge hi; simp only [z9.r0, z9.b0, zba, hx, obs, dct (show (i : Int) < (s.Registers.length : Int) by omega), ctr, zmg _ hi, zt2]; rw [w6e]; rcases zvd s.Registers[i] with e | e <;> rw [e] <;> rfl)
  (by simp only [z9.r0, z9.b0, dcf (show ¬ (s.Registers.length : Int) < (s.Registers.length : Int) by omega), cfa]) (N := N) h K
 simp only [nc0] at l1
 exact l1
def z3j (s : HwState) : Prop := s.Storage.Bytes.size ≤ 1048576 ∧ s.Storage.Tags.length ≤ 1048576 ∧ s.Registers.length ≤ 1048576 ∧ s.Stack.length ≤ 1048576 ∧ s.Lines.length ≤ 1048576
def zuh (s : HwState) : Bool := (((s.Condition == 0 || s.Condition == 1) || s.Condition == 2) || s.Condition == 4)
def z3h (c : HwCode) (s : HwState) : List Int := [cond (!zuh s) 3 0, zoh c s.Storage, cond (!inB s.At 0 ((c.Instructions.length : Int) - 1)) 3 0,
 cond (decide ((s.Stack.length : Int) > 6) || decide ((s.Lines.length : Int) > 40)) 2 0, cond (zyk c s.Stack) 3 0, cond (zyj s.Lines) 18 0, cond (!inB s.Status 0 3) 4 0,
 cond (!((inB s.Exception 0 999 && inB s.Marks 0 300) && inB s.Steps 0 3000)) 3 0]
def zyc (e0 : Int) (m : HwModel) (c : HwCode) (s : HwState) : Int := if e0 ≠ 0 then e0 else if (s.Registers.length : Int) ≠ m.Registers then 6 else if zv7 s.Registers = true then 3 else zc8 (z3h c s)
theorem z0q (N : Nat) (hN : 1048600 < N) {m : HwModel} {c : HwCode} {s : HwState} (hc : Wft En 1048576 Ty.HwCode c) (hs : z3j s) {e0 : Int} (k1 : zbw N m c = some e0) :
 z9 N m c s = some (zyc e0 m c s) := by
 obtain ⟨_, _, ci, _, _⟩ := zj5 hc
 obtain ⟨w1, w2, w3, w4, w5⟩ := hs
 have f2 : ∀ a b : Int, zq N [a, b] = some (zc8 [a, b]) := fun a b => zms N _ (by simp; omega) (by simp)
 have f8 : ∀ a b d e f g h i : Int, zq N [a, b, d, e, f, g, h, i] = some (zc8 [a, b, d, e, f, g, h, i]) := fun a b d e f g h i => zms N _ (by simp; omega) (by simp)
 unfold z9 zyc
 rw [k1]
 simp only [obs, zk5, f2]
 by_cases h0 : e0 = 0
 · rw [h0, ifn]
   by_cases h1 : (s.Registers.length : Int) = m.Registers
   · rw [h1, ifn]; rw [show zc8 [0, cond (m.Registers != m.Registers) 6 0] = 0 by rw [bsf]; rfl]; simp only [bsf, cfa]; rw [← h1, z2m N c s (by omega) (by omega)]; cases zv7 s.Registers with
     | true => rfl
     | false =>
      simp only [Bool.false_eq_true, if_false, orB, obs]; rw [z0v N c (by omega) s.Stack (by omega) (by omega), z0u N s.Lines (by omega) (by omega), z3m N (by omega)]; simp only [obs, zlh, ziq, w6e (n := (c.Instructions.length : Int) - 1), f8, Bool.not_not]; rfl
   · rw [ifp h1, show zc8 [0, cond ((s.Registers.length : Int) != m.Registers) 6 0] = 6 by rw [zcn, dct h1]; rfl]; rfl
 · rw [ifp h0, show zc8 [e0, cond ((s.Registers.length : Int) != m.Registers) 6 0] = e0 by unfold zc8; rw [ifn h0]]; rw [zcn, dct h0]; rfl
theorem zim (x : Int) (l : List Int) : zc8 (x :: l) = if x = 0 then zc8 l else x := rfl
theorem z0b (N : Nat) (hN : 1048600 < N) {m : HwModel} {c : HwCode} {s : HwState} (hc : Wft En 1048576 Ty.HwCode c) (hs : z3j s) {e0 : Int} (k2 : zeb N m c = some e0) :
 zi N m c s = some (zyc e0 m c s) := by
 obtain ⟨_, _, ci, _, _⟩ := zj5 hc
 obtain ⟨w1, w2, w3, w4, w5⟩ := hs
 unfold zi zyc
 rw [k2]
 simp only [obs]
 by_cases h0 : e0 = 0
 case neg => rw [ifp h0, zcn, dct h0]; rfl
 rw [h0, ifn]
 simp only [bsf, cfa]
 by_cases h1 : (s.Registers.length : Int) = m.Registers
 case neg => rw [ifp h1, zcn, dct h1]; rfl
 rw [h1, ifn]
 simp only [bsf, cfa]
 rw [z17 N c s (by omega) (by omega)]
 cases zv7 s.Registers with
 | true => rfl
 | false =>
  simp only [Bool.false_eq_true, if_false, ziq, obs]; have hcb : ((((s.Condition != 0) && (s.Condition != 1)) && (s.Condition != 2)) && (s.Condition != 4)) = !zuh s := by
   unfold zuh bne; cases s.Condition == 0 <;> cases s.Condition == 1 <;> cases s.Condition == 2 <;> cases s.Condition == 4 <;> rfl
  rw [hcb]; unfold z3h; cases zuh s with
  | false => rfl
  | true =>
   simp only [Bool.not_true, cfa]; rw [zim, ifp rfl, zim]
   by_cases h2 : (s.Storage.Bytes.size : Int) = (c.Storage.Bytes.size : Int)
   case neg => rw [show zoh c s.Storage = 18 by unfold zoh; rw [ifp h2], zcn, dct h2]; rfl
   rw [show ((s.Storage.Bytes.size : Int) != (c.Storage.Bytes.size : Int)) = false by rw [h2]; exact bsf _]; simp only [cfa]; rw [show zfm N s.Storage = some (zgg s.Storage).2 by unfold zfm; rw [show (⟨s.Storage.Bytes, s.Storage.Tags⟩ : Storage) = s.Storage from rfl, (zkr N (by omega) s.Storage).2]; rfl]; simp only [obs]
   by_cases h3 : (zgg s.Storage).2 = 0
   case neg => rw [show zoh c s.Storage = (zgg s.Storage).2 by unfold zoh; rw [ifn (fun h => h h2), ifp h3], zcn, dct h3, ifn h3]; rfl
   have hw := zwx h3; have hle := hw.le; have htg := hw.tags; rw [show zoh c s.Storage = cond (zyi s.Storage) 22 0 by unfold zoh; rw [ifn (fun h => h h2), ifn (fun h => h h3)], h3]; simp only [bsf, cfa]; rw [zwm N s.Storage (by omega) (by omega)]; simp only [obs]; rw [z13 N (by omega) (R := Int) c s hw]; cases zyi s.Storage with
   | true => rfl
   | false =>
    simp only [Bool.false_eq_true, if_false, cfa, if_true, eq_self, zgt, w6e (n := (c.Instructions.length : Int) - 1), obs]; rw [zim]; cases inB s.At 0 ((c.Instructions.length : Int) - 1) with
    | false => rfl
    | true =>
     simp only [Bool.not_true, cfa, if_true, eq_self, orB, obs]; rw [zim]; cases (decide ((s.Stack.length : Int) > 6) || decide ((s.Lines.length : Int) > 40)) with
     | true => rfl
     | false =>
      simp only [cfa, if_true, eq_self]; rw [z0h N c (by omega) s (by omega) (by omega), zim]; cases zyk c s.Stack with
      | true => rfl
      | false =>
       simp only [Bool.false_eq_true, if_false, cfa, if_true, eq_self]; rw [z0e N s (by omega) (by omega), zim]; cases zyj s.Lines with
       | true => rfl
       | false =>
        simp only [Bool.false_eq_true, if_false, cfa, if_true, eq_self, zgt, obs]; rw [zim]; cases inB s.Status 0 3 with
        | false => rfl
        | true =>
         simp only [Bool.not_true, cfa, if_true, eq_self]; cases inB s.Exception 0 999 <;> cases inB s.Marks 0 300 <;> cases inB s.Steps 0 3000 <;> rfl
theorem eT (t : HwState) : (⟨t.Registers, t.Condition, t.Storage, t.At, t.Stack, t.Lines, t.Status, t.Exception, t.Marks, t.Steps⟩ : HwState) = t := rfl
theorem z3d {s : HwState} (hs : Wft En 1048576 Ty.HwState s) : zif s = some s := by
 obtain ⟨w1, w2, w3, w4, w5⟩ := zrq hs
 have r : ∀ n : Nat, n ≤ 20000000 → Nat.ble n zax = true := fun n h => Nat.ble_eq_true_of_le (by unfold zax; omega)
 unfold zif zbr zfd zht zgk
 rw [r _ (by omega), r _ (by omega), r _ (by omega), r _ (by omega)]
 rfl
def zya (s : HwState) (i : Nat) : Option Bool := (s.Lines[i]?).bind fun l => if decide ((l.size : Int) > 300) = true then some false else none
def z0z (s : HwState) : Bool := match (List.range (min s.Lines.length 44)).findSome? (zya s) with
 | some r => r
 | none => ((((decide ((s.Storage.Bytes.size : Int) ≤ 1072) && decide ((s.Storage.Tags.length : Int) ≤ 67)) && decide ((s.Registers.length : Int) ≤ 11)) && decide ((s.Stack.length : Int) ≤ 9)) && decide ((s.Lines.length : Int) < 44))
theorem zzn (N : Nat) (hN : 1000 < N) (s : HwState) : za0 N s = some (z0z s) := by
 unfold za0 z0z
 have l1 := zbn (f := za0.r0 N) (fun i => ((i : Int), s)) (zya s) (min s.Lines.length 44)
  (fun i hi => by
   have hlt : i < s.Lines.length := by omega
   have hx := lge hlt; simp only [za0.r0, za0.b0, ziq, obs, dct (show (i : Int) < (s.Lines.length : Int) by omega), dct (show (i : Int) < 44 by omega), Bool.and_self, ctr, zba, hx, zya]; rw [w6e (n := (i : Int) + 1)]; cases (decide ((s.Lines[i].size : Int) > 300)) <;> rfl)
  (by
   have e : (decide (((min s.Lines.length 44 : Nat) : Int) < (s.Lines.length : Int)) && decide (((min s.Lines.length 44 : Nat) : Int) < 44)) = false := by
    by_cases h : s.Lines.length < 44
    · rw [dcf (show ¬ ((min s.Lines.length 44 : Nat) : Int) < (s.Lines.length : Int) by omega)]; rfl
    · rw [dcf (show ¬ ((min s.Lines.length 44 : Nat) : Int) < 44 by omega)]; simp
   simp only [za0.r0, za0.b0, ziq, obs, e, cfa]) (N := N) (by omega)
 simp only [nc0] at l1
 rw [l1]
 cases (List.range (min s.Lines.length 44)).findSome? (zya s) with
 | some r => rfl
 | none =>
  simp only [obs, zbe, zcu, ziq]
theorem zyy (N : Nat) (l : List Int) (h : l.length < N) (hl : l.length < 1000000000) : zc3 N l l = some true := by
 unfold zc3
 simp only [bsf, cfa]
 have l1 := zbn (f := zc3.r0 N) (fun i => (l, l, (i : Int))) (fun _ => none) l.length
  (fun i hi => by
   have hx := lge hi; simp only [zc3.r0, zc3.b0, zba, hx, obs, dct (show (i : Int) < (l.length : Int) by omega), ctr, bsf, cfa]; rw [w6e]; rfl)
  (by simp only [zc3.r0, zc3.b0, dcf (show ¬ (l.length : Int) < (l.length : Int) by omega), cfa]) h
 simp only [nc0] at l1
 rw [l1]
 have : ∀ l : List Nat, l.findSome? (fun _ => (none : Option Bool)) = none := fun l => by rw [List.findSome?_eq_none_iff]; intros; rfl
 rw [this]
 rfl
theorem z3u (x : Number) : zdz [(x.N == x.N), (x.Scale == x.Scale)] = true := by
 rw [bst, bst]; rfl
theorem zsj (N : Nat) (s : HwState) (h1 : s.Registers.length < 100000) (h2 : s.Stack.length < 100000) (h3 : s.Lines.length < 100000) (h4 : s.Storage.Tags.length < 100000) (hN : 100000 < N) : zbj N s s = some true := by
 unfold zbj
 simp only [bsf, cfa]
 have l1 := zbn (f := zbj.r0 N) (fun i => ((i : Int), s, s)) (fun _ => none) s.Registers.length
  (fun i hi => by
   have hx := lge hi; simp only [zbj.r0, zbj.b0, zba, hx, obs, dct (show (i : Int) < (s.Registers.length : Int) by omega), ctr, z3u, Bool.not_true, cfa]; rw [w6e]; rfl)
  (by simp only [zbj.r0, zbj.b0, dcf (show ¬ (s.Registers.length : Int) < (s.Registers.length : Int) by omega), cfa]) (N := N) (by omega)
 simp only [nc0] at l1
 rw [l1]
 have : ∀ l : List Nat, l.findSome? (fun _ => (none : Option Bool)) = none := fun l => by rw [List.findSome?_eq_none_iff]; intros; rfl
 rw [this]
 simp only [obs, zbe, bst, ctr]
 rw [show (⟨s.Storage.Bytes, s.Storage.Tags⟩ : Storage) = s.Storage from rfl, zz7 N _ (by omega) (by omega)]
 simp only [obs, ctr]
 rw [zyy N _ (by omega) (by omega)]
 simp only [obs, ctr]
 rw [zuv N _ (by omega) (by omega)]
 rfl
def zhg : HwState := ⟨[], 0, ⟨⟨#[]⟩, []⟩, 0, [], [], 0, 0, 0, 0⟩
theorem zzd (N : Nat) (hN : 100000 < N) : zi0 N zhg = some true := by
 unfold zi0
 rw [show (⟨zhg.Registers, zhg.Condition, (⟨zhg.Storage.Bytes, zhg.Storage.Tags⟩ : Storage), zhg.At, zhg.Stack, zhg.Lines, zhg.Status, zhg.Exception, zhg.Marks, zhg.Steps⟩ : HwState) = zhg from rfl]
 exact congrArg (fun z => z.bind fun r1 => some r1) (zsj N zhg (by decide) (by decide) (by decide) (by decide) hN)
theorem zz6 (N : Nat) (hN : 100000 < N) {m : HwModel} {c : HwCode} {s : HwState} (hc : CodeV m c) (h : StV m c s) : zbj N s s = some true := by
 have a1 := h.regs
 have a2 := h.stk
 have a3 := h.lines
 have a4 := h.sto.le
 have a5 := h.sto.tags
 have a6 := hc.m2
 exact zsj N s (by omega) (by omega) (by omega) (by omega) hN
theorem z3w : zjc 2000000 = some true := by kernel_rfl
theorem zud (N : Nat) {m : HwModel} {c : HwCode} {r : Int × Int} (h : ze N m c = some r) : zbw N m c = some r.2 := by
 unfold zbw
 simp only [eM, eS, eC]
 rw [h]
 rfl
theorem zua (N : Nat) {m : HwModel} {c : HwCode} {r : Int × Int} (h : zh N m c = some r) : zeb N m c = some r.2 := by
 unfold zeb
 simp only [eM, eS, eC]
 rw [h]
 rfl
theorem zyu (N : Nat) {m : HwModel} {c : HwCode} {e : Int} (he : e ≠ 0) (hk : zbw N m c = some e) : zc0 N m c = some (zhg, e) := by
 unfold zc0
 simp only [eM, eS, eC]
 rw [hk]
 simp only [obs]
 rw [zcn, dct he]
 rfl
theorem plainHardwareStates : ze2 := by
 intro m c s hm hc hs
 refine ⟨2000000, ?_⟩
 obtain ⟨b, hb⟩ := zzm 2000000 (by decide) hc
 obtain ⟨⟨n, e0⟩, hr1, hr2⟩ := zzr 2000000 (by decide) m hc
 have c1 := zud _ hr1
 have c2 := zua _ hr2
 have k1 := z0q 2000000 (by decide) hc (zrq hs) c1
 have k2 := z0b 2000000 (by decide) hc (zrq hs) c2
 unfold zds
 rw [z3w]
 simp only [obs, Bool.not_true, cfa, eS, eM, eC, eT]
 rw [hb]
 cases b with
 | false => rfl
 | true =>
  simp only [obs, Bool.not_true, cfa]; rw [zzn _ (by decide)]; cases z0z s with
  | false => rfl
  | true =>
   simp only [obs, Bool.not_true, cfa]; rw [z0m hc, z3d hs]; simp only [obs, eS, eM, eC, eT]; rw [c2, k1, k2]; simp only [obs, bst]
   by_cases h0 : e0 = 0
   · subst h0; obtain ⟨cv, _⟩ := z3v 2000000 (by decide) hc hr2; rw [z0r 2000000 cv c1, z0c cv]; simp only [obs, bsf, cfa, eS, eT]; rw [zz6 2000000 (by decide) cv (zz5 cv)]; rfl
   · rw [zyu 2000000 h0 c1]; simp only [obs, bsf, cfa]; rw [zcn, dct h0, ctr]; rw [zzd 2000000 (by decide)]; rfl
end
end Go.Proofs.YtppbpnknfigboaaGreatDoor.M
namespace Go.Proofs.YtppbpnknfigboaaGreatDoor
theorem hardwareStates_card : Rows.HardwareStatesUptoCardSaid := M.cardHardwareStates M.plainHardwareStates
#print axioms hardwareStates_card
end Go.Proofs.YtppbpnknfigboaaGreatDoor
