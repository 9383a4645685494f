/- The plain law of TranslateMaps: part 0. -/
import Derived.Test.YtnpfkhdbmlhfhaaGreatDoorF2
import Derived.Test.YtnpfkhdbmlhfhaaGreatDoorA4
import Derived.Lib.Strings
namespace Go.Proofs.YtnpfkhdbmlhfhaaGreatDoor.M
open Go Go.Amx
set_option linter.unusedVariables false
set_option linter.unusedSimpArgs false
set_option maxRecDepth 100000
noncomputable section
theorem obs {α β : Type} (a : α) (f : α → Option β) : (some a).bind f = f a := rfl
theorem dct {p : Prop} [Decidable p] (h : p) : decide p = true := decide_eq_true h
theorem dcf {p : Prop} [Decidable p] (h : ¬ p) : decide p = false := decide_eq_false h
theorem lna {α : Type} {a b : List α} : (a ++ b).length = a.length + b.length := List.length_append
theorem lns {α : Type} {a : α} : [a].length = 1 := List.length_singleton
theorem lge {α : Type} {l : List α} {i : Nat} (h : i < l.length) : l[i]? = some l[i] := List.getElem?_eq_getElem h
theorem itn (n : Nat) : Int.toNat (n : Int) = n := Int.toNat_natCast n
theorem ctr {α : Sort _} (a b : α) : cond true a b = a := rfl
theorem cfa {α : Sort _} (a b : α) : cond false a b = b := rfl
theorem ifp {c : Prop} {h : Decidable c} (hc : c := by omega) {α : Sort _} {t e : α} : ite c t e = t := if_pos hc
theorem ifn {c : Prop} {h : Decidable c} (hc : ¬c := by omega) {α : Sort _} {t e : α} : ite c t e = e := if_neg hc
theorem bsf {α : Type _} [BEq α] [LawfulBEq α] (a : α) : (a != a) = false := bne_self_eq_false a
theorem tde {a b : Int} (h : 0 ≤ a := by omega) : a.tdiv b = a / b := Int.tdiv_eq_ediv_of_nonneg h
theorem tme {a b : Int} (h : 0 ≤ a := by omega) : a.tmod b = a % b := Int.tmod_eq_emod_of_nonneg h
theorem lnt {α : Type _} {i : Nat} {l : List α} : (l.take i).length = min i l.length := List.length_take
theorem lnr {α : Type _} {n : Nat} {a : α} : (List.replicate n a).length = n := List.length_replicate
theorem gdd {α : Type _} {l : List α} {i : Nat} {a : α} : l.getD i a = l[i]?.getD a := List.getD_eq_getElem?_getD
theorem cbc {p : Prop} (h : ¬p → False) : p := Classical.byContradiction h
theorem lnc {α : Type _} {a : α} {l : List α} : (a :: l).length = l.length + 1 := List.length_cons
theorem gei {α : Type _} {i : Nat} {a : α} {l : List α} (h : l[i]? = some a) : ∃ h : i < l.length, l[i] = a := List.getElem?_eq_some_iff.1 h
theorem eof {α β : Type _} {b : β} {f : α → Option β} {l : List α} (h : l.findSome? f = some b) : ∃ a, a ∈ l ∧ f a = some b := List.exists_of_findSome?_eq_some h
theorem ln0 {α : Type _} : ([] : List α).length = 0 := rfl
theorem lnm {α β : Type _} {l : List α} (f : α → β) : (l.map f).length = l.length := List.length_map f
theorem dr0 {α : Type _} {l : List α} : l.drop 0 = l := rfl
theorem bsa {a b : ByteArray} : (a ++ b).size = a.size + b.size := ByteArray.size_append
theorem bnt : (!true) = false := rfl
theorem mel {a b : Nat} (h : a < b) : a % b = a := Nat.mod_eq_of_lt h
theorem nc0 : ((0 : Nat) : Int) = 0 := Int.natCast_zero
theorem bst {α : Type _} [BEq α] [ReflBEq α] (a : α) : (a == a) = true := beq_self_eq_true a
theorem lmg {α : Type _} {l : List α} {i : Nat} {a : α} (h : l[i]? = some a) : a ∈ l := List.mem_of_getElem? h
theorem w6e {n : Int} (h1 : -9223372036854775808 ≤ n := by omega) (h2 : n ≤ 9223372036854775807 := by omega) : w6 n = n := z8j h1 h2
theorem zu3 (N : Nat) (l : List Int) (h : l.length < N) (hl : l.length < 1000000000) : zak N l = some (zds l) := by
 unfold zak
 have := zax (f := zak.r0 N) (fun i => (l, (l.length : Int), (i : Int))) (fun i => (l[i]?).bind fun x => if x = 0 then none else some x) l.length
  (fun i hi => by
   have hx := lge hi; simp only [zak.r0, zak.b0, zae, hx, obs, dct (show (i : Int) < (l.length : Int) by omega), ctr]
   by_cases h0 : l[i] = 0
   · simp only [h0, bsf, cfa, if_true]; rw [w6e]; rfl
   · simp only [h0, if_false]; rw [show (l[i] != 0) = true by simpa using h0]; rfl)
  (by simp only [zak.r0, zak.b0, dcf (show ¬ (l.length : Int) < (l.length : Int) by omega), cfa]) h
 simp only [nc0] at this
 rw [this, zk0, ← znu]
 simp only [obs]
 cases l.findSome? (fun x => if x = 0 then none else some x) <;> rfl
theorem zux (N : Nat) (l : List Int) (h : l.length < N) (hl : l.length < 1000000000) : zai N l = some (zds l) := by
 unfold zai
 have := zax (f := zai.r0 N) (fun i => (l, (l.length : Int), (i : Int))) (fun i => (l[i]?).bind fun x => if x = 0 then none else some x) l.length
  (fun i hi => by
   have hx := lge hi; simp only [zai.r0, zai.b0, zae, hx, obs, dct (show (i : Int) < (l.length : Int) by omega), ctr]
   by_cases h0 : l[i] = 0
   · simp only [h0, bsf, cfa, if_true]; rw [w6e]; rfl
   · simp only [h0, if_false]; rw [show (l[i] != 0) = true by simpa using h0]; rfl)
  (by simp only [zai.r0, zai.b0, dcf (show ¬ (l.length : Int) < (l.length : Int) by omega), cfa]) h
 simp only [nc0] at this
 rw [this, zk0, ← znu]
 simp only [obs]
 cases l.findSome? (fun x => if x = 0 then none else some x) <;> rfl
def inB (n lo hi : Int) : Bool := decide (lo ≤ n) && decide (n ≤ hi)
theorem zpo (n lo hi : Int) : zbh n lo hi = some (inB n lo hi) := by
 unfold zbh inB
 cases decide (lo ≤ n) <;> rfl
theorem zx0 (n lo hi : Int) : zeg n lo hi = some (inB n lo hi) := by
 unfold zeg inB
 cases decide (lo ≤ n) <;> rfl
theorem zfy (n lo hi : Int) : zd n lo hi = some (inB n lo hi) := by
 unfold zd inB
 cases decide (lo ≤ n) <;> rfl
theorem zqo (b : Bool) (e : Int) : zb1 b e = some (cond b e 0) := by cases b <;> rfl
theorem zqm (b : Bool) (e : Int) : zby b e = some (cond b e 0) := by cases b <;> rfl
theorem zlq (b : Bool) : zcf b = some (cond b 1 0) := by cases b <;> rfl
theorem zrs (m : zL) : ∃ e, zcs m = some e ∧ zgl m = some e ∧ (e = 0 → 2 ≤ m.Registers ∧ m.Registers ≤ 8) := by
 refine ⟨cond (!inB m.Registers 2 8) 3 0, ?_, ?_, ?_⟩
 · simp only [zcs, zpo, zqo, obs]
 · simp only [zgl, zfy, obs]; cases inB m.Registers 2 8 <;> rfl
 · intro h; cases hb : inB m.Registers 2 8 with
   | false => rw [hb] at h; cases h
   | true => simpa [inB] using hb
def zbp (t : DataType) : Int :=
 if t.Kind = 0 then (if inB t.Length 1 256 then (if t.Scale = 0 then 0 else 3) else 18)
 else if t.Kind = 1 ∨ t.Kind = 2 then (if inB t.Length 1 15 then (if inB t.Scale 0 t.Length then 0 else 3) else 18)
 else if t.Kind = 3 then (if t.Length = 4 ∨ t.Length = 9 then (if inB t.Scale 0 t.Length then 0 else 3) else 18)
 else if t.Kind = 4 then (if t.Length = 0 then (if t.Scale = 0 then 0 else 3) else 18)
 else 4
theorem zs6 (a b : Bool) (x y : Int) (hx : x ≠ 0) (hy : y ≠ 0) : zds [cond a x 0, cond b y 0] = cond a x (cond b y 0) := by
 cases a <;> cases b <;> simp [zds, hx, hy]
theorem zoi (N : Nat) (hN : 10 < N) (t : DataType) : zck N t = some (zbp t) := by
 have f2 : ∀ a b : Int, zai N [a, b] = some (zds [a, b]) := fun a b => zux N _ (by simp; omega) (by simp)
 unfold zck zbp
 simp only [zx0, zqm, f2, obs, zs6 _ _ 18 3 (by decide) (by decide)]
 by_cases h0 : t.Kind = 0
 · simp only [h0, bst, ctr, if_true]; cases inB t.Length 1 256 <;> by_cases hs : t.Scale = 0 <;> simp [zbj, hs]
 · simp only [beq_eq_false_iff_ne.2 h0, h0, cfa, if_false]
   by_cases h1 : t.Kind = 1
   · simp only [h1, bst, ctr, true_or, if_true, obs]; cases inB t.Length 1 15 <;> cases inB t.Scale 0 t.Length <;> simp
   · by_cases h2 : t.Kind = 2
     · simp only [h2, h1]; cases inB t.Length 1 15 <;> cases inB t.Scale 0 t.Length <;> simp
     · by_cases h3 : t.Kind = 3
       · simp only [h3]
         by_cases h4 : t.Length = 4 <;> by_cases h5 : t.Length = 9 <;> cases inB t.Scale 0 t.Length <;> simp [zbj, h4, h5]
       · by_cases h4 : t.Kind = 4
         · simp only [h4]
           by_cases h5 : t.Length = 0 <;> by_cases h6 : t.Scale = 0 <;> simp [zbj, h5, h6]
         · simp [zbj, h1, h2, h3, h4]
theorem zrc (k : Int) : zcr k = some (inB k 1 3) := by simp only [zcr, zfy, obs]
theorem zwi (t : DataType) : zev t = some (zbp t) := by
 have w0' : w6 0 = 0 := by decide
 have w1 : w6 3 = 3 := by decide
 have hz : inB t.Scale 0 0 = decide (t.Scale = 0) := by
  unfold inB
  by_cases h : t.Scale = 0
  · simp [h]
  · simp only [h, decide_false]
    by_cases h1 : 0 ≤ t.Scale
    · simp [h1, show ¬ t.Scale ≤ 0 by omega]
    · simp [h1]
 unfold zev zbp
 simp only [zfy, zrc, zlq, obs, hz]
 by_cases h0 : t.Kind = 0
 · have e : inB (0 : Int) 0 4 = true := by decide
   have e' : inB (0 : Int) 1 3 = false := by decide
   simp only [h0, e, e']; cases inB t.Length 1 256 <;> by_cases hs : t.Scale = 0 <;> simp [zbj, hs, w0', w1]
 · by_cases h1 : t.Kind = 1
   · have e : inB (1 : Int) 0 4 = true := by decide
     have e' : inB (1 : Int) 1 3 = true := by decide
     simp only [h1, e, e']; cases inB t.Length 1 15 <;> cases inB t.Scale 0 t.Length <;> simp [w0', w1]
   · by_cases h2 : t.Kind = 2
     · have e : inB (2 : Int) 0 4 = true := by decide
       have e' : inB (2 : Int) 1 3 = true := by decide
       simp only [h2, e, e']; cases inB t.Length 1 15 <;> cases inB t.Scale 0 t.Length <;> simp [w0', w1]
     · by_cases h3 : t.Kind = 3
       · have e : inB (3 : Int) 0 4 = true := by decide
         have e' : inB (3 : Int) 1 3 = true := by decide
         simp only [h3, e, e']
         by_cases h4 : t.Length = 4 <;> by_cases h5 : t.Length = 9 <;> cases inB t.Scale 0 t.Length <;> simp [zbj, h4, h5, w0', w1]
       · by_cases h4 : t.Kind = 4
         · have e : inB (4 : Int) 0 4 = true := by decide
           have e' : inB (4 : Int) 1 3 = false := by decide
           simp only [h4, e, e']
           by_cases h5 : t.Length = 0 <;> by_cases h6 : t.Scale = 0 <;> simp [zbj, h5, h6, w0', w1]
         · have e : inB t.Kind 0 4 = false := by
            unfold inB
            by_cases hh : 0 ≤ t.Kind
            · simp only [hh, decide_true, Bool.true_and, decide_eq_false_iff_not]; omega
            · simp [hh]
           simp [zbj, h0, h1, h2, h3, h4, e]
theorem zcl {n lo hi : Int} : inB n lo hi = true ↔ lo ≤ n ∧ n ≤ hi := by simp [inB]
theorem zig {t : DataType} (h : zbp t = 0) : (t.Kind = 0 ∧ 1 ≤ t.Length ∧ t.Length ≤ 256) ∨ ((t.Kind = 1 ∨ t.Kind = 2) ∧ 1 ≤ t.Length ∧ t.Length ≤ 15) ∨ (t.Kind = 3 ∧ (t.Length = 4 ∨ t.Length = 9)) ∨ (t.Kind = 4 ∧ t.Length = 0) := by
 unfold zbp at h
 split at h
 · rename_i h0; split at h
   · rename_i h1; exact .inl ⟨h0, (zcl.1 h1).1, (zcl.1 h1).2⟩
   · cases h
 · split at h
   · rename_i h0; split at h
     · rename_i h1; exact .inr (.inl ⟨h0, (zcl.1 h1).1, (zcl.1 h1).2⟩)
     · cases h
   · split at h
     · rename_i h0; split at h
       · rename_i h1; exact .inr (.inr (.inl ⟨h0, h1⟩))
       · cases h
     · split at h
       · rename_i h0; split at h
         · rename_i h1; exact .inr (.inr (.inr ⟨h0, h1⟩))
         · cases h
       · cases h
def szE (t : DataType) : Int := if t.Kind = 1 then t.Length / 2 + 1 else if t.Kind = 3 then (if t.Length = 9 then 4 else 2) else if t.Kind = 4 then 16 else t.Length
theorem zf9 {t : DataType} (h : zbp t = 0) : 0 < szE t ∧ szE t ≤ 256 := by
 unfold szE
 rcases zig h with ⟨h0, h1, h2⟩ | ⟨h0 | h0, h1, h2⟩ | ⟨h0, h1 | h1⟩ | ⟨h0, h1⟩ <;> simp only [h0] <;> simp <;> omega
theorem zmx {t : DataType} (h : zbp t = 0) : zcb t = some (szE t) := by
 unfold zcb szE
 rcases zig h with ⟨h0, h1, h2⟩ | ⟨h0 | h0, h1, h2⟩ | ⟨h0, h1 | h1⟩ | ⟨h0, h1⟩ <;> simp only [h0, h1, zbj, zlq] <;> simp
 · rw [tde, w6e (n := t.Length / 2), w6e]
 · decide
 · decide
theorem zwq {t : DataType} (h : zbp t = 0) : zgz t = some (szE t) := by
 unfold zgz szE
 rcases zig h with ⟨h0, h1, h2⟩ | ⟨h0 | h0, h1, h2⟩ | ⟨h0, h1 | h1⟩ | ⟨h0, h1⟩ <;> simp only [h0, h1, zbj] <;> simp
 · rw [tde, w6e (n := t.Length / 2), w6e]
 · decide
 · decide
theorem z73 (N : Nat) (hN : 10 < N) {t : DataType} (h : zbp t = 0) : zic N t = some (szE t) := by
 unfold zic zd6
 rw [zoi N hN, h]
 simp [zwq h]
structure StoOk (s : Storage) : Prop where
 le : s.Bytes.size ≤ 1024
 quad : s.Bytes.size % 16 = 0
def zj8 (s : Storage) (a : Int) : Bool := decide (0 ≤ a) && (decide (a % 16 = 0) && decide (a < (s.Bytes.size : Int)))
theorem z1a (s : Storage) (a : Int) : zdf s a = some (zj8 s a) := by
 unfold zdf zj8
 by_cases h : 0 ≤ a
 · rw [tme h]; simp only [ge_iff_le, h, decide_true, ctr, obs, zbj, Bool.true_and]; cases decide (a % 16 = 0) <;> rfl
 · simp [h]
theorem z03 {s : Storage} (ok : StoOk s) (a : Int) : zeq s a = some (zj8 s a) := by
 have h1 := ok.le
 have h2 := ok.quad
 unfold zeq zj8
 rw [w6e, zfy]
 simp only [obs]
 by_cases h : 0 ≤ a
 · rw [tme h]; simp only [inB, h, decide_true, Bool.true_and, zbj]
   by_cases h3 : a % 16 = 0
   · have e : decide (a ≤ (s.Bytes.size : Int) - 16) = decide (a < (s.Bytes.size : Int)) := by
      by_cases h4 : a < (s.Bytes.size : Int)
      · rw [dct h4]; exact dct (by omega)
      · rw [dcf h4]; exact dcf (by omega)
     simp only [h3, decide_true, Bool.true_and, e]; cases decide (a < (s.Bytes.size : Int)) <;> rfl
   · simp only [h3, decide_false, Bool.false_and]; cases decide (a ≤ (s.Bytes.size : Int) - 16) <;> rfl
 · simp [inB, h]
def zh1 (s : Storage) (p : zM) (n : Int) : Bool := if p.Based then zj8 s p.Pointer && inB p.Offset 0 256 else inB p.Offset 0 ((s.Bytes.size : Int) - n)
theorem zzn {s : Storage} (ok : StoOk s) (N : Nat) (hN : 10 < N) (p : zM) {t : DataType} (h : zbp t = 0) : zc5 N s p t = some (zh1 s p (szE t)) := by
 obtain ⟨h1, h2⟩ := zf9 h
 have h3 := ok.le
 unfold zc5 zh1
 rw [z1a, z73 N hN h, zpo]
 simp only [obs]
 rw [w6e]
 simp only [zpo, obs]
 cases p.Based <;> cases zj8 s p.Pointer <;> simp
theorem zyu {s : Storage} (ok : StoOk s) {c : zI} (hc : c.Storage = s) (p : zM) (hp : -9223372036854775808 ≤ p.Offset ∧ p.Offset ≤ 9223372036854775807) {t : DataType} (h : zbp t = 0) : zdz c p (szE t) = some (zh1 s p (szE t)) := by
 obtain ⟨h1, h2⟩ := zf9 h
 have h3 := ok.le
 unfold zdz zh1 zjx
 rw [hc]
 simp only [z03 ok, zfy, obs]
 cases p.Based with
 | true => cases zj8 s p.Pointer <;> simp
 | false =>
  simp only [cfa]
  by_cases h4 : inB p.Offset 0 (s.Bytes.size : Int) = true
  · obtain ⟨h5, h6⟩ := zcl.1 h4; rw [w6e]; simp only [h4, ctr, obs, Bool.false_eq_true, if_false]
    congr 1
    unfold inB; simp only [h5, decide_true, Bool.true_and, show (0 : Int) ≤ szE t by omega]
    by_cases h7 : szE t ≤ (s.Bytes.size : Int) - p.Offset
    · rw [dct h7]; exact (dct (by omega)).symm
    · rw [dcf h7]; exact (dcf (by omega)).symm
  · have e : inB p.Offset 0 (s.Bytes.size : Int) = false := by simpa using h4
    simp only [e, cfa, obs, Bool.false_eq_true, if_false]
    congr 1
    cases h5 : inB p.Offset 0 ((s.Bytes.size : Int) - szE t) with
    | false => rfl
    | true =>
     obtain ⟨h6, h7⟩ := zcl.1 h5; exact absurd (zcl.2 ⟨h6, by omega⟩) h4
def zrp (n : Number) : Int := cond (inB n.N (-999999999999999) 999999999999999 && inB n.Scale 0 15) 0 3
theorem z4c (n : Number) : zff n = some (zrp n) := by
 unfold zff zrp
 simp only [zx0, zqm, obs]
 cases inB n.N (-999999999999999) 999999999999999 <;> cases inB n.Scale 0 15 <;> rfl
theorem z3y (n : Number) : zef n = some (zrp n) := by
 have w0 : w6 (3 * 0) = 0 := by decide
 have w1 : w6 (3 * 1) = 3 := by decide
 unfold zef zrp
 simp only [zfy, zlq, obs]
 cases inB n.N (-999999999999999) 999999999999999 <;> cases inB n.Scale 0 15 <;> simp [w0, w1, zlq] <;> decide
def z60 (op : Int) (ins : Bool) : Option zT :=
 (idx z2u op).bind fun x1 => (cond (op == 4) (some ins) (some false)).bind fun g2 =>
  cond g2 (some (⟨(orI .i64 (orI .i64 (z1o .i64 x1.fields 4) 8) 64), x1.types⟩ : zT)) (some x1)
theorem z9s (x : zC) : zbt x = z60 x.Op x.zO := rfl
def z6s (op : Int) (ins : Bool) : Option zN := zee ⟨op, 0, 0, 0, 0, ⟨false, 0, 0⟩, ⟨false, 0, 0⟩, ⟨0, 0, 0⟩, ⟨0, 0, 0⟩, false, ins, ⟨0, 0⟩, ⟨#[]⟩, ⟨#[]⟩, 0, 0, 0, 0⟩
theorem z8l (x : zC) : zee x = z6s x.Op x.zO := rfl
structure Agree (f : zT) (u : zN) : Prop where
 R : (zk .i64 f.fields 1 != 0) = u.R
 A : (zk .i64 f.fields 2 != 0) = u.A
 B : (zk .i64 f.fields 4 != 0) = u.B
 Place : (zk .i64 f.fields 8 != 0) = u.Place
 From : (zk .i64 f.fields 16 != 0) = u.From
 zG : (zk .i64 f.fields 32 != 0) = (u.zG != 0)
 Second : (zk .i64 f.fields 64 != 0) = (u.Second != 0)
 Half : (zk .i64 f.fields 128 != 0) = u.Half
 Number : (zk .i64 f.fields 256 != 0) = u.Number
 Text : (zk .i64 f.fields 512 != 0) = u.Text
 Other : (zk .i64 f.fields 1024 != 0) = u.Other
 Mask : (zk .i64 f.fields 2048 != 0) = u.Mask
 Target : (zk .i64 f.fields 4096 != 0) = u.Target
 Pointer : (zk .i64 f.fields 8192 != 0) = u.Pointer
 Source : (zk .i64 f.fields 16384 != 0) = u.Source
 Calc : (zk .i64 f.fields 32768 != 0) = u.zS
 class1 : u.zG = 0 ∨ u.zG = f.types
 class2 : u.Second = 0 ∨ u.Second = f.types
 cls : f.types = 0 ∨ f.types = 1 ∨ f.types = 2 ∨ f.types = 3
def z0c (f : zT) (u : zN) : Bool :=
 ((zk .i64 f.fields 1 != 0) == u.R) && (((zk .i64 f.fields 2 != 0) == u.A) && (((zk .i64 f.fields 4 != 0) == u.B) && (((zk .i64 f.fields 8 != 0) == u.Place) && (((zk .i64 f.fields 16 != 0) == u.From) &&
 (((zk .i64 f.fields 32 != 0) == (u.zG != 0)) && (((zk .i64 f.fields 64 != 0) == (u.Second != 0)) && (((zk .i64 f.fields 128 != 0) == u.Half) && (((zk .i64 f.fields 256 != 0) == u.Number) && (((zk .i64 f.fields 512 != 0) == u.Text) &&
 (((zk .i64 f.fields 1024 != 0) == u.Other) && (((zk .i64 f.fields 2048 != 0) == u.Mask) && (((zk .i64 f.fields 4096 != 0) == u.Target) && (((zk .i64 f.fields 8192 != 0) == u.Pointer) && (((zk .i64 f.fields 16384 != 0) == u.Source) &&
 (((zk .i64 f.fields 32768 != 0) == u.zS) && ((u.zG == 0 || u.zG == f.types) && ((u.Second == 0 || u.Second == f.types) && (f.types == 0 || (f.types == 1 || (f.types == 2 || f.types == 3))))))))))))))))))))
theorem z6p {f : zT} {u : zN} (h : z0c f u = true) : Agree f u := by
 simp only [z0c, Bool.and_eq_true, beq_iff_eq, Bool.or_eq_true] at h
 obtain ⟨h1, h2, h3, h4, h5, h6, h7, h8, h9, h10, h11, h12, h13, h14, h15, h16, h17, h18, h19⟩ := h
 exact ⟨h1, h2, h3, h4, h5, h6, h7, h8, h9, h10, h11, h12, h13, h14, h15, h16, h17, h18, h19⟩
def z2m (op : Int) (ins : Bool) : Bool := match z60 op ins, z6s op ins with
 | some f, some u => (z0c f u && ((!u.From || u.Second != 0) && (!u.Place || cond (op == 4) (u.Second != 0) (u.zG != 0)))) && (cond (op == 4) (u.R && u.A && u.zS && (u.Place == ins) && (u.Second != 0) == ins) (u.zS == false))
 | _, _ => false
theorem z9f : ((List.range 27).all fun k => z2m (k : Int) true && z2m (k : Int) false) = true := by kernel_rfl
theorem zxi (x : zC) (h : inB x.Op 0 26 = true) : ∃ f u, zbt x = some f ∧ zee x = some u ∧ Agree f u ∧ (x.Op = 4 → u.Place = x.zO) ∧ (u.From = true → u.Second ≠ 0) ∧ (u.Place = true → if x.Op = 4 then u.Second ≠ 0 else u.zG ≠ 0) := by
 obtain ⟨h1, h2⟩ := zcl.1 h
 obtain ⟨k, hk⟩ : ∃ k : Nat, x.Op = (k : Int) := ⟨x.Op.toNat, by omega⟩
 have hlt : k < 27 := by omega
 have h3 := List.all_eq_true.1 z9f k (by simpa using hlt)
 have h4 : z2m x.Op x.zO = true := by
  rw [hk]; cases x.zO
  · exact ((Bool.and_eq_true _ _).mp h3).2
  · exact ((Bool.and_eq_true _ _).mp h3).1
 rw [z9s, z8l]
 unfold z2m at h4
 split at h4
 · rename_i f u hf hu; obtain ⟨h5, h6⟩ := (Bool.and_eq_true _ _).mp h4; simp only [Bool.and_eq_true] at h5; obtain ⟨h5, h8, h9⟩ := h5; refine ⟨f, u, hf, hu, z6p h5, fun h7 => ?_, fun h7 => ?_, fun h7 => ?_⟩
   · rw [h7] at h6; simp only [bst, ctr, Bool.and_eq_true, beq_iff_eq] at h6; exact h6.1.2
   · rw [h7] at h8; simpa using h8
   · rw [h7] at h9; split
     · rename_i h10; rw [h10] at h9; simpa using h9
     · rename_i h10; rw [zbj, dcf h10] at h9; simpa using h9
 · cases h4
theorem zqx (a b : Int) : (a == b) = !(a != b) := by simp [bne]
def zlf (x : zC) (u : zN) : Bool :=
 (!u.R && x.R != 0) || ((!u.A && x.A != 0) || ((!u.B && x.B != 0) || ((!u.zS && x.zS != 0) || ((!u.Place && !(!x.Place.Based && (x.Place.Pointer == 0 && x.Place.Offset == 0))) ||
 ((!u.From && !(!x.From.Based && (x.From.Pointer == 0 && x.From.Offset == 0))) || ((u.zG == 0 && !(x.zG.Kind == 0 && (x.zG.Length == 0 && x.zG.Scale == 0))) || ((u.Second == 0 && !(x.Second.Kind == 0 && (x.Second.Length == 0 && x.Second.Scale == 0))) ||
 ((!u.Half && x.Half) || ((x.Op != 4 && x.zO) || ((!u.Number && !(x.Number.N == 0 && x.Number.Scale == 0)) || ((!u.Text && !(x.Text.toList == [])) || ((!u.Other && !(x.Other.toList == [])) ||
 ((!u.Mask && x.Mask != 0) || ((!u.Target && x.Target != 0) || ((!u.Pointer && x.Pointer != 0) || ((!u.Source && x.Source != 0) || ((!x.Place.Based && x.Place.Pointer != 0) || (!x.From.Based && x.From.Pointer != 0))))))))))))))))))
theorem orB (a b : Bool) : (cond a (some true) (some b)) = some (a || b) := by cases a <;> rfl
theorem zjs (a b : Bool) : (cond a (some b) (some false)) = some (a && b) := by cases a <;> rfl
theorem z5r (x : zC) (u : zN) : zho x u = some (zlf x u) := by
 unfold zho zlf
 have e : (⟨#[]⟩ : ByteArray).toList = [] := by kernel_rfl
 simp only [zjs, orB, obs, zcp, Bool.and_true, e, Bool.or_assoc, beq_false]
def zno (p : zM) (b : Bool) : zM := cond b (cond p.Based p ⟨p.Based, 0, p.Offset⟩) ⟨false, 0, 0⟩
theorem z4j (p : zM) (b : Bool) : zgq p b = some (zno p b) := by
 unfold zgq zno
 cases b <;> cases p.Based <;> rfl
theorem zaaz (k v fl : Int) : zch k v fl = some (cond (zk .i64 fl k != 0) v 0) := by
 unfold zch
 rw [zqx]
 cases (zk .i64 fl k != 0) <;> rfl
def zx1 (x : zC) (u : zN) : zC :=
 ⟨x.Op, cond u.R x.R 0, cond u.A x.A 0, cond u.B x.B 0, cond u.zS x.zS 0, zno x.Place u.Place, zno x.From u.From, cond (u.zG != 0) x.zG ⟨0, 0, 0⟩, cond (u.Second != 0) x.Second ⟨0, 0, 0⟩,
  cond x.Half u.Half false, cond x.zO (x.Op == 4) false, cond u.Number x.Number ⟨0, 0⟩, cond u.Text x.Text ⟨#[]⟩, cond u.Other x.Other ⟨#[]⟩, cond u.Mask x.Mask 0, cond u.Target x.Target 0, cond u.Pointer x.Pointer 0, cond u.Source x.Source 0⟩
theorem z75 {x : zC} {f : zT} {u : zN} (hf : zbt x = some f) (ag : Agree f u) : zid x = some (zx1 x u) := by
 have b2 : ∀ a b : Bool, (cond a (some b) (some false)) = some (cond a b false) := fun a b => by cases a <;> rfl
 unfold zid zx1
 simp only [hf, zaaz, z4j, b2, obs, zqx (zk .i64 f.fields 32), zqx (zk .i64 f.fields 64), zqx (zk .i64 f.fields 256), zqx (zk .i64 f.fields 512), zqx (zk .i64 f.fields 1024),
  ag.R, ag.A, ag.B, ag.Place, ag.From, ag.zG, ag.Second, ag.Half, ag.Number, ag.Text, ag.Other, ag.Mask, ag.Target, ag.Pointer, ag.Source, ag.Calc]
 cases (u.zG != 0) <;> cases (u.Second != 0) <;> cases u.Number <;> cases u.Text <;> cases u.Other <;> rfl
theorem zaav (b : Bool) (n : Int) : (!(cond b n 0 == n)) = (!b && n != 0) := by
 cases b
 · by_cases h : n = 0
   · simp [h]
   · simp [h, zbj, zcd, Ne.symm h]
 · simp
theorem z6o (a b : ByteArray) : (a == b) = decide (a = b) := by
 cases a with | mk x =>
 cases b with | mk y =>
 show ByteArray.beq _ _ = _
 unfold ByteArray.beq
 by_cases h : x = y
 · simp [h]
 · simp [h]
theorem zaau (b : Bool) (t : ByteArray) : (!(cond b t (⟨#[]⟩ : ByteArray) == t)) = (!b && !(t.toList == [])) := by
 rw [z6o]
 cases b
 · simp only [cfa, Bool.not_false, Bool.true_and]
   congr 1
   rw [Lib.toList_data]
   by_cases h : t = ⟨#[]⟩
   · subst h; rfl
   · rw [dcf (Ne.symm h)]
     symm
     rw [beq_eq_false_iff_ne]; intro hh; apply h; cases t with
     | mk d => simp at hh; rw [hh]
 · simp
theorem zaax (a b : Bool) : (!(cond a b false == a)) = (!b && a) := by cases a <;> cases b <;> rfl
theorem zaaw (a : Bool) (op : Int) : (!(cond a (op == 4) false == a)) = (op != 4 && a) := by
 cases a
 · simp
 · simp [bne]
theorem z6w (p : zM) (b r : Bool) : (!((zno p b).Based == p.Based) || (!((zno p b).Pointer == p.Pointer) || (!((zno p b).Offset == p.Offset) || r))) =
 ((!b && !(!p.Based && (p.Pointer == 0 && p.Offset == 0))) || ((!p.Based && p.Pointer != 0) || r)) := by
 obtain ⟨ba, pt, of⟩ := p
 cases b <;> cases ba <;> by_cases h1 : pt = 0 <;> by_cases h2 : of = 0 <;> simp [zno, zbj, zcd, h1, h2, eq_comm (a := (0 : Int))]
theorem z6x (t : DataType) (b : Int) (r : Bool) : (!((cond (b != 0) t ⟨0, 0, 0⟩).Kind == t.Kind) || (!((cond (b != 0) t ⟨0, 0, 0⟩).Length == t.Length) || (!((cond (b != 0) t ⟨0, 0, 0⟩).Scale == t.Scale) || r))) =
 ((b == 0 && !(t.Kind == 0 && (t.Length == 0 && t.Scale == 0))) || r) := by
 obtain ⟨k, l, s⟩ := t
 by_cases h0 : b = 0 <;> by_cases h1 : k = 0 <;> by_cases h2 : l = 0 <;> by_cases h3 : s = 0 <;> simp [zbj, zcd, h0, h1, h2, h3, eq_comm (a := (0 : Int))]
theorem zaat (t : Number) (b r : Bool) : (!((cond b t ⟨0, 0⟩).N == t.N) || (!((cond b t ⟨0, 0⟩).Scale == t.Scale) || r)) = ((!b && !(t.N == 0 && t.Scale == 0)) || r) := by
 obtain ⟨n, s⟩ := t
 cases b <;> by_cases h1 : n = 0 <;> by_cases h2 : s = 0 <;> simp [zbj, zcd, h1, h2, eq_comm (a := (0 : Int))]
theorem z2r (x : zC) (u : zN) (r2 : zC) (h : r2 = zx1 x u) :
 (!(zcp [(r2.Op == x.Op), (r2.R == x.R), (r2.A == x.A), (r2.B == x.B), (r2.zS == x.zS), (r2.Place.Based == x.Place.Based), (r2.Place.Pointer == x.Place.Pointer), (r2.Place.Offset == x.Place.Offset), (r2.From.Based == x.From.Based), (r2.From.Pointer == x.From.Pointer), (r2.From.Offset == x.From.Offset), (r2.zG.Kind == x.zG.Kind), (r2.zG.Length == x.zG.Length), (r2.zG.Scale == x.zG.Scale), (r2.Second.Kind == x.Second.Kind), (r2.Second.Length == x.Second.Length), (r2.Second.Scale == x.Second.Scale), (r2.Half == x.Half), (r2.zO == x.zO), (r2.Number.N == x.Number.N), (r2.Number.Scale == x.Number.Scale), (r2.Text == x.Text), (r2.Other == x.Other), (r2.Mask == x.Mask), (r2.Target == x.Target), (r2.Pointer == x.Pointer), (r2.Source == x.Source)])) = zlf x u := by
 subst h
 simp only [zcp, Bool.not_and, zx1]
 rw [z6w x.Place, z6w x.From, z6x x.zG, z6x x.Second, zaat x.Number]
 simp only [zaav, zaau, zaax, zaaw, bst, bnt, Bool.false_or, Bool.or_false, zlf, bne]
 ac_rfl
def zdq (t : DataType) (c : Int) : Int := if c = 0 then 0 else if zbp t = 0 then (if (c = 1 ∧ ¬ (1 ≤ t.Kind ∧ t.Kind ≤ 3)) ∨ (c = 2 ∧ t.Kind ≠ 0) ∨ (c = 3 ∧ t.Kind = 4) then 17 else 0) else zbp t
theorem zmc {t : DataType} {c : Int} (h : zdq t c = 0) (hc : c ≠ 0) : zbp t = 0 := by
 unfold zdq at h
 rw [ifn hc] at h
 by_cases h0 : zbp t = 0
 · exact h0
 · rw [ifn h0] at h; exact absurd h h0
theorem zv2 (N : Nat) (hN : 10 < N) (t : DataType) (c : Int) (hc : c = 1 ∨ c = 2 ∨ c = 3) : zet N t c = some (zdq t c) := by
 have f2 : ∀ a b : Int, zak N [a, b] = some (zds [a, b]) := fun a b => zu3 N _ (by simp; omega) (by simp)
 unfold zet zdq
 rw [zoi N hN]
 simp only [zqo, f2, zjs, orB, obs, zbj, zcd]
 have hc0 : c ≠ 0 := by omega
 rw [ifn hc0]
 by_cases h : zbp t = 0
 · rw [ifp h, h]; simp only [zds, if_true]; rcases zig h with ⟨h0, _⟩ | ⟨h0 | h0, _⟩ | ⟨h0, _⟩ | ⟨h0, _⟩ <;> rcases hc with rfl | rfl | rfl <;> simp [h0]
 · rw [ifn h]; simp only [zds, h, if_false]
theorem zvn (t : DataType) (c : Int) (hc : c = 0 ∨ c = 1 ∨ c = 2 ∨ c = 3) : zg8 t c = some (zdq t c) := by
 unfold zg8 zdq
 rw [zwi]
 simp only [zrc, zjs, orB, obs, zbj, zcd]
 by_cases hc0 : c = 0
 · simp [hc0]
 · rw [ifn hc0]; simp only [hc0, decide_false, cfa]
   by_cases h : zbp t = 0
   · rw [ifp h, h]; rcases zig h with ⟨h0, _⟩ | ⟨h0 | h0, _⟩ | ⟨h0, _⟩ | ⟨h0, _⟩ <;> rcases hc with rfl | rfl | rfl | rfl <;> first | exact absurd rfl hc0 | simp [h0, inB]
   · rw [ifn h]; simp [h]
theorem z6a (N : Nat) (hN : 10 < N) {x : zC} {f : zT} {u : zN} (ag : Agree f u) : zgc N x f = some (zds [zdq x.zG u.zG, zdq x.Second u.Second]) := by
 have w0 : ∀ t, zdq t 0 = 0 := fun t => by simp [zdq]
 have hcls : ∀ c, c ≠ 0 → (c = 0 ∨ c = f.types) → c = f.types ∧ (f.types = 1 ∨ f.types = 2 ∨ f.types = 3) := by
  intro c h0 h1; have := ag.cls; omega
 have eta : ∀ t : DataType, (⟨t.Kind, t.Length, t.Scale⟩ : DataType) = t := fun t => rfl
 unfold zgc
 rw [ag.zG, ag.Second]
 by_cases h1 : u.zG = 0
 · by_cases h2 : u.Second = 0
   · simp [h1, h2, w0, zds]
   · obtain ⟨e2, c2⟩ := hcls _ h2 ag.class2; have ht := fun t => zv2 N hN t f.types c2; have h0 : f.types ≠ 0 := by omega
     simp only [eta, ht, h1, e2, w0]
     by_cases h3 : zdq x.Second f.types = 0 <;> simp [h3, h0, zds, zcd]
 · obtain ⟨e1, c1⟩ := hcls _ h1 ag.class1; have ht := fun t => zv2 N hN t f.types c1; have h0 : f.types ≠ 0 := by omega
   by_cases h2 : u.Second = 0
   · simp only [eta, ht, h2, e1, w0]
     by_cases h3 : zdq x.zG f.types = 0 <;> simp [h3, h0, zds, zcd]
   · obtain ⟨e2, c2⟩ := hcls _ h2 ag.class2; simp only [eta, ht, e2, e1]
     by_cases h3 : zdq x.zG f.types = 0 <;> by_cases h4 : zdq x.Second f.types = 0 <;> simp [h3, h4, h0, zds, zcd]
def zmy (x : zC) (u : zN) : List Int := cond u.R [x.R] [] ++ (cond u.A [x.A] [] ++ cond u.B [x.B] [])
theorem z74 (n : Nat) {x : zC} {f : zT} {u : zN} (hf : zbt x = some f) (ag : Agree f u) : zq (n + 10) x = some (zmy x u) := by
 have s0 : w6 (1 * 2 ^ (min ((0 : Int).toNat) 64)) = 1 := by decide
 have s1 : w6 (1 * 2 ^ (min ((1 : Int).toNat) 64)) = 2 := by decide
 have s2 : w6 (1 * 2 ^ (min ((2 : Int).toNat) 64)) = 4 := by decide
 have a0 : w6 (0 + 1) = 1 := by decide
 have a1 : w6 (1 + 1) = 2 := by decide
 have a2 : w6 (2 + 1) = 3 := by decide
 have rm : ∀ k : Nat, k ≤ 3 → Nat.ble (k * 8) zah = true := fun k hk => Nat.ble_eq_true_of_le (by unfold zah; omega)
 unfold zq
 rw [hf]
 simp only [obs]
 have i0 : ∀ l, zq.r0 (n + 10) (l, f.fields, [x.R, x.A, x.B], (([x.R, x.A, x.B] : List Int).length : Int), 0) = some (.again (cond u.R (l ++ [x.R]) l, f.fields, [x.R, x.A, x.B], (([x.R, x.A, x.B] : List Int).length : Int), 1)) ∨ l.length > 2 := by
  intro l
  by_cases hl : l.length > 2
  · exact .inr hl
  · left; simp only [zq.r0, zq.b0, s0, a0, ag.R]; have := rm (l.length + 1) (by omega); cases u.R <;> simp [this]
 have i1 : ∀ l, zq.r0 (n + 10) (l, f.fields, [x.R, x.A, x.B], (([x.R, x.A, x.B] : List Int).length : Int), 1) = some (.again (cond u.A (l ++ [x.A]) l, f.fields, [x.R, x.A, x.B], (([x.R, x.A, x.B] : List Int).length : Int), 2)) ∨ l.length > 2 := by
  intro l
  by_cases hl : l.length > 2
  · exact .inr hl
  · left; simp only [zq.r0, zq.b0, s1, a1, ag.A]; have := rm (l.length + 1) (by omega); cases u.A <;> simp [this]
 have i2 : ∀ l, zq.r0 (n + 10) (l, f.fields, [x.R, x.A, x.B], (([x.R, x.A, x.B] : List Int).length : Int), 2) = some (.again (cond u.B (l ++ [x.B]) l, f.fields, [x.R, x.A, x.B], (([x.R, x.A, x.B] : List Int).length : Int), 3)) ∨ l.length > 2 := by
  intro l
  by_cases hl : l.length > 2
  · exact .inr hl
  · left; simp only [zq.r0, zq.b0, s2, a2, ag.B]; have := rm (l.length + 1) (by omega); cases u.B <;> simp [this]
 have i3 : ∀ l, zq.r0 (n + 10) (l, f.fields, [x.R, x.A, x.B], (([x.R, x.A, x.B] : List Int).length : Int), 3) = some (.leave (l, f.fields, [x.R, x.A, x.B], (([x.R, x.A, x.B] : List Int).length : Int), 3)) := by
  intro l; simp [zq.r0, zq.b0]
 have l1 : (cond u.R ([] ++ [x.R]) ([] : List Int)).length ≤ 1 := by cases u.R <;> simp
 have l2 : (cond u.A (cond u.R ([] ++ [x.R]) ([] : List Int) ++ [x.A]) (cond u.R ([] ++ [x.R]) ([] : List Int))).length ≤ 2 := by cases u.R <;> cases u.A <;> simp
 show (zi (zq.r0 (n + 10)) (n + 10) _).bind _ = _
 simp only [zi]
 rw [(i0 []).resolve_right (by simp)]
 simp only [obs]
 rw [(i1 _).resolve_right (by omega)]
 simp only [obs]
 rw [(i2 _).resolve_right (by omega)]
 simp only [obs]
 rw [i3]
 simp only [obs, zmy]
 cases u.R <;> cases u.A <;> cases u.B <;> rfl
def zfj (m : zL) (r : Int) : Bool := !inB r 0 (m.Registers - 1)
theorem z0t (N : Nat) (l : List Int) (h : l.length < N) (hl : l.length < 1000000000) (m : zL) (hm : 2 ≤ m.Registers ∧ m.Registers ≤ 8) : zc1 N l m = some (l.any (zfj m)) := by
 unfold zc1 zad
 have c1 : ∀ r, zfh r m = some (zfj m r) := fun r => by
  unfold zfh zfj; rw [w6e, zpo]; rfl
 have := zax (f := zad.r0 N) (fun i => (l, (l.length : Int), (i : Int), m)) (fun i => (l[i]?).bind fun x => if zfj m x then some (i : Int) else none) l.length
  (fun i hi => by
   have hx := lge hi; simp only [zad.r0, zad.b0, zae, hx, obs, dct (show (i : Int) < (l.length : Int) by omega), ctr, c1]; rw [w6e]; cases hb : zfj m l[i] <;> simp)
  (by simp only [zad.r0, zad.b0, dcf (show ¬ (l.length : Int) < (l.length : Int) by omega), cfa]) h
 simp only [nc0] at this
 rw [this]
 simp only [obs]
 cases hfs : (List.range l.length).findSome? (fun i : Nat => (l[i]?).bind fun x => if zfj m x = true then some (i : Int) else none) with
 | some r =>
  simp only [zbc, obs]; obtain ⟨i, hi, hr⟩ := eof hfs; rw [Option.bind_eq_some_iff] at hr; obtain ⟨x, hx, hr⟩ := hr; split at hr
  · rename_i hb; cases hr; have : l.any (zfj m) = true := List.any_eq_true.2 ⟨x, lmg hx, hb⟩; rw [this]; simp
  · cases hr
 | none =>
  simp only [zbc, obs]; rw [List.findSome?_eq_none_iff] at hfs; have : l.any (zfj m) = false := by
   rw [List.any_eq_false]; intro x hx hb; obtain ⟨i, hi⟩ := List.getElem?_of_mem hx; have := hfs i (by simp; exact (gei hi).1); rw [hi] at this; simp [hb] at this
  rw [this]; rfl
theorem z7k (m : zL) (hm : 2 ≤ m.Registers ∧ m.Registers ≤ 8) {x : zC} {u : zN} (hu : zee x = some u) : zeo m x = some (!(zmy x u).any (zfj m)) := by
 have c1 : ∀ r, zen m r = some (!zfj m r) := fun r => by
  unfold zen zfj; rw [w6e, zfy]; simp
 unfold zeo
 rw [hu]
 have aux : ∀ b r, (cond b [r] []).any (zfj m) = (b && zfj m r) := fun b r => by cases b <;> simp
 simp only [c1, obs, zmy, List.any_append, aux]
 generalize zfj m x.R = p
 generalize zfj m x.A = q
 generalize zfj m x.B = r
 cases u.R <;> cases u.A <;> cases u.B <;> cases p <;> cases q <;> cases r <;> rfl
def zkz (x : zC) : DataType := if x.Op = 4 then x.Second else x.zG
def zlv (m : zL) (c : zI) (x : zC) (u : zN) : Bool :=
 (zmy x u).any (zfj m) || ((u.Target && !inB x.Target 0 ((c.zA.length : Int) - 1)) || ((u.Mask && !inB x.Mask 1 7) || ((u.Pointer && !zj8 c.Storage x.Pointer) || ((u.Source && !zj8 c.Storage x.Source) ||
  ((u.Place && !zh1 c.Storage x.Place (szE (zkz x))) || ((u.From && !zh1 c.Storage x.From (szE x.Second)) || (u.zS && !inB x.zS 0 4)))))))
theorem eD (t : DataType) : (⟨t.Kind, t.Length, t.Scale⟩ : DataType) = t := rfl
theorem eP (t : zM) : (⟨t.Based, t.Pointer, t.Offset⟩ : zM) = t := rfl
theorem eS (t : Storage) : (⟨t.Bytes, t.Tags⟩ : Storage) = t := rfl
theorem eN (t : Number) : (⟨t.N, t.Scale⟩ : Number) = t := rfl
theorem eM (t : zL) : (⟨t.Registers, t.yC, t.yB⟩ : zL) = t := rfl
theorem eC (t : zI) : (⟨t.Storage, t.zA, t.zV⟩ : zI) = t := rfl
theorem eX (t : zC) : (⟨t.Op, t.R, t.A, t.B, t.zS, t.Place, t.From, t.zG, t.Second, t.Half, t.zO, t.Number, t.Text, t.Other, t.Mask, t.Target, t.Pointer, t.Source⟩ : zC) = t := rfl
theorem eF (t : zT) : (⟨t.fields, t.types⟩ : zT) = t := rfl
theorem nF (a b : Bool) : (cond a (some (!b)) (some false)) = some (a && !b) := by cases a <;> rfl
structure InsOk (c : zI) (x : zC) (u : zN) : Prop where
 sto : StoOk c.Storage
 len : c.zA.length < 1000000000
 pt : u.Place = true → zbp (zkz x) = 0
 ft : u.From = true → zbp x.Second = 0
 po : -9223372036854775808 ≤ x.Place.Offset ∧ x.Place.Offset ≤ 9223372036854775807
 fo : -9223372036854775808 ≤ x.From.Offset ∧ x.From.Offset ≤ 9223372036854775807
theorem z3b {a b : Bool} {o : Option Bool} (h : a = true → o = some b) : (cond a o (some false)) = some (a && b) := by
 cases a
 · rfl
 · exact h rfl
theorem z6b (N : Nat) (hN : 20 < N) {m : zL} (hm : 2 ≤ m.Registers ∧ m.Registers ≤ 8) {c : zI} {x : zC} {f : zT} {u : zN} (hf : zbt x = some f) (ag : Agree f u) (ok : InsOk c x u) :
 zgr N m c x = some (!zlv m c x u) := by
 obtain ⟨n, rfl⟩ : ∃ n, N = n + 10 := ⟨N - 10, by omega⟩
 have hl : (zmy x u).length ≤ 3 := by unfold zmy; cases u.R <;> cases u.A <;> cases u.B <;> simp
 have hlen := ok.len
 have g1 : ∀ p t, (u.Place = true → zbp t = 0) → (cond u.Place ((zc5 (n + 10) c.Storage p t).bind fun r => some (!r)) (some false)) = some (u.Place && !zh1 c.Storage p (szE t)) := fun p t h => z3b fun hp => by rw [zzn ok.sto _ (by omega) _ (h hp)]; rfl
 have g2 : ∀ p t, (u.From = true → zbp t = 0) → (cond u.From ((zc5 (n + 10) c.Storage p t).bind fun r => some (!r)) (some false)) = some (u.From && !zh1 c.Storage p (szE t)) := fun p t h => z3b fun hp => by rw [zzn ok.sto _ (by omega) _ (h hp)]; rfl
 unfold zgr
 try simp only [eD, eP, eS, eM, eC, eX]
 rw [hf, z74 n hf ag]
 simp only [obs]
 rw [z0t _ _ (by omega) (by omega) m hm]
 simp only [obs]
 unfold zlv
 cases hr : (zmy x u).any (zfj m) with
 | true => rfl
 | false =>
  simp only [cfa, Bool.false_or, ag.Place, ag.From, ag.Target, ag.Mask, ag.Pointer, ag.Source, ag.Calc, zjs, zbj, obs]; rw [w6e]; simp only [zpo, z1a, nF, obs]
  by_cases h4 : x.Op = 4
  · have hp : zkz x = x.Second := ifp h4; have k := ok.pt; rw [hp] at k ⊢; rw [g2 _ _ ok.ft]; cases hup : u.Place with
    | true =>
     simp only [h4, decide_true, Bool.and_true, ctr, Bool.true_and]; have := g1 x.Place x.Second k; rw [hup] at this; simp only [ctr, Bool.true_and] at this; rw [this]; simp only [orB, obs, Bool.or_assoc, Bool.true_and]
    | false =>
     simp only [h4, decide_true, Bool.false_and, cfa, obs, orB, Bool.or_assoc, Bool.false_or]
  · have hp : zkz x = x.zG := ifn h4; have k := ok.pt; rw [hp] at k ⊢; rw [g1 _ _ k, g2 _ _ ok.ft]; simp only [h4, decide_false, Bool.and_false, cfa, obs, orB, Bool.or_assoc]
def znt (m : zL) (x : zC) : Bool := (decide (x.Op = 7) && !m.yC) || (x.zO && !m.yB)
def zpl (x : zC) : Bool := decide ((x.Text.size : Int) > 256) || decide ((x.Other.size : Int) > 256)
theorem z9n (m : zL) (x : zC) (h : x.zO = true → x.Op = 4) : zg2 m x = some (!znt m x) := by
 unfold zg2 znt
 by_cases h7 : x.Op = 7
 · have h4 : x.zO = false := by
    cases hi : x.zO with
    | false => rfl
    | true => have := h hi; omega
   rw [h4]; simp only [h7, zcd]; cases m.yC <;> rfl
 · by_cases h4 : x.Op = 4
   · simp only [h4, zcd]; cases x.zO <;> cases m.yB <;> rfl
   · have h5 : x.zO = false := by
      cases hi : x.zO with
      | false => rfl
      | true => exact absurd (h hi) h4
     simp [h5, h7, h4, zcd]
theorem z5p (m : zL) (x : zC) : zj2 m x = some (znt m x) := by
 unfold zj2 znt
 simp only [zbj]
 cases decide (x.Op = 7) <;> cases m.yC <;> cases x.zO <;> cases m.yB <;> rfl
def zu2 (m : zL) (c : zI) (x : zC) (u : zN) : Int :=
 cond (zlf x u) 5 (cond (znt m x) 39 (if zdq x.zG u.zG ≠ 0 then zdq x.zG u.zG else if zdq x.Second u.Second ≠ 0 then zdq x.Second u.Second else
  cond (zlv m c x u) 3 (if zrp x.Number ≠ 0 then zrp x.Number else cond (zpl x) 2 0)))
theorem zuf {x : zC} {u : zN} (h : zlf x u = false) : (x.zO = true → x.Op = 4) ∧ (u.Number = false → zrp x.Number = 0) := by
 unfold zlf at h
 simp only [Bool.or_eq_false_iff] at h
 obtain ⟨_, _, _, _, _, _, _, _, _, h10, h11, _⟩ := h
 constructor
 · intro hi; rw [hi] at h10; simpa using h10
 · intro hn; rw [hn] at h11; simp only [Bool.not_false, Bool.true_and, Bool.not_eq_eq_eq_not, bnt, Bool.and_eq_true, beq_iff_eq, Bool.not_eq_false'] at h11; obtain ⟨e1, e2⟩ : x.Number.N = 0 ∧ x.Number.Scale = 0 := by simpa using h11
   unfold zrp; rw [e1, e2]
   decide
theorem z9m (N : Nat) (hN : 20 < N) {m : zL} (hm : 2 ≤ m.Registers ∧ m.Registers ≤ 8) {c : zI} {x : zC} {f : zT} {u : zN} (hop : inB x.Op 0 26 = true) (hf : zbt x = some f) (ag : Agree f u)
 (ok : zdq x.zG u.zG = 0 → zdq x.Second u.Second = 0 → InsOk c x u) : zcw N m c x = some (zu2 m c x u) := by
 have f3 : ∀ a b d : Int, zak N [a, b, d] = some (zds [a, b, d]) := fun a b d => zu3 N _ (by simp; omega) (by simp)
 unfold zcw zu2
 try simp only [eD, eP, eS, eM, eC, eX, eN, eF]
 rw [zpo, hop, hf, z75 hf ag]
 simp only [obs, bnt, cfa]
 rw [z6a N (by omega) ag]
 rw [z2r x u _ rfl]
 simp only [zqo, z4c, obs, f3, orB]
 cases he : zlf x u with
 | true =>
  have hx : ∃ b, zg2 m x = some b := by
   unfold zg2; cases (x.Op != 7) <;> cases m.yC <;> cases (x.Op != 4) <;> cases x.zO <;> cases m.yB <;> exact ⟨_, rfl⟩
  obtain ⟨b, hb⟩ := hx; rw [hb]; simp [zds]
 | false =>
  obtain ⟨h1, h2⟩ := zuf he; rw [z9n m x h1]; simp only [obs, Bool.not_not, cfa]; cases znt m x with
  | true => simp [zds]
  | false =>
   simp only [cfa]
   by_cases e1 : zdq x.zG u.zG = 0
   · by_cases e2 : zdq x.Second u.Second = 0
     · rw [z6b N hN hm hf ag (ok e1 e2)]; simp only [e1, e2, zds, if_true, obs, Bool.not_not]; cases zlv m c x u with
       | true => simp
       | false =>
        by_cases e3 : zrp x.Number = 0
        · cases hl : zpl x with
          | true => unfold zpl at hl; simp [e3, hl]
          | false => unfold zpl at hl; simp [e3, hl]
        · simp [e3]
     · simp [zds, e1, e2, zcd]
   · simp [zds, e1, zcd]
theorem z8d {f : zT} {u : zN} (ag : Agree f u) : (u.zG = 0 ∨ u.zG = 1 ∨ u.zG = 2 ∨ u.zG = 3) ∧ (u.Second = 0 ∨ u.Second = 1 ∨ u.Second = 2 ∨ u.Second = 3) := by
 have h1 := ag.class1
 have h2 := ag.class2
 have h3 := ag.cls
 omega
theorem z8z {m : zL} (hm : 2 ≤ m.Registers ∧ m.Registers ≤ 8) {c : zI} {x : zC} {f : zT} {u : zN} (hop : inB x.Op 0 26 = true) (hu : zee x = some u) (ag : Agree f u)
 (ok : zdq x.zG u.zG = 0 → zdq x.Second u.Second = 0 → InsOk c x u) : zdd m c x = some (zu2 m c x u) := by
 obtain ⟨c1, c2⟩ := z8d ag
 unfold zdd zu2
 try simp only [eD, eP, eS, eM, eC, eX, eN, eF]
 rw [zfy, hop, hu]
 simp only [obs, bnt, cfa]
 rw [z5r, z5p, zvn _ _ c1, zvn _ _ c2, z7k m hm hu]
 simp only [obs]
 cases he : zlf x u with
 | true => rfl
 | false =>
  obtain ⟨h1, h2⟩ := zuf he; simp only [cfa]; cases znt m x with
  | true => rfl
  | false =>
   simp only [cfa]
   by_cases e1 : zdq x.zG u.zG = 0
   · by_cases e2 : zdq x.Second u.Second = 0
     · have o := ok e1 e2; have hlen := o.len; have hb : ∀ t, zbp t = 0 → zcb t = some (szE t) := fun t h => zmx h; have g1 : ∀ t, (u.Place = true → zbp t = 0) → (cond u.Place ((zcb t).bind fun r => (zdz c x.Place r).bind fun r => some (!r)) (some false)) = some (u.Place && !zh1 c.Storage x.Place (szE t)) := fun t h => z3b fun hp => by rw [zmx (h hp)]; simp only [obs]; rw [zyu o.sto rfl _ o.po (h hp)]; rfl
       have g2 : (cond u.From ((zcb x.Second).bind fun r => (zdz c x.From r).bind fun r => some (!r)) (some false)) = some (u.From && !zh1 c.Storage x.From (szE x.Second)) := z3b fun hp => by rw [zmx (o.ft hp)]; simp only [obs]; rw [zyu o.sto rfl _ o.fo (o.ft hp)]; rfl
       have k := o.pt; have kn : ∀ e : Int, (u.Number = false → e = 0) → (cond (u.Number && e != 0) (some e) (cond (zpl x) (some 2) (some 0))) = some (if e ≠ 0 then e else cond (zpl x) 2 0) := by
        intro e h
        by_cases h0 : e = 0
        · subst h0; cases u.Number <;> cases zpl x <;> rfl
        · cases hn : u.Number with
          | false => exact absurd (h hn) h0
          | true => simp [h0, zcd]
       simp only [e1, e2, bsf, cfa, ne_eq, not_true_eq_false, if_false, zbj]; rw [w6e]; simp only [zfy, z03 o.sto, z3y, nF, zjs, orB, g2, obs, ← zpl.eq_def]; unfold zlv
       by_cases h4 : x.Op = 4
       · have hp : zkz x = x.Second := ifp h4; rw [hp] at k ⊢; rw [g1 _ k]; simp only [h4, decide_true, ctr, obs, kn _ h2]; generalize (zmy x u).any (zfj m) = t1; generalize (u.Target && !inB x.Target 0 ((c.zA.length : Int) - 1)) = t2; generalize (u.Mask && !inB x.Mask 1 7) = t3; generalize (u.Pointer && !zj8 c.Storage x.Pointer) = t4; generalize (u.Source && !zj8 c.Storage x.Source) = t5; generalize (u.Place && !zh1 c.Storage x.Place (szE x.Second)) = t6; generalize (u.From && !zh1 c.Storage x.From (szE x.Second)) = t7; generalize (u.zS && !inB x.zS 0 4) = t8; cases t1 <;> cases t2 <;> cases t3 <;> cases t4 <;> cases t5 <;> cases t6 <;> cases t7 <;> cases t8 <;> rfl
       · have hp : zkz x = x.zG := ifn h4; rw [hp] at k ⊢; rw [g1 _ k]; simp only [h4, decide_false, cfa, obs, kn _ h2]; generalize (zmy x u).any (zfj m) = t1; generalize (u.Target && !inB x.Target 0 ((c.zA.length : Int) - 1)) = t2; generalize (u.Mask && !inB x.Mask 1 7) = t3; generalize (u.Pointer && !zj8 c.Storage x.Pointer) = t4; generalize (u.Source && !zj8 c.Storage x.Source) = t5; generalize (u.Place && !zh1 c.Storage x.Place (szE x.zG)) = t6; generalize (u.From && !zh1 c.Storage x.From (szE x.Second)) = t7; generalize (u.zS && !inB x.zS 0 4) = t8; cases t1 <;> cases t2 <;> cases t3 <;> cases t4 <;> cases t5 <;> cases t6 <;> cases t7 <;> cases t8 <;> rfl
     · simp [e1, e2, zcd]
   · simp [e1, zcd]
theorem zm8 {n : Nat} {c : zI} (h : Wft En n Ty.zI c) : c.Storage.Bytes.size ≤ n ∧ c.Storage.Tags.length ≤ n ∧ c.zA.length ≤ n ∧ c.zV.length ≤ n ∧ ∀ x ∈ c.zA, Wft En n Ty.zC x := by
 have h1 := h (.sc (.string c.Storage.Bytes)) (by show _ ∈ zie c; simp [zie])
 have h2 := h (.lst Ty.bool c.Storage.Tags) (by show _ ∈ zie c; simp [zie])
 have h3 := h (.lst Ty.zC c.zA) (by show _ ∈ zie c; simp [zie])
 have h4 := h (.lst Ty.zR c.zV) (by show _ ∈ zie c; simp [zie])
 cases h1 with
 | str h1 =>
  cases h2 with
  | lst h2 _ =>
   cases h3 with
   | lst h3 h3' =>
    cases h4 with
    | lst h4 _ => exact ⟨h1, h2, h3, h4, h3'⟩
theorem z0x {n : Nat} {z : Int} (h : Wfc En n (.sc (.int .i64 z))) : -9223372036854775808 ≤ z ∧ z ≤ 9223372036854775807 := by
 cases h with
 | int h1 h2 =>
  have e1 : IntKind.i64.min = -9223372036854775808 := by decide
  have e2 : IntKind.i64.max = 9223372036854775807 := by decide
  rw [e1] at h1; rw [e2] at h2; exact ⟨h1, h2⟩
theorem z9l {n : Nat} {x : zC} (h : Wft En n Ty.zC x) : (-9223372036854775808 ≤ x.Place.Offset ∧ x.Place.Offset ≤ 9223372036854775807) ∧ (-9223372036854775808 ≤ x.From.Offset ∧ x.From.Offset ≤ 9223372036854775807) :=
 ⟨z0x (h _ (by show _ ∈ zhs x; simp [zhs])), z0x (h _ (by show _ ∈ zhs x; simp [zhs]))⟩
def znz (m : zL) (c : zI) (x : zC) : Int := if inB x.Op 0 26 = true then zu2 m c x ((zee x).getD ⟨false, false, false, false, false, false, false, false, false, false, false, false, false, false, 0, 0⟩) else 4
theorem zz6 (N : Nat) (hN : 20 < N) {m : zL} (hm : 2 ≤ m.Registers ∧ m.Registers ≤ 8) {c : zI} (hs : StoOk c.Storage) (hlen : c.zA.length < 1000000000) {n : Nat} {x : zC} (hx : Wft En n Ty.zC x) :
 zcw N m c x = some (znz m c x) ∧ zdd m c x = some (znz m c x) := by
 obtain ⟨w1, w2⟩ := z9l hx
 unfold znz
 by_cases hop : inB x.Op 0 26 = true
 · obtain ⟨f, u, hf, hu, ag, h4, h5, h6⟩ := zxi x hop; have ok : zdq x.zG u.zG = 0 → zdq x.Second u.Second = 0 → InsOk c x u := fun e1 e2 => {
    sto := hs, len := hlen, po := w1, fo := w2,
    pt := fun hp => (by
     have := h6 hp; unfold zkz; split
     · rename_i h7; rw [ifp h7] at this; exact zmc e2 this
     · rename_i h7; rw [ifn h7] at this; exact zmc e1 this),
    ft := fun hp => zmc e2 (h5 hp) }
   rw [ifp hop, hu]; exact ⟨z9m N hN hm hop hf ag ok, z8z hm hop hu ag ok⟩
 · rw [ifn hop]; have e : inB x.Op 0 26 = false := by simpa using hop
   constructor
   · unfold zcw; rw [zpo, e]; rfl
   · unfold zdd; rw [zfy, e]; rfl
def zo6 (c : zI) (t : zR) : Bool := (inB t.From 0 t.To && (decide (t.To ≤ (c.zA.length : Int)) && (inB t.Exception 0 999 && inB t.Handler 0 ((c.zA.length : Int) - 1))))
theorem z71 (c : zI) (hlen : c.zA.length < 1000000000) (t : zR) : zgp c t = some (cond (zo6 c t) 0 3) := by
 unfold zgp zo6
 rw [w6e]
 simp only [zpo, zqo, zjs, obs, Bool.and_assoc]
 generalize (inB t.From 0 t.To && (decide (t.To ≤ (c.zA.length : Int)) && (inB t.Exception 0 999 && inB t.Handler 0 ((c.zA.length : Int) - 1)))) = b
 cases b <;> rfl
theorem z7j (c : zI) (t : zR) : ((decide (t.From < 0) || decide (t.From > t.To)) || (decide (t.To > (c.zA.length : Int)))) = !(inB t.From 0 t.To && decide (t.To ≤ (c.zA.length : Int))) := by
 unfold inB
 by_cases h1 : t.From < 0
 · simp [h1, show ¬ (0 ≤ t.From) by omega]
 · by_cases h2 : t.From > t.To
   · simp [h1, h2, show ¬ (t.From ≤ t.To) by omega]
   · by_cases h3 : t.To > (c.zA.length : Int)
     · simp [h1, h2, h3, show ¬ (t.To ≤ (c.zA.length : Int)) by omega]
     · simp [h1, h2, h3, show (0 ≤ t.From) by omega, show (t.From ≤ t.To) by omega, show (t.To ≤ (c.zA.length : Int)) by omega]
def gI (m : zL) (c : zI) (i : Nat) : Option (Int × Int) := (c.zA[i]?).bind fun x => if znz m c x = 0 then none else some ((i : Int), znz m c x)
def gT (c : zI) (i : Nat) : Option (Int × Int) := (c.zV[i]?).bind fun t => if zo6 c t = true then none else some ((i : Int), 3)
def zn7 (m : zL) (c : zI) : Int × Int :=
 match (List.range c.zA.length).findSome? (gI m c) with
 | some r => r
 | none => match (List.range c.zV.length).findSome? (gT c) with
  | some r => r
  | none => ((c.zA.length : Int), 0)
theorem z6c (N : Nat) (hN : 1048600 < N) {m : zL} (hm : 2 ≤ m.Registers ∧ m.Registers ≤ 8) {c : zI} (hs : StoOk c.Storage) (hc : Wft En 1048576 Ty.zI c) :
 ((zf (zl.r0 N) N (c.zA, (c.zA.length : Int), 0, m, c)).bind fun z10 =>
 zbc z10 (fun z => some z) (fun y9 => (zf (zl.r2 N) N (y9.2.2.2.2.zV, (y9.2.2.2.2.zV.length : Int), 0, y9.2.2.2.2)).bind fun z12 => zbc z12 (fun z =>
 some z) (fun y11 => some ((y11.2.2.2.zA.length : Int), 0)))) = some (zn7 m c) := by
 obtain ⟨w1, w2, w3, w4, w5⟩ := zm8 hc
 have l1 := zax (f := zl.r0 N) (fun i => (c.zA, (c.zA.length : Int), (i : Int), m, c)) (gI m c) c.zA.length
  (fun i hi => by
   have hx := lge hi; have hb := (zz6 N (by omega) hm hs (by omega) (w5 _ (List.getElem_mem hi))).1; simp only [zl.r0, zl.b0, zae, hx, obs, dct (show (i : Int) < (c.zA.length : Int) by omega), ctr, eD, eP, eS, eM, eC, eX, eN, gI, hb]; rw [w6e]
   by_cases h0 : znz m c c.zA[i] = 0 <;> simp [h0, zcd])
  (by simp only [zl.r0, zl.b0, dcf (show ¬ (c.zA.length : Int) < (c.zA.length : Int) by omega), cfa]) (N := N) (by omega)
 have l2 := zax (f := zl.r2 N) (fun i => (c.zV, (c.zV.length : Int), (i : Int), c)) (gT c) c.zV.length
  (fun i hi => by
   have hx := lge hi; simp only [zl.r2, zl.b2, zae, hx, obs, dct (show (i : Int) < (c.zV.length : Int) by omega), ctr, gT, z71 c (by omega)]; rw [w6e]; cases zo6 c c.zV[i] <;> simp)
  (by simp only [zl.r2, zl.b2, dcf (show ¬ (c.zV.length : Int) < (c.zV.length : Int) by omega), cfa]) (N := N) (by omega)
 simp only [nc0] at l1 l2
 rw [l1]
 unfold zn7
 simp only [obs]
 cases (List.range c.zA.length).findSome? (gI m c) with
 | some r => rfl
 | none =>
  simp only [zbc]; rw [l2]; simp only [obs]; cases (List.range c.zV.length).findSome? (gT c) <;> rfl
theorem zyv (N : Nat) (hN : 1048600 < N) {m : zL} (hm : 2 ≤ m.Registers ∧ m.Registers ≤ 8) {c : zI} (hs : StoOk c.Storage) (hc : Wft En 1048576 Ty.zI c) :
 ((zf (zo.r1 N) N (0, m, c)).bind fun z6 =>
 zbc z6 (fun z => some z) (fun y5 => (zf (zo.r3 N) N (0, y5.2.2)).bind fun z8 => zbc z8 (fun z => some z) (fun y7 =>
 some ((y7.2.zA.length : Int), 0)))) = some (zn7 m c) := by
 obtain ⟨w1, w2, w3, w4, w5⟩ := zm8 hc
 have l1 := zax (f := zo.r1 N) (fun i => ((i : Int), m, c)) (gI m c) c.zA.length
  (fun i hi => by
   have hx := lge hi; have hb := (zz6 N (by omega) hm hs (by omega) (w5 _ (List.getElem_mem hi))).2; simp only [zo.r1, zo.b1, zae, hx, obs, dct (show (i : Int) < (c.zA.length : Int) by omega), ctr, eD, eP, eS, eM, eC, eX, eN, gI, hb]; rw [w6e]
   by_cases h0 : znz m c c.zA[i] = 0 <;> simp [h0, zcd])
  (by simp only [zo.r1, zo.b1, dcf (show ¬ (c.zA.length : Int) < (c.zA.length : Int) by omega), cfa]) (N := N) (by omega)
 have l2 := zax (f := zo.r3 N) (fun i => ((i : Int), c)) (gT c) c.zV.length
  (fun i hi => by
   have hx := lge hi; simp only [zo.r3, zo.b3, zae, hx, obs, dct (show (i : Int) < (c.zV.length : Int) by omega), ctr, gT, orB, zfy, z7j]; rw [w6e (n := (i : Int) + 1), w6e (n := (c.zA.length : Int) - 1)]; have bl : ∀ a b d e : Bool, ((!(a && b) || !d) || !e) = !(a && (b && (d && e))) := fun a b d e => by cases a <;> cases b <;> cases d <;> cases e <;> rfl
   simp only [zfy, obs, orB, bl, ← zo6.eq_def]; cases zo6 c c.zV[i] <;> simp)
  (by simp only [zo.r3, zo.b3, dcf (show ¬ (c.zV.length : Int) < (c.zV.length : Int) by omega), cfa]) (N := N) (by omega)
 simp only [nc0] at l1 l2
 rw [l1]
 unfold zn7
 simp only [obs]
 cases (List.range c.zA.length).findSome? (gI m c) with
 | some r => rfl
 | none =>
  simp only [zbc]; rw [l2]; simp only [obs]; cases (List.range c.zV.length).findSome? (gT c) <;> rfl
theorem z1y (n lo hi : Int) : zdy n lo hi = some (inB n lo hi) := by
 unfold zdy inB
 cases decide (lo ≤ n) <;> rfl
theorem zol {b : ByteArray} {i : Int} (h0 : 0 ≤ i) (h1 : i < (b.size : Int)) : ∃ x, zi9 b i = some x := by
 unfold zi9
 rw [ifp h0]
 exact ⟨_, getElem?_pos b i.toNat (by omega)⟩
theorem zsn (N : Nat) (b : ByteArray) (h : b.size < N) (hb : b.size < 1000) : ∃ x, zap N b = some x := by
 unfold zap
 obtain ⟨s', h1, _⟩ := znf (f := zap.r0 N) (fun i s => ∃ a : Int, s = (b, a, (b.size : Int), (i : Int))) b.size
  (fun i s hi hs => by
   obtain ⟨a, rfl⟩ := hs; obtain ⟨x, hx⟩ := zol (b := b) (i := (i : Int)) (by omega) (by omega); simp only [zap.r0, zap.b0, dct (show (i : Int) < (b.size : Int) by omega), ctr, hx, obs]; rw [w6e (n := (i : Int) + 1)]; exact ⟨_, rfl, _, rfl⟩)
  (fun s hs => by
   obtain ⟨a, rfl⟩ := hs; simp only [zap.r0, zap.b0, dcf (show ¬ (b.size : Int) < (b.size : Int) by omega), cfa]; exact ⟨_, rfl, _, rfl⟩) h (s := (b, 0, (b.size : Int), 0)) ⟨0, rfl⟩
 rw [h1]
 exact ⟨_, rfl⟩
theorem zyw (N : Nat) (b : ByteArray) (hb : b.size = 16) (k n : Nat) (hn : k + n ≤ 16) (hN : 20 < N) : ∃ x, zbo N b (k : Int) (n : Int) = some x := by
 unfold zbo
 obtain ⟨s', h1, _⟩ := znf (f := zbo.r0 N) (fun i s => ∃ a : Int, s = (b, (k : Int), (n : Int), a, (i : Int))) n
  (fun i s hi hs => by
   obtain ⟨a, rfl⟩ := hs; obtain ⟨x, hx⟩ := zol (b := b) (i := (k : Int) + (i : Int)) (by omega) (by omega); simp only [zbo.r0, zbo.b0, dct (show (i : Int) < (n : Int) by omega), ctr]; rw [w6e (n := (k : Int) + (i : Int)), hx, w6e (n := (i : Int) + 1)]; exact ⟨_, rfl, _, rfl⟩)
  (fun s hs => by
   obtain ⟨a, rfl⟩ := hs; simp only [zbo.r0, zbo.b0, dcf (show ¬ (n : Int) < (n : Int) by omega), cfa]; exact ⟨_, rfl, _, rfl⟩) (N := N) (by omega) (s := (b, (k : Int), (n : Int), 0, 0)) ⟨0, rfl⟩
 rw [h1]
 exact ⟨_, rfl⟩
theorem z5e (p : Pointer) : ∃ e, zdl p = some e := by
 unfold zdl
 simp only [z1y, obs, zjs]
 generalize inB p.Kind 0 2 = a
 generalize inB p.Address.yA 0 1099511627775 = b
 generalize inB p.Address.Offset 0 16777215 = c
 generalize inB p.Authority 0 1023 = d
 generalize (p.Authority != 0 && p.Kind != 1) = e
 cases a <;> cases b <;> cases c <;> cases d <;> cases e <;> exact ⟨_, rfl⟩
theorem z5t (p : Pointer) : ∃ e, zep p = some e := by
 unfold zep
 simp only [zfy, obs, zjs, orB]
 generalize inB p.Kind 0 2 = a
 generalize inB p.Address.yA 0 1099511627775 = b
 generalize inB p.Address.Offset 0 16777215 = c
 generalize inB p.Authority 0 1023 = d
 generalize (p.Kind != 1 && p.Authority != 0) = e
 cases a <;> cases b <;> cases c <;> cases d <;> cases e <;> exact ⟨_, rfl⟩
theorem zd3 (b : ByteArray) (i j : Nat) (h : j ≤ b.size) (hij : i ≤ j) : (b.extract i j).size = j - i := by
 rw [ByteArray.size_extract]
 omega
theorem z1x (N : Nat) (hN : 20 < N) (b : ByteArray) (hb : b.size = 16) : ∃ r, zel N b = some r := by
 obtain ⟨x1, h1⟩ := zol (b := b) (i := 1) (by omega) (by omega)
 obtain ⟨x0, h0⟩ := zol (b := b) (i := 0) (by omega) (by omega)
 have z1 : (b.extract (2 : Int).toNat (4 : Int).toNat).size = 2 := zd3 b 2 4 (by omega) (by omega)
 have z2 : (b.extract (4 : Int).toNat (10 : Int).toNat).size = 6 := zd3 b 4 10 (by omega) (by omega)
 have z3 : (b.extract (10 : Int).toNat b.size).size = 6 := (zd3 b 10 b.size (by omega) (by omega)).trans (by omega)
 obtain ⟨n1, e1⟩ := zsn N _ (by omega : (b.extract (2 : Int).toNat (4 : Int).toNat).size < N) (by omega)
 obtain ⟨n2, e2⟩ := zsn N _ (by omega : (b.extract (4 : Int).toNat (10 : Int).toNat).size < N) (by omega)
 obtain ⟨n3, e3⟩ := zsn N _ (by omega : (b.extract (10 : Int).toNat b.size).size < N) (by omega)
 unfold zel
 rw [show ((b.size : Int) != 16) = false by rw [hb]; rfl]
 simp only [cfa, h1, h0, obs]
 cases ((x1.toNat : Int) != 0) with
 | true => exact ⟨_, rfl⟩
 | false =>
  simp only [cfa]; rw [ifp, ifp, e1]; simp only [obs]; rw [ifp, ifp, e2]; simp only [obs]; rw [ifp, e3]; simp only [obs]; obtain ⟨e, he⟩ := z5e (⟨(w6 (x0.toNat : Int)), (⟨n2, n3⟩ : Address), n1⟩ : Pointer); rw [he]; simp only [obs]; cases (e != 0) <;> exact ⟨_, rfl⟩
theorem z2d (N : Nat) (hN : 20 < N) (b : ByteArray) (hb : b.size = 16) : ∃ r, zkf N b = some r := by
 obtain ⟨x1, h1⟩ := zol (b := b) (i := 1) (by omega) (by omega)
 obtain ⟨x0, h0⟩ := zol (b := b) (i := 0) (by omega) (by omega)
 obtain ⟨n1, e1⟩ := zyw N b hb 2 2 (by omega) hN
 obtain ⟨n2, e2⟩ := zyw N b hb 4 6 (by omega) hN
 obtain ⟨n3, e3⟩ := zyw N b hb 10 6 (by omega) hN
 have e1' : zbo N b 2 2 = some n1 := e1
 have e2' : zbo N b 4 6 = some n2 := e2
 have e3' : zbo N b 10 6 = some n3 := e3
 unfold zkf
 rw [show ((b.size : Int) != 16) = false by rw [hb]; rfl]
 simp only [cfa, h1, h0, obs]
 cases ((x1.toNat : Int) != 0) with
 | true => exact ⟨_, rfl⟩
 | false =>
  simp only [cfa, e1', e2', e3', obs]; obtain ⟨e, he⟩ := z5t (⟨(w6 (x0.toNat : Int)), (⟨n2, n3⟩ : Address), n1⟩ : Pointer); rw [he]; simp only [obs]; cases (e != 0) <;> exact ⟨_, rfl⟩
theorem zye (N : Nat) (hN : 2000 < N) (s : Storage) : ∃ i1 e1 e2, zn N s = some (i1, e1) ∧ zl3 N s = some e2 ∧
 ((e1 = e2 ∧ e1 ≠ 0) ∨ (StoOk s ∧ s.Tags.length ≤ 64 ∧ (e1 = 0 ∨ (e1 = 22 ∧ true ∈ s.Tags)) ∧ (e2 = 0 ∨ (e2 = 22 ∧ true ∈ s.Tags)))) := by
 unfold zn zl3 zbl
 try simp only [eS]
 by_cases h1 : (s.Bytes.size : Int) > 1024
 · rw [dct h1]; exact ⟨_, _, _, rfl, rfl, .inl ⟨rfl, by decide⟩⟩
 · rw [dcf h1]; have hm : (s.Bytes.size : Int).tmod 16 = (s.Bytes.size : Int) % 16 := tme; have hd : (s.Bytes.size : Int).tdiv 16 = (s.Bytes.size : Int) / 16 := tde
   by_cases h2 : (s.Bytes.size : Int) % 16 = 0
   · rw [hm, hd, w6e]
     by_cases h3 : (s.Tags.length : Int) = (s.Bytes.size : Int) / 16
     · rw [show (((s.Bytes.size : Int) % 16) != 0) = false by rw [h2]; rfl, show ((s.Tags.length : Int) != (s.Bytes.size : Int) / 16) = false by rw [← h3]; exact bsf _]; simp only [cfa]; have ok : StoOk s := ⟨by omega, by omega⟩; have hw : ∀ i : Nat, i < s.Tags.length → w6 ((i : Int) * 16) = (i : Int) * 16 ∧ w6 ((i : Int) * 16 + 16) = (i : Int) * 16 + 16 := fun i hi => ⟨w6e, w6e⟩; have hx : ∀ i : Nat, i < s.Tags.length → (s.Bytes.extract ((i : Int) * 16).toNat ((i : Int) * 16 + 16).toNat).size = 16 := fun i hi => by
        rw [zd3 _ _ _ (by omega) (by omega)]; omega
       have l1 := zlc (f := zn.r1 N) (fun i t => t = (s.Tags, (s.Tags.length : Int), (i : Int), s)) (fun r => r.2 = 22 ∧ true ∈ s.Tags) s.Tags.length
        (fun i t hi ht => by
         subst ht; obtain ⟨w1, w2⟩ := hw i hi; have hx1 := lge hi; simp only [zn.r1, zn.b1, zae, hx1, obs, dct (show (i : Int) < (s.Tags.length : Int) by omega), ctr]; rw [w6e (n := (i : Int) + 1)]; cases hb : s.Tags[i] with
         | false => exact .inl ⟨_, rfl, rfl⟩
         | true =>
          simp only [bnt, cfa, w1, w2]; rw [ifp, ifp]; obtain ⟨r, hr⟩ := z1x N (by omega) _ (hx i hi); rw [hr]; simp only [obs]; cases (r.2 != 0) with
          | true => exact .inr ⟨_, rfl, rfl, by rw [← hb]; exact List.getElem_mem hi⟩
          | false => exact .inl ⟨_, rfl, rfl⟩)
        (fun t ht => by
         subst ht; exact ⟨_, by simp only [zn.r1, zn.b1, dcf (show ¬ (s.Tags.length : Int) < (s.Tags.length : Int) by omega), cfa], rfl⟩) (N := N) (by omega) (s := (s.Tags, (s.Tags.length : Int), 0, s)) rfl
       have l2 := zlc (f := zbl.r0 N) (fun i t => t = ((s.Bytes.size : Int) / 16, (i : Int), s)) (fun r => r.2 = 22 ∧ true ∈ s.Tags) s.Tags.length
        (fun i t hi ht => by
         subst ht; obtain ⟨w1, w2⟩ := hw i hi; have hx1 := lge hi; simp only [zbl.r0, zbl.b0, zae, hx1, obs, dct (show (i : Int) < (s.Bytes.size : Int) / 16 by omega), ctr]; rw [w6e (n := (i : Int) + 1)]; cases hb : s.Tags[i] with
         | false => exact .inl ⟨_, rfl, rfl⟩
         | true =>
          simp only [ctr, zkw, w1, w2]; rw [ifp, ifp]; simp only [obs]; obtain ⟨r, hr⟩ := z2d N (by omega) _ (hx i hi); rw [hr]; simp only [obs]; cases (r.2 != 0) with
          | true => exact .inr ⟨_, rfl, rfl, by rw [← hb]; exact List.getElem_mem hi⟩
          | false => exact .inl ⟨_, rfl, rfl⟩)
        (fun t ht => by
         subst ht; exact ⟨_, by simp only [zbl.r0, zbl.b0, dcf (show ¬ (s.Tags.length : Int) < (s.Bytes.size : Int) / 16 by omega), cfa], rfl⟩) (N := N) (by omega) (s := ((s.Bytes.size : Int) / 16, 0, s)) rfl
       have r1 : ∃ i1 e1, ((zf (zn.r1 N) N (s.Tags, (s.Tags.length : Int), 0, s)).bind fun z2 => zbc z2 (fun z => some z) (fun y1 => some ((y1.2.2.2.Tags.length : Int), (0 : Int)))) = some (i1, e1) ∧ (e1 = 0 ∨ (e1 = 22 ∧ true ∈ s.Tags)) := by
        rcases l1 with ⟨t, g1, _⟩ | ⟨r, g1, g2⟩
        · rw [g1]; exact ⟨_, _, rfl, .inl rfl⟩
        · rw [g1]; exact ⟨r.1, r.2, rfl, .inr g2⟩
       have r2 : ∃ e2, ((((zf (zbl.r0 N) N ((s.Bytes.size : Int) / 16, 0, s)).bind fun z2 => zbc z2 (fun z => some z) (fun y1 => some (y1.1, (0 : Int)))).bind fun r1 => some r1.2) = some e2) ∧ (e2 = 0 ∨ (e2 = 22 ∧ true ∈ s.Tags)) := by
        rcases l2 with ⟨t, g1, _⟩ | ⟨r, g1, g2⟩
        · rw [g1]; exact ⟨_, rfl, .inl rfl⟩
        · rw [g1]; exact ⟨r.2, rfl, .inr g2⟩
       obtain ⟨i1, e1, g1, g2⟩ := r1; obtain ⟨e2, g3, g4⟩ := r2; exact ⟨i1, e1, e2, g1, g3, .inr ⟨ok, by omega, g2, g4⟩⟩
     · rw [show (((s.Bytes.size : Int) % 16) != 0) = false by rw [h2]; rfl, show ((s.Tags.length : Int) != (s.Bytes.size : Int) / 16) = true by rw [zcd]; exact dct h3]; exact ⟨_, _, _, rfl, rfl, .inl ⟨rfl, by decide⟩⟩
   · rw [hm, show (((s.Bytes.size : Int) % 16) != 0) = true by rw [zcd]; exact dct h2]; exact ⟨_, _, _, rfl, rfl, .inl ⟨rfl, by decide⟩⟩
theorem z72 (N : Nat) (l : List Bool) (h : l.length < N) (hl : l.length < 1000000000) : ze0 N l true = some (l.contains true) := by
 unfold ze0 zbi
 have := zax (f := zbi.r0 N) (fun i => (l, true, (l.length : Int), (i : Int))) (fun i => (l[i]?).bind fun x => if x = true then some (i : Int) else none) l.length
  (fun i hi => by
   have hx := lge hi; simp only [zbi.r0, zbi.b0, zae, hx, obs, dct (show (i : Int) < (l.length : Int) by omega), ctr]; rw [w6e]; cases hb : l[i] <;> simp)
  (by simp only [zbi.r0, zbi.b0, dcf (show ¬ (l.length : Int) < (l.length : Int) by omega), cfa]) h
 simp only [nc0] at this
 rw [this]
 simp only [obs]
 cases hfs : (List.range l.length).findSome? (fun i : Nat => (l[i]?).bind fun x => if x = true then some (i : Int) else none) with
 | some r =>
  simp only [zbc, obs]; obtain ⟨i, hi, hr⟩ := eof hfs; rw [Option.bind_eq_some_iff] at hr; obtain ⟨x, hx, hr⟩ := hr; split at hr
  · rename_i hb; cases hr; have : l.contains true = true := by rw [List.contains_iff_mem, ← hb]; exact lmg hx
    rw [this]; simp
  · cases hr
 | none =>
  simp only [zbc, obs]; rw [List.findSome?_eq_none_iff] at hfs; have : l.contains true = false := by
   rw [Bool.eq_false_iff]; intro hc; rw [List.contains_iff_mem] at hc; obtain ⟨i, hi⟩ := List.getElem?_of_mem hc; have := hfs i (by simp; exact (gei hi).1); rw [hi] at this; simp at this
  rw [this]; rfl
theorem z02 (N : Nat) (s : Storage) (h : s.Tags.length ≤ 64) (hN : 2000 < N) : ∃ l, zb5 N s = some l ∧ (decide ((l.length : Int) > 0)) = s.Tags.contains true := by
 unfold zb5
 obtain ⟨s', h1, l, h2, h3, h4⟩ := znf (f := zb5.r0 N) (fun i t => ∃ l : List Int, t = (l, (i : Int), s) ∧ l.length ≤ i ∧ (decide ((l.length : Int) > 0)) = (s.Tags.take i).contains true) s.Tags.length
  (fun i t hi ht => by
   obtain ⟨l, rfl, h3, h4⟩ := ht; have hx := lge hi; have rm : Nat.ble ((l.length + ([(w6 ((i : Int) * 16))] : List Int).length) * 8) zah = true := Nat.ble_eq_true_of_le (by unfold zah; simp; omega); simp only [zb5.r0, zb5.b0, zae, hx, obs, dct (show (i : Int) < (s.Tags.length : Int) by omega), ctr, rm]; rw [w6e (n := (i : Int) + 1)]; have tk : s.Tags.take (i + 1) = s.Tags.take i ++ [s.Tags[i]] := by rw [List.take_add_one, hx]; rfl
   cases hb : s.Tags[i] with
   | true => exact ⟨_, rfl, _, rfl, by simp; omega, by rw [tk, hb]; simp⟩
   | false => exact ⟨_, rfl, _, rfl, by omega, by rw [tk, hb, h4]; simp⟩)
  (fun t ht => by
   obtain ⟨l, rfl, h3, h4⟩ := ht; simp only [zb5.r0, zb5.b0, dcf (show ¬ (s.Tags.length : Int) < (s.Tags.length : Int) by omega), cfa]; exact ⟨_, rfl, l, rfl, h3, h4⟩) (N := N) (by omega) (s := ([], 0, s)) ⟨[], rfl, by simp, by simp⟩
 rw [h1, h2]
 exact ⟨l, rfl, by rw [h4, List.take_length]⟩
theorem z5z {c : zI} (hc : Wft En 1048576 Ty.zI c) : zib c = some c := by
 obtain ⟨w1, w2, w3, w4, w5⟩ := zm8 hc
 unfold zib ziq zjd
 rw [show Nat.ble (c.Storage.Tags.length * 1) zah = true from Nat.ble_eq_true_of_le (by unfold zah; omega), show Nat.ble (c.zA.length * 224) zah = true from Nat.ble_eq_true_of_le (by unfold zah; omega), show Nat.ble (c.zV.length * 32) zah = true from Nat.ble_eq_true_of_le (by unfold zah; omega)]
 rfl
theorem z4t (N : Nat) (hN : 1048600 < N) (m : zL) {c : zI} (hc : Wft En 1048576 Ty.zI c) : ∃ r, zl N m c = some r ∧ zo N m c = some r := by
 obtain ⟨e, he1, he2, he3⟩ := zrs m
 obtain ⟨i1, e1, e2, hs1, hs2, hs⟩ := zye N (by omega) c.Storage
 obtain ⟨w1, w2, w3, w4, w5⟩ := zm8 hc
 have f3 : ∀ a b d : Int, zak N [a, b, d] = some (zds [a, b, d]) := fun a b d => zu3 N _ (by simp; omega) (by simp)
 unfold zl zo
 try simp only [eS, eM, eC]
 rw [he1, he2, hs1, hs2]
 simp only [obs]
 by_cases h0 : e = 0
 · subst h0; have hm := he3 rfl; simp only [bsf, cfa]; rcases hs with ⟨rfl, hs⟩ | ⟨ok, htl, hs3, hs4⟩
   · rw [show (e1 != 0) = true by rw [zcd]; exact dct hs]; exact ⟨_, rfl, rfl⟩
   · obtain ⟨l, hl1, hl2⟩ := z02 N c.Storage htl (by omega); rw [z72 N _ (by omega) (by omega), hl1]; simp only [obs, zqo, f3, orB, hl2]
     by_cases ht : c.Storage.Tags.contains true = true
     · rw [ht]; refine ⟨(0, 22), ?_, ?_⟩
       · rcases hs3 with rfl | ⟨rfl, _⟩
         · simp [zds]
         · rfl
       · rcases hs4 with rfl | ⟨rfl, _⟩
         · rfl
         · rfl
     · have ht' : c.Storage.Tags.contains true = false := by simpa using ht
       have hn : ¬ true ∈ c.Storage.Tags := fun hh => ht (List.contains_iff_mem.2 hh); obtain rfl : e1 = 0 := hs3.resolve_right fun hh => hn hh.2; obtain rfl : e2 = 0 := hs4.resolve_right fun hh => hn hh.2; rw [ht']; have hl1 := z6c N hN hm ok hc; have hl2 := zyv N hN hm ok hc
       by_cases hz : (c.zA.length : Int) = 0
       · refine ⟨(0, 1), ?_, ?_⟩
         · simp [zds, hz]
         · simp [hz]
       · cases hbig : (decide ((c.zA.length : Int) > 240) || decide ((c.zV.length : Int) > 40)) with
         | true =>
          refine ⟨(0, 2), ?_, ?_⟩
          · simp only [bsf, cfa, ctr, obs, zbj, dcf hz, zds, if_true]; rfl
          · simp only [bsf, cfa, ctr, obs, zbj, dcf hz]
         | false =>
          refine ⟨zn7 m c, ?_, ?_⟩
          · rw [← hl1]; simp only [bsf, cfa, obs, zbj, dcf hz, zds, if_true]
          · rw [← hl2]; simp only [bsf, cfa, obs, zbj, dcf hz]
 · rw [show (e != 0) = true by rw [zcd]; exact dct h0]; exact ⟨_, rfl, rfl⟩
theorem z4m (N : Nat) (hN : 1048600 < N) {c : zI} (hc : Wft En 1048576 Ty.zI c) : ∃ b, zd9 N c = some b := by
 obtain ⟨w1, w2, w3, w4, w5⟩ := zm8 hc
 unfold zd9
 have ft : ∀ s, ∃ b, zgo s = some b := fun s => by
  unfold zgo; cases decide ((s.Bytes.size : Int) ≤ 1072) <;> exact ⟨_, rfl⟩
 have e1 : ∀ i : Nat, i ≤ c.zA.length → (cond (decide ((i : Int) < (c.zA.length : Int))) (some (decide ((i : Int) < 244))) (some false)) = some (decide ((i : Int) < (c.zA.length : Int)) && decide ((i : Int) < 244)) := fun i _ => zjs _ _
 have l1 := zlc (f := zd9.r0 N) (fun i t => t = ((i : Int), c)) (fun r => True) (min c.zA.length 244)
  (fun i t hi ht => by
   subst ht; have hlt : i < c.zA.length := by omega
   have hx := lge hlt; simp only [zd9.r0, zd9.b0, zjs, obs, dct (show (i : Int) < (c.zA.length : Int) by omega), dct (show (i : Int) < 244 by omega), Bool.and_self, ctr, zae, hx, orB]; rw [w6e (n := (i : Int) + 1)]; cases (decide ((c.zA[i].Text.size : Int) > 300) || decide ((c.zA[i].Other.size : Int) > 300)) with
   | true => exact .inr ⟨_, rfl, trivial⟩
   | false => exact .inl ⟨_, rfl, rfl⟩)
  (fun t ht => by
   subst ht; have e : (decide (((min c.zA.length 244 : Nat) : Int) < (c.zA.length : Int)) && decide (((min c.zA.length 244 : Nat) : Int) < 244)) = false := by
    by_cases h : c.zA.length < 244
    · rw [dcf (show ¬ ((min c.zA.length 244 : Nat) : Int) < (c.zA.length : Int) by omega)]; rfl
    · rw [dcf (show ¬ ((min c.zA.length 244 : Nat) : Int) < 244 by omega)]; simp
   simp only [zd9.r0, zd9.b0, zjs, obs, e, cfa]; exact ⟨_, rfl, rfl⟩) (N := N) (by omega) (s := (0, c)) rfl
 rcases l1 with ⟨t, g1, _⟩ | ⟨r, g1, _⟩
 · rw [g1]; simp only [obs, zbc]; obtain ⟨b, hb⟩ := ft t.2.Storage; rw [hb]; simp only [obs, zjs]; exact ⟨_, rfl⟩
 · rw [g1]; exact ⟨_, rfl⟩
theorem z7m {m : zL} {c : zI} {n : Int} (h : zn7 m c = (n, 0)) : ∀ x ∈ c.zA, znz m c x = 0 := by
 intro x hx
 refine cbc fun h0 => ?_
 unfold zn7 at h
 obtain ⟨i, hi⟩ := List.getElem?_of_mem hx
 cases hf : (List.range c.zA.length).findSome? (gI m c) with
 | none =>
  rw [List.findSome?_eq_none_iff] at hf; have := hf i (by simp; exact (gei hi).1); unfold gI at this; rw [hi] at this; simp [h0] at this
 | some r =>
  rw [hf] at h; simp only at h; subst h; obtain ⟨j, _, hj⟩ := eof hf; unfold gI at hj; rw [Option.bind_eq_some_iff] at hj; obtain ⟨y, _, hy⟩ := hj
  by_cases h1 : znz m c y = 0
  · simp [h1] at hy
  · rw [ifn h1] at hy; simp only [Option.some.injEq, Prod.mk.injEq] at hy; exact h1 hy.2
theorem z8s {α σ : Type} {f : σ → Option (Round Int σ)} (l : List α) (p : α → Bool) (S : Nat → σ) (hstep : ∀ i x, l[i]? = some x → f (S i) = some (cond (p x) (.result (i : Int)) (.again (S (i + 1)))))
 (hl : f (S l.length) = some (.leave (S l.length))) {N : Nat} (hN : l.length < N) : zf f N (S 0) = some (match l.findIdx? p with | some i => .inl (i : Int) | none => .inr (S l.length)) := by
 have := zax (f := f) S (fun i => (l[i]?).bind fun x => if p x = true then some (i : Int) else none) l.length (fun i hi => by
  have hx := lge hi; rw [hstep i _ hx]; simp only [hx, obs]; cases hb : p l[i] <;> simp) hl hN
 rw [this]
 congr 1
 have key : (List.range l.length).findSome? (fun i : Nat => (l[i]?).bind fun x => if p x = true then some (i : Int) else none) = (l.findIdx? p).map (fun i => (i : Int)) := by
  cases hf : l.findIdx? p with
  | none =>
   rw [List.findIdx?_eq_none_iff] at hf; rw [List.findSome?_eq_none_iff.2]
   · rfl
   · intro i hi; have hi' : i < l.length := by simpa using hi
     have h9 := hf _ (List.getElem_mem hi'); rw [lge hi', obs, ifn (by simp [h9])]
  | some k =>
   rw [List.findIdx?_eq_some_iff_getElem] at hf; obtain ⟨hk, h1, h2⟩ := hf; show _ = some (k : Int); have : (List.range l.length).findSome? (fun i : Nat => (l[i]?).bind fun x => if p x = true then some (i : Int) else none) = some (k : Int) := by
    rw [List.findSome?_eq_some_iff]; refine ⟨List.range k, k, (List.range' (k + 1) (l.length - (k + 1))), ?_, ?_, ?_⟩
    · apply List.ext_getElem
      · simp; omega
      · intro i h3 h4; rw [List.getElem_append]; split
        · simp
        · rename_i h5; have h5' : k ≤ i := by simpa using h5
          by_cases e : i = k
          · subst e; simp
          · have : i - k ≠ 0 := by omega
            rw [List.getElem_cons]; simp [this]; omega
    · rw [lge hk]; simp [h1]
    · intro x hx; have hx' : x < k := by simpa using hx
      rw [lge (by omega)]; have := h2 x hx'; simp [this]
   rw [this]
 rw [key]
 cases l.findIdx? p <;> rfl
theorem zud {α : Type} (l : List α) (p : α → Bool) : (l.findIdx? p).isSome = l.any p := by
 cases h : l.findIdx? p with
 | none =>
  rw [List.findIdx?_eq_none_iff] at h
  symm
  simp only [Option.isSome_none, List.any_eq_false]; intro x hx; simp [h x hx]
 | some k =>
  rw [List.findIdx?_eq_some_iff_getElem] at h; obtain ⟨hk, h1, h2⟩ := h
  symm
  simp only [Option.isSome_some, List.any_eq_true]; exact ⟨_, List.getElem_mem hk, h1⟩
theorem coll {α β σ : Type} {f : σ → Option (Stp σ)} (l : List α) (g : α → Option β) (S : Nat → List β → σ) (hstep : ∀ i x acc, l[i]? = some x → acc.length ≤ i → f (S i acc) = some (.again (S (i + 1) (acc ++ (g x).toList))))
 (hl : ∀ acc, f (S l.length acc) = some (.leave (S l.length acc))) {N : Nat} (hN : l.length < N) : zi f N (S 0 []) = some (S l.length (l.filterMap g)) := by
 have e0 : ∀ i, ((l.take i).filterMap g).length ≤ i := fun i => Nat.le_trans (List.length_filterMap_le _ _) (by simp; omega)
 have := zbv (f := f) (fun i => S i ((l.take i).filterMap g)) l.length (fun i hi => by
  have hx := lge hi; rw [hstep i _ _ hx (e0 i), List.take_add_one, hx, List.filterMap_append]
  congr 3) (hl _) hN
 simpa using this
def apB (a b : Int) (x : zF) : Bool := (x.Offset != -1 && decide (x.Offset < w6 (a + b))) && decide (a < w6 (x.Offset + szE x.zG))
structure InsX (m : zL) (c : zI) (x : zC) : Prop where
 op : 0 ≤ x.Op ∧ x.Op ≤ 26
 r : x.Op = 0 ∨ x.Op = 1 ∨ x.Op = 2 ∨ x.Op = 3 ∨ x.Op = 4 ∨ x.Op = 21 → 0 ≤ x.R ∧ x.R < m.Registers
 a : x.Op = 3 → 0 ≤ x.A ∧ x.A < m.Registers
 ty : x.Op = 0 ∨ x.Op = 1 ∨ x.Op = 4 ∨ x.Op = 9 ∨ x.Op = 10 → zbp x.zG = 0
 kd : x.Op = 0 ∨ x.Op = 1 ∨ x.Op = 4 → x.zG.Kind ≠ 0 ∧ x.zG.Kind ≠ 4
 pl : x.Op = 0 ∨ x.Op = 1 ∨ x.Op = 9 ∨ x.Op = 10 → x.Place.Based = false → 0 ≤ x.Place.Offset ∧ x.Place.Offset + szE x.zG ≤ (c.Storage.Bytes.size : Int)
 pt : x.Op = 14 ∨ x.Op = 15 ∨ x.Op = 16 → 0 ≤ x.Pointer ∧ x.Pointer < (c.Storage.Bytes.size : Int)
 tg : x.Op = 6 ∨ x.Op = 7 ∨ x.Op = 8 ∨ x.Op = 18 → 0 ≤ x.Target ∧ x.Target < (c.zA.length : Int)
theorem zqh {t : DataType} (h : zdq t 1 = 0) : zbp t = 0 ∧ t.Kind ≠ 0 ∧ t.Kind ≠ 4 := by
 unfold zdq at h
 rw [ifn (by decide)] at h
 by_cases h0 : zbp t = 0
 · rw [ifp h0] at h; split at h
   · cases h
   · rename_i h1; refine ⟨h0, ?_⟩; have h2 : inB t.Kind 1 3 = true := by
      refine cbc fun h2 => h1 (.inl ⟨rfl, fun h3 => h2 (zcl.2 h3)⟩)
     have := zcl.1 h2; omega
 · rw [ifn h0] at h; exact absurd h h0
theorem zaay {m : zL} {c : zI} {x : zC} (h : znz m c x = 0) : InsX m c x := by
 unfold znz at h
 by_cases hop : inB x.Op 0 26 = true
 · obtain ⟨f, u, hf, hu, ag, _⟩ := zxi x hop; rw [ifp hop, hu] at h; have h' : zu2 m c x u = 0 := h; unfold zu2 at h'; cases he : zlf x u with
   | true => rw [he] at h'; cases h'
   | false =>
    rw [he] at h'; simp only [cfa] at h'; cases hl : znt m x with
    | true => rw [hl] at h'; cases h'
    | false =>
     rw [hl] at h'; simp only [cfa] at h'
     by_cases h1 : zdq x.zG u.zG = 0
     · by_cases h2 : zdq x.Second u.Second = 0
       · rw [ifn, ifn] at h'; cases hr : zlv m c x u with
         | true => rw [hr] at h'; simp at h'
         | false =>
          unfold zlv at hr; simp only [Bool.or_eq_false_iff] at hr; obtain ⟨r1, r2, r3, r4, r5, r6, r7, r8⟩ := hr; rw [List.any_eq_false] at r1; have reg : ∀ i, i ∈ zmy x u → 0 ≤ i ∧ i < m.Registers := fun i hi => by
           have := r1 i hi; unfold zfj at this; have h4 : inB i 0 (m.Registers - 1) = true := by simpa using this
           have := zcl.1 h4; omega
          have andF : ∀ {p q : Bool}, (p && !q) = false → p = true → q = true := fun {p q} h hp => by subst hp; simpa using h
          have hu0 : ∀ k, x.Op = k → ∀ w, zee ⟨k, x.R, x.A, x.B, x.zS, x.Place, x.From, x.zG, x.Second, x.Half, x.zO, x.Number, x.Text, x.Other, x.Mask, x.Target, x.Pointer, x.Source⟩ = some w → u = w := by
           rintro k rfl w hw
           have : zee x = some w := hw; rw [hu] at this; exact Option.some.inj this
          have place : u.Place = true → (x.Op ≠ 4) → x.Place.Based = false → zbp x.zG = 0 → 0 ≤ x.Place.Offset ∧ x.Place.Offset + szE x.zG ≤ (c.Storage.Bytes.size : Int) := fun hp h4 hb ht => by
           have := andF r6 hp; unfold zh1 at this; rw [hb] at this; have hpl : zkz x = x.zG := by unfold zkz; rw [ifn h4]
           rw [hpl] at this; have := zcl.1 (by simpa using this); omega
          have pnt : u.Pointer = true → 0 ≤ x.Pointer ∧ x.Pointer < (c.Storage.Bytes.size : Int) := fun hp => by
           have := andF r4 hp; unfold zj8 at this; simp only [Bool.and_eq_true, decide_eq_true_eq] at this; omega
          have op4 : x.Op = 4 → u.R = true ∧ u.zG = 1 := fun e => by
           cases hi : x.zO with
           | true => have := hu0 4 e _ (by rw [hi]; rfl); subst this; exact ⟨rfl, rfl⟩
           | false => have := hu0 4 e _ (by rw [hi]; rfl); subst this; exact ⟨rfl, rfl⟩
          have hR : u.R = true → 0 ≤ x.R ∧ x.R < m.Registers := fun hx => reg _ (by unfold zmy; rw [hx]; simp); have hA : u.A = true → 0 ≤ x.A ∧ x.A < m.Registers := fun hx => reg _ (by unfold zmy; rw [hx]; simp); have tyy : x.Op = 0 ∨ x.Op = 1 ∨ x.Op = 4 ∨ x.Op = 9 ∨ x.Op = 10 → zbp x.zG = 0 := by
           rintro (e | e | e | e | e)
           · have := hu0 0 e _ rfl; subst this; exact (zqh h1).1
           · have := hu0 1 e _ rfl; subst this; exact (zqh h1).1
           · rw [(op4 e).2] at h1; exact (zqh h1).1
           · have := hu0 9 e _ rfl; subst this; exact zmc h1 (by decide)
           · have := hu0 10 e _ rfl; subst this; exact zmc h1 (by decide)
          exact {
           op := zcl.1 hop
           r := by
            rintro (e | e | e | e | e | e)
            · have := hu0 0 e _ rfl; subst this; exact hR rfl
            · have := hu0 1 e _ rfl; subst this; exact hR rfl
            · have := hu0 2 e _ rfl; subst this; exact hR rfl
            · have := hu0 3 e _ rfl; subst this; exact hR rfl
            · exact hR (op4 e).1
            · have := hu0 21 e _ rfl; subst this; exact hR rfl
           a := fun e => by have := hu0 3 e _ rfl; subst this; exact hA rfl
           ty := tyy
           kd := by
            rintro (e | e | e)
            · have := hu0 0 e _ rfl; subst this; exact (zqh h1).2
            · have := hu0 1 e _ rfl; subst this; exact (zqh h1).2
            · rw [(op4 e).2] at h1; exact (zqh h1).2
           pl := by
            rintro (e | e | e | e) hb
            · have ht := tyy (by omega); have := hu0 0 e _ rfl; subst this; exact place rfl (by omega) hb ht
            · have ht := tyy (by omega); have := hu0 1 e _ rfl; subst this; exact place rfl (by omega) hb ht
            · have ht := tyy (by omega); have := hu0 9 e _ rfl; subst this; exact place rfl (by omega) hb ht
            · have ht := tyy (by omega); have := hu0 10 e _ rfl; subst this; exact place rfl (by omega) hb ht
           pt := by
            rintro (e | e | e)
            · have := hu0 14 e _ rfl; subst this; exact pnt rfl
            · have := hu0 15 e _ rfl; subst this; exact pnt rfl
            · have := hu0 16 e _ rfl; subst this; exact pnt rfl
           tg := by
            have tgt : u.Target = true → 0 ≤ x.Target ∧ x.Target < (c.zA.length : Int) := fun hx => by have := zcl.1 (andF r2 hx); omega
            rintro (e | e | e | e)
            · have := hu0 6 e _ rfl; subst this; exact tgt rfl
            · have := hu0 7 e _ rfl; subst this; exact tgt rfl
            · have := hu0 8 e _ rfl; subst this; exact tgt rfl
            · have := hu0 18 e _ rfl; subst this; exact tgt rfl }
       · rw [ifn, ifp h2] at h'; exact absurd h' h2
     · rw [ifp h1] at h'; exact absurd h' h1
 · rw [ifn hop] at h; cases h
structure FctV (m : zL) (c : zI) (f : zF) : Prop where
 r : 0 ≤ f.Register ∧ f.Register < m.Registers
 ty : zbp f.zG = 0
 kd : f.zG.Kind ≠ 0 ∧ f.zG.Kind ≠ 4
 of : f.Offset = -1 ∨ (0 ≤ f.Offset ∧ f.Offset + szE f.zG ≤ (c.Storage.Bytes.size : Int))
def Beh (x : zC) (l : List zF) (f : zF) : Prop :=
 if x.Op = 0 then (f ∈ l ∧ f.Register ≠ x.R) ∨ f = ⟨x.R, x.zG, -1⟩ ∨ (x.Place.Based = false ∧ (f = ⟨x.R, x.zG, x.Place.Offset⟩ ∨ ∃ h ∈ l, h.zG = x.zG ∧ h.Offset = x.Place.Offset ∧ ∃ g ∈ l, g.Register = h.Register ∧ f = ⟨x.R, g.zG, g.Offset⟩))
 else if x.Op = 4 then (f ∈ l ∧ f.Register ≠ x.R) ∨ f = ⟨x.R, x.zG, -1⟩
 else if x.Op = 2 ∨ x.Op = 21 then f ∈ l ∧ f.Register ≠ x.R
 else if x.Op = 3 then (f ∈ l ∧ f.Register ≠ x.R) ∨ ∃ g ∈ l, g.Register = x.A ∧ f = ⟨x.R, g.zG, g.Offset⟩
 else if x.Op = 1 ∨ x.Op = 9 ∨ x.Op = 10 then (x.Place.Based = true ∧ f ∈ l ∧ f.Offset = -1) ∨ (x.Place.Based = false ∧ ((f ∈ l ∧ apB x.Place.Offset (szE x.zG) f = false) ∨ (x.Op = 1 ∧ (⟨x.R, x.zG, -1⟩ : zF) ∈ l ∧ f = ⟨x.R, x.zG, x.Place.Offset⟩)))
 else if x.Op = 14 ∨ x.Op = 15 ∨ x.Op = 16 then f ∈ l ∧ apB x.Pointer 16 f = false
 else f ∈ l
def z9y (l : List zF) : Prop := l.Pairwise fun a b => Proofs.Tryz.ltF a b = true
variable {m : zL} {c : zI}
variable {m : zL} {c : zI}
def entT (c : zI) (k : Nat) : Bool := decide (k = 0) || c.zV.any fun t => decide (t.Handler = (k : Int))
def entC (c : zI) (k : Nat) : Bool := match k with | 0 => false | j + 1 => (c.zA[j]?).any fun x => decide (x.Op = 18)
def z9u (c : zI) (k : Nat) : Bool := entT c k || entC c k
structure CdV (m : zL) (c : zI) : Prop where
 m1 : 2 ≤ m.Registers
 m2 : m.Registers ≤ 8
 sz : c.Storage.Bytes.size ≤ 1024
 len : c.zA.length ≤ 240
 pos : 0 < c.zA.length
 traps : c.zV.length ≤ 1048576
 ins : ∀ x ∈ c.zA, InsX m c x
 trap : ∀ t ∈ c.zV, 0 ≤ t.Handler ∧ t.Handler < (c.zA.length : Int)
variable {m : zL} {c : zI}
def z9p (o : Int) : Bool := decide (o ≠ 8) && (decide (o ≠ 18) && (decide (o ≠ 19) && (decide (o ≠ 20) && decide (o ≠ 26))))
def zkk (o : Int) : Bool := decide (o = 6) || (decide (o = 7) || (decide (o = 8) || decide (o = 18)))
def zxz (c : zI) (i : Nat) : List Int := match c.zA[i]? with
 | none => []
 | some x => (if i + 1 < c.zA.length ∧ z9p x.Op = true then [(i : Int) + 1] else []) ++ (if zkk x.Op = true then [x.Target] else [])
theorem z5b (o : Int) : zcg o = some (zkk o) := by
 unfold zcg zkk
 simp only [zbj, orB, obs, Bool.or_assoc]
theorem z0o (o : Int) : zhn o = some (zkk o) := by
 unfold zhn zkk
 simp only [zbj, orB, obs, Bool.or_assoc]
theorem z65 (hc : CdV m c) {i : Nat} {z : Int} (h : z ∈ zxz c i) : ∃ k : Nat, z = (k : Int) ∧ k < c.zA.length := by
 unfold zxz at h
 cases hx : c.zA[i]? with
 | none => rw [hx] at h; simp at h
 | some x =>
  rw [hx] at h; simp only [List.mem_append] at h; rcases h with h | h
  · split at h
    · rename_i e; have : z = (i : Int) + 1 := by simpa using h
      exact ⟨i + 1, by omega, e.1⟩
    · simp at h
  · split at h
    · rename_i e; have hz : z = x.Target := by simpa using h
      unfold zkk at e; simp only [Bool.or_eq_true, decide_eq_true_eq] at e; have := (hc.ins x (lmg hx)).tg (by omega); exact ⟨x.Target.toNat, by omega, by omega⟩
    · simp at h
variable {m : zL} {c : zI}
theorem z5c (N : Nat) (l : List Int) (h : l.length < N) (hl : l.length < 1000000000) : za9 N l = some (zds l) := by
 unfold za9
 have := zax (f := za9.r0 N) (fun i => (l, (l.length : Int), (i : Int))) (fun i => (l[i]?).bind fun x => if x = 0 then none else some x) l.length
  (fun i hi => by
   have hx := lge hi; simp only [za9.r0, za9.b0, zae, hx, obs, dct (show (i : Int) < (l.length : Int) by omega), ctr]
   by_cases h0 : l[i] = 0
   · simp only [h0, bsf, cfa, if_true]; rw [w6e]; rfl
   · simp only [h0, if_false]; rw [show (l[i] != 0) = true by simpa using h0]; rfl)
  (by simp only [za9.r0, za9.b0, dcf (show ¬ (l.length : Int) < (l.length : Int) by omega), cfa]) h
 simp only [nc0] at this
 rw [this, zk0, ← znu]
 simp only [obs]
 cases l.findSome? (fun x => if x = 0 then none else some x) <;> rfl
theorem z80 {m : zL} {c : zI} {n : Int} (h : zn7 m c = (n, 0)) : (∀ x ∈ c.zA, znz m c x = 0) ∧ (∀ t ∈ c.zV, zo6 c t = true) ∧ n = (c.zA.length : Int) := by
 have h1 := z7m h
 refine ⟨h1, ?_⟩
 unfold zn7 at h
 cases hf : (List.range c.zA.length).findSome? (gI m c) with
 | some r =>
  exfalso
  obtain ⟨j, _, hj⟩ := eof hf; unfold gI at hj; rw [Option.bind_eq_some_iff] at hj; obtain ⟨y, hy1, hy⟩ := hj; rw [ifp (h1 y (lmg hy1))] at hy; cases hy
 | none =>
  rw [hf] at h; cases hg : (List.range c.zV.length).findSome? (gT c) with
  | some r =>
   exfalso
   rw [hg] at h; obtain ⟨j, _, hj⟩ := eof hg; unfold gT at hj; rw [Option.bind_eq_some_iff] at hj; obtain ⟨y, hy1, hy⟩ := hj; split at hy
   · cases hy
   · cases hy; have h3 : (3 : Int) = 0 := congrArg Prod.snd h; exact absurd h3 (by decide)
  | none =>
   rw [hg] at h; refine ⟨fun t ht => ?_, (congrArg Prod.fst h).symm⟩; rw [List.findSome?_eq_none_iff] at hg; obtain ⟨i, hi⟩ := List.getElem?_of_mem ht; have := hg i (by simp; exact (gei hi).1); unfold gT at this; rw [hi, obs] at this; split at this
   · assumption
   · cases this
theorem z9v (N : Nat) (hN : 1048600 < N) {m : zL} {c : zI} (hc : Wft En 1048576 Ty.zI c) {n : Int} (h : zo N m c = some (n, 0)) : CdV m c ∧ n = (c.zA.length : Int) := by
 obtain ⟨e, _, he2, he3⟩ := zrs m
 obtain ⟨i1, e1, e2, _, hs2, hs⟩ := zye N (by omega) c.Storage
 obtain ⟨w1, w2, w3, w4, w5⟩ := zm8 hc
 unfold zo at h
 try simp only [eS, eM, eC] at h
 rw [he2, hs2] at h
 simp only [obs] at h
 by_cases h0 : e = 0
 · subst h0; have hm := he3 rfl; simp only [bsf, cfa] at h
   by_cases h2 : e2 = 0
   · rcases hs with ⟨rfl, hs⟩ | ⟨ok, htl, _, _⟩
     · exact absurd h2 hs
     · subst h2; obtain ⟨l, hl1, hl2⟩ := z02 N c.Storage htl (by omega); rw [hl1] at h; simp only [bsf, cfa, obs, orB] at h; cases hd : decide ((l.length : Int) > 0) with
       | true => rw [hd] at h; cases h
       | false =>
        rw [hd] at h hl2; simp only [cfa] at h
        by_cases hz : (c.zA.length : Int) = 0
        · rw [hz] at h; cases h
        · rw [zbj, dcf hz] at h; simp only [cfa] at h; cases hb : (decide ((c.zA.length : Int) > 240) || decide ((c.zV.length : Int) > 40)) with
          | true => rw [hb] at h; cases h
          | false =>
           rw [hb] at h; simp only [cfa] at h; have := zyv N hN hm ok hc; rw [this] at h; simp only [Bool.or_eq_false_iff, decide_eq_false_iff_not] at hb; obtain ⟨r1, r2, r3⟩ := z80 (Option.some.inj h); have hand : ∀ t ∈ c.zV, 0 ≤ t.Handler ∧ t.Handler < (c.zA.length : Int) := fun t ht => by
            have h5 := r2 t ht; unfold zo6 at h5; simp only [Bool.and_eq_true] at h5; have h6 := zcl.1 h5.2.2.2; omega
           exact ⟨⟨hm.1, hm.2, ok.le, by omega, by omega, by omega, fun x hx => zaay (r1 x hx), hand⟩, r3⟩
   · rw [zcd, dct h2] at h; simp only [ctr, Option.some.injEq, Prod.mk.injEq] at h; exact absurd h.2 h2
 · rw [zcd, dct h0] at h; simp only [ctr, Option.some.injEq, Prod.mk.injEq] at h; exact absurd h.2 h0
variable {m : zL} {c : zI}
theorem zvo (N : Nat) (l : List Int) (z : Int) (h : l.length < N) (hl : l.length < 1000000000) : ∃ r, zco N l z = some r ∧ (decide (r = -1)) = !l.contains z := by
 unfold zco
 have := z8s (f := zco.r0 N) l (fun x => decide (x = z)) (fun i => (l, z, (i : Int))) (fun i y hy => by
  have hi := (gei hy).1; simp only [zco.r0, zco.b0, zae, hy, obs, dct (show (i : Int) < (l.length : Int) by omega), ctr, zbj]; rw [w6e]
  by_cases e : y = z <;> simp [e])
  (by simp only [zco.r0, zco.b0, dcf (show ¬ (l.length : Int) < (l.length : Int) by omega), cfa]) h
 simp only [nc0] at this
 rw [this]
 have e := zud l (fun x => decide (x = z))
 have e2 : (l.any fun x => decide (x = z)) = l.contains z := by
  rw [Bool.eq_iff_iff, List.any_eq_true, List.contains_iff_mem]; constructor
  · rintro ⟨x, hx, h⟩
    have := of_decide_eq_true h; subst this; exact hx
  · intro h; exact ⟨z, h, by simp⟩
 rw [e2] at e
 cases hf : l.findIdx? (fun x => decide (x = z)) with
 | none => rw [hf] at e; rw [← e]; exact ⟨_, rfl, by simp⟩
 | some k => rw [hf] at e; rw [← e]; exact ⟨_, rfl, by simp⟩
variable {F : List (List zF)}
variable {m : zL} {c : zI} {F : List (List zF)}
theorem zr3 {β : Type} (p : Nat → Bool) (g : Nat → β) : ∀ n, (List.range n).findSome? (fun k => if p k = true then some (g k) else none) = (((List.range n).map p).findIdx? id).map g
 | 0 => rfl
 | n + 1 => by
  rw [List.range_succ, List.findSome?_append, List.map_append, List.findIdx?_append, zr3 p g n]; cases ((List.range n).map p).findIdx? id with
  | some k => rfl
  | none => cases h : p n <;> simp [h]
theorem z8f : zlb 2000000 = some true := by kernel_rfl
variable {m : zL} {c : zI}
def cnt (p : Nat → Bool) : Nat → Nat
 | 0 => 0
 | n + 1 => cnt p n + cond (p n) 0 1
def upd (p : Nat → Bool) (x : Nat) (k : Nat) : Bool := if k = x then true else p k
theorem z1k (p : Nat → Bool) (x : Nat) : ∀ n, cnt (upd p x) n + cond (decide (x < n) && !p x) 1 0 = cnt p n
 | 0 => by simp [cnt]
 | n + 1 => by
  have ih := z1k p x n; simp only [cnt]
  by_cases e : n = x
  · subst e; rw [dcf (Nat.lt_irrefl n)] at ih; simp only [Bool.false_and, cfa, Nat.add_zero] at ih; rw [dct (Nat.lt_succ_self n), ih]; have : upd p n n = true := by simp [upd]
    rw [this]; cases p n <;> simp
  · have h1 : upd p x n = p n := by simp [upd, e]
    have h2 : decide (x < n + 1) = decide (x < n) := by
     by_cases h : x < n
     · rw [dct h, dct (by omega)]
     · rw [dcf h, dcf (by omega)]
    rw [h1, h2]; omega
inductive Rch (c : zI) : Nat → Prop
 | ent {k : Nat} (h : k < c.zA.length) (he : z9u c k = true) : Rch c k
 | step {i k : Nat} (h : Rch c i) (hs : (k : Int) ∈ zxz c i) : Rch c k
theorem Rch.lt (hc : CdV m c) {k : Nat} (h : Rch c k) : k < c.zA.length := by
 cases h with
 | ent h _ => exact h
 | step _ hs =>
  obtain ⟨k', e, hk⟩ := z65 hc hs; omega
variable {m : zL} {c : zI}
theorem zxm {p q : Nat → Bool} : ∀ n, (∀ k, k < n → p k = q k) → cnt p n = cnt q n
 | 0, _ => rfl
 | n + 1, h => by simp only [cnt]; rw [zxm n (fun k hk => h k (by omega)), h n (by omega)]
structure PS (c : zI) (p0 p : Nat → Bool) (b : Bool) : Prop where
 sub : ∀ k, p0 k = true → p k = true
 r : ∀ k, k < c.zA.length → p k = true → Rch c k
 f : b = false → ∀ k, k < c.zA.length → p k = p0 k
 t : b = true → cnt p c.zA.length < cnt p0 c.zA.length
theorem PS.mark {p0 p : Nat → Bool} {b : Bool} (h : PS c p0 p b) {k : Nat} (hk : k < c.zA.length) (hr : Rch c k) : PS c p0 (upd p k) (b || !p k) := by
 have hcu := z1k p k c.zA.length
 rw [dct hk] at hcu
 refine ⟨fun j hj => ?_, fun j hj hp => ?_, fun hb j hj => ?_, fun hb => ?_⟩
 · unfold upd; split
   · rfl
   · exact h.sub j hj
 · unfold upd at hp; split at hp
   · rename_i e; subst e; exact hr
   · exact h.r j hj hp
 · rw [Bool.or_eq_false_iff, Bool.not_eq_false'] at hb; unfold upd; split
   · rename_i e; subst e; rw [← h.f hb.1 j hj, hb.2]
   · exact h.f hb.1 j hj
 · cases b with
   | true => have := h.t rfl; omega
   | false =>
    have e := zxm c.zA.length (h.f rfl); have hp : p k = false := by simpa using hb
    rw [hp] at hcu; simp at hcu; omega
variable {m : zL} {c : zI}
def uniL (c : zI) : List zF := (List.range 8).flatMap fun r : Nat => c.zA.flatMap fun x => [⟨(r : Int), x.zG, -1⟩, ⟨(r : Int), x.zG, x.Place.Offset⟩]
theorem flat_len {α β : Type} (f : α → List β) (k : Nat) (h : ∀ x, (f x).length = k) : ∀ l : List α, (l.flatMap f).length = l.length * k
 | [] => by simp
 | x :: l => by rw [List.flatMap_cons, lna, h, flat_len f k h l, lnc, Nat.succ_mul]; omega
def fxB (c : zI) (R : Nat → Bool) (k : Nat) : Bool := z9u c k || !R k
def Nok (c : zI) (R : Nat → Bool) (D : Nat → Bool) (G : Nat → List zF) (i : Nat) : Prop :=
 ∀ x, c.zA[i]? = some x → ∀ k : Nat, (k : Int) ∈ zxz c i → fxB c R k = false → D k = true ∧ ∀ f ∈ G k, Beh x (G i) f
structure Cl (c : zI) (R : Nat → Bool) (D : Nat → Bool) (G : Nat → List zF) : Prop where
 fx : ∀ k, k < c.zA.length → fxB c R k = true → D k = true ∧ G k = []
 st : ∀ i, i < c.zA.length → D i = true → Nok c R D G i
structure Inv (m : zL) (c : zI) (R : Nat → Bool) (D : Nat → Bool) (G : Nat → List zF) : Prop where
 so : ∀ k, z9y (G k)
 ok : ∀ k, ∀ f ∈ G k, FctV m c f
 un : ∀ k, ∀ f ∈ G k, f ∈ uniL c
 no : ∀ k, D k = false → G k = []
 fx : ∀ k, k < c.zA.length → fxB c R k = true → D k = true ∧ G k = []
 ab : ∀ D' G', Cl c R D' G' → ∀ k, k < c.zA.length → D k = true → D' k = true ∧ ∀ f ∈ G' k, f ∈ G k
variable {m : zL} {c : zI} {R : Nat → Bool}
variable {m : zL} {c : zI} {R : Nat → Bool}
variable {m : zL} {c : zI} {R : Nat → Bool}
variable {m : zL} {c : zI}
variable {m : zL} {c : zI}
theorem zaa3 {n : Nat} (h : n ≤ 1000000000) : Nat.ble (n * 32) zah = true := Nat.ble_eq_true_of_le (by show n * 32 ≤ 2 ^ 46; omega)
variable {m : zL} {c : zI}
variable {m : zL} {c : zI}
variable {m : zL} {c : zI}
variable {m : zL} {c : zI}
variable {m : zL} {c : zI}
variable {m : zL} {c : zI}
variable {m : zL} {c : zI}
variable {m : zL} {c : zI}
variable {m : zL} {c : zI} {x : Optimization}
variable {m : zL} {c : zI} {x : Optimization}
def zn3 (p q : List Bool) (i : Nat) : Option Bool := (p[i]?).bind fun u => (q[i]?).bind fun v => if u = v then none else some false
theorem z28 (N : Nat) (p q : List Bool) (h : p.length < N) (hl : p.length < 1000000000) : ∃ b, zab N p q = some b ∧ zdg N p q = some b := by
 unfold zab zdg
 rw [zcd]
 by_cases e : (p.length : Int) = (q.length : Int)
 · rw [dcf (show ¬ (p.length : Int) ≠ (q.length : Int) from fun h => h e)]; have l1 := zax (f := zab.r0 N) (fun i => (p, q, (p.length : Int), (i : Int))) (zn3 p q) p.length (fun i hi => by
    have hx := lge hi; have hy := lge (show i < q.length by omega); generalize p[i] = u at hx; generalize q[i] = v at hy; simp only [zab.r0, zab.b0, zn3, zae, hx, hy, obs, dct (show (i : Int) < (p.length : Int) by omega), ctr]; rw [w6e]; cases u <;> cases v <;> rfl)
    (by simp only [zab.r0, zab.b0, dcf (Int.lt_irrefl _), cfa]) h
   have l2 := zax (f := zdg.r0 N) (fun i => (p, q, (i : Int))) (zn3 p q) p.length (fun i hi => by
    have hx := lge hi; have hy := lge (show i < q.length by omega); generalize p[i] = u at hx; generalize q[i] = v at hy; simp only [zdg.r0, zdg.b0, zn3, zae, hx, hy, obs, dct (show (i : Int) < (p.length : Int) by omega), ctr]; rw [w6e]; cases u <;> cases v <;> rfl)
    (by simp only [zdg.r0, zdg.b0, dcf (Int.lt_irrefl _), cfa]) h
   simp only [nc0] at l1 l2; rw [cfa, cfa, l1, l2]; cases (List.range p.length).findSome? (zn3 p q) <;> exact ⟨_, rfl, rfl⟩
 · rw [dct (show (p.length : Int) ≠ (q.length : Int) from e)]; exact ⟨false, rfl, rfl⟩
def zq4 (p q : List zR) (i : Nat) : Bool := match p[i]?, q[i]? with
 | some u, some v => !zcp [(u.From == v.From), (u.To == v.To), (u.Exception == v.Exception), (u.Handler == v.Handler)]
 | _, _ => false
theorem zya (N : Nat) {p q : List zR} (e : p.length = q.length) (h : p.length < N) (hl : p.length < 1000000000) : zaa N p q = some (match (List.range p.length).findSome? (fun i => if zq4 p q i = true then some false else none) with | some b => b | none => true) := by
 unfold zaa
 rw [zcd, dcf (show ¬ (p.length : Int) ≠ (q.length : Int) by omega)]
 have l1 := zax (f := zaa.r0 N) (fun i => (p, q, (p.length : Int), (i : Int))) (fun i => if zq4 p q i = true then some false else none) p.length (fun i hi => by
  have hx := lge hi; have hy := lge (show i < q.length by omega); generalize p[i] = u at hx; generalize q[i] = v at hy; simp only [zaa.r0, zaa.b0, zq4, zae, hx, hy, obs, dct (show (i : Int) < (p.length : Int) by omega), ctr]; rw [w6e]; cases zcp [(u.From == v.From), (u.To == v.To), (u.Exception == v.Exception), (u.Handler == v.Handler)] <;> rfl)
  (by simp only [zaa.r0, zaa.b0, dcf (Int.lt_irrefl _), cfa]) h
 simp only [nc0] at l1
 rw [cfa, l1]
 cases (List.range p.length).findSome? (fun i => if zq4 p q i = true then some false else none) <;> rfl
variable {m : zL} {c : zI} {x : Optimization}
theorem z90 {n : Int} (h1 : 0 ≤ n) (h2 : n < 18446744073709551616) : IntKind.wrap .u64 n = n := by
 have e : (2 : Int) ^ (IntKind.u64.bits) = 18446744073709551616 := by decide
 unfold IntKind.wrap
 simp only [e, show IntKind.u64.signed = false from rfl, Bool.false_and]
 simp only [Bool.false_eq_true, if_false]
 omega
theorem zmb {n : Int} (h1 : 0 ≤ n) (h2 : n < 256) : IntKind.wrap .u8 n = n := by
 have e : (2 : Int) ^ (IntKind.u8.bits) = 256 := by decide
 unfold IntKind.wrap
 simp only [e, show IntKind.u8.signed = false from rfl, Bool.false_and]
 simp only [Bool.false_eq_true, if_false]
 omega
theorem andU (x y : Nat) (hx : x < 2 ^ 64) (hy : y < 2 ^ 64) : zk .u64 (x : Int) (y : Int) = ((x &&& y : Nat) : Int) := by
 have h := Nat.and_lt_two_pow x hy
 unfold zk
 have e : (BitVec.ofInt IntKind.u64.bits (x : Int) &&& BitVec.ofInt IntKind.u64.bits (y : Int)).toNat = (x &&& y) := by
  show (BitVec.ofInt 64 (x : Int) &&& BitVec.ofInt 64 (y : Int)).toNat = _; rw [BitVec.toNat_and, BitVec.ofInt_natCast, BitVec.ofInt_natCast, BitVec.toNat_ofNat, BitVec.toNat_ofNat, mel hx, mel hy]
 rw [e]
 exact z90 (by omega) (by omega)
theorem z3f (m : Nat) : IntKind.wrap .u64 (m : Int) = ((m % 18446744073709551616 : Nat) : Int) := by
 have e : (2 : Int) ^ (IntKind.u64.bits) = 18446744073709551616 := by decide
 unfold IntKind.wrap
 simp only [e, show IntKind.u64.signed = false from rfl, Bool.false_and]
 simp only [Bool.false_eq_true, if_false]
 omega
theorem z6f (p q : Nat) : (p : Int).fdiv (q : Int) = ((p / q : Nat) : Int) := by
 rw [Int.fdiv_eq_ediv_of_nonneg _ (by omega)]
 exact (Int.natCast_ediv p q).symm
theorem zzr (p : Nat) : (p : Int).fdiv (2 ^ (min (32 : Int).toNat 64)) = ((p / 4294967296 : Nat) : Int) := z6f p 4294967296
theorem z3c (p : Nat) (h : p < 18446744073709551616) : zk .u64 (p : Int) 4294967295 = ((p % 4294967296 : Nat) : Int) := by
 rw [show (4294967295 : Int) = ((4294967295 : Nat) : Int) from rfl, andU p 4294967295 h (by decide)]
 rw [show (4294967295 : Nat) = 2 ^ 32 - 1 from rfl, Nat.and_two_pow_sub_one_eq_mod]
theorem zaas (p q : Nat) (hp : p < 18446744073709551616) (hq : q < 18446744073709551616) : zg7 (p : Int) (q : Int) = some (((p * q / 18446744073709551616 : Nat) : Int), ((p * q % 18446744073709551616 : Nat) : Int)) := by
 unfold zg7
 simp only [zzr, z3c p hp, z3c q hq, ← Int.natCast_mul, z3f, ← Int.natCast_add, zzr]
 rw [z3c _ (Nat.mod_lt _ (by decide))]
 simp only [zzr, ← Int.natCast_mul, z3f, ← Int.natCast_add]
 have e1 := Nat.div_add_mod p 4294967296
 have e2 := Nat.div_add_mod q 4294967296
 have b1 : p / 4294967296 ≤ 4294967295 := by omega
 have b2 : q / 4294967296 ≤ 4294967295 := by omega
 have b3 : p % 4294967296 ≤ 4294967295 := by omega
 have b4 : q % 4294967296 ≤ 4294967295 := by omega
 have m : p * q = 18446744073709551616 * ((p / 4294967296) * (q / 4294967296)) + 4294967296 * ((p / 4294967296) * (q % 4294967296)) + (4294967296 * ((p % 4294967296) * (q / 4294967296)) + (p % 4294967296) * (q % 4294967296)) := by
  conv => lhs; rw [← e1, ← e2]
  rw [Nat.add_mul, Nat.mul_add, Nat.mul_add, Nat.mul_mul_mul_comm, Nat.mul_assoc 4294967296 (p / 4294967296) (q % 4294967296), Nat.mul_left_comm (p % 4294967296) 4294967296 (q / 4294967296)]
 have c1 := Nat.mul_le_mul b1 b2
 have c2 := Nat.mul_le_mul b1 b4
 have c3 := Nat.mul_le_mul b3 b2
 have c4 := Nat.mul_le_mul b3 b4
 rw [m]
 clear m e1 e2 b1 b2 b3 b4
 generalize (p / 4294967296) * (q / 4294967296) = A at *
 generalize (p / 4294967296) * (q % 4294967296) = B at *
 generalize (p % 4294967296) * (q / 4294967296) = C at *
 generalize (p % 4294967296) * (q % 4294967296) = D at *
 simp only [Option.some.injEq, Prod.mk.injEq, Int.natCast_inj]
 refine ⟨?_, trivial⟩
 omega
def zp9 (t : DataType) : Prop := zbp t = 0 ∧ 1 ≤ t.Kind ∧ t.Kind ≤ 3
theorem zjr {t : DataType} (h : zp9 t) : (1 ≤ t.Length ∧ t.Length ≤ 15) ∧ 0 ≤ t.Scale ∧ t.Scale ≤ t.Length := by
 obtain ⟨h0, h1, h2⟩ := h
 unfold zbp at h0
 rw [ifn] at h0
 by_cases hk : t.Kind = 3
 · rw [ifn, ifp hk] at h0; split at h0
   · split at h0
     · rename_i h3 h4; have := zcl.1 h4; omega
     · cases h0
   · cases h0
 · rw [ifp] at h0; split at h0
   · split at h0
     · rename_i h3 h4; have := zcl.1 h4; have := zcl.1 h3; omega
     · cases h0
   · cases h0
theorem zlx {k m : Nat} (h : k ≤ m) : 10 ^ k ≤ 10 ^ m := Nat.pow_le_pow_right (by decide) h
theorem zxc (k : Nat) : 0 < 10 ^ k := Nat.pow_pos (by decide)
def bl (b : ByteArray) : List UInt8 := b.data.toList
theorem zli (b : ByteArray) : (bl b).length = b.size := rfl
theorem zz9 {a b : ByteArray} (h : bl a = bl b) : a = b := by
 cases a; cases b
 unfold bl at h
 simp only at h
 congr 1
 exact Array.toList_inj.1 h
theorem zm5 (b : ByteArray) (i : Nat) : zi9 b (i : Int) = (bl b)[i]? := by
 unfold zi9 bl
 rw [ifp]
 show b[i]? = _
 by_cases h : i < b.size
 · rw [getElem?_pos b i h, lge (by simpa using h)]
   congr 1
 · rw [getElem?_neg b i h, List.getElem?_eq_none (by simpa using h)]
theorem zio (b : ByteArray) (i j : Nat) : bl (b.extract i j) = ((bl b).take j).drop i := by
 unfold bl
 rw [ByteArray.data_extract, Array.toList_extract, List.extract_eq_drop_take', List.drop_take]
theorem zpx (a b : ByteArray) : bl (a ++ b) = bl a ++ bl b := by
 unfold bl
 rw [ByteArray.data_append, Array.toList_append]
def beV (l : List UInt8) : Nat := l.foldl (fun n c => n * 256 + c.toNat) 0
theorem zu7 (l : List UInt8) (x : UInt8) : beV (l ++ [x]) = beV l * 256 + x.toNat := by
 unfold beV; rw [List.foldl_append]; rfl
theorem z4x (l : List UInt8) : beV l < 256 ^ l.length := by
 have key : ∀ (l r : List UInt8), l = r.reverse → beV l < 256 ^ l.length := by
  intro l r
  induction r generalizing l with
  | nil => intro h; subst h; decide
  | cons x r ih =>
   intro h; rw [List.reverse_cons] at h; subst h; have := ih _ rfl; rw [zu7, lna, lns, Nat.pow_succ]; have := x.toNat_lt; omega
 exact key l l.reverse (by simp)
theorem zih {α : Type} (l : List α) (i : Nat) {x : α} (h : l[i]? = some x) : l.take (i + 1) = l.take i ++ [x] := by
 obtain ⟨h1, h2⟩ := gei h
 rw [List.take_succ_eq_append_getElem h1, h2]
theorem zln {α : Type} {l : List α} {i : Nat} (h : i < l.length) : ∃ x, l[i]? = some x := ⟨_, lge h⟩
theorem or8 (n : Int) (c : Nat) (h1 : -36028797018963968 ≤ n) (h2 : n < 36028797018963968) (hc : c < 256) : orI .i64 (n * 256) (c : Int) = n * 256 + c := by
 unfold orI
 have e : (BitVec.ofInt IntKind.i64.bits (n * 256) ||| BitVec.ofInt IntKind.i64.bits (c : Int)).toNat = ((n * 256) % 18446744073709551616).toNat + c := by
  show (BitVec.ofInt 64 (n * 256) ||| BitVec.ofInt 64 (c : Int)).toNat = _; rw [BitVec.toNat_or, BitVec.ofInt_natCast, BitVec.toNat_ofNat, BitVec.toNat_ofInt, mel (by omega)]; show ((n * 256) % 18446744073709551616).toNat ||| c = _; have := Nat.two_pow_add_eq_or_of_lt (i := 8) (b := c) hc (((n * 256) % 18446744073709551616).toNat / 256); rw [show 2 ^ 8 * (((n * 256) % 18446744073709551616).toNat / 256) = ((n * 256) % 18446744073709551616).toNat by omega] at this; exact this.symm
 rw [e]
 have k : (2 : Int) ^ (IntKind.i64.bits) = 18446744073709551616 := by decide
 have k' : (2 : Int) ^ (IntKind.i64.bits - 1) = 9223372036854775808 := by decide
 unfold IntKind.wrap
 simp only [k, k', show IntKind.i64.signed = true from rfl, Bool.true_and, decide_eq_true_eq, ge_iff_le]
 split <;> omega
theorem zyc (N : Nat) (hN : 20 < N) (b : ByteArray) (hb : b.size ≤ 6) : zap N b = some (beV (bl b) : Int) := by
 unfold zap
 have := zbv (f := zap.r0 N) (fun i => (b, ((beV ((bl b).take i) : Nat) : Int), (b.size : Int), (i : Int))) b.size
  (fun i hi => by
   obtain ⟨x, hx⟩ : ∃ x, (bl b)[i]? = some x := zln (by rw [zli]; exact hi); have hl := z4x ((bl b).take i); have hl2 : 256 ^ ((bl b).take i).length ≤ 256 ^ 6 := Nat.pow_le_pow_right (by decide) (by rw [lnt, zli]; omega); have hc := x.toNat_lt; simp only [zap.r0, zap.b0, dct (show (i : Int) < (b.size : Int) by omega), ctr, zm5, hx, obs]; rw [show (2 : Int) ^ (min (8 : Int).toNat 64) = 256 from rfl, w6e (n := ((beV ((bl b).take i) : Nat) : Int) * 256), w6e (n := (x.toNat : Int)), w6e (n := (i : Int) + 1), or8 _ _ (by omega) (by omega) hc, zih _ _ hx, zu7]; simp only [Int.natCast_add, Int.natCast_mul, Int.natCast_one]; rfl)
  (by simp only [zap.r0, zap.b0, dcf (show ¬ (b.size : Int) < (b.size : Int) by omega), cfa]) (N := N) (by omega)
 simp only [List.take_zero, nc0] at this
 rw [show ((beV [] : Nat) : Int) = 0 from rfl] at this
 rw [this, ← zli, List.take_length]
 rfl
theorem zwj (N : Nat) (hN : 20 < N) (b : ByteArray) (k n : Nat) (hn : n ≤ 6) (hk : k + n ≤ b.size) (hb : b.size < 1000000) : zbo N b (k : Int) (n : Int) = some (beV (((bl b).drop k).take n) : Int) := by
 unfold zbo
 have := zbv (f := zbo.r0 N) (fun i => (b, (k : Int), (n : Int), ((beV (((bl b).drop k).take i) : Nat) : Int), (i : Int))) n
  (fun i hi => by
   have hlen : i < ((bl b).drop k).length := by rw [List.length_drop, zli]; omega
   obtain ⟨x, hy⟩ : ∃ x, ((bl b).drop k)[i]? = some x := zln hlen; have hx : (bl b)[k + i]? = some x := by rw [← List.getElem?_drop]; exact hy
   have hl := z4x (((bl b).drop k).take i); have hl2 : 256 ^ (((bl b).drop k).take i).length ≤ 256 ^ 6 := Nat.pow_le_pow_right (by decide) (by rw [lnt]; omega); have hc := x.toNat_lt; simp only [zbo.r0, zbo.b0, dct (show (i : Int) < (n : Int) by omega), ctr]; rw [w6e (n := (k : Int) + (i : Int)), ← Int.natCast_add, zm5, hx]; simp only [obs]; rw [w6e (n := ((beV (((bl b).drop k).take i) : Nat) : Int) * 256), w6e (n := (x.toNat : Int)), w6e (n := (i : Int) + 1), w6e, zih _ _ hy, zu7]; simp only [Int.natCast_add, Int.natCast_mul, Int.natCast_one]; rfl)
  (by simp only [zbo.r0, zbo.b0, dcf (show ¬ (n : Int) < (n : Int) by omega), cfa]) (N := N) (by omega)
 simp only [List.take_zero, nc0] at this
 rw [show ((beV [] : Nat) : Int) = 0 from rfl] at this
 rw [this]
 rfl
def z6n (v k : Nat) : List Int := (List.range k).map fun j => ((v / 256 ^ (k - 1 - j) % 256 : Nat) : Int)
def zf4 (f : Nat → Int) (k i : Nat) : List Int := (List.range k).map fun j => if k - i ≤ j then f (k - 1 - j) else 0
theorem zrj (f : Nat → Int) (k i : Nat) : (zf4 f k i).length = k := by simp [zf4]
theorem zpd (f : Nat → Int) (k : Nat) : zf4 f k 0 = List.replicate k (0 : Int) := by
 unfold zf4
 refine List.ext_getElem? fun j => ?_
 rw [List.getElem?_map, List.getElem?_replicate]
 by_cases h : j < k
 · rw [lge (by simpa using h), ifp h]; simp only [List.getElem_range, Option.map_some]; rw [ifn]
 · rw [List.getElem?_eq_none (by simpa using h), ifn h]; rfl
theorem zpf (f : Nat → Int) (k : Nat) : zf4 f k k = (List.range k).map fun j => f (k - 1 - j) := by
 unfold zf4
 refine List.map_congr_left fun j _ => ?_
 rw [ifp]
theorem zpe (f : Nat → Int) (k i : Nat) (h : i < k) : (zf4 f k i).set (k - 1 - i) (f i) = zf4 f k (i + 1) := by
 refine List.ext_getElem? fun j => ?_
 rw [List.getElem?_set]
 unfold zf4
 simp only [lnm, List.length_range, List.getElem?_map]
 by_cases hj : j < k
 · rw [lge (by simpa using hj)]; simp only [List.getElem_range, Option.map_some]
   by_cases he : k - 1 - i = j
   · rw [ifp he, ifp, ifp, show k - 1 - j = i by omega]
   · rw [ifn he]
     congr 1
     by_cases h2 : k - i ≤ j
     · rw [ifp h2, ifp]
     · rw [ifn h2, ifn]
 · rw [List.getElem?_eq_none (by simpa using hj)]
   by_cases he : k - 1 - i = j
   · omega
   · rw [ifn he]; rfl
def z6r : Pointer := ⟨0, ⟨0, 0⟩, 0⟩
def ptrP (off : Int) : Pointer := ⟨0, ⟨1, off⟩, 0⟩
def ztb (p : Pointer) : Int := cond (!inB p.Kind 0 2) 4 (cond (!inB p.Address.yA 0 1099511627775 || (!inB p.Address.Offset 0 16777215 || !inB p.Authority 0 1023)) 3 (cond (p.Authority != 0 && p.Kind != 1) 5 0))
theorem z3i (p : Pointer) : zdl p = some (ztb p) := by
 unfold zdl ztb
 simp only [z1y, obs, zjs]
 generalize inB p.Kind 0 2 = a
 generalize inB p.Address.yA 0 1099511627775 = b
 generalize inB p.Address.Offset 0 16777215 = c
 generalize inB p.Authority 0 1023 = d
 generalize (p.Authority != 0 && p.Kind != 1) = e
 cases a <;> cases b <;> cases c <;> cases d <;> cases e <;> rfl
theorem z31 (p : Pointer) : zep p = some (ztb p) := by
 unfold zep ztb
 rw [Bool.and_comm (p.Authority != 0) (p.Kind != 1)]
 simp only [zfy, obs, zjs, orB]
 generalize inB p.Kind 0 2 = a
 generalize inB p.Address.yA 0 1099511627775 = b
 generalize inB p.Address.Offset 0 16777215 = c
 generalize inB p.Authority 0 1023 = d
 generalize (p.Kind != 1 && p.Authority != 0) = e
 cases a <;> cases b <;> cases c <;> cases d <;> cases e <;> rfl
def zuu (l : List UInt8) : Pointer := ⟨((l.getD 0 0).toNat : Nat), ⟨(beV ((l.drop 4).take 6) : Nat), (beV ((l.drop 10).take 6) : Nat)⟩, (beV ((l.drop 2).take 2) : Nat)⟩
def zp4 (l : List UInt8) : Pointer × Int := if (l.getD 1 0).toNat ≠ 0 then (z6r, 5) else if ztb (zuu l) ≠ 0 then (z6r, ztb (zuu l)) else (zuu l, 0)
theorem ztt {l : List UInt8} {i : Nat} (h : i < l.length) : l[i]? = some (l.getD i 0) := by
 rw [gdd, lge h]; rfl
theorem z8p (N : Nat) (hN : 20 < N) (b : ByteArray) (hb : b.size = 16) : zel N b = some (zp4 (bl b)) := by
 have hl : (bl b).length = 16 := hb
 have i1 : zi9 b 1 = some ((bl b).getD 1 0) := by rw [show (1 : Int) = ((1 : Nat) : Int) from rfl, zm5, ztt (by omega)]
 have i0 : zi9 b 0 = some ((bl b).getD 0 0) := by rw [show (0 : Int) = ((0 : Nat) : Int) from rfl, zm5, ztt (by omega)]
 have z1 : (b.extract (2 : Int).toNat (4 : Int).toNat).size = 2 := zd3 b 2 4 (by omega) (by omega)
 have z2 : (b.extract (4 : Int).toNat (10 : Int).toNat).size = 6 := zd3 b 4 10 (by omega) (by omega)
 have z3 : (b.extract (10 : Int).toNat b.size).size = 6 := (zd3 b 10 b.size (by omega) (by omega)).trans (by omega)
 have e1 := zyc N hN (b.extract (2 : Int).toNat (4 : Int).toNat) (by omega)
 have e2 := zyc N hN (b.extract (4 : Int).toNat (10 : Int).toNat) (by omega)
 have e3 := zyc N hN (b.extract (10 : Int).toNat b.size) (by omega)
 rw [zio, show (2 : Int).toNat = 2 from rfl, show (4 : Int).toNat = 4 from rfl, List.drop_take] at e1
 rw [zio, show (4 : Int).toNat = 4 from rfl, show (10 : Int).toNat = 10 from rfl, List.drop_take] at e2
 rw [zio, show (10 : Int).toNat = 10 from rfl, List.drop_take, hb] at e3
 unfold zel
 rw [show ((b.size : Int) != 16) = false by rw [hb]; rfl]
 simp only [cfa, i1, i0, obs]
 by_cases h : ((bl b).getD 1 0).toNat = 0
 · rw [h, show ((((0 : Nat) : Int)) != 0) = false from rfl, cfa]; rw [ifp, ifp, show (2 : Int).toNat = 2 from rfl, show (4 : Int).toNat = 4 from rfl, e1]; simp only [obs]; rw [ifp, ifp, show (10 : Int).toNat = 10 from rfl, e2]; simp only [obs]; rw [ifp, hb, e3]; simp only [obs]; have hx := ((bl b).getD 0 0).toNat_lt; rw [w6e]; rw [show (⟨(((bl b).getD 0 0).toNat : Int), ⟨(beV (((bl b).drop 4).take (10 - 4)) : Int), (beV (((bl b).drop 10).take (16 - 10)) : Int)⟩, (beV (((bl b).drop 2).take (4 - 2)) : Int)⟩ : Pointer) = zuu (bl b) from rfl, z3i]; simp only [obs]; unfold zp4; rw [ifn]
   by_cases h2 : ztb (zuu (bl b)) = 0
   · rw [h2]; rfl
   · rw [ifp h2, zcd, dct h2]; rfl
 · unfold zp4; rw [ifp h, zcd, dct (by omega)]; rfl
theorem z8y (N : Nat) (hN : 20 < N) (b : ByteArray) (hb : b.size = 16) : zkf N b = some (zp4 (bl b)) := by
 have hl : (bl b).length = 16 := hb
 have i1 : zi9 b 1 = some ((bl b).getD 1 0) := by rw [show (1 : Int) = ((1 : Nat) : Int) from rfl, zm5, ztt (by omega)]
 have i0 : zi9 b 0 = some ((bl b).getD 0 0) := by rw [show (0 : Int) = ((0 : Nat) : Int) from rfl, zm5, ztt (by omega)]
 have e1 : zbo N b 2 2 = _ := zwj N hN b 2 2 (by omega) (by omega) (by omega)
 have e2 : zbo N b 4 6 = _ := zwj N hN b 4 6 (by omega) (by omega) (by omega)
 have e3 : zbo N b 10 6 = _ := zwj N hN b 10 6 (by omega) (by omega) (by omega)
 unfold zkf
 rw [show ((b.size : Int) != 16) = false by rw [hb]; rfl]
 simp only [cfa, i1, i0, obs]
 by_cases h : ((bl b).getD 1 0).toNat = 0
 · rw [h, show ((((0 : Nat) : Int)) != 0) = false from rfl, cfa]; rw [e1, e2, e3]; simp only [obs]; have hx := ((bl b).getD 0 0).toNat_lt; rw [w6e]; rw [show (⟨(((bl b).getD 0 0).toNat : Int), ⟨(beV (((bl b).drop 4).take 6) : Int), (beV (((bl b).drop 10).take 6) : Int)⟩, (beV (((bl b).drop 2).take 2) : Int)⟩ : Pointer) = zuu (bl b) from rfl, z31]; simp only [obs]; unfold zp4; rw [ifn]
   by_cases h2 : ztb (zuu (bl b)) = 0
   · rw [h2]; rfl
   · rw [ifp h2, zcd, dct h2]; rfl
 · unfold zp4; rw [ifp h, zcd, dct (by omega)]; rfl
def zpc (s : Storage) (i : Nat) : List UInt8 := ((bl s.Bytes).drop (16 * i)).take 16
def gS (s : Storage) (i : Nat) : Option (Int × Int) := (s.Tags[i]?).bind fun t => if t = true ∧ (zp4 (zpc s i)).2 ≠ 0 then some ((i : Int), 22) else none
def zyf (s : Storage) : Int × Int :=
 if s.Bytes.size > 1024 then (0, 2) else if s.Bytes.size % 16 ≠ 0 then (0, 18) else if s.Tags.length ≠ s.Bytes.size / 16 then (0, 6)
 else match (List.range s.Tags.length).findSome? (gS s) with | some r => r | none => ((s.Tags.length : Int), 0)
theorem zs0 (s : Storage) (i : Nat) : bl (s.Bytes.extract (16 * i) (16 * i + 16)) = zpc s i := by
 rw [zio, List.drop_take, zpc, show 16 * i + 16 - 16 * i = 16 by omega]
theorem z5f (N : Nat) (hN : 2000 < N) (s : Storage) : zn N s = some (zyf s) ∧ zbl N s = some (zyf s) := by
 unfold zn zbl zyf
 by_cases h1 : (s.Bytes.size : Int) > 1024
 · rw [dct h1, ifp]; exact ⟨rfl, rfl⟩
 · rw [dcf h1, ifn]; have hm : (s.Bytes.size : Int).tmod 16 = (s.Bytes.size : Int) % 16 := tme; have hd : (s.Bytes.size : Int).tdiv 16 = (s.Bytes.size : Int) / 16 := tde
   by_cases h2 : (s.Bytes.size : Int) % 16 = 0
   · rw [hm, hd, w6e, ifn]
     by_cases h3 : (s.Tags.length : Int) = (s.Bytes.size : Int) / 16
     · rw [show (((s.Bytes.size : Int) % 16) != 0) = false by rw [h2]; rfl, show ((s.Tags.length : Int) != (s.Bytes.size : Int) / 16) = false by rw [← h3]; exact bsf _, ifn]; simp only [cfa]; have hw : ∀ i : Nat, i < s.Tags.length → w6 ((i : Int) * 16) = (i : Int) * 16 ∧ w6 ((i : Int) * 16 + 16) = (i : Int) * 16 + 16 := fun i hi => ⟨w6e, w6e⟩; have hx : ∀ i : Nat, i < s.Tags.length → s.Bytes.extract ((i : Int) * 16).toNat ((i : Int) * 16 + 16).toNat = s.Bytes.extract (16 * i) (16 * i + 16) := fun i hi => by
        rw [show ((i : Int) * 16).toNat = 16 * i by omega, show ((i : Int) * 16 + 16).toNat = 16 * i + 16 by omega]
       have hz : ∀ i : Nat, i < s.Tags.length → (s.Bytes.extract (16 * i) (16 * i + 16)).size = 16 := fun i hi => by
        rw [zd3 _ _ _ (by omega) (by omega)]; omega
       constructor
       · have l1 := zax (f := zn.r1 N) (fun i => (s.Tags, (s.Tags.length : Int), (i : Int), s)) (gS s) s.Tags.length
          (fun i hi => by
           obtain ⟨w1, w2⟩ := hw i hi; have hx1 := lge hi; simp only [zn.r1, zn.b1, zae, hx1, obs, dct (show (i : Int) < (s.Tags.length : Int) by omega), ctr, gS]; rw [w6e (n := (i : Int) + 1)]; cases hb : s.Tags[i] with
           | false => simp
           | true =>
            simp only [bnt, cfa, w1, w2]; rw [ifp, ifp, hx i hi, z8p N (by omega) _ (hz i hi), zs0]; simp only [obs]
            by_cases hq : (zp4 (zpc s i)).2 = 0
            · rw [hq]; simp
            · rw [zcd, dct hq, ifp ⟨trivial, hq⟩]; rfl)
          (by simp only [zn.r1, zn.b1, dcf (show ¬ (s.Tags.length : Int) < (s.Tags.length : Int) by omega), cfa]) (N := N) (by omega)
         simp only [nc0] at l1; rw [l1]; simp only [obs]; cases (List.range s.Tags.length).findSome? (gS s) <;> rfl
       · have l1 := zax (f := zbl.r0 N) (fun i => ((s.Bytes.size : Int) / 16, (i : Int), s)) (gS s) s.Tags.length
          (fun i hi => by
           obtain ⟨w1, w2⟩ := hw i hi; have hx1 := lge hi; simp only [zbl.r0, zbl.b0, zae, hx1, obs, dct (show (i : Int) < (s.Bytes.size : Int) / 16 by omega), ctr, gS]; rw [w6e (n := (i : Int) + 1)]; cases hb : s.Tags[i] with
           | false => simp
           | true =>
            simp only [ctr, zkw, w1, w2]; rw [ifp, ifp]; simp only [obs]; rw [hx i hi, z8y N (by omega) _ (hz i hi), zs0]; simp only [obs]
            by_cases hq : (zp4 (zpc s i)).2 = 0
            · rw [hq]; simp
            · rw [zcd, dct hq, ifp ⟨trivial, hq⟩]; rfl)
          (by simp only [zbl.r0, zbl.b0, dcf (show ¬ (s.Tags.length : Int) < (s.Bytes.size : Int) / 16 by omega), cfa]) (N := N) (by omega)
         simp only [nc0] at l1; rw [l1]; simp only [obs]; cases (List.range s.Tags.length).findSome? (gS s) with
         | some r => rfl
         | none => simp only [zbc, ← h3]
     · rw [show (((s.Bytes.size : Int) % 16) != 0) = false by rw [h2]; rfl, show ((s.Tags.length : Int) != (s.Bytes.size : Int) / 16) = true by rw [zcd]; exact dct h3, ifp]; exact ⟨rfl, rfl⟩
   · rw [hm, show (((s.Bytes.size : Int) % 16) != 0) = true by rw [zcd]; exact dct h2, ifp]; exact ⟨rfl, rfl⟩
structure zqg (s : Storage) : Prop where
 le : s.Bytes.size ≤ 1024
 quad : s.Bytes.size % 16 = 0
 tags : s.Tags.length = s.Bytes.size / 16
 ptr : ∀ i, s.Tags[i]? = some true → ∃ off : Int, (0 ≤ off ∧ off ≤ 16777215) ∧ zp4 (zpc s i) = (ptrP off, 0)
theorem zqg.err {s : Storage} (h : zqg s) : zyf s = ((s.Tags.length : Int), 0) := by
 obtain ⟨h1, h2, h3, h4⟩ := h
 unfold zyf
 rw [ifn, ifn, ifn]
 have : (List.range s.Tags.length).findSome? (gS s) = none := by
  rw [List.findSome?_eq_none_iff]; intro i _; unfold gS; cases ht : s.Tags[i]? with
  | none => rfl
  | some t =>
   rw [obs]; split
   · rename_i h5; rw [h5.1] at ht; obtain ⟨off, _, h6⟩ := h4 i ht; rw [h6] at h5; exact absurd rfl h5.2
   · rfl
 rw [this]
theorem zqg.ok {s : Storage} (h : zqg s) : StoOk s := ⟨h.le, h.quad⟩
theorem zdj {n : Nat} (h : n ≤ 1000000) : Nat.ble n zah = true := by
 rw [Nat.ble_eq]; unfold zah; omega
def spl (l : List UInt8) (a : Nat) (d : List UInt8) : List UInt8 := l.take a ++ d ++ l.drop (a + d.length)
theorem z68 {l : List UInt8} {a : Nat} {d : List UInt8} (h : a + d.length ≤ l.length) : (spl l a d).length = l.length := by
 unfold spl
 simp only [lna, lnt, List.length_drop]
 omega
def clr (t : List Bool) (a n : Nat) : List Bool := (List.range t.length).map fun k => if 16 * k < a + n ∧ a < 16 * k + 16 then false else t.getD k false
theorem z8c (t : List Bool) (a n : Nat) : (clr t a n).length = t.length := by simp [clr]
theorem zwy (t : List Bool) (a n k : Nat) : (clr t a n)[k]? = if 16 * k < a + n ∧ a < 16 * k + 16 then (if k < t.length then some false else none) else t[k]? := by
 unfold clr
 rw [List.getElem?_map]
 by_cases h : k < t.length
 · rw [lge (by simpa using h)]; simp only [List.getElem_range, Option.map_some]; split
   · simp [h]
   · rw [lge h, gdd, lge h]; rfl
 · rw [List.getElem?_eq_none (by simpa using h), List.getElem?_eq_none (by simpa using h)]; simp [h]
def wrV (s : Storage) (a : Nat) (d : ByteArray) : Storage := ⟨⟨(spl (bl s.Bytes) a (bl d)).toArray⟩, clr s.Tags a d.size⟩
theorem zx8 {s : Storage} {a : Nat} {d : ByteArray} (h : a + d.size ≤ s.Bytes.size) : (wrV s a d).Bytes.size = s.Bytes.size := z68 (l := bl s.Bytes) (d := bl d) h
theorem z6g {l : List UInt8} {a : Nat} {d : List UInt8} (h : a + d.length ≤ l.length) (i n : Nat) (hi : i + n ≤ a ∨ a + d.length ≤ i) : ((spl l a d).drop i).take n = (l.drop i).take n := by
 refine List.ext_getElem? fun k => ?_
 rw [List.getElem?_take, List.getElem?_take]
 by_cases hk : k < n
 · rw [ifp hk, ifp hk, List.getElem?_drop, List.getElem?_drop]; unfold spl; rcases hi with hi | hi
   · rw [List.append_assoc, List.getElem?_append_left (by rw [lnt]; omega), List.getElem?_take, ifp]
   · rw [List.getElem?_append_right (by rw [lna, lnt]; omega), lna, lnt, List.getElem?_drop]
     congr 1
     omega
 · rw [ifn hk, ifn hk]
theorem z8k {s : Storage} (h : zqg s) {a : Nat} {d : ByteArray} (hd : a + d.size ≤ s.Bytes.size) (hd0 : 0 < d.size) : zqg (wrV s a d) := by
 have hs := zx8 hd
 refine ⟨by rw [hs]; exact h.le, by rw [hs]; exact h.quad, by rw [hs]; exact (z8c _ _ _).trans h.tags, fun i hi => ?_⟩
 have hi' : (clr s.Tags a d.size)[i]? = some true := hi
 rw [zwy] at hi'
 split at hi'
 · split at hi' <;> cases hi'
 · rename_i hn; obtain ⟨off, h1, h2⟩ := h.ptr i hi'; refine ⟨off, h1, ?_⟩; have : zpc (wrV s a d) i = zpc s i := z6g (l := bl s.Bytes) (d := bl d) hd _ _ (by rw [zli]; omega); rw [this]; exact h2
theorem zl0 (b : ByteArray) : b.toList = bl b := ByteArray.toList_eq b
theorem z8o {s : Storage} (h : zqg s) {a : Nat} {d : ByteArray} (hd : a + d.size ≤ s.Bytes.size) (hd0 : 0 < d.size) : zkt s (a : Int) d = some (wrV s a d) := by
 have hl := h.le
 have hq := h.quad
 have ht := h.tags
 have hmax : IntKind.i64.max = 9223372036854775807 := by decide
 unfold zkt
 rw [hmax]
 have z1 : (s.Bytes.extract (0 : Int).toNat (a : Int).toNat).size = a := by rw [zd3 _ _ _ (by omega) (by omega)]; omega
 rw [ifp, ifp, ifn (by rw [z1]; omega), w6e (n := (a : Int) + (d.size : Int)), ifp]
 have z2 : (s.Bytes.extract ((a : Int) + (d.size : Int)).toNat s.Bytes.size).size = s.Bytes.size - (a + d.size) := by rw [zd3 _ _ _ (by omega) (by omega)]; omega
 rw [ifn (by rw [z2, bsa, z1]; omega)]
 have hc : zk7 1 s.Tags = some s.Tags := by unfold zk7; rw [zdj (by omega)]; rfl
 rw [hc]
 simp only [obs]
 have hne : (d.toList == (⟨#[]⟩ : ByteArray).toList) = false := by
  rw [zl0, zl0]; refine beq_eq_false_iff_ne.2 fun h => ?_; have := congrArg List.length h; rw [zli, zli] at this; have : d.size = 0 := this; omega
 rw [hne]
 simp only [Bool.not_false, ctr]
 have e1 : w6 ((w6 ((w6 ((a : Int) + (d.size : Int) - 1)).tdiv 16)) + 1) = (((a + d.size - 1) / 16 + 1 : Nat) : Int) := by
  rw [w6e (n := (a : Int) + (d.size : Int) - 1), tde, w6e (n := ((a : Int) + (d.size : Int) - 1) / 16), w6e]; omega
 have e2 : w6 ((a : Int).tdiv 16) = ((a / 16 : Nat) : Int) := by
  rw [tde, w6e]; omega
 rw [e1, e2, ifp, ifp]
 simp only [itn]
 have f1 : ((s.Bytes.extract (0 : Int).toNat a) ++ d) ++ (s.Bytes.extract ((a : Int) + (d.size : Int)).toNat s.Bytes.size) = (wrV s a d).Bytes := by
  refine zz9 ?_; rw [zpx, zpx, zio, zio, show (0 : Int).toNat = 0 from rfl, dr0, show ((a : Int) + (d.size : Int)).toNat = a + d.size by omega, ← zli s.Bytes, List.take_length]; rfl
 have f2 : s.Tags.take (a / 16) ++ List.replicate ((a + d.size - 1) / 16 + 1 - a / 16) false ++ s.Tags.drop (a / 16 + ((a + d.size - 1) / 16 + 1 - a / 16)) = (wrV s a d).Tags := by
  refine List.ext_getElem? fun k => ?_; show _ = (clr s.Tags a d.size)[k]?; rw [zwy]
  by_cases h1 : k < a / 16
  · rw [List.append_assoc, List.getElem?_append_left (by rw [lnt]; omega), List.getElem?_take, ifp h1, ifn]
  · by_cases h2 : k < (a + d.size - 1) / 16 + 1
    · rw [List.append_assoc, List.getElem?_append_right (by rw [lnt]; omega), List.getElem?_append_left (by rw [lnt, lnr]; omega), List.getElem?_replicate, ifp (by rw [lnt]; omega), ifp, ifp]
    · rw [List.getElem?_append_right (by rw [lna, lnt, lnr]; omega), lna, lnt, lnr, List.getElem?_drop, ifn]
      congr 1
      omega
 rw [f1, f2]
theorem z5d (N : Nat) (hN : 2000 < N) {s : Storage} (h : zqg s) {a : Nat} {d : ByteArray} (hd : a + d.size ≤ s.Bytes.size) (hd0 : 0 < d.size) : zf7 N s (a : Int) d = some (wrV s a d, 0) := by
 have hl := h.le
 unfold zf7 zju
 rw [(z5f N hN s).1, h.err]
 simp only [obs, bsf, cfa]
 rw [dcf (show ¬ (a : Int) < 0 by omega), dcf (show ¬ (d.size : Int) < 0 by omega), dcf (show ¬ (a : Int) > (s.Bytes.size : Int) by omega), w6e, dcf (show ¬ (d.size : Int) > (s.Bytes.size : Int) - (a : Int) by omega)]
 simp only [cfa, obs, bsf]
 rw [z8o h hd hd0]
 rfl
theorem zv9 (l : List Int) : bl (ze6 l) = l.map fun n => UInt8.ofNat n.toNat := rfl
theorem zzb (N : Nat) (hN : 100 < N) (k : Nat) (hk : k ≤ 18) : zcj N (k : Int) = some ((10 ^ k : Nat) : Int) := by
 unfold zcj
 have := zbv (f := zcj.r0 N) (fun i => (((10 ^ i : Nat) : Int), (k : Int), (i : Int))) k
  (fun i hi => by
   have : 10 ^ (i + 1) ≤ 10 ^ 18 := zlx (by omega); rw [Nat.pow_succ] at this; simp only [zcj.r0, zcj.b0, dct (show (i : Int) < (k : Int) by omega), ctr]; rw [w6e (n := ((10 ^ i : Nat) : Int) * 10), w6e, Nat.pow_succ]; simp only [Int.natCast_add, Int.natCast_mul, Int.natCast_one]; rfl)
  (by simp only [zcj.r0, zcj.b0, dcf (show ¬ (k : Int) < (k : Int) by omega), cfa]) (N := N) (by omega)
 simp only [Nat.pow_zero, nc0] at this
 rw [ifn, show (1 : Int) = ((1 : Nat) : Int) from rfl, this]
 rfl
theorem zxw (N : Nat) (hN : 100 < N) {t : DataType} (ht : zp9 t) (n : Int) : zcm N t ⟨n, ⟨#[]⟩⟩ = some (if -((10 ^ t.Length.toNat : Nat) : Int) < n ∧ n < ((10 ^ t.Length.toNat : Nat) : Int) then 0 else 19) := by
 have f2 : ∀ a b : Int, zai N [a, b] = some (zds [a, b]) := fun a b => zux N _ (by simp; omega) (by simp)
 obtain ⟨⟨l1, l2⟩, l3, l4⟩ := zjr ht
 have hp := zzb N hN t.Length.toNat (by omega)
 rw [Int.toNat_of_nonneg (by omega)] at hp
 have hp2 : 10 ^ t.Length.toNat ≤ 10 ^ 15 := zlx (by omega)
 have hp3 := zxc t.Length.toNat
 obtain ⟨h0, h1, h2⟩ := ht
 unfold zcm
 rw [zoi N (by omega), h0, zbj, zbj, dcf (show ¬ t.Kind = 4 by omega), dcf (show ¬ t.Kind = 0 by omega)]
 simp only [zqm, cfa, obs, f2, show zds [0, 0] = 0 from rfl, bsf]
 rw [hp]
 simp only [obs, bst, bnt, cfa, zx0, zqm]
 generalize 10 ^ t.Length.toNat = P at *
 rw [w6e (n := (P : Int) - 1), w6e]
 by_cases h : -(P : Int) < n ∧ n < (P : Int)
 · rw [ifp h, show inB n (0 - ((P : Int) - 1)) ((P : Int) - 1) = true from zcl.2 ⟨by omega, by omega⟩]; rfl
 · rw [ifn h, show inB n (0 - ((P : Int) - 1)) ((P : Int) - 1) = false by
    cases hb : inB n (0 - ((P : Int) - 1)) ((P : Int) - 1) with
    | false => rfl
    | true => have := zcl.1 hb; omega]
   rfl
theorem zwd {t : DataType} (ht : zp9 t) : szE t = (if t.Kind = 1 then t.Length / 2 + 1 else if t.Kind = 3 then (if t.Length = 9 then 4 else 2) else t.Length) := by
 obtain ⟨_, h1, h2⟩ := ht
 unfold szE
 split
 · rfl
 · split
   · rfl
   · rw [ifn]
def zo0 (n len : Nat) : List Int := (List.range len).map fun j => ((n / 10 ^ (len - 1 - j) % 10 : Nat) : Int)
theorem zr6 (n len : Nat) : (zo0 n len).length = len := by simp [zo0]
theorem zr5 {n len : Nat} : ∀ d ∈ zo0 n len, 0 ≤ d ∧ d ≤ 9 := by
 intro d hd
 obtain ⟨j, _, rfl⟩ := List.mem_map.1 hd
 omega
def zx5 (l : List Int) (neg : Bool) : List Int := (l.take (l.length - 1)).map (· + 240) ++ [l.getD (l.length - 1) 0 + cond neg 208 240]
def zii : List Int → List Int
 | a :: b :: l => (16 * a + b) :: zii l
 | _ => []
def z20 (n : Int) (k : Nat) : List Int := (List.range k).map fun j => n / 256 ^ (k - 1 - j) % 256
def zp5 (t : DataType) (n : Int) : List Int := (if t.Length % 2 = 0 then [0] else []) ++ zo0 n.natAbs t.Length.toNat ++ [if n < 0 then 13 else 15]
def zta (t : DataType) (n : Int) : ByteArray :=
 ze6 (if t.Kind = 3 then z20 n (szE t).toNat else if t.Kind = 2 then zx5 (zo0 n.natAbs t.Length.toNat) (decide (n < 0)) else zii (zp5 t n))
theorem z4e (N : Nat) (hN : 100 < N) (n len : Nat) (hn : n ≤ 1000000000000000000) (hl : len ≤ 20) : zaq N (n : Int) (len : Int) = some (zo0 n len) := by
 unfold zaq
 have := zbv (f := zaq.r0 N) (fun i => (((n / 10 ^ i : Nat) : Int), zf4 (fun e => ((n / 10 ^ e % 10 : Nat) : Int)) len i, (len : Int) - 1 - (i : Int))) len
  (fun i hi => by
   have hl2 : n / 10 ^ i ≤ n := Nat.div_le_self _ _; have hl : (zf4 (fun e => ((n / 10 ^ e % 10 : Nat) : Int)) len i).length = len := zrj _ _ _; have e1 : n / 10 ^ (i + 1) = n / 10 ^ i / 10 := by rw [Nat.pow_succ, ← Nat.div_div_eq_div_mul]
   have e2 : (zf4 (fun e => ((n / 10 ^ e % 10 : Nat) : Int)) len i).set (len - 1 - i) ((n / 10 ^ i % 10 : Nat) : Int) = zf4 (fun e => ((n / 10 ^ e % 10 : Nat) : Int)) len (i + 1) := zpe _ len i hi; rw [e1, ← e2]; generalize (zf4 (fun e => ((n / 10 ^ e % 10 : Nat) : Int)) len i) = P at *; generalize n / 10 ^ i = q at *; simp only [zaq.r0, zaq.b0, dct (show (len : Int) - 1 - (i : Int) ≥ 0 by omega), ctr, hl]; rw [ifp, ifp]; obtain ⟨x, hx⟩ : ∃ x, P[((len : Int) - 1 - (i : Int)).toNat]? = some x := zln (by omega); rw [hx]; simp only [obs]
   rw [tde, tme, w6e (n := (q : Int) / 10), w6e (n := (len : Int) - 1 - (i : Int) - 1), zmb (by omega) (by omega), show ((len : Int) - 1 - (i : Int)).toNat = len - 1 - i by omega, show (q : Int) % 10 = ((q % 10 : Nat) : Int) by omega, show (q : Int) / 10 = ((q / 10 : Nat) : Int) by omega, show (len : Int) - 1 - (i : Int) - 1 = (len : Int) - 1 - ((i + 1 : Nat) : Int) by omega])
  (by simp only [zaq.r0, zaq.b0, dcf (show ¬ (len : Int) - 1 - (len : Int) ≥ 0 by omega), cfa]) (N := N) (by omega)
 rw [ifp, ifp, zdj (by omega), ctr, itn, w6e]
 simp only [Nat.pow_zero, Nat.div_one, zpd, nc0, Int.sub_zero, zpf] at this
 rw [this]
 rfl
theorem or4 (x y : Nat) (hx : x < 16) (hy : y < 16) : orI .u8 (IntKind.wrap .u8 ((x : Int) * 2 ^ (min (4 : Int).toNat 8))) (y : Int) = ((16 * x + y : Nat) : Int) := by
 rw [show (2 : Int) ^ (min (4 : Int).toNat 8) = 16 from rfl, zmb (by omega) (by omega)]
 unfold orI
 have e : (BitVec.ofInt IntKind.u8.bits ((x : Int) * 16) ||| BitVec.ofInt IntKind.u8.bits (y : Int)).toNat = 16 * x + y := by
  show (BitVec.ofInt 8 ((x : Int) * 16) ||| BitVec.ofInt 8 (y : Int)).toNat = _; rw [show (x : Int) * 16 = ((16 * x : Nat) : Int) by omega, BitVec.toNat_or, BitVec.ofInt_natCast, BitVec.ofInt_natCast, BitVec.toNat_ofNat, BitVec.toNat_ofNat, mel (by omega), mel (by omega)]; exact (Nat.two_pow_add_eq_or_of_lt (i := 4) (b := y) hy x).symm
 rw [e]
 exact zmb (by omega) (by omega)
theorem zrl : ∀ (n : Nat) (l : List Int) (x y : Int), l.length = 2 * n → zii (l ++ [x, y]) = zii l ++ [16 * x + y]
 | 0, l, x, y, h => by
  obtain rfl := List.length_eq_zero_iff.1 (by omega : l.length = 0); rfl
 | n + 1, [], x, y, h => by simp at h
 | n + 1, [a], x, y, h => by simp at h; omega
 | n + 1, a :: b :: l, x, y, h => by
  simp only [List.cons_append, zii]; rw [zrl n l x y (by simp only [lnc] at h; omega)]
theorem znq : ∀ (n : Nat) (l : List Int), l.length = 2 * n → (zii l).length = n
 | 0, l, h => by
  obtain rfl := List.length_eq_zero_iff.1 (by omega : l.length = 0); rfl
 | n + 1, [], h => by simp at h
 | n + 1, [a], h => by simp at h; omega
 | n + 1, a :: b :: l, h => by
  simp only [zii, lnc]; rw [znq n l (by simp only [lnc] at h; omega)]
theorem z4b (N : Nat) (hN : 100 < N) (l : List Int) (n : Nat) (hl : l.length = 2 * n) (hn : n ≤ 20) (hd : ∀ d ∈ l, 0 ≤ d ∧ d < 16) : zbf N l = some (ze6 (zii l)) := by
 unfold zbf
 have := zbv (f := zbf.r0 N) (fun i => (l, zii (l.take (2 * i)), 2 * (i : Int))) n
  (fun i hi => by
   obtain ⟨x, hx⟩ : ∃ x, l[2 * i]? = some x := zln (by omega); obtain ⟨y, hy⟩ : ∃ y, l[2 * i + 1]? = some y := zln (by omega); obtain ⟨x1, x2⟩ := hd x (lmg hx); obtain ⟨y1, y2⟩ := hd y (lmg hy); have hlt : (l.take (2 * i)).length = 2 * i := by rw [lnt]; omega
   simp only [zbf.r0, zbf.b0, dct (show 2 * (i : Int) < (l.length : Int) by omega), ctr]; rw [w6e (n := 2 * (i : Int) + 1), w6e (n := 2 * (i : Int) + 2), show 2 * (i : Int) = ((2 * i : Nat) : Int) by omega, show ((2 * i : Nat) : Int) + 1 = ((2 * i + 1 : Nat) : Int) by omega, zae, zae, hx, hy]; simp only [obs]; obtain ⟨u, rfl⟩ : ∃ u : Nat, x = (u : Int) := ⟨x.toNat, by omega⟩; obtain ⟨v, rfl⟩ : ∃ v : Nat, y = (v : Int) := ⟨y.toNat, by omega⟩; rw [or4 u v (by omega) (by omega), zdj (by rw [znq i _ hlt]; simp only [lnc, ln0]; omega), ctr]; rw [show 2 * (i + 1) = 2 * i + 1 + 1 by omega, zih _ _ hy, zih _ _ hx, List.append_assoc, show ([(u : Int)] ++ [(v : Int)] : List Int) = [(u : Int), (v : Int)] from rfl, zrl i _ _ _ hlt]
   congr 4)
  (by simp only [zbf.r0, zbf.b0, dcf (show ¬ 2 * (n : Int) < (l.length : Int) by omega), cfa]) (N := N) (by omega)
 simp only [Nat.mul_zero, List.take_zero, nc0, Int.mul_zero] at this
 rw [show zii [] = [] from rfl] at this
 rw [this, obs, ← hl, List.take_length]
theorem z7a (f : Int → Int) (l : List Int) (i : Nat) {x : Int} (hx : l[i]? = some x) : ((l.take i).map f ++ l.drop i)[i]? = some x ∧ ((l.take i).map f ++ l.drop i).set i (f x) = (l.take (i + 1)).map f ++ l.drop (i + 1) := by
 obtain ⟨h1, h2⟩ := gei hx
 have hl : ((l.take i).map f).length = i := by rw [lnm, lnt]; omega
 have hd : l.drop i = x :: l.drop (i + 1) := by rw [List.drop_eq_getElem_cons h1, h2]
 constructor
 · rw [List.getElem?_append_right (by omega), hl, Nat.sub_self, hd]; rfl
 · rw [List.set_append_right _ _ (by omega), hl, Nat.sub_self, hd, zih l i hx, List.map_append, List.append_assoc]; rfl
theorem z2q {l : List Int} (h : 0 < l.length) : l = l.take (l.length - 1) ++ [l.getD (l.length - 1) 0] := by
 have hx : l[l.length - 1]? = some (l.getD (l.length - 1) 0) := by rw [gdd, lge (by omega)]; rfl
 have := zih l (l.length - 1) hx
 rw [show l.length - 1 + 1 = l.length by omega, List.take_length] at this
 exact this
theorem z63 (z : Int) : IntKind.wrap .u8 z = z % 256 := by
 have e : (2 : Int) ^ (IntKind.u8.bits) = 256 := by decide
 unfold IntKind.wrap
 simp only [e, show IntKind.u8.signed = false from rfl, Bool.false_and]
 simp only [Bool.false_eq_true, if_false]
theorem zn5 {l : List Int} (h : 0 < l.length) : l.map (· + 240) = zx5 l false := by
 conv => lhs; rw [z2q h]
 rw [List.map_append]
 rfl
theorem zwa {n : Int} (h1 : -9223372036854775807 ≤ n) (h2 : n ≤ 9223372036854775807) : (if w6 (0 - n) > n then w6 (0 - n) else n) = ((n.natAbs : Nat) : Int) := by
 rw [w6e]
 split <;> omega
theorem zrm {t : DataType} (h1 : 1 ≤ t.Length) (n : Int) : (zp5 t n).length = 2 * (t.Length.toNat / 2 + 1) ∧ ∀ d ∈ zp5 t n, 0 ≤ d ∧ d < 16 := by
 unfold zp5
 constructor
 · rw [lna, lna, zr6, lns]; split
   · rw [lns]; omega
   · rw [ln0]; omega
 · intro d hd; rcases List.mem_append.1 hd with hd | hd
   · rcases List.mem_append.1 hd with hd | hd
     · split at hd
       · rcases List.mem_cons.1 hd with rfl | hd
         · omega
         · cases hd
       · cases hd
     · have := zr5 d hd; omega
   · rcases List.mem_cons.1 hd with rfl | hd
     · split <;> omega
     · cases hd
theorem z2n (N : Nat) (hN : 100 < N) {t : DataType} (ht : zp9 t) (n : Int) (hn : -((10 ^ t.Length.toNat : Nat) : Int) < n ∧ n < ((10 ^ t.Length.toNat : Nat) : Int)) : zu N t ⟨n, ⟨#[]⟩⟩ = some (zta t n) := by
 obtain ⟨⟨l1, l2⟩, l3, l4⟩ := zjr ht
 have hp2 : 10 ^ t.Length.toNat ≤ 10 ^ 15 := zlx (by omega)
 have hsz := zwd ht
 have ht' := ht
 obtain ⟨h0, h1, h2⟩ := ht'
 have hd := z4e N hN n.natAbs t.Length.toNat (by omega) (by omega)
 rw [Int.toNat_of_nonneg (by omega)] at hd
 unfold zu zta
 try simp only [eD]
 rw [zwa (by omega) (by omega), hd]
 simp only [obs]
 have hlen := zr6 n.natAbs t.Length.toNat
 have hrange := zr5 (n := n.natAbs) (len := t.Length.toNat)
 have hpac := zrm (t := t) l1 n
 have epac : zp5 t n = (if t.Length % 2 = 0 then [0] else []) ++ zo0 n.natAbs t.Length.toNat ++ [if n < 0 then 13 else 15] := rfl
 generalize zo0 n.natAbs t.Length.toNat = d at *
 simp only [zbj]
 by_cases k2 : t.Kind = 2
 · rw [dct k2, ctr, ifn, ifp k2]; have lp := zbv (f := zu.r1 N) (fun i => ((d.take i).map (· + 240) ++ d.drop i, (d.length : Int), (i : Int), (⟨n, ⟨#[]⟩⟩ : Value))) d.length
    (fun i hi => by
     obtain ⟨x, hx⟩ : ∃ x, d[i]? = some x := zln hi; obtain ⟨e1, e2⟩ := z7a (· + 240) d i hx; have hxr := hrange x (lmg hx); have hl : ((d.take i).map (· + 240) ++ d.drop i).length = d.length := by rw [lna, lnm, lnt, List.length_drop]; omega
     simp only [zu.r1, zu.b1, dct (show (i : Int) < (d.length : Int) by omega), ctr, hl]; rw [ifp, ifp, itn, e1]; simp only [obs]; rw [ifp, ifp, zmb (by omega) (by omega), w6e, e2]; rfl)
    (by simp only [zu.r1, zu.b1, dcf (show ¬ (d.length : Int) < (d.length : Int) by omega), cfa]) (N := N) (by omega)
   simp only [List.take_zero, nc0, dr0, List.map_nil, List.nil_append, List.take_length, List.drop_length, List.append_nil] at lp; rw [lp]; simp only [obs, lnm]
   by_cases hneg : n < 0
   · rw [dct hneg, ctr, w6e, ifp, ifp]; have hi : (d.length : Int) - 1 = ((d.length - 1 : Nat) : Int) := by omega
     have hx : d[d.length - 1]? = some (d.getD (d.length - 1) 0) := by rw [gdd, lge (by omega)]; rfl
     have hxr := hrange _ (lmg hx); rw [hi, itn, List.getElem?_map, hx]; simp only [Option.map_some, obs]; rw [ifp, ifp, zmb (by omega) (by omega)]
     congr 2
     conv => lhs; rw [show d.map (· + 240) = (d.take (d.length - 1)).map (· + 240) ++ [d.getD (d.length - 1) 0 + 240] from zn5 (by omega)]
     have hl : ((d.take (d.length - 1)).map (· + 240)).length = d.length - 1 := by rw [lnm, lnt]; omega
     rw [List.set_append_right _ _ (by omega), hl, Nat.sub_self]; unfold zx5
     congr 1
     show [_] = [_]
     congr 1
     simp only [ctr]; omega
   · rw [dcf hneg, cfa, zn5 (by omega)]
 · rw [dcf k2, cfa, ifn (c := t.Kind = 2) k2]
   by_cases k1 : t.Kind = 1
   · rw [dct k1, ctr, ifn]; have pk := z4b N hN (zp5 t n) _ hpac.1 (by omega) hpac.2; have ev : decide ((d.length : Int).tmod 2 = 0) = decide (t.Length % 2 = 0) := by
      rw [tme]; simp only [decide_eq_decide]; omega
     rw [ev]; rw [epac] at pk ⊢
     by_cases hneg : n < 0
     · rw [dct hneg, ctr]; rw [ifp hneg] at pk ⊢
       by_cases he : t.Length % 2 = 0
       · rw [dct he, ctr]; rw [ifp he] at pk ⊢; rw [zdj (by simp only [lnc, ln0]; omega), ctr, zdj (by simp only [lna, lnc, ln0]; omega), ctr, pk]; rfl
       · rw [dcf he, cfa]; rw [ifn he, List.nil_append] at pk ⊢; rw [zdj (by simp only [lnc, ln0]; omega), ctr, pk]; rfl
     · rw [dcf hneg, cfa]; rw [ifn hneg] at pk ⊢
       by_cases he : t.Length % 2 = 0
       · rw [dct he, ctr]; rw [ifp he] at pk ⊢; rw [zdj (by simp only [lnc, ln0]; omega), ctr, zdj (by simp only [lna, lnc, ln0]; omega), ctr, pk]; rfl
       · rw [dcf he, cfa]; rw [ifn he, List.nil_append] at pk ⊢; rw [zdj (by simp only [lnc, ln0]; omega), ctr, pk]; rfl
   · have k3 : t.Kind = 3 := by omega
     rw [dcf k1, cfa, dct k3, ctr, ifp k3, zwq h0]; have hs : (szE t).toNat ≤ 4 ∧ 0 < (szE t).toNat ∧ szE t = ((szE t).toNat : Int) := by
      rw [hsz, ifn k1, ifp k3]; split <;> decide
     obtain ⟨s1, s2, s3⟩ := hs; generalize (szE t).toNat = k at *; rw [s3]; simp only [obs]; rw [ifp, ifp, zdj (by omega), ctr, itn, lnr, w6e]; have lp := zbv (f := zu.r3 N) (fun i => (zf4 (fun e => n / 256 ^ e % 256) k i, (k : Int) - 1 - (i : Int), n / 256 ^ i)) k
      (fun i hi => by
       have e2 : (zf4 (fun e => n / 256 ^ e % 256) k i).set (k - 1 - i) (n / 256 ^ i % 256) = zf4 (fun e => n / 256 ^ e % 256) k (i + 1) := zpe _ k i hi; have hl : (zf4 (fun e => n / 256 ^ e % 256) k i).length = k := zrj _ _ _; have e1 : n / 256 ^ (i + 1) = n / 256 ^ i / 256 := by rw [Int.pow_succ, Int.ediv_ediv_of_nonneg (Int.le_of_lt (Int.pow_pos (by decide)))]
       rw [e1, ← e2]; generalize zf4 (fun e => n / 256 ^ e % 256) k i = P at *; simp only [zu.r3, zu.b3, dct (show (k : Int) - 1 - (i : Int) ≥ 0 by omega), ctr, hl]; rw [ifp, ifp]; obtain ⟨x, hx⟩ : ∃ x, P[((k : Int) - 1 - (i : Int)).toNat]? = some x := zln (by omega); rw [hx]; simp only [obs]; rw [z63, w6e, show (2 : Int) ^ (min (8 : Int).toNat 64) = 256 from rfl, Int.fdiv_eq_ediv_of_nonneg _ (by decide), show ((k : Int) - 1 - (i : Int)).toNat = k - 1 - i by omega, show (k : Int) - 1 - (i : Int) - 1 = (k : Int) - 1 - ((i + 1 : Nat) : Int) by omega])
      (by simp only [zu.r3, zu.b3, dcf (show ¬ (k : Int) - 1 - (k : Int) ≥ 0 by omega), cfa]) (N := N) (by omega)
     simp only [Int.pow_zero, Int.ediv_one, zpd, nc0, Int.sub_zero, zpf] at lp; rw [lp]; rfl
theorem z4d (N : Nat) (hN : 100 < N) {t : DataType} (ht : zp9 t) (n : Int) (hn : -((10 ^ t.Length.toNat : Nat) : Int) < n ∧ n < ((10 ^ t.Length.toNat : Nat) : Int)) : zfw N t ⟨n, ⟨#[]⟩⟩ = some (zta t n, 0) := by
 unfold zfw
 rw [zxw N hN ht, ifp hn]
 simp only [obs, bsf, cfa, eD]
 rw [z2n N hN ht n hn]
 rfl
theorem z4o {t : DataType} (ht : zp9 t) (n : Int) : ((zta t n).size : Int) = szE t := by
 obtain ⟨⟨l1, l2⟩, l3, l4⟩ := zjr ht
 have hsz := zwd ht
 obtain ⟨h0, h1, h2⟩ := ht
 rw [← zli]
 unfold zta
 rw [zv9, lnm]
 by_cases k3 : t.Kind = 3
 · rw [ifp k3]; unfold z20; rw [lnm, List.length_range]; rw [hsz, ifn, ifp k3]; split <;> rfl
 · rw [ifn k3]
   by_cases k2 : t.Kind = 2
   · rw [ifp k2]; unfold zx5; rw [lna, lnm, lnt, zr6, lns, hsz, ifn, ifn k3]; omega
   · rw [ifn k2, znq _ _ (zrm l1 n).1, hsz, ifp]; omega
theorem z5m (N : Nat) (hN : 100 < N) (k : Nat) (hk : k ≤ 18) : zdm N (k : Int) = some ((10 ^ k : Nat) : Int) := by
 unfold zdm
 have := zbv (f := zdm.r0 N) (fun i => ((k : Int), ((10 ^ i : Nat) : Int), (i : Int))) k
  (fun i hi => by
   have : 10 ^ (i + 1) ≤ 10 ^ 18 := zlx (by omega); rw [Nat.pow_succ] at this; simp only [zdm.r0, zdm.b0, dct (show (i : Int) < (k : Int) by omega), ctr]; rw [w6e (n := ((10 ^ i : Nat) : Int) * 10), w6e, Nat.pow_succ]; simp only [Int.natCast_add, Int.natCast_mul, Int.natCast_one]; rfl)
  (by simp only [zdm.r0, zdm.b0, dcf (show ¬ (k : Int) < (k : Int) by omega), cfa]) (N := N) (by omega)
 simp only [Nat.pow_zero, nc0] at this
 rw [show (1 : Int) = ((1 : Nat) : Int) from rfl, this]
 rfl
theorem z30 (N : Nat) (hN : 100 < N) (n len : Nat) (hn : n ≤ 1000000000000000000) (hl : len ≤ 20) : zcx N (n : Int) (len : Int) = some (zo0 n len) := by
 unfold zcx
 have := zbv (f := zcx.r0 N) (fun i => (((n / 10 ^ i : Nat) : Int), zf4 (fun e => ((n / 10 ^ e % 10 : Nat) : Int)) len i, (len : Int) - 1 - (i : Int))) len
  (fun i hi => by
   have hl2 : n / 10 ^ i ≤ n := Nat.div_le_self _ _; have hl : (zf4 (fun e => ((n / 10 ^ e % 10 : Nat) : Int)) len i).length = len := zrj _ _ _; have e1 : n / 10 ^ (i + 1) = n / 10 ^ i / 10 := by rw [Nat.pow_succ, ← Nat.div_div_eq_div_mul]
   have e2 : (zf4 (fun e => ((n / 10 ^ e % 10 : Nat) : Int)) len i).set (len - 1 - i) ((n / 10 ^ i % 10 : Nat) : Int) = zf4 (fun e => ((n / 10 ^ e % 10 : Nat) : Int)) len (i + 1) := zpe _ len i hi; rw [e1, ← e2]; generalize (zf4 (fun e => ((n / 10 ^ e % 10 : Nat) : Int)) len i) = P at *; generalize n / 10 ^ i = q at *; simp only [zcx.r0, zcx.b0, dct (show (len : Int) - 1 - (i : Int) ≥ 0 by omega), ctr, hl]; rw [ifp, ifp]; obtain ⟨x, hx⟩ : ∃ x, P[((len : Int) - 1 - (i : Int)).toNat]? = some x := zln (by omega); rw [hx]; simp only [obs]; rw [tde, tme, w6e (n := (q : Int) / 10), w6e (n := (len : Int) - 1 - (i : Int) - 1), show ((len : Int) - 1 - (i : Int)).toNat = len - 1 - i by omega, show (q : Int) % 10 = ((q % 10 : Nat) : Int) by omega, show (q : Int) / 10 = ((q / 10 : Nat) : Int) by omega, show (len : Int) - 1 - (i : Int) - 1 = (len : Int) - 1 - ((i + 1 : Nat) : Int) by omega])
  (by simp only [zcx.r0, zcx.b0, dcf (show ¬ (len : Int) - 1 - (len : Int) ≥ 0 by omega), cfa]) (N := N) (by omega)
 rw [ifp, ifp, zdj (by omega), ctr, itn, w6e]
 simp only [Nat.pow_zero, Nat.div_one, zpd, nc0, Int.sub_zero, zpf] at this
 rw [this]
 rfl
theorem zt8 (N : Nat) (hN : 100 < N) (v k : Nat) (hv : v < 9223372036854775807) (hk : k ≤ 8) : zcc N (v : Int) (k : Int) = some (ze6 (z6n v k)) := by
 unfold zcc
 have := zbv (f := zcc.r0 N) (fun i => (((v / 256 ^ i : Nat) : Int), (k : Int), zf4 (fun e => ((v / 256 ^ e % 256 : Nat) : Int)) k i, (i : Int))) k
  (fun i hi => by
   have hl2 : v / 256 ^ i ≤ v := Nat.div_le_self _ _; have hl : (zf4 (fun e => ((v / 256 ^ e % 256 : Nat) : Int)) k i).length = k := zrj _ _ _; have e1 : v / 256 ^ (i + 1) = v / 256 ^ i / 256 := by rw [Nat.pow_succ, ← Nat.div_div_eq_div_mul]
   have e2 : (zf4 (fun e => ((v / 256 ^ e % 256 : Nat) : Int)) k i).set (k - 1 - i) ((v / 256 ^ i % 256 : Nat) : Int) = zf4 (fun e => ((v / 256 ^ e % 256 : Nat) : Int)) k (i + 1) := zpe _ k i hi; rw [e1, ← e2]; generalize (zf4 (fun e => ((v / 256 ^ e % 256 : Nat) : Int)) k i) = P at *; generalize v / 256 ^ i = q at *; simp only [zcc.r0, zcc.b0, dct (show (i : Int) < (k : Int) by omega), ctr, hl]; rw [w6e (n := (k : Int) - 1), w6e (n := (k : Int) - 1 - (i : Int)), ifp, ifp]; obtain ⟨x, hx⟩ : ∃ x, P[((k : Int) - 1 - (i : Int)).toNat]? = some x := zln (by omega); rw [hx]; simp only [obs]; rw [tde, tme, w6e (n := (q : Int) / 256), w6e (n := (i : Int) + 1), zmb (by omega) (by omega), show ((k : Int) - 1 - (i : Int)).toNat = k - 1 - i by omega, show (q : Int) % 256 = ((q % 256 : Nat) : Int) by omega, show (q : Int) / 256 = ((q / 256 : Nat) : Int) by omega]; rfl)
  (by simp only [zcc.r0, zcc.b0, dcf (show ¬ (k : Int) < (k : Int) by omega), cfa]) (N := N) (by omega)
 rw [ifp, ifp, zdj (by omega), ctr, itn]
 simp only [Nat.pow_zero, Nat.div_one, zpd, nc0] at this
 rw [this, obs, zpf]
 rfl
theorem z5g (f : Int → Int) (l : List Int) (m i : Nat) {x : Int} (hx : l[i]? = some x) (hm : i < m) : ((l.take i).map f ++ List.replicate (m - i) 0)[i]? = some 0 ∧ ((l.take i).map f ++ List.replicate (m - i) 0).set i (f x) = (l.take (i + 1)).map f ++ List.replicate (m - (i + 1)) 0 := by
 obtain ⟨h1, h2⟩ := gei hx
 have hl : ((l.take i).map f).length = i := by rw [lnm, lnt]; omega
 have hd : List.replicate (m - i) (0 : Int) = 0 :: List.replicate (m - (i + 1)) 0 := by rw [show m - i = m - (i + 1) + 1 by omega, List.replicate_succ]
 constructor
 · rw [List.getElem?_append_right (by omega), hl, Nat.sub_self, hd]; rfl
 · rw [List.set_append_right _ _ (by omega), hl, Nat.sub_self, hd, zih l i hx, List.map_append, List.append_assoc]; rfl
theorem zzu (n : Int) (k : Nat) (m : Nat) (h : (m : Int) = n ∨ (m : Int) = n + (256 ^ k : Nat)) : z6n m k = z20 n k := by
 unfold z6n z20
 refine List.map_congr_left fun j hj => ?_
 have hjk := List.mem_range.1 hj
 have hc : (256 : Int) ^ (k - 1 - j) = ((256 ^ (k - 1 - j) : Nat) : Int) := by rw [Int.natCast_pow]; rfl
 rw [hc]
 rcases h with h | h
 · rw [← h]; rfl
 · have hk : (256 ^ k : Nat) = 256 ^ (k - 1 - j) * (256 * 256 ^ j) := by
    rw [← Nat.pow_succ', ← Nat.pow_add]; congr 1; omega
   have hp : ((256 ^ (k - 1 - j) : Nat) : Int) ≠ 0 := by
    have : 0 < 256 ^ (k - 1 - j) := Nat.pow_pos (by decide); omega
   have e : ((m / 256 ^ (k - 1 - j) % 256 : Nat) : Int) = (m : Int) / ((256 ^ (k - 1 - j) : Nat) : Int) % 256 := rfl; rw [e, h, hk, Int.natCast_mul, Int.add_mul_ediv_left _ _ hp, Int.natCast_mul]; exact Int.add_mul_emod_self_left _ _ _
theorem z5u (N : Nat) (hN : 100 < N) {t : DataType} (ht : zp9 t) (n : Int) (hn : -((10 ^ t.Length.toNat : Nat) : Int) < n ∧ n < ((10 ^ t.Length.toNat : Nat) : Int)) : zam N t ⟨n, ⟨#[]⟩⟩ = some (zta t n) := by
 obtain ⟨⟨l1, l2⟩, l3, l4⟩ := zjr ht
 have hp2 : 10 ^ t.Length.toNat ≤ 10 ^ 15 := zlx (by omega)
 have hsz := zwd ht
 have ht' := ht
 obtain ⟨h0, h1, h2⟩ := ht'
 have hd := z30 N hN n.natAbs t.Length.toNat (by omega) (by omega)
 rw [Int.toNat_of_nonneg (by omega)] at hd
 unfold zam zta zkg
 simp only [eD, zbj]
 rw [dcf (show ¬ t.Kind = 0 by omega), cfa]
 by_cases k3 : t.Kind = 3
 · rw [dct k3, ctr, ifp k3, zmx h0]; have hs : (szE t).toNat ≤ 4 ∧ 0 < (szE t).toNat ∧ szE t = ((szE t).toNat : Int) ∧ ((szE t).toNat = 2 ∨ (szE t).toNat = 4) ∧ ((szE t).toNat = 2 → t.Length = 4) := by
    have h9 := h0; unfold zbp at h9; rw [ifn, ifn, ifp k3] at h9; rw [hsz, ifn, ifp k3]; split at h9
    · split
      · exact ⟨by decide, by decide, by decide, by decide, fun h => by cases h⟩
      · exact ⟨by decide, by decide, by decide, by decide, fun _ => by omega⟩
    · cases h9
   obtain ⟨s1, s2, s3, s4, s5⟩ := hs; generalize (szE t).toNat = k at *; rw [s3]; simp only [obs]
   by_cases hneg : n < 0
   · rw [dct hneg, ctr, w6e (n := 8 * (k : Int)), ifn]; have hpow : (1 : Int) * 2 ^ (min (8 * (k : Int)).toNat 64) = ((256 ^ k : Nat) : Int) := by
      rcases s4 with rfl | rfl <;> decide
     have hlow : -((256 ^ k : Nat) : Int) ≤ n := by
      rcases s4 with rfl | rfl
      · have := s5 rfl; rw [this] at hn; have : (10 ^ (4 : Int).toNat : Nat) = 10000 := by decide
        rw [this] at hn; have : (256 ^ 2 : Nat) = 65536 := by decide
        omega
      · have hl9 : 10 ^ t.Length.toNat ≤ 10 ^ 9 := by
         refine zlx ?_; unfold zbp at h0; rw [ifn, ifn, ifp k3] at h0; split at h0
         · omega
         · cases h0
        have : (256 ^ 4 : Nat) = 4294967296 := by decide
        omega
     have hup : 256 ^ k ≤ 4294967296 := by rcases s4 with rfl | rfl <;> decide
     rw [hpow, w6e (n := ((256 ^ k : Nat) : Int)), w6e]; obtain ⟨m, hm⟩ : ∃ m : Nat, (m : Int) = n + (256 ^ k : Nat) := ⟨(n + (256 ^ k : Nat)).toNat, by omega⟩; rw [← hm, zt8 N hN m k (by omega) (by omega), zzu n k m (.inr hm)]; rfl
   · rw [dcf hneg, cfa]; obtain ⟨m, hm⟩ : ∃ m : Nat, (m : Int) = n := ⟨n.toNat, by omega⟩; rw [← hm, zt8 N hN m k (by omega) (by omega), zzu (m : Int) k m (.inl rfl)]; rfl
 · rw [dcf k3, cfa, ifn k3, zwa (by omega) (by omega)]; simp only [obs]; rw [hd]; simp only [obs]; have hlen := zr6 n.natAbs t.Length.toNat; have hrange := zr5 (n := n.natAbs) (len := t.Length.toNat); have hpac := zrm (t := t) l1 n; have epac : zp5 t n = (if t.Length % 2 = 0 then [0] else []) ++ zo0 n.natAbs t.Length.toNat ++ [if n < 0 then 13 else 15] := rfl; generalize zo0 n.natAbs t.Length.toNat = d at *
   by_cases k2 : t.Kind = 2
   · rw [dct k2, ctr, ifp k2, ifp, ifp, zdj (by omega), ctr]; have lp := zbv (f := zam.r1 N) (fun i => (d, (d.take i).map (· + 240) ++ List.replicate (d.length - i) 0, (i : Int), t, (⟨n, ⟨#[]⟩⟩ : Value))) d.length
      (fun i hi => by
       obtain ⟨x, hx⟩ : ∃ x, d[i]? = some x := zln hi; obtain ⟨e1, e2⟩ := z5g (· + 240) d d.length i hx hi; have hxr := hrange x (lmg hx); have hl : ((d.take i).map (· + 240) ++ List.replicate (d.length - i) 0).length = d.length := by rw [lna, lnm, lnt, lnr]; omega
       simp only [zam.r1, zam.b1, dct (show (i : Int) < t.Length by omega), ctr, hl]; rw [ifp, ifp, itn, hx]; simp only [obs]; rw [ifp, ifp, e1]; simp only [obs]; rw [w6e (n := 240 + x), zmb (by omega) (by omega), w6e, Int.add_comm 240 x, e2]; rfl)
      (by simp only [zam.r1, zam.b1, dcf (show ¬ (d.length : Int) < t.Length by omega), cfa]) (N := N) (by omega)
     simp only [List.take_zero, nc0, List.map_nil, List.nil_append, List.take_length, Nat.sub_self, Nat.sub_zero, List.replicate_zero, List.append_nil] at lp; rw [← hlen, lp]; simp only [obs, lnm]
     by_cases hneg : n < 0
     · rw [dct hneg, ctr, w6e (n := t.Length - 1), ifp, ifp]; have hi : t.Length - 1 = ((d.length - 1 : Nat) : Int) := by omega
       have hx : d[d.length - 1]? = some (d.getD (d.length - 1) 0) := by rw [gdd, lge (by omega)]; rfl
       have hxr := hrange _ (lmg hx); rw [hi, itn, hx]; simp only [obs]; rw [ifp, ifp, List.getElem?_map, hx]; simp only [Option.map_some, obs]; rw [w6e, zmb (by omega) (by omega)]
       congr 2
       conv => lhs; rw [show d.map (· + 240) = (d.take (d.length - 1)).map (· + 240) ++ [d.getD (d.length - 1) 0 + 240] from zn5 (by omega)]
       have hl : ((d.take (d.length - 1)).map (· + 240)).length = d.length - 1 := by rw [lnm, lnt]; omega
       rw [List.set_append_right _ _ (by omega), hl, Nat.sub_self]; unfold zx5
       congr 1
       show [_] = [_]
       congr 1
       simp only [ctr]; omega
     · rw [dcf hneg, cfa, zn5 (by omega)]
   · rw [dcf k2, cfa, ifn k2]; have lp : ∀ (l : List Int) (m : Nat), l.length = 2 * m → m ≤ 20 → (∀ d ∈ l, 0 ≤ d ∧ d < 16) → zi (zam.r3 N) N (l, List.replicate m 0, 0) = some (l, zii l, (m : Int)) := fun l m hl hm hr => by
      have := zbv (f := zam.r3 N) (fun i => (l, zii (l.take (2 * i)) ++ List.replicate (m - i) 0, (i : Int))) m
       (fun i hi => by
        obtain ⟨x, hx⟩ : ∃ x, l[2 * i]? = some x := zln (by omega); obtain ⟨y, hy⟩ : ∃ y, l[2 * i + 1]? = some y := zln (by omega); obtain ⟨x1, x2⟩ := hr x (lmg hx); obtain ⟨y1, y2⟩ := hr y (lmg hy); have hlt : (l.take (2 * i)).length = 2 * i := by rw [lnt]; omega
        have hpl := znq i _ hlt; have hl2 : (zii (l.take (2 * i)) ++ List.replicate (m - i) 0).length = m := by rw [lna, hpl, lnr]; omega
        have hd : List.replicate (m - i) (0 : Int) = 0 :: List.replicate (m - (i + 1)) 0 := by rw [show m - i = m - (i + 1) + 1 by omega, List.replicate_succ]
        have e1 : (zii (l.take (2 * i)) ++ List.replicate (m - i) 0)[i]? = some 0 := by rw [List.getElem?_append_right (by omega), hpl, Nat.sub_self, hd]; rfl
        have e2 : (zii (l.take (2 * i)) ++ List.replicate (m - i) 0).set i (16 * x + y) = zii (l.take (2 * (i + 1))) ++ List.replicate (m - (i + 1)) 0 := by
         rw [List.set_append_right _ _ (by omega), hpl, Nat.sub_self, hd, show 2 * (i + 1) = 2 * i + 1 + 1 by omega, zih _ _ hy, zih _ _ hx, List.append_assoc, show ([x] ++ [y] : List Int) = [x, y] from rfl, zrl i _ _ _ hlt, List.append_assoc]; rfl
        simp only [zam.r3, zam.b3, hl2, dct (show (i : Int) < (m : Int) by omega), ctr]; rw [w6e (n := 2 * (i : Int)), w6e (n := 2 * (i : Int) + 1), ifp, ifp, show (2 * (i : Int)).toNat = 2 * i by omega, hx]; simp only [obs]; rw [ifp, ifp, show (2 * (i : Int) + 1).toNat = 2 * i + 1 by omega, hy]; simp only [obs]; rw [ifp, ifp, itn, e1]; simp only [obs]; rw [w6e (n := 16 * x), w6e (n := 16 * x + y), zmb (by omega) (by omega), w6e, e2]; rfl)
       (by simp only [zam.r3, zam.b3]; rw [lna, znq m _ (by rw [lnt]; omega), Nat.sub_self, lnr, Nat.add_zero, dcf (show ¬ (m : Int) < (m : Int) by omega), cfa]) (N := N) (by omega)
      simp only [Nat.mul_zero, List.take_zero, nc0, Nat.sub_zero, Nat.sub_self, List.replicate_zero, List.append_nil] at this; rw [show zii [] = [] from rfl, List.nil_append, ← hl, List.take_length] at this; exact this
     have lpp := lp (zp5 t n) _ hpac.1 (by omega) hpac.2; have hpl := hpac.1; rw [zlq, show decide (t.Length.tmod 2 = 0) = decide (t.Length % 2 = 0) by rw [tme]]; simp only [obs]; have hsg : w6 (15 - w6 (2 * cond (decide (n < 0)) 1 0)) = if n < 0 then 13 else 15 := by
      by_cases hneg : n < 0
      · rw [dct hneg, ifp hneg]; decide
      · rw [dcf hneg, ifn hneg]; decide
     rw [hsg]
     by_cases he : t.Length % 2 = 0
     · rw [ifp he] at epac; rw [dct he, ctr, zdj (by simp only [lnc, ln0]; omega), ctr, ← epac, zdj (by simp only [lna, lnc, ln0]; omega), ctr, tde, w6e, ifp, ifp, zdj (by omega), ctr, show ((zp5 t n).length : Int) / 2 = ((t.Length.toNat / 2 + 1 : Nat) : Int) by omega, itn, lpp]; rfl
     · rw [ifn he, List.nil_append] at epac; rw [dcf he, cfa, zdj (by simp only [lnc, ln0]; omega), ctr, ← epac, tde, w6e, ifp, ifp, zdj (by omega), ctr, show ((zp5 t n).length : Int) / 2 = ((t.Length.toNat / 2 + 1 : Nat) : Int) by omega, itn, lpp]; rfl
set_option exponentiation.threshold 3000
theorem z3x (N : Nat) (c : Nat) (hc : c < 256) (n : Nat) (hn : n < N) (hn2 : n ≤ 100000) : zct N (c : Int) (n : Int) = some ⟨(List.replicate n (UInt8.ofNat c)).toArray⟩ := by
 unfold zct
 have := zbv (f := zct.r0 N) (fun i => ((c : Int), (n : Int), List.replicate i (c : Int), (i : Int))) n
  (fun i hi => by
   simp only [zct.r0, zct.b0, dct (show (i : Int) < (n : Int) by omega), ctr]; rw [zdj (by simp only [lnr, lnc, ln0]; omega), ctr, w6e, ← List.replicate_succ']; rfl)
  (by simp only [zct.r0, zct.b0, dcf (show ¬ (n : Int) < (n : Int) by omega), cfa]) hn
 simp only [nc0, List.replicate_zero] at this
 rw [this, obs]
 congr 1
 refine zz9 ?_
 rw [zv9, List.map_replicate]
 rfl
theorem zua (c : UInt8) : ∀ n, Lib.repeatL [c] n = List.replicate n c
 | 0 => rfl
 | n + 1 => by show c :: Lib.repeatL [c] n = _; rw [zua c n, List.replicate_succ]
theorem zoa {R α : Type} {f : α → Option (Round R α)} (S : Nat → α) (g : Nat → Option R) (n : Nat) (h : ∀ i, i < n → (∀ j, j < i → g j = none) → f (S i) = some (match g i with | some r => .result r | none => .again (S (i + 1)))) (hl : (∀ j, j < n → g j = none) → f (S n) = some (.leave (S n))) {N : Nat} (hN : n < N) :
 zf f N (S 0) = some (match (List.range n).findSome? g with | some r => .inl r | none => .inr (S n)) := by
 have key : ∀ k i N, i + k = n → k < N → (∀ j, j < i → g j = none) → zf f N (S i) = some (match (List.range' i k).findSome? g with | some r => .inl r | none => .inr (S n)) := by
  intro k
  induction k with
  | zero =>
   intro i N hi hN hp; obtain ⟨m, rfl⟩ : ∃ m, N = m + 1 := ⟨N - 1, by omega⟩; obtain rfl : i = n := by omega
   simp only [zf, hl hp, obs]; rfl
  | succ k ih =>
   intro i N hi hN hp; obtain ⟨m, rfl⟩ : ∃ m, N = m + 1 := ⟨N - 1, by omega⟩; simp only [zf, h i (by omega) hp, obs, List.range'_succ, List.findSome?_cons]; cases hg : g i with
   | some r => rfl
   | none =>
    refine ih (i + 1) m (by omega) (by omega) fun j hj => ?_; rcases Nat.lt_or_ge j i with h1 | h1
    · exact hp j h1
    · obtain rfl : j = i := by omega
      exact hg
 rw [List.range_eq_range']
 exact key n 0 N (by omega) hN (fun j hj => absurd hj (by omega))
theorem zjp {R : Type} {g : Nat → Option R} {n : Nat} : (List.range n).findSome? g = none ↔ ∀ i, i < n → g i = none := by
 rw [List.findSome?_eq_none_iff]
 exact ⟨fun h i hi => h i (List.mem_range.2 hi), fun h i hi => h i (List.mem_range.1 hi)⟩
theorem zjo {R : Type} {g : Nat → Option R} {r : R} : ∀ {n : Nat}, (List.range n).findSome? g = some r → ∃ i, i < n ∧ g i = some r ∧ ∀ j, j < i → g j = none
 | 0, h => by simp at h
 | n + 1, h => by
  rw [List.range_succ, List.findSome?_append] at h; cases hn : (List.range n).findSome? g with
  | some r' =>
   rw [hn] at h; obtain ⟨i, h1, h2, h3⟩ := zjo hn; exact ⟨i, by omega, by rw [h2]; exact h, h3⟩
  | none =>
   rw [hn] at h; simp only [List.findSome?_cons, List.findSome?_nil] at h; refine ⟨n, by omega, ?_, zjp.1 hn⟩; cases hg : g n with
   | some x => rw [hg] at h; exact h
   | none => rw [hg] at h; cases h
theorem ztr (b : Bool) (e : Int) : zbx b e = some (cond b e 0) := by cases b <;> rfl
theorem ztq (n lo hi : Int) : zde n lo hi = some (inB n lo hi) := by
 unfold zde inB
 cases decide (lo ≤ n) <;> rfl
theorem zrk (N : Nat) (l : List Int) (h : l.length < N) (hl : l.length < 1000000000) : za8 N l = some (zds l) := by
 unfold za8
 have := zax (f := za8.r0 N) (fun i => (l, (l.length : Int), (i : Int))) (fun i => (l[i]?).bind fun x => if x = 0 then none else some x) l.length
  (fun i hi => by
   have hx := lge hi; simp only [za8.r0, za8.b0, zae, hx, obs, dct (show (i : Int) < (l.length : Int) by omega), ctr]
   by_cases h0 : l[i] = 0
   · simp only [h0, bsf, cfa, if_true]; rw [w6e]; rfl
   · simp only [h0, if_false]; rw [show (l[i] != 0) = true by simpa using h0]; rfl)
  (by simp only [za8.r0, za8.b0, dcf (show ¬ (l.length : Int) < (l.length : Int) by omega), cfa]) h
 simp only [nc0] at this
 rw [this, zk0, ← znu]
 simp only [obs]
 cases l.findSome? (fun x => if x = 0 then none else some x) <;> rfl
def z57 (c : Int) : Bool := (decide (65 ≤ c) && decide (c ≤ 90)) || (decide (c = 35) || (decide (c = 36) || decide (c = 64)))
def z52 (c : Int) : Bool := (decide (48 ≤ c) && decide (c ≤ 57)) || (decide (c = 95) || decide (c = 46))
def zsb (c i : Int) : Bool := !z57 c && (decide (i = 0) || !z52 c)
def zob (s : ByteArray) (i : Nat) : Option Bool := ((bl s)[i]?).bind fun c => if zsb ((c.toNat : Nat) : Int) (i : Int) = true then some false else none
def zrq (s : ByteArray) : Bool := decide (1 ≤ s.size ∧ s.size ≤ 10) && ((List.range s.size).findSome? (zob s)).isNone
theorem z0z (s : ByteArray) : s.size = (bl s).length := rfl
theorem z7z (s : ByteArray) (i : Nat) : zi9 s (i : Int) = (bl s)[i]? := by
 unfold zi9
 rw [ifp]
 show s.data[i]? = s.data.toList[i]?
 simp
theorem z7q (N : Nat) (hN : 20 < N) (s : ByteArray) : zb6 N s = some (zrq s) := by
 unfold zb6 zrq
 rw [zl0, zl0, show bl (⟨#[]⟩ : ByteArray) = [] from rfl]
 by_cases h0 : s.size = 0
 · have : bl s = [] := List.eq_nil_of_length_eq_zero (by rw [← z0z]; exact h0); rw [this, dcf (show ¬ (1 ≤ s.size ∧ s.size ≤ 10) by omega)]; rfl
 by_cases h1 : s.size > 10
 · rw [dcf (show ¬ (1 ≤ s.size ∧ s.size ≤ 10) by omega), dct (show (s.size : Int) > 10 by omega)]; cases (bl s == ([] : List UInt8)) <;> rfl
 have hne : (bl s == ([] : List UInt8)) = false := by
  cases hb : (bl s == ([] : List UInt8)) with
  | false => rfl
  | true =>
   have := congrArg List.length (eq_of_beq hb); rw [← z0z] at this; exact absurd this h0
 rw [hne, dcf (show ¬ (s.size : Int) > 10 by omega), dct (show 1 ≤ s.size ∧ s.size ≤ 10 by omega)]
 simp only [cfa, obs, Bool.true_and]
 have hlen : (zgb s).length = s.size := by unfold zgb; rw [lnm]; rfl
 have l1 := zax (f := zb6.r0 N) (fun i => (zgb s, ((zgb s).length : Int), (i : Int))) (zob s) s.size
  (fun i hi => by
   have hi' : i < (bl s).length := hi; have hx : (zgb s)[i]? = some (((bl s)[i].toNat : Nat) : Int) := by
    unfold zgb; rw [List.getElem?_map]; show ((bl s)[i]?).map _ = _; rw [lge hi']; rfl
   simp only [zb6.r0, zb6.b0, hlen, dct (show (i : Int) < (s.size : Int) by omega), ctr, ifp (show (0 : Int) ≤ (i : Int) by omega), ifp (show (i : Int) < (s.size : Int) by omega), itn, hx, obs, zjs, orB, zbj, zob, lge hi']; rw [w6e]; generalize (((bl s)[i].toNat : Nat) : Int) = c; have e : (!(((decide (65 ≤ c) && decide (c ≤ 90)) || decide (c = 35) || decide (c = 36)) || decide (c = 64)) && (decide ((i : Int) = 0) || !(((decide (48 ≤ c) && decide (c ≤ 57)) || decide (c = 95)) || decide (c = 46)))) = zsb c (i : Int) := by
    unfold zsb z57 z52; simp only [Bool.or_assoc]
   rw [e]; cases zsb c (i : Int) <;> rfl)
  (by simp only [zb6.r0, zb6.b0, hlen, dcf (show ¬ (s.size : Int) < (s.size : Int) by omega), cfa]) (N := N) (by omega)
 simp only [nc0] at l1
 rw [l1]
 cases hg : (List.range s.size).findSome? (zob s) with
 | none => rfl
 | some r =>
  obtain ⟨i, _, hi, _⟩ := zjo hg; unfold zob at hi; rw [Option.bind_eq_some_iff] at hi; obtain ⟨c, _, hc⟩ := hi; split at hc
  · cases hc; rfl
  · cases hc
theorem z7l (N : Nat) (hN : 20 < N) (s : ByteArray) : zc7 N s = some (zrq s) := by
 unfold zc7 zrq
 rw [zfy, obs]
 by_cases h1 : 1 ≤ s.size ∧ s.size ≤ 10
 · rw [show inB (s.size : Int) 1 10 = true from zcl.2 (by omega), dct h1]; simp only [bnt, cfa, Bool.true_and]; have l1 := zax (f := zc7.r0 N) (fun i => (s, (i : Int))) (zob s) s.size
    (fun i hi => by
     have hi' : i < (bl s).length := hi; simp only [zc7.r0, zc7.b0, zko, zkp, dct (show (i : Int) < (s.size : Int) by omega), ctr, z7z, lge hi', obs, zjs, orB, zbj, zcd, zob]; rw [w6e]; generalize (((bl s)[i].toNat : Nat) : Int) = c; have e : (!((((decide (65 ≤ c) && decide (c ≤ 90)) || decide (c = 36)) || decide (c = 35)) || decide (c = 64)) && (decide ((i : Int) = 0) || ((!(decide (48 ≤ c) && decide (c ≤ 57)) && decide (c ≠ 95)) && decide (c ≠ 46)))) = zsb c (i : Int) := by
      unfold zsb z57 z52; simp only [decide_not, Bool.not_or, Bool.not_and, Bool.or_assoc, Bool.and_assoc]; cases decide (65 ≤ c) <;> cases decide (c ≤ 90) <;> cases decide (c = 36) <;> cases decide (c = 35) <;> simp
     rw [e]; cases zsb c (i : Int) <;> rfl)
    (by simp only [zc7.r0, zc7.b0, dcf (show ¬ (s.size : Int) < (s.size : Int) by omega), cfa]) (N := N) (by omega)
   simp only [nc0] at l1; rw [l1]; cases hg : (List.range s.size).findSome? (zob s) with
   | none => rfl
   | some r =>
    obtain ⟨i, _, hi, _⟩ := zjo hg; unfold zob at hi; rw [Option.bind_eq_some_iff] at hi; obtain ⟨c, _, hc⟩ := hi; split at hc
    · cases hc; rfl
    · cases hc
 · rw [show inB (s.size : Int) 1 10 = false by
    cases hb : inB (s.size : Int) 1 10 with
    | false => rfl
    | true => have := zcl.1 hb; omega, dcf h1]
   rfl
def gNm (l : List zH) (s : ByteArray) (i : Nat) : Option Int := (l[i]?).bind fun o => if (o.Name.toList == s.toList) = true then some (i : Int) else none
def nmI (l : List zH) (s : ByteArray) : Int := match (List.range l.length).findSome? (gNm l s) with | some i => i | none => -1
theorem zuv (N : Nat) (l : List zH) (h : l.length < N) (hl : l.length < 1000000000) (s : ByteArray) : zew N l s = some (nmI l s) := by
 unfold zew zj nmI
 have l1 := zax (f := zj.r0 N) (fun i => (l, (l.length : Int), (i : Int), s)) (gNm l s) l.length
  (fun i hi => by
   have hx := lge hi; simp only [zj.r0, zj.b0, zhz, zae, hx, obs, dct (show (i : Int) < (l.length : Int) by omega), ctr, gNm]; rw [w6e]; cases (l[i].Name.toList == s.toList) <;> rfl)
  (by simp only [zj.r0, zj.b0, dcf (show ¬ (l.length : Int) < (l.length : Int) by omega), cfa]) h
 simp only [nc0] at l1
 rw [l1]
 cases (List.range l.length).findSome? (gNm l s) <;> rfl
theorem z2g (N : Nat) (p : zD) (h : p.zB.length < N) (hl : p.zB.length < 1000000000) (s : ByteArray) : zdn N p s = some (nmI p.zB s) := by
 unfold zdn nmI
 have l1 := zax (f := zdn.r0 N) (fun i => (s, (i : Int), p)) (gNm p.zB s) p.zB.length
  (fun i hi => by
   have hx := lge hi; simp only [zdn.r0, zdn.b0, zae, hx, obs, dct (show (i : Int) < (p.zB.length : Int) by omega), ctr, gNm]; rw [w6e]; cases (p.zB[i].Name.toList == s.toList) <;> rfl)
  (by simp only [zdn.r0, zdn.b0, dcf (show ¬ (p.zB.length : Int) < (p.zB.length : Int) by omega), cfa]) h
 simp only [nc0] at l1
 rw [l1]
 cases (List.range p.zB.length).findSome? (gNm p.zB s) <;> rfl
theorem z6d {l : List zH} {s : ByteArray} {i : Nat} {r : Int} (h : gNm l s i = some r) : r = (i : Int) ∧ ∃ o, l[i]? = some o ∧ (o.Name.toList == s.toList) = true := by
 unfold gNm at h
 rw [Option.bind_eq_some_iff] at h
 obtain ⟨o, h1, h2⟩ := h
 split at h2
 · rename_i h3; cases h2; exact ⟨rfl, o, h1, h3⟩
 · cases h2
theorem zoj (l : List zH) (s : ByteArray) : (nmI l s = -1 ∧ ∀ i, i < l.length → gNm l s i = none) ∨ ∃ i : Nat, nmI l s = (i : Int) ∧ i < l.length ∧ gNm l s i = some (i : Int) ∧ ∀ j, j < i → gNm l s j = none := by
 unfold nmI
 cases hf : (List.range l.length).findSome? (gNm l s) with
 | none => exact .inl ⟨rfl, zjp.1 hf⟩
 | some r =>
  obtain ⟨i, h1, h2, h3⟩ := zjo hf; have := (z6d h2).1; subst this; exact .inr ⟨i, rfl, h1, h2, h3⟩
theorem zaar {l : List zH} {s : ByteArray} {i : Nat} (h1 : i < l.length) (h2 : gNm l s i = some (i : Int)) (h3 : ∀ j, j < i → gNm l s j = none) : nmI l s = (i : Int) := by
 rcases zoj l s with ⟨_, g2⟩ | ⟨k, g1, g2, g3, g4⟩
 · rw [g2 i h1] at h2; cases h2
 · rcases Nat.lt_trichotomy i k with h | h | h
   · rw [g4 i h] at h2; cases h2
   · rw [g1, h]
   · rw [h3 k h] at g3; cases g3
theorem zr0 {l : List zH} {s : ByteArray} {n i : Nat} (h : i < n) : gNm (l.take n) s i = gNm l s i := by
 unfold gNm
 rw [List.getElem?_take, ifp h]
theorem z07 (l : List zH) (s : ByteArray) (n : Nat) : nmI (l.take n) s = if nmI l s < (n : Int) then nmI l s else -1 := by
 rcases zoj l s with ⟨g1, g2⟩ | ⟨k, g1, g2, g3, g4⟩
 · rw [g1, ifp]; rcases zoj (l.take n) s with ⟨e1, _⟩ | ⟨k, _, e2, e3, _⟩
   · exact e1
   · rw [lnt] at e2; rw [zr0 (by omega), g2 k (by omega)] at e3; cases e3
 · by_cases hk : k < n
   · rw [g1, ifp]; exact zaar (by rw [lnt]; omega) (by rw [zr0 hk]; exact g3) (fun j hj => by rw [zr0 (by omega)]; exact g4 j hj)
   · rw [g1, ifn]; rcases zoj (l.take n) s with ⟨e1, _⟩ | ⟨k', _, e2, e3, _⟩
     · exact e1
     · rw [lnt] at e2; rw [zr0 (by omega), g4 k' (by omega)] at e3; cases e3
theorem zzc {l : List zH} {i : Nat} {o : zH} (h : l[i]? = some o) : 0 ≤ nmI l o.Name ∧ nmI l o.Name ≤ (i : Int) := by
 have hi := (gei h).1
 have hg : gNm l o.Name i = some (i : Int) := by
  unfold gNm; rw [h, obs, ifp (bst _)]
 rcases zoj l o.Name with ⟨_, g2⟩ | ⟨k, g1, g2, g3, g4⟩
 · rw [g2 i hi] at hg; cases hg
 · have : ¬ i < k := fun hlt => by rw [g4 i hlt] at hg; cases hg
   omega
def isS (k : Int) : Bool := (decide (k = 0) || decide (k = 1)) || decide (k = 2)
def isD (k : Int) : Bool := isS k || decide (k = 4)
theorem zs1 (o : zH) : zd5 o = some (isD o.Kind) := by
 unfold zd5 isD isS
 simp only [orB, zbj, obs]
theorem zt7 (k : Int) : ze1 k = some (isS k) := by
 unfold ze1 isS
 simp only [orB, zbj, obs]
theorem zw9 (k : Int) : zfk k = some (isD k) := by
 unfold zfk isD
 rw [zt7]
 simp only [orB, zbj, obs]
theorem z1z (a b : ByteArray) : (a.toList == b.toList) = decide (a = b) := by
 rw [zl0, zl0]
 by_cases h : a = b
 · subst h; rw [dct rfl]; exact bst _
 · rw [dcf h]; refine beq_eq_false_iff_ne.2 fun hh => h ?_; obtain ⟨⟨a⟩⟩ := a; obtain ⟨⟨b⟩⟩ := b; have : a = b := hh; rw [this]
def e0 : ByteArray := ⟨#[]⟩
def noV (o : zH) : Bool := decide (o.Value.N = 0) && decide (o.Value.S = e0)
def noB (o : zH) : Bool := decide (o.Base = e0) && decide (o.Offset = 0)
def noT (o : zH) : Bool := decide (o.zG.Kind = 0) && (decide (o.zG.Length = 0) && decide (o.zG.Scale = 0))
def zoz (o : zH) : Bool :=
 if o.Kind = 0 ∨ o.Kind = 4 then !noB o || !decide (o.Target = 0)
 else if o.Kind = 1 ∨ o.Kind = 2 then !noV o || !decide (o.Target = 0)
 else if o.Kind = 3 then !noT o || (!noV o || (!noB o || !decide (o.Target = 0)))
 else !noT o || (!noV o || !noB o)
theorem zvx {k : Int} (h : inB k 0 5 = true) : k = 0 ∨ k = 1 ∨ k = 2 ∨ k = 3 ∨ k = 4 ∨ k = 5 := by
 have := zcl.1 h
 omega
theorem zdec (a : Int) : decide (0 = a) = decide (a = 0) := by
 by_cases h : a = 0
 · rw [dct h, dct h.symm]
 · rw [dcf h, dcf fun e => h e.symm]
theorem sdec (a : ByteArray) : decide ((⟨#[]⟩ : ByteArray) = a) = decide (a = e0) := by
 by_cases h : a = e0
 · rw [dct h, dct (show (⟨#[]⟩ : ByteArray) = a from h.symm)]
 · rw [dcf h, dcf fun e => h e.symm]
theorem z7r {o : zH} (h : inB o.Kind 0 5 = true) : ∃ k, zh0 o = some k ∧ (!(zcp [(k.Name == o.Name), (k.Kind == o.Kind), (k.zG.Kind == o.zG.Kind), (k.zG.Length == o.zG.Length), (k.zG.Scale == o.zG.Scale), (k.Value.N == o.Value.N), (k.Value.S == o.Value.S), (k.Base == o.Base), (k.Offset == o.Offset), (k.Target == o.Target)])) = zoz o := by
 obtain ⟨nm, kd, ty, v, bs, off, tg⟩ := o
 have hk := zvx h
 simp only at hk
 rcases hk with rfl | rfl | rfl | rfl | rfl | rfl
 all_goals
  refine ⟨_, rfl, ?_⟩; simp only [zcp, zoz, noV, noB, noT, zbj, z6o, zdec, sdec]; simp [Bool.and_assoc, Bool.or_assoc]
  try congr
theorem z3z {o : zH} (h : inB o.Kind 0 5 = true) : zhp o = some (zoz o) := by
 obtain ⟨nm, kd, ty, v, bs, off, tg⟩ := o
 have hk := zvx h
 simp only at hk
 unfold zhp
 simp only [z1z]
 rcases hk with rfl | rfl | rfl | rfl | rfl | rfl
 all_goals
  simp only [zcp, zoz, noV, noB, noT, zbj, zcd, z6o, z1z, orB, zjs, obs]; simp [e0, Bool.and_assoc, Bool.or_assoc]
  try congr
def zlj (t : DataType) : Int := ((10 ^ t.Length.toNat : Nat) : Int) - 1
def ziu (t : DataType) (v : Value) : Int :=
 if t.Kind = 0 then (if v.N ≠ 0 then 5 else if (v.S.size : Int) ≠ t.Length then 18 else 0)
 else (if v.S ≠ e0 then 5 else if inB v.N (-zlj t) (zlj t) = true then 0 else 19)
theorem zwp {t : DataType} (h : zbp t = 0) (h0 : t.Kind ≠ 0) (h4 : t.Kind ≠ 4) : zp9 t := by
 rcases zig h with ⟨k, _⟩ | ⟨k | k, _⟩ | ⟨k, _⟩ | ⟨k, _⟩
 · exact absurd k h0
 · exact ⟨h, by omega, by omega⟩
 · exact ⟨h, by omega, by omega⟩
 · exact ⟨h, by omega, by omega⟩
 · exact absurd k h4
theorem zxg {t : DataType} (h : zp9 t) : w6 (((10 ^ t.Length.toNat : Nat) : Int) - 1) = zlj t ∧ w6 (0 - zlj t) = -zlj t ∧ 0 ≤ zlj t := by
 obtain ⟨⟨l1, l2⟩, _⟩ := zjr h
 have hp : 10 ^ t.Length.toNat ≤ 10 ^ 15 := zlx (by omega)
 have hp2 := zxc t.Length.toNat
 unfold zlj
 exact ⟨w6e, by rw [w6e]; omega, by omega⟩
theorem zza (N : Nat) (hN : 100 < N) {t : DataType} (ht : zbp t = 0) (h4 : t.Kind ≠ 4) (v : Value) : zcm N t v = some (ziu t v) := by
 have f2 : ∀ a b : Int, zai N [a, b] = some (zds [a, b]) := fun a b => zux N _ (by simp; omega) (by simp)
 unfold zcm ziu
 rw [zoi N (by omega), ht]
 simp only [obs, zqm, f2, zbj, dcf h4, cfa]
 rw [show zds [0, 0] = 0 from rfl]
 simp only [bsf, cfa]
 by_cases h0 : t.Kind = 0
 · rw [ifp h0, dct h0]; simp only [ctr, zcd]; rw [zs6 _ _ _ _ (by decide) (by decide)]
   by_cases h1 : v.N ≠ 0
   · rw [ifp h1, dct h1]; rfl
   · rw [ifn h1, dcf h1]
     by_cases h2 : (v.S.size : Int) ≠ t.Length
     · rw [ifp h2, dct h2]; rfl
     · rw [ifn h2, dcf h2]; rfl
 · have hn := zwp ht h0 h4; obtain ⟨⟨l1, l2⟩, _⟩ := zjr hn; obtain ⟨m1, m2, m3⟩ := zxg hn; rw [ifn h0, dcf h0]; simp only [cfa]; have := zzb N (by omega) t.Length.toNat (by omega); rw [show ((t.Length.toNat : Nat) : Int) = t.Length by omega] at this; rw [this]; simp only [obs, zx0, m1, m2, z1z]; rw [zs6 _ _ _ _ (by decide) (by decide)]
   by_cases h1 : v.S = e0
   · rw [ifn (fun h => h h1), dct (show v.S = (⟨#[]⟩ : ByteArray) from h1)]; cases hb : inB v.N (-zlj t) (zlj t) <;> rfl
   · rw [ifp h1, dcf (show ¬ v.S = (⟨#[]⟩ : ByteArray) from h1)]; rfl
theorem z5k (N : Nat) (hN : 100 < N) {t : DataType} (ht : zbp t = 0) (h4 : t.Kind ≠ 4) (v : Value) : zgn N t v = some (ziu t v) := by
 unfold zgn ziu
 rw [zwi, ht]
 simp only [obs, zbj, zcd, dcf h4, cfa, bsf, z1z]
 by_cases h0 : t.Kind = 0
 · rw [ifp h0, dct h0]; simp only [ctr, obs, dcf (show ¬ t.Kind ≠ 0 from fun h => h h0), cfa]
   by_cases h1 : v.N ≠ 0
   · rw [ifp h1, dct h1]; rfl
   · rw [ifn h1, dcf h1]; simp only [cfa, obs, zlq]
     by_cases h2 : (v.S.size : Int) ≠ t.Length
     · rw [ifp h2, dct h2]; rfl
     · rw [ifn h2, dcf h2]; rfl
 · have hn := zwp ht h0 h4; obtain ⟨⟨l1, l2⟩, _⟩ := zjr hn; obtain ⟨m1, m2, m3⟩ := zxg hn; rw [ifn h0, dcf h0]; simp only [ctr, cfa, obs, dct (show t.Kind ≠ 0 from h0)]; have := z5m N (by omega) t.Length.toNat (by omega); rw [show ((t.Length.toNat : Nat) : Int) = t.Length by omega] at this; unfold zkx; rw [this]; simp only [obs, zfy, zlq, m1, m2]
   by_cases h1 : v.S = e0
   · rw [ifn (fun h => h h1), dct (show v.S = (⟨#[]⟩ : ByteArray) from h1)]; cases hb : inB v.N (-zlj t) (zlj t) <;> rfl
   · rw [ifp h1, dcf (show ¬ v.S = (⟨#[]⟩ : ByteArray) from h1)]; rfl
def zsa (ops : List zH) (i : Int) (o : zH) : Int :=
 if nmI ops o.Base < 0 ∨ i ≤ nmI ops o.Base then 11
 else match ops[(nmI ops o.Base).toNat]? with
  | none => 0
  | some b => if o.Kind = 2 then (if b.Kind ≠ 3 then 17 else if inB o.Offset 0 256 = true then 0 else 3)
   else if b.Kind ≠ 0 then 17 else if inB o.Offset 0 (szE b.zG - szE o.zG) = true then 0 else 3
def zpb (p : zD) (i : Int) (o : zH) : Int :=
 if o.Kind = 0 ∨ o.Kind = 4 then ziu o.zG o.Value
 else if o.Kind = 1 ∨ o.Kind = 2 then zsa p.zB i o
 else if o.Kind = 5 then (if inB o.Target 0 ((p.zA.length : Int) - 1) = true then 0 else 3)
 else 0
def opE (p : zD) (i : Nat) : Int :=
 match p.zB[i]? with
 | none => 0
 | some o => if zrq o.Name = false then 7 else if nmI p.zB o.Name < (i : Int) then 13 else if inB o.Kind 0 5 = false then 4 else if zoz o = true then 5
  else if isD o.Kind = true ∧ zbp o.zG ≠ 0 then zbp o.zG else if isD o.Kind = true ∧ o.zG.Kind = 4 then 17 else zpb p i o
structure OpV (p : zD) (i : Nat) (o : zH) : Prop where
 kind : 0 ≤ o.Kind ∧ o.Kind ≤ 5
 own : nmI p.zB o.Name = (i : Int)
 ty : isD o.Kind = true → zbp o.zG = 0 ∧ o.zG.Kind ≠ 4
 val : o.Kind = 0 ∨ o.Kind = 4 → ziu o.zG o.Value = 0
 base : o.Kind = 1 ∨ o.Kind = 2 → zsa p.zB i o = 0
 tg : o.Kind = 5 → 0 ≤ o.Target ∧ o.Target < (p.zA.length : Int)
theorem z54 {p : zD} {i : Nat} {o : zH} (ho : p.zB[i]? = some o) (h : opE p i = 0) : OpV p i o := by
 unfold opE at h
 rw [ho] at h
 simp only at h
 obtain ⟨n1, n2⟩ := zzc ho
 split at h
 · cases h
 split at h
 · cases h
 split at h
 · cases h
 split at h
 · cases h
 rename_i h1 h2 h3 h4
 have hk := zvx (show inB o.Kind 0 5 = true by simpa using h3)
 split at h
 · rename_i h5; exact absurd h h5.2
 split at h
 · cases h
 rename_i h5 h6
 refine { kind := by omega, own := by omega, ty := fun hd => ⟨cbc fun hh => h5 ⟨hd, hh⟩, fun hh => h6 ⟨hd, hh⟩⟩, val := fun hv => ?_, base := fun hv => ?_, tg := fun hv => ?_ }
 · unfold zpb at h; rw [ifp hv] at h; exact h
 · unfold zpb at h; rw [ifn, ifp hv] at h; exact h
 · unfold zpb at h; rw [ifn, ifn, ifp hv] at h; split at h
   · rename_i hh; have := zcl.1 hh; omega
   · cases h
theorem zwo (N : Nat) (hN : 10 < N) {o : zH} (h : zbp o.zG = 0) : zf2 N o = some (szE o.zG) := by
 unfold zf2 zd6
 rw [zoi N hN, h]
 simp [zwq h]
theorem z9r (a : Int) (b : Bool) : zds [a, cond b 17 0] = if a = 0 then cond b 17 0 else a := by
 show (if a = 0 then zds [cond b 17 0] else a) = _
 cases b <;> rfl
theorem z58 (o : zH) : ∃ k, zh0 o = some k := by
 unfold zh0
 rw [zs1]
 simp only [obs]
 cases isD o.Kind <;> cases (o.Kind == 0) <;> cases (o.Kind == 4) <;> cases (o.Kind == 1) <;> cases (o.Kind == 2) <;> cases (o.Kind == 5) <;> exact ⟨_, rfl⟩
structure Upto (p : zD) (i : Nat) : Prop where
 ops : p.zB.length ≤ 1000
 ins : p.zA.length ≤ 1000000
 ok : ∀ j, j < i → opE p j = 0
theorem zzd (l : List zH) (s : ByteArray) : nmI l s = -1 ∨ (0 ≤ nmI l s ∧ nmI l s < (l.length : Int) ∧ ∃ o, l[(nmI l s).toNat]? = some o) := by
 rcases zoj l s with ⟨h, _⟩ | ⟨k, h1, h2, _⟩
 · exact .inl h
 · rw [h1]; exact .inr ⟨by omega, by omega, _, lge h2⟩
theorem z1m {p : zD} {i : Nat} (hu : Upto p i) {n : Int} (h0 : 0 ≤ n) (h1 : n < (i : Int)) {b : zH} (hb : p.zB[n.toNat]? = some b) (hk : b.Kind = 0) : zbp b.zG = 0 := by
 have := z54 hb (hu.ok n.toNat (by omega))
 exact (this.ty (by rw [hk]; rfl)).1
theorem zyd {a b : DataType} (ha : zbp a = 0) (hb : zbp b = 0) : w6 (szE a - szE b) = szE a - szE b := by
 have h1 := zf9 ha
 have h2 := zf9 hb
 exact w6e
theorem z92 (l : List zH) (i : Nat) : (l.take ((i : Int)).toNat).drop (0 : Int).toNat = l.take i := rfl
theorem z06 (N : Nat) (hN : 1100 < N) {p : zD} {i : Nat} (hu : Upto p i) {o : zH} (ht : zbp o.zG = 0) (hk : o.Kind = 1 ∨ o.Kind = 2) : zf3 N o (p.zB.take i) = some (zsa p.zB i o) := by
 have hl := hu.ops
 unfold zf3 zsa
 rw [zuv N _ (by rw [lnt]; omega) (by rw [lnt]; omega), z07]
 simp only [obs]
 by_cases hc : nmI p.zB o.Base < 0 ∨ (i : Int) ≤ nmI p.zB o.Base
 · rw [ifp hc]; rw [dct (by split <;> omega)]; rfl
 · rw [ifn hc, ifp, dcf (by omega)]; obtain ⟨b, hb⟩ : ∃ b, p.zB[(nmI p.zB o.Base).toNat]? = some b := by
    rcases zzd p.zB o.Base with h | ⟨_, _, h⟩
    · omega
    · exact h
   have hx : idx (p.zB.take i) (nmI p.zB o.Base) = some b := by
    unfold idx; rw [ifp, List.getElem?_take, ifp, hb]
   rw [hx, hb]; simp only [cfa, obs, ztr, ztq, zbj, zcd]
   by_cases h2 : o.Kind = 2
   · rw [ifp h2, dct h2]; simp only [ctr]; rw [zrk N _ (by simp; omega) (by simp), zs6 _ _ _ _ (by decide) (by decide)]
     by_cases h3 : b.Kind ≠ 3
     · rw [ifp h3, dct h3]; rfl
     · rw [ifn h3, dcf h3]; cases inB o.Offset 0 256 <;> rfl
   · rw [ifn h2, dcf h2]; simp only [cfa]
     by_cases h3 : b.Kind ≠ 0
     · rw [ifp h3, dct h3]; rfl
     · rw [ifn h3, dcf h3]; have hbt := z1m hu (by omega) (by omega) hb (by omega); simp only [cfa]; rw [zwo N (by omega) hbt, zwo N (by omega) ht]; simp only [obs]; rw [zyd hbt ht]; cases inB o.Offset 0 (szE b.zG - szE o.zG) <;> rfl
theorem z04 (N : Nat) (hN : 1100 < N) {p : zD} {i : Nat} (hu : Upto p i) {o : zH} (ht : zbp o.zG = 0) (hk : o.Kind = 1 ∨ o.Kind = 2) :
 ((cond (nmI p.zB o.Base == (-1)) (some true) (some (decide (nmI p.zB o.Base ≥ (i : Int))))).bind fun g12 => cond g12 (some (11 : Int)) ((idx p.zB (nmI p.zB o.Base)).bind fun x13 =>
 (cond (o.Kind == 1) (some (x13.Kind != 0)) (some false)).bind fun g14 => (cond g14 (some true) ((cond (o.Kind == 2) (some (x13.Kind != 3)) (some false)).bind fun g15 =>
 some g15)).bind fun g16 => cond g16 (some 17) (cond (o.Kind == 1) ((zcb x13.zG).bind fun r17 => (zcb o.zG).bind fun r18 =>
 (zd o.Offset 0 (w6 (r17 - r18))).bind fun r19 => cond (!r19) (some 3) (some 0)) ((zd o.Offset 0 256).bind fun r20 => cond (!r20) (some 3)
 (some 0))))) = some (zsa p.zB i o) := by
 have hl := hu.ops
 unfold zsa
 rcases zzd p.zB o.Base with h | ⟨n0, n1, b, hb⟩
 · rw [h, ifp]; rfl
 · rw [zbj, dcf (by omega)]; simp only [cfa, obs]
   by_cases hc : (i : Int) ≤ nmI p.zB o.Base
   · rw [ifp (.inr hc), dct (show nmI p.zB o.Base ≥ (i : Int) from hc)]; rfl
   · rw [ifn, dcf (show ¬ nmI p.zB o.Base ≥ (i : Int) from hc)]; have hx : idx p.zB (nmI p.zB o.Base) = some b := by
      unfold idx; rw [ifp n0, hb]
     rw [hx, hb]; simp only [cfa, obs, zfy, zbj, zcd, orB, zjs]
     by_cases h2 : o.Kind = 2
     · rw [ifp h2, dct h2, dcf (show ¬ o.Kind = 1 by omega)]; simp only [Bool.false_and, Bool.false_or, Bool.true_and, cfa]
       by_cases h3 : b.Kind ≠ 3
       · rw [ifp h3, dct h3]; rfl
       · rw [ifn h3, dcf h3]; cases inB o.Offset 0 256 <;> rfl
     · rw [ifn h2, dcf h2, dct (show o.Kind = 1 by omega)]; simp only [Bool.false_and, Bool.or_false, Bool.true_and, ctr]
       by_cases h3 : b.Kind ≠ 0
       · rw [ifp h3, dct h3]; rfl
       · rw [ifn h3, dcf h3]; have hbt := z1m hu n0 (by omega) hb (by omega); simp only [cfa]; rw [zmx hbt, zmx ht]; simp only [obs, zfy]; rw [zyd hbt ht]; cases inB o.Offset 0 (szE b.zG - szE o.zG) <;> rfl
theorem z2t {p : zD} {i : Nat} (hu : Upto p i) : w6 ((p.zA.length : Int) - 1) = (p.zA.length : Int) - 1 := by
 have := hu.ins
 exact w6e
theorem zaap (N : Nat) (hN : 1100 < N) {p : zD} {i : Nat} (hu : Upto p i) (hi : i < p.zB.length) : zfu N p (i : Int) = some (opE p i) := by
 have hl := hu.ops
 have hx := lge hi
 unfold zfu opE
 rw [zae, hx]
 generalize p.zB[i] = o at hx ⊢
 obtain ⟨n0, n1⟩ := zzc hx
 simp only [obs]
 rw [ifp, ifp]
 simp only [z92]
 rw [z7q N (by omega), zuv N _ (by rw [lnt]; omega) (by rw [lnt]; omega), z07]
 simp only [obs, ztr, ztq]
 obtain ⟨k, hk⟩ := z58 o
 rw [hk]
 simp only [obs]
 rw [zrk N _ (by simp; omega) (by simp)]
 simp only [obs]
 cases hnm : zrq o.Name with
 | false => rfl
 | true =>
  by_cases hd : nmI p.zB o.Name < (i : Int)
  · rw [ifp hd, dct (show nmI p.zB o.Name ≥ 0 from n0)]; simp only [Bool.true_eq_false, if_false, ifp hd]; rfl
  · rw [ifn hd, dcf (show ¬ (-1 : Int) ≥ 0 by decide)]; simp only [Bool.true_eq_false, if_false, ifn hd]; cases hkd : inB o.Kind 0 5 with
    | false => rfl
    | true =>
     obtain ⟨k', hk1, hk2⟩ := z7r hkd; rw [hk] at hk1; cases hk1; rw [hk2]; cases hex : zoz o with
     | true => rfl
     | false =>
      rw [show zds [cond (!true) 7 0, cond false 13 0, cond (!true) 4 0, cond false 5 0] = 0 from rfl]; simp only [bsf, cfa, Bool.true_eq_false, Bool.false_eq_true, if_false, zs1, obs]; have hks := zvx hkd; cases hdt : isD o.Kind with
      | true =>
       simp only [ctr]; rw [zoi N (by omega)]; simp only [obs, true_and]; rw [zrk N _ (by simp; omega) (by simp)]; simp only [obs, z9r]
       by_cases ht : zbp o.zG = 0
       · rw [ifp ht, ifn (fun h => h ht)]
         by_cases h4 : o.zG.Kind = 4
         · rw [ifp h4, zbj, dct h4]; rfl
         · rw [ifn h4, zbj, dcf h4]; simp only [cfa, bsf]; rw [zza N (by omega) ht h4]; unfold zpb; rcases hks with h | h | h | h | h | h
           · rw [h]; rfl
           · rw [z06 N hN hu ht (.inl h), ifn, ifp (.inl h), h]; rfl
           · rw [z06 N hN hu ht (.inr h), ifn, ifp (.inr h), h]; rfl
           · rw [h] at hdt; cases hdt
           · rw [h]; rfl
           · rw [h] at hdt; cases hdt
       · rw [ifn ht, ifp ht, zcd, dct ht]; rfl
      | false =>
       simp only [cfa, Bool.false_eq_true, false_and, if_false]; unfold zpb; rcases hks with h | h | h | h | h | h
       · rw [h] at hdt; cases hdt
       · rw [h] at hdt; cases hdt
       · rw [h] at hdt; cases hdt
       · rw [h]; rfl
       · rw [h] at hdt; cases hdt
       · rw [h, z2t hu]; cases inB o.Target 0 ((p.zA.length : Int) - 1) <;> rfl
theorem z99 (N : Nat) (hN : 1100 < N) {p : zD} {i : Nat} (hu : Upto p i) (hi : i < p.zB.length) : zgm N p (i : Int) = some (opE p i) := by
 have hl := hu.ops
 have hx := lge hi
 unfold zgm opE
 rw [zae, hx]
 generalize p.zB[i] = o at hx ⊢
 obtain ⟨n0, n1⟩ := zzc hx
 simp only [obs]
 rw [z7l N (by omega)]
 simp only [obs]
 cases hnm : zrq o.Name with
 | false => rfl
 | true =>
  simp only [bnt, cfa, Bool.true_eq_false, if_false]; rw [z2g N p (by omega) (by omega)]; simp only [obs]
  by_cases hd : nmI p.zB o.Name < (i : Int)
  · rw [dct hd, ifp hd]; rfl
  · rw [dcf hd, ifn hd]; simp only [cfa, zfy, obs]; cases hkd : inB o.Kind 0 5 with
    | false => rfl
    | true =>
     rw [z3z hkd]; simp only [bnt, cfa, obs, Bool.true_eq_false, if_false]; cases hex : zoz o with
     | true => rfl
     | false =>
      simp only [cfa, Bool.false_eq_true, if_false, zw9, obs]; have hks := zvx hkd; rw [z2g N p (by omega) (by omega)]; cases hdt : isD o.Kind with
      | true =>
       simp only [ctr, true_and, zwi, obs]
       by_cases ht : zbp o.zG = 0
       · rw [ifn (fun h => h ht), zcd, dcf (fun h => h ht)]; simp only [cfa]
         by_cases h4 : o.zG.Kind = 4
         · rw [ifp h4, zbj, dct h4]; rfl
         · rw [ifn h4, zbj, dcf h4]; simp only [cfa]; rw [z5k N (by omega) ht h4]; unfold zpb; rcases hks with h | h | h | h | h | h
           · rw [h]; rfl
           · have hb := z04 N hN hu ht (.inl h); simp only [zfy, obs] at hb; rw [ifn, ifp (.inl h), ← hb, h]; rfl
           · have hb := z04 N hN hu ht (.inr h); simp only [zfy, obs] at hb; rw [ifn, ifp (.inr h), ← hb, h]; rfl
           · rw [h] at hdt; cases hdt
           · rw [h]; rfl
           · rw [h] at hdt; cases hdt
       · rw [ifp ht, zcd, dct ht]; rfl
      | false =>
       simp only [cfa, Bool.false_eq_true, false_and, if_false, obs]; unfold zpb; rcases hks with h | h | h | h | h | h
       · rw [h] at hdt; cases hdt
       · rw [h] at hdt; cases hdt
       · rw [h] at hdt; cases hdt
       · rw [h]; rfl
       · rw [h] at hdt; cases hdt
       · rw [h, z2t hu]; cases inB o.Target 0 ((p.zA.length : Int) - 1) <;> rfl
def zm2 (o : zH) : Bool := decide (o.zG.Kind ≠ 0)
def zn1 (o b : zH) (c : Int) : Bool :=
 if c = 0 then isS o.Kind else if c = 1 then isD o.Kind else if c = 2 then isS o.Kind && zm2 o else if c = 3 then isD o.Kind && zm2 o
 else if c = 4 then isD o.Kind && (zm2 o == zm2 b) else if c = 5 then decide (o.Kind = 3) else decide (o.Kind = 5)
theorem z59 (k : Int) : (isD k && !decide (k = 4)) = isS k := by
 unfold isD
 by_cases h : k = 4
 · subst h; rfl
 · rw [dcf h]; simp
theorem z7s (o b : zH) {c : Int} (hc : 0 ≤ c ∧ c ≤ 6) : zi8 o b c = some (zn1 o b c) := by
 have h : c = 0 ∨ c = 1 ∨ c = 2 ∨ c = 3 ∨ c = 4 ∨ c = 5 ∨ c = 6 := by omega
 unfold zi8
 rw [zs1]
 simp only [zfa, zbj, zcd, obs]
 have hs := z59 o.Kind
 unfold zn1 zm2
 rcases h with rfl | rfl | rfl | rfl | rfl | rfl | rfl
 · rw [← hs]; simp only [if_true]; cases isD o.Kind <;> cases decide (o.Kind = 4) <;> rfl
 · rw [ifn (by decide), ifp rfl]; cases isD o.Kind <;> rfl
 · rw [← hs, ifn (by decide), ifn (by decide), ifp rfl]; cases isD o.Kind <;> cases decide (o.Kind = 4) <;> cases decide (o.zG.Kind ≠ 0) <;> rfl
 · rw [ifn (by decide), ifn (by decide), ifn (by decide), ifp rfl]; cases isD o.Kind <;> cases decide (o.zG.Kind ≠ 0) <;> rfl
 · rw [ifn (by decide), ifn (by decide), ifn (by decide), ifn (by decide), ifp rfl]; cases isD o.Kind <;> cases decide (o.zG.Kind ≠ 0) <;> cases decide (b.zG.Kind ≠ 0) <;> rfl
 · rw [ifn (by decide), ifn (by decide), ifn (by decide), ifn (by decide), ifn (by decide), ifp rfl]; rfl
 · rw [ifn (by decide), ifn (by decide), ifn (by decide), ifn (by decide), ifn (by decide), ifn (by decide)]; rfl
def zu8 : zH := ⟨⟨#[]⟩, 0, ⟨0, 0, 0⟩, ⟨0, ⟨#[]⟩⟩, ⟨#[]⟩, 0, 0⟩
def zmp (p : zD) (x : zK) : Nat → zH
 | 0 => zu8
 | k + 1 => p.zB.getD ((x.Args.getD k 0).toNat) zu8
def zhe (op : Int) : List Int := zpp.getD op.toNat []
def gA (p : zD) (x : zK) (i : Nat) : Option Int :=
 (x.Args[i]?).bind fun a => if inB a 0 ((p.zB.length : Int) - 1) = true then (match p.zB[a.toNat]?, (zhe x.Op)[i]? with | some o, some c => if zn1 o (zmp p x i) c = true then none else some 17 | _, _ => none) else some 3
def zrv (p : zD) (x : zK) : Int :=
 if inB x.Op 0 18 = false then 4 else if (x.Args.length : Int) ≠ ((zhe x.Op).length : Int) then 37
 else match (List.range x.Args.length).findSome? (gA p x) with | some e => e | none => 0
theorem z37 {k : Int} (h : inB k 0 18 = true) : ∃ n : Nat, k = (n : Int) ∧ n < 19 := by
 have := zcl.1 h
 exact ⟨k.toNat, by omega, by omega⟩
theorem z8r : ((List.range 19).all fun n => (match zpp[n]? with | some l => l.all (fun c => decide (0 ≤ c) && decide (c ≤ 6)) && (decide (l.length ≤ 3) && ((List.range l.length).all fun i => !(l.getD i 0 == 4) || (i == 1 && (l.getD 0 9 == 0 || l.getD 0 9 == 1)))) | none => false)) = true := by kernel_rfl
def zwh (c : Int) : Int := if c = 1 then 2 else if c = 2 then 1 else c
theorem z7i : ((List.range 19).all fun n => match ziw (n : Int) with | some l => l == (zhe (n : Int)).map zwh | none => false) = true := by kernel_rfl
theorem zxn {k : Int} (h : inB k 0 18 = true) : idx zpp k = some (zhe k) ∧ (zhe k).length ≤ 3 ∧ (∀ (i : Nat) (c : Int), (zhe k)[i]? = some c → (0 ≤ c ∧ c ≤ 6) ∧ (c = 4 → i = 1 ∧ ∃ d, (zhe k)[0]? = some d ∧ (d = 0 ∨ d = 1))) ∧ ziw k = some ((zhe k).map zwh) := by
 obtain ⟨n, rfl, hn⟩ := z37 h
 have h1 := List.all_eq_true.1 z8r n (List.mem_range.2 hn)
 have h2 := List.all_eq_true.1 z7i n (List.mem_range.2 hn)
 have hlt : n < zpp.length := hn
 have hg : zpp[n]? = some (zhe (n : Int)) := by
  unfold zhe; rw [itn, gdd, lge hlt]; rfl
 rw [hg] at h1
 simp only [Bool.and_eq_true, List.all_eq_true, decide_eq_true_eq, List.mem_range, Bool.or_eq_true, Bool.not_eq_true', beq_iff_eq, beq_eq_false_iff_ne] at h1
 obtain ⟨a1, a2, a3⟩ := h1
 refine ⟨by rw [zae, hg], a2, fun i c hc => ⟨a1 c (lmg hc), fun h4 => ?_⟩, ?_⟩
 · have hi := (gei hc).1; have e : (zhe (n : Int)).getD i 0 = c := by rw [gdd, hc]; rfl
   rcases a3 i hi with h | ⟨h5, h6⟩
   · rw [e] at h; exact absurd h4 h
   · refine ⟨h5, ?_⟩; have h0 : 0 < (zhe (n : Int)).length := by omega
     refine ⟨_, lge h0, ?_⟩; rw [gdd, lge h0] at h6; exact h6
 · cases hr : ziw (n : Int) with
   | none => rw [hr] at h2; cases h2
   | some l =>
    rw [hr] at h2; rw [eq_of_beq h2]
theorem z9g {p : zD} {i : Nat} (hu : Upto p i) : w6 ((p.zB.length : Int) - 1) = (p.zB.length : Int) - 1 := by
 have := hu.ops
 exact w6e
theorem z0a {p : zD} {a : Int} (h : inB a 0 ((p.zB.length : Int) - 1) = true) : ∃ o, p.zB[a.toNat]? = some o ∧ idx p.zB a = some o := by
 have := zcl.1 h
 refine ⟨_, lge (by omega), ?_⟩
 unfold idx
 rw [ifp, lge]
theorem z9b (N : Nat) (hN : 1100 < N) {p : zD} {i : Nat} (hu : Upto p i) (x : zK) : zaf N p x = some (zrv p x) := by
 unfold zaf zrv
 rw [ztq]
 simp only [obs]
 cases hop : inB x.Op 0 18 with
 | false => rfl
 | true =>
  obtain ⟨t1, t2, t3, _⟩ := zxn hop; rw [t1]; simp only [bnt, cfa, obs, zcd, Bool.true_eq_false, if_false]
  by_cases hl : (x.Args.length : Int) ≠ ((zhe x.Op).length : Int)
  · rw [ifp hl, dct hl]; rfl
  · rw [ifn hl, dcf hl]; simp only [cfa]; have l1 := zoa (f := zaf.r0 N) (fun i => (x.Args, (x.Args.length : Int), (i : Int), p, x, zmp p x i)) (gA p x) x.Args.length
     (fun i hi hp => by
      have hx := lge hi; have hi2 : i < (zhe x.Op).length := by omega
      have hc := lge hi2; simp only [zaf.r0, zaf.b0, zae, hx, obs, dct (show (i : Int) < (x.Args.length : Int) by omega), ctr, z9g hu, ztq, gA, t1, hc]; cases hin : inB x.Args[i] 0 ((p.zB.length : Int) - 1) with
      | false => rfl
      | true =>
       obtain ⟨o, ho, ho2⟩ := z0a hin; simp only [bnt, cfa, ho, ho2, obs, if_true]; rw [z7s _ _ (t3 i _ hc).1]; simp only [obs]; cases zn1 o (zmp p x i) (zhe x.Op)[i] with
       | false => rfl
       | true =>
        simp only [bnt, cfa, if_true]; rw [w6e]; rw [show zmp p x (i + 1) = o by
         show p.zB.getD ((x.Args.getD i 0).toNat) zu8 = o; rw [gdd (l := x.Args), hx, Option.getD_some, gdd, ho]; rfl]
        rfl)
     (fun _ => by simp only [zaf.r0, zaf.b0, dcf (show ¬ (x.Args.length : Int) < (x.Args.length : Int) by omega), cfa]) (N := N) (by omega)
    simp only [nc0] at l1; rw [show (⟨(⟨#[]⟩ : ByteArray), 0, (⟨0, 0, 0⟩ : DataType), (⟨0, (⟨#[]⟩ : ByteArray)⟩ : Value), (⟨#[]⟩ : ByteArray), 0, 0⟩ : zH) = zmp p x 0 from rfl, l1]; cases (List.range x.Args.length).findSome? (gA p x) <;> rfl
theorem z4a {p : zD} {j : Nat} {o : zH} (ho : p.zB[j]? = some o) (h : opE p j = 0) (hd : isD o.Kind = true) : inB o.zG.Kind 1 3 = zm2 o := by
 obtain ⟨h1, h2⟩ := (z54 ho h).ty hd
 unfold zm2
 rcases zig h1 with ⟨k, _⟩ | ⟨k | k, _⟩ | ⟨k, _⟩ | ⟨k, _⟩
 · rw [k]; rfl
 · rw [k]; rfl
 · rw [k]; rfl
 · rw [k]; rfl
 · exact absurd k h2
theorem z5q (N : Nat) (hN : 1100 < N) {p : zD} (hu : Upto p p.zB.length) (x : zK) : zao N p x = some (zrv p x) := by
 have hol := hu.ops
 unfold zao zrv
 rw [zfy]
 simp only [obs]
 cases hop : inB x.Op 0 18 with
 | false => rfl
 | true =>
  obtain ⟨t1, t2, t3, t4⟩ := zxn hop; rw [t4]; simp only [bnt, cfa, obs, zcd, Bool.true_eq_false, if_false, lnm]
  by_cases hl : (x.Args.length : Int) ≠ ((zhe x.Op).length : Int)
  · rw [ifp hl, dct hl]; rfl
  · rw [ifn hl, dcf hl]; simp only [cfa]; have l1 := zoa (f := zao.r0 N) (fun i => ((zhe x.Op).map zwh, (i : Int), p, x)) (gA p x) x.Args.length
     (fun i hi hp => by
      have hx := lge hi; have hi2 : i < (zhe x.Op).length := by omega
      have hc := lge hi2; simp only [zao.r0, zao.b0, zae, hx, obs, lnm, dct (show (i : Int) < ((zhe x.Op).length : Int) by omega), ctr, z9g hu, zfy, gA, List.getElem?_map, hc, Option.map_some]; cases hin : inB x.Args[i] 0 ((p.zB.length : Int) - 1) with
      | false => rfl
      | true =>
       obtain ⟨o, ho, ho2⟩ := z0a hin; have hlt := (gei ho).1; obtain ⟨c1, c2⟩ := t3 i _ hc; have hbf : (zhe x.Op)[i] = 4 → ∃ a b, i = 1 ∧ x.Args[0]? = some a ∧ idx p.zB a = some b ∧ zmp p x i = b ∧ inB b.zG.Kind 1 3 = zm2 b := fun h4 => by
        obtain ⟨rfl, d, hd, hd2⟩ := c2 h4; have h0 := hp 0 (by omega); have hx0 := lge (show 0 < x.Args.length by omega); unfold gA at h0; rw [hx0, obs] at h0; split at h0
        · rename_i hin0; obtain ⟨b, hb, hb2⟩ := z0a hin0; rw [hb, hd] at h0; simp only at h0; split at h0
          · rename_i hcl; have hlt0 := (gei hb).1; refine ⟨_, b, rfl, hx0, hb2, ?_, z4a hb (hu.ok _ hlt0) ?_⟩
            · show p.zB.getD ((x.Args.getD 0 0).toNat) zu8 = b; rw [gdd (l := x.Args), hx0, Option.getD_some, gdd, hb]; rfl
            · unfold zn1 at hcl; rcases hd2 with rfl | rfl
              · rw [ifp rfl] at hcl; unfold isD; rw [hcl]; rfl
              · rw [ifn (by decide), ifp rfl] at hcl; exact hcl
          · cases h0
        · cases h0
       have hnum : isD o.Kind = true → inB o.zG.Kind 1 3 = zm2 o := z4a ho (hu.ok _ hlt); have hSD : isS o.Kind = true → isD o.Kind = true := fun h => by unfold isD; rw [h]; rfl
       simp only [bnt, cfa, ho, ho2, obs, if_true, zt7, zw9, zfd, zrc, zbj]; generalize (zhe x.Op)[i] = c at c1 hbf ⊢; have fin : ∀ b : Bool, (cond (!b) (some (Round.result (17 : Int))) (some (Round.again ((zhe x.Op).map zwh, w6 ((i : Int) + 1), p, x)))) = some (cond b (Round.again ((zhe x.Op).map zwh, ((i + 1 : Nat) : Int), p, x)) (.result 17)) := fun b => by
        rw [w6e]; cases b <;> rfl
       have hcs : c = 0 ∨ c = 1 ∨ c = 2 ∨ c = 3 ∨ c = 4 ∨ c = 5 ∨ c = 6 := by omega
       rcases hcs with rfl | rfl | rfl | rfl | rfl | rfl | rfl <;> simp only [zwh, Int.reduceEq, reduceIte, decide_true, decide_false, ctr, cfa]
       · rw [show zn1 o (zmp p x i) 0 = isS o.Kind from rfl]; rw [fin]; cases (isS o.Kind) <;> rfl
       · rw [show zn1 o (zmp p x i) 1 = isD o.Kind from rfl]; rw [fin]; cases (isD o.Kind) <;> rfl
       · rw [show zn1 o (zmp p x i) 2 = (isS o.Kind && inB o.zG.Kind 1 3) by
          show (isS o.Kind && zm2 o) = _; cases hs : isS o.Kind with
          | false => rfl
          | true => rw [hnum (hSD hs)]]
         cases isS o.Kind
         · simp only [ctr, cfa, obs, Bool.true_and, Bool.false_and]; rfl
         · simp only [ctr, cfa, obs, Bool.true_and, Bool.false_and]; rw [fin]; cases (inB o.zG.Kind 1 3) <;> rfl
       · rw [show zn1 o (zmp p x i) 3 = (isD o.Kind && inB o.zG.Kind 1 3) by
          show (isD o.Kind && zm2 o) = _; cases hs : isD o.Kind with
          | false => rfl
          | true => rw [hnum hs]]
         cases isD o.Kind
         · simp only [ctr, cfa, obs, Bool.true_and, Bool.false_and]; rfl
         · simp only [ctr, cfa, obs, Bool.true_and, Bool.false_and]; rw [fin]; cases (inB o.zG.Kind 1 3) <;> rfl
       · obtain ⟨a, b, rfl, ha, hb, hbb, hbn⟩ := hbf rfl; rw [show zn1 o (zmp p x 1) 4 = (isD o.Kind && (inB o.zG.Kind 1 3 == inB b.zG.Kind 1 3)) by
          show (isD o.Kind && (zm2 o == zm2 (zmp p x 1))) = _; rw [hbb, hbn]; cases hs : isD o.Kind with
          | false => rfl
          | true => rw [hnum hs]]
         rw [show w6 (((1 : Nat) : Int) - 1) = ((0 : Nat) : Int) from rfl, zae, ha]; simp only [obs]; rw [hb]; cases isD o.Kind
         · simp only [ctr, cfa, obs, Bool.true_and, Bool.false_and]; rfl
         · simp only [ctr, cfa, obs, Bool.true_and, Bool.false_and]; rw [fin]; cases (inB o.zG.Kind 1 3 == inB b.zG.Kind 1 3) <;> rfl
       · rw [show zn1 o (zmp p x i) 5 = decide (o.Kind = 3) from rfl]; rw [fin]; cases (decide (o.Kind = 3)) <;> rfl
       · rw [show zn1 o (zmp p x i) 6 = decide (o.Kind = 5) from rfl]; rw [fin]; cases (decide (o.Kind = 5)) <;> rfl)
     (fun _ => by simp only [zao.r0, zao.b0, lnm, dcf (show ¬ (x.Args.length : Int) < ((zhe x.Op).length : Int) by omega), cfa]) (N := N) (by omega)
    simp only [nc0] at l1; rw [l1]; cases (List.range x.Args.length).findSome? (gA p x) <;> rfl
def zrr (p : zD) (m : zU) : Bool := decide (0 ≤ m.From) && (decide (m.From < m.To) && (decide (m.To ≤ (p.zA.length : Int)) && (inB m.Exception 0 999 && inB m.Handler 0 ((p.zA.length : Int) - 1))))
theorem z9a {p : zD} {i : Nat} (hu : Upto p i) (m : zU) : zfv p m = some (cond (zrr p m) 0 3) := by
 unfold zfv zrr
 rw [z2t hu, ztq, ztq]
 simp only [obs, zjs, ztr, ge_iff_le]
 cases decide (0 ≤ m.From) <;> cases decide (m.From < m.To) <;> cases decide (m.To ≤ (p.zA.length : Int)) <;> cases inB m.Exception 0 999 <;> cases inB m.Handler 0 ((p.zA.length : Int) - 1) <;> rfl
theorem z9i (p : zD) (m : zU) : ((((decide (m.From < 0) || decide (m.From ≥ m.To)) || decide (m.To > (p.zA.length : Int))) || !inB m.Exception 0 999) || !inB m.Handler 0 ((p.zA.length : Int) - 1)) = !zrr p m := by
 unfold zrr
 rw [show decide (m.From < 0) = !decide (0 ≤ m.From) by rw [← decide_not]; congr 1; simp, show decide (m.From ≥ m.To) = !decide (m.From < m.To) by rw [← decide_not]; congr 1; simp, show decide (m.To > (p.zA.length : Int)) = !decide (m.To ≤ (p.zA.length : Int)) by rw [← decide_not]; congr 1; simp]
 simp only [Bool.not_and, Bool.or_assoc]
end
end Go.Proofs.YtnpfkhdbmlhfhaaGreatDoor.M
