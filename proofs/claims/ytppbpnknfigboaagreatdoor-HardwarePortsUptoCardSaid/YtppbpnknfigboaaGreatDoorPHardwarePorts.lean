/- HardwarePorts: the law answers true for every input of bulk at most 1048576, and its arguments read as they did; by the seat's second form, tied to the program's text. -/
import Derived.Test.YtppbpnknfigboaaGreatDoorWHardwarePorts
import Derived.Test.YtppbpnknfigboaaGreatDoorA3
import Derived.Lib.Strings
namespace Go.Proofs.YtppbpnknfigboaaGreatDoor.M
open Go Go.Amx
set_option linter.unusedVariables false
set_option linter.unusedSimpArgs false
set_option maxRecDepth 100000

theorem hw_first (N : Nat) (l : List Int) (h : l.length < N) (hl : l.length < 1000000000) : hardware_first N l = some (fst0 l) := by
  unfold hardware_first
  have := iterR_count (f := hardware_first.r0 N) (fun i => (l, (l.length : Int), (i : Int))) (fun i => (l[i]?).bind fun x => if x = 0 then none else some x) l.length
    (fun i hi => by
      have hx := List.getElem?_eq_getElem hi
      simp only [hardware_first.r0, hardware_first.b0, idx_nat, hx, Option.bind_some, decide_eq_true (show (i : Int) < (l.length : Int) by omega), cond_true]
      by_cases h0 : l[i] = 0
      · simp only [h0, bne_self_eq_false, cond_false, if_true]
        rw [wrap64 (by omega) (by omega)]
        rfl
      · simp only [h0, if_false]
        rw [show (l[i] != 0) = true by simpa using h0]
        rfl)
    (by simp only [hardware_first.r0, hardware_first.b0, decide_eq_false (show ¬ (l.length : Int) < (l.length : Int) by omega), cond_false]) h
  simp only [Int.natCast_zero] at this
  rw [this, findSome_range, ← fst0_find]
  simp only [Option.bind_some]
  cases l.findSome? (fun x => if x = 0 then none else some x) <;> rfl

theorem nu_first (N : Nat) (l : List Int) (h : l.length < N) (hl : l.length < 1000000000) : numeric_first N l = some (fst0 l) := by
  unfold numeric_first
  have := iterR_count (f := numeric_first.r0 N) (fun i => (l, (l.length : Int), (i : Int))) (fun i => (l[i]?).bind fun x => if x = 0 then none else some x) l.length
    (fun i hi => by
      have hx := List.getElem?_eq_getElem hi
      simp only [numeric_first.r0, numeric_first.b0, idx_nat, hx, Option.bind_some, decide_eq_true (show (i : Int) < (l.length : Int) by omega), cond_true]
      by_cases h0 : l[i] = 0
      · simp only [h0, bne_self_eq_false, cond_false, if_true]
        rw [wrap64 (by omega) (by omega)]
        rfl
      · simp only [h0, if_false]
        rw [show (l[i] != 0) = true by simpa using h0]
        rfl)
    (by simp only [numeric_first.r0, numeric_first.b0, decide_eq_false (show ¬ (l.length : Int) < (l.length : Int) by omega), cond_false]) h
  simp only [Int.natCast_zero] at this
  rw [this, findSome_range, ← fst0_find]
  simp only [Option.bind_some]
  cases l.findSome? (fun x => if x = 0 then none else some x) <;> rfl

/-- A number in bounds. -/
def inB (n lo hi : Int) : Bool := decide (lo ≤ n) && decide (n ≤ hi)
theorem hw_in (n lo hi : Int) : hardware_in n lo hi = some (inB n lo hi) := by
  unfold hardware_in inB
  cases decide (lo ≤ n) <;> rfl
theorem nu_in (n lo hi : Int) : numeric_in n lo hi = some (inB n lo hi) := by
  unfold numeric_in inB
  cases decide (lo ≤ n) <;> rfl
theorem rf_in (n lo hi : Int) : base_Within n lo hi = some (inB n lo hi) := by
  unfold base_Within inB
  cases decide (lo ≤ n) <;> rfl
theorem hw_cond (b : Bool) (e : Int) : hardware_cond b e = some (cond b e 0) := by cases b <;> rfl
theorem nu_cond (b : Bool) (e : Int) : numeric_cond b e = some (cond b e 0) := by cases b <;> rfl

theorem rf_count (b : Bool) : base_Count b = some (cond b 1 0) := by cases b <;> rfl
theorem model_same (m : HwModel) : ∃ e, hardware_CheckModel m = some e ∧ ref15_ModelErr m = some e ∧ (e = 0 → 2 ≤ m.Registers ∧ m.Registers ≤ 8) := by
  refine ⟨cond (!inB m.Registers 2 8) 3 0, ?_, ?_, ?_⟩
  · simp only [hardware_CheckModel, hw_in, hw_cond, Option.bind_some]
  · simp only [ref15_ModelErr, rf_in, Option.bind_some]
    cases inB m.Registers 2 8 <;> rfl
  · intro h
    cases hb : inB m.Registers 2 8 with
    | false => rw [hb] at h; cases h
    | true => simpa [inB] using hb

/-! ### types -/

def typeE (t : DataType) : Int :=
  if t.Kind = 0 then (if inB t.Length 1 256 then (if t.Scale = 0 then 0 else 3) else 18)
  else if t.Kind = 1 ∨ t.Kind = 2 then (if inB t.Length 1 15 then (if inB t.Scale 0 t.Length then 0 else 3) else 18)
  else if t.Kind = 3 then (if t.Length = 4 ∨ t.Length = 9 then (if inB t.Scale 0 t.Length then 0 else 3) else 18)
  else if t.Kind = 4 then (if t.Length = 0 then (if t.Scale = 0 then 0 else 3) else 18)
  else 4
theorem fst0_2 (a b : Bool) (x y : Int) (hx : x ≠ 0) (hy : y ≠ 0) : fst0 [cond a x 0, cond b y 0] = cond a x (cond b y 0) := by
  cases a <;> cases b <;> simp [fst0, hx, hy]
theorem nu_type (N : Nat) (hN : 10 < N) (t : DataType) : numeric_CheckType N t = some (typeE t) := by
  have f2 : ∀ a b : Int, numeric_first N [a, b] = some (fst0 [a, b]) := fun a b => nu_first N _ (by simp; omega) (by simp)
  unfold numeric_CheckType typeE
  simp only [nu_in, nu_cond, f2, Option.bind_some, fst0_2 _ _ 18 3 (by decide) (by decide)]
  by_cases h0 : t.Kind = 0
  · simp only [h0, beq_self_eq_true, cond_true, if_true]
    cases inB t.Length 1 256 <;> by_cases hs : t.Scale = 0 <;> simp [ibeq, hs]
  · simp only [beq_eq_false_iff_ne.2 h0, h0, cond_false, if_false]
    by_cases h1 : t.Kind = 1
    · simp only [h1, beq_self_eq_true, cond_true, true_or, if_true, Option.bind_some]
      cases inB t.Length 1 15 <;> cases inB t.Scale 0 t.Length <;> simp
    · by_cases h2 : t.Kind = 2
      · simp only [h2, h1]
        cases inB t.Length 1 15 <;> cases inB t.Scale 0 t.Length <;> simp
      · by_cases h3 : t.Kind = 3
        · simp only [h3]
          by_cases h4 : t.Length = 4 <;> by_cases h5 : t.Length = 9 <;> cases inB t.Scale 0 t.Length <;> simp [ibeq, h4, h5]
        · by_cases h4 : t.Kind = 4
          · simp only [h4]
            by_cases h5 : t.Length = 0 <;> by_cases h6 : t.Scale = 0 <;> simp [ibeq, h5, h6]
          · simp [ibeq, h1, h2, h3, h4]
theorem rf_numeric (k : Int) : ref01_IsNumeric k = some (inB k 1 3) := by simp only [ref01_IsNumeric, rf_in, Option.bind_some]
theorem rf_type (t : DataType) : ref01_TypeErr t = some (typeE t) := by
  have w0' : IntKind.wrap .i64 0 = 0 := by decide
  have w1 : IntKind.wrap .i64 3 = 3 := by decide
  have hz : inB t.Scale 0 0 = decide (t.Scale = 0) := by
    unfold inB
    by_cases h : t.Scale = 0
    · simp [h]
    · simp only [h, decide_false]
      by_cases h1 : 0 ≤ t.Scale
      · simp [h1, show ¬ t.Scale ≤ 0 by omega]
      · simp [h1]
  unfold ref01_TypeErr typeE
  simp only [rf_in, rf_numeric, rf_count, Option.bind_some, hz]
  by_cases h0 : t.Kind = 0
  · have e : inB (0 : Int) 0 4 = true := by decide
    have e' : inB (0 : Int) 1 3 = false := by decide
    simp only [h0, e, e']
    cases inB t.Length 1 256 <;> by_cases hs : t.Scale = 0 <;> simp [ibeq, hs, w0', w1]
  · by_cases h1 : t.Kind = 1
    · have e : inB (1 : Int) 0 4 = true := by decide
      have e' : inB (1 : Int) 1 3 = true := by decide
      simp only [h1, e, e']
      cases inB t.Length 1 15 <;> cases inB t.Scale 0 t.Length <;> simp [w0', w1]
    · by_cases h2 : t.Kind = 2
      · have e : inB (2 : Int) 0 4 = true := by decide
        have e' : inB (2 : Int) 1 3 = true := by decide
        simp only [h2, e, e']
        cases inB t.Length 1 15 <;> cases inB t.Scale 0 t.Length <;> simp [w0', w1]
      · by_cases h3 : t.Kind = 3
        · have e : inB (3 : Int) 0 4 = true := by decide
          have e' : inB (3 : Int) 1 3 = true := by decide
          simp only [h3, e, e']
          by_cases h4 : t.Length = 4 <;> by_cases h5 : t.Length = 9 <;> cases inB t.Scale 0 t.Length <;> simp [ibeq, h4, h5, w0', w1]
        · by_cases h4 : t.Kind = 4
          · have e : inB (4 : Int) 0 4 = true := by decide
            have e' : inB (4 : Int) 1 3 = false := by decide
            simp only [h4, e, e']
            by_cases h5 : t.Length = 0 <;> by_cases h6 : t.Scale = 0 <;> simp [ibeq, h5, h6, w0', w1]
          · have e : inB t.Kind 0 4 = false := by
              unfold inB
              by_cases hh : 0 ≤ t.Kind
              · simp only [hh, decide_true, Bool.true_and, decide_eq_false_iff_not]; omega
              · simp [hh]
            simp [ibeq, h0, h1, h2, h3, h4, e]
end Go.Proofs.YtppbpnknfigboaaGreatDoor.M

namespace Go.Proofs.YtppbpnknfigboaaGreatDoor.M
open Go Go.Amx
set_option linter.unusedVariables false
set_option linter.unusedSimpArgs false
set_option maxRecDepth 100000

theorem inB_iff {n lo hi : Int} : inB n lo hi = true ↔ lo ≤ n ∧ n ≤ hi := by simp [inB]

theorem type_facts {t : DataType} (h : typeE t = 0) : (t.Kind = 0 ∧ 1 ≤ t.Length ∧ t.Length ≤ 256) ∨ ((t.Kind = 1 ∨ t.Kind = 2) ∧ 1 ≤ t.Length ∧ t.Length ≤ 15) ∨ (t.Kind = 3 ∧ (t.Length = 4 ∨ t.Length = 9)) ∨ (t.Kind = 4 ∧ t.Length = 0) := by
  unfold typeE at h
  split at h
  · rename_i h0
    split at h
    · rename_i h1; exact .inl ⟨h0, (inB_iff.1 h1).1, (inB_iff.1 h1).2⟩
    · cases h
  · split at h
    · rename_i h0
      split at h
      · rename_i h1; exact .inr (.inl ⟨h0, (inB_iff.1 h1).1, (inB_iff.1 h1).2⟩)
      · cases h
    · split at h
      · rename_i h0
        split at h
        · rename_i h1; exact .inr (.inr (.inl ⟨h0, h1⟩))
        · cases h
      · split at h
        · rename_i h0
          split at h
          · rename_i h1; exact .inr (.inr (.inr ⟨h0, h1⟩))
          · cases h
        · cases h

/-- How many bytes a right type has. -/
def szE (t : DataType) : Int := if t.Kind = 1 then t.Length / 2 + 1 else if t.Kind = 3 then (if t.Length = 9 then 4 else 2) else if t.Kind = 4 then 16 else t.Length

theorem szE_pos {t : DataType} (h : typeE t = 0) : 0 < szE t ∧ szE t ≤ 256 := by
  unfold szE
  rcases type_facts h with ⟨h0, h1, h2⟩ | ⟨h0 | h0, h1, h2⟩ | ⟨h0, h1 | h1⟩ | ⟨h0, h1⟩ <;> simp only [h0] <;> simp <;> omega

theorem rf_size {t : DataType} (h : typeE t = 0) : base_Size t = some (szE t) := by
  unfold base_Size szE
  rcases type_facts h with ⟨h0, h1, h2⟩ | ⟨h0 | h0, h1, h2⟩ | ⟨h0, h1 | h1⟩ | ⟨h0, h1⟩ <;> simp only [h0, h1, ibeq, rf_count] <;> simp
  · rw [Int.tdiv_eq_ediv_of_nonneg (by omega), wrap64 (n := t.Length / 2) (by omega) (by omega), wrap64 (by omega) (by omega)]
  · decide
  · decide

theorem nu_size {t : DataType} (h : typeE t = 0) : numeric_size t = some (szE t) := by
  unfold numeric_size szE
  rcases type_facts h with ⟨h0, h1, h2⟩ | ⟨h0 | h0, h1, h2⟩ | ⟨h0, h1 | h1⟩ | ⟨h0, h1⟩ <;> simp only [h0, h1, ibeq] <;> simp
  · rw [Int.tdiv_eq_ediv_of_nonneg (by omega), wrap64 (n := t.Length / 2) (by omega) (by omega), wrap64 (by omega) (by omega)]
  · decide
  · decide

theorem hw_size (N : Nat) (hN : 10 < N) {t : DataType} (h : typeE t = 0) : hardware_size N t = some (szE t) := by
  unfold hardware_size numeric_SizeOf
  rw [nu_type N hN, h]
  simp [nu_size h]

/-! ### places -/

/-- The storage of a code that was accepted. -/
structure StoOk (s : Storage) : Prop where
  le : s.Bytes.size ≤ 1024
  quad : s.Bytes.size % 16 = 0

def quadB (s : Storage) (a : Int) : Bool := decide (0 ≤ a) && (decide (a % 16 = 0) && decide (a < (s.Bytes.size : Int)))
theorem hw_quad (s : Storage) (a : Int) : hardware_isQuad s a = some (quadB s a) := by
  unfold hardware_isQuad quadB
  by_cases h : 0 ≤ a
  · rw [Int.tmod_eq_emod_of_nonneg h]
    simp only [ge_iff_le, h, decide_true, cond_true, Option.bind_some, ibeq, Bool.true_and]
    cases decide (a % 16 = 0) <;> rfl
  · simp [h]
theorem rf_quad {s : Storage} (ok : StoOk s) (a : Int) : ref03_IsQuad s a = some (quadB s a) := by
  have h1 := ok.le
  have h2 := ok.quad
  unfold ref03_IsQuad quadB
  rw [wrap64 (by omega) (by omega), rf_in]
  simp only [Option.bind_some]
  by_cases h : 0 ≤ a
  · rw [Int.tmod_eq_emod_of_nonneg h]
    simp only [inB, h, decide_true, Bool.true_and, ibeq]
    by_cases h3 : a % 16 = 0
    · have e : decide (a ≤ (s.Bytes.size : Int) - 16) = decide (a < (s.Bytes.size : Int)) := by
        by_cases h4 : a < (s.Bytes.size : Int)
        · rw [decide_eq_true h4]; exact decide_eq_true (by omega)
        · rw [decide_eq_false h4]; exact decide_eq_false (by omega)
      simp only [h3, decide_true, Bool.true_and, e]
      cases decide (a < (s.Bytes.size : Int)) <;> rfl
    · simp only [h3, decide_false, Bool.false_and]
      cases decide (a ≤ (s.Bytes.size : Int) - 16) <;> rfl
  · simp [inB, h]

def placeB (s : Storage) (p : HwPlace) (n : Int) : Bool := if p.Based then quadB s p.Pointer && inB p.Offset 0 256 else inB p.Offset 0 ((s.Bytes.size : Int) - n)
theorem hw_place {s : Storage} (ok : StoOk s) (N : Nat) (hN : 10 < N) (p : HwPlace) {t : DataType} (h : typeE t = 0) : hardware_isPlace N s p t = some (placeB s p (szE t)) := by
  obtain ⟨h1, h2⟩ := szE_pos h
  have h3 := ok.le
  unfold hardware_isPlace placeB
  rw [hw_quad, hw_size N hN h, hw_in]
  simp only [Option.bind_some]
  rw [wrap64 (by omega) (by omega)]
  simp only [hw_in, Option.bind_some]
  cases p.Based <;> cases quadB s p.Pointer <;> simp
theorem rf_place {s : Storage} (ok : StoOk s) {c : HwCode} (hc : c.Storage = s) (p : HwPlace) (hp : -9223372036854775808 ≤ p.Offset ∧ p.Offset ≤ 9223372036854775807) {t : DataType} (h : typeE t = 0) : ref15_isPlace c p (szE t) = some (placeB s p (szE t)) := by
  obtain ⟨h1, h2⟩ := szE_pos h
  have h3 := ok.le
  unfold ref15_isPlace placeB ref03_IsRange
  rw [hc]
  simp only [rf_quad ok, rf_in, Option.bind_some]
  cases p.Based with
  | true => cases quadB s p.Pointer <;> simp
  | false =>
    simp only [cond_false]
    by_cases h4 : inB p.Offset 0 (s.Bytes.size : Int) = true
    · obtain ⟨h5, h6⟩ := inB_iff.1 h4
      rw [wrap64 (by omega) (by omega)]
      simp only [h4, cond_true, Option.bind_some, Bool.false_eq_true, if_false]
      congr 1
      unfold inB
      simp only [h5, decide_true, Bool.true_and, show (0 : Int) ≤ szE t by omega]
      by_cases h7 : szE t ≤ (s.Bytes.size : Int) - p.Offset
      · rw [decide_eq_true h7]; exact (decide_eq_true (by omega)).symm
      · rw [decide_eq_false h7]; exact (decide_eq_false (by omega)).symm
    · have e : inB p.Offset 0 (s.Bytes.size : Int) = false := by simpa using h4
      simp only [e, cond_false, Option.bind_some, Bool.false_eq_true, if_false]
      congr 1
      cases h5 : inB p.Offset 0 ((s.Bytes.size : Int) - szE t) with
      | false => rfl
      | true =>
        obtain ⟨h6, h7⟩ := inB_iff.1 h5
        exact absurd (inB_iff.2 ⟨h6, by omega⟩) h4

/-! ### numbers -/
def numE (n : Number) : Int := cond (inB n.N (-999999999999999) 999999999999999 && inB n.Scale 0 15) 0 3
theorem nu_number (n : Number) : numeric_CheckNumber n = some (numE n) := by
  unfold numeric_CheckNumber numE
  simp only [nu_in, nu_cond, Option.bind_some]
  cases inB n.N (-999999999999999) 999999999999999 <;> cases inB n.Scale 0 15 <;> rfl
theorem rf_number (n : Number) : ref01_NumberErr n = some (numE n) := by
  have w0 : IntKind.wrap .i64 (3 * 0) = 0 := by decide
  have w1 : IntKind.wrap .i64 (3 * 1) = 3 := by decide
  unfold ref01_NumberErr numE
  simp only [rf_in, rf_count, Option.bind_some]
  cases inB n.N (-999999999999999) 999999999999999 <;> cases inB n.Scale 0 15 <;> simp [w0, w1, rf_count] <;> decide
end Go.Proofs.YtppbpnknfigboaaGreatDoor.M

namespace Go.Proofs.YtppbpnknfigboaaGreatDoor.M
open Go Go.Amx
set_option linter.unusedVariables false
set_option linter.unusedSimpArgs false
set_option maxRecDepth 100000

/-! ### forms and fields -/
noncomputable def formO (op : Int) (ins : Bool) : Option hardware_form :=
  (idx glob0 op).bind fun x1 => (cond (op == 4) (some ins) (some false)).bind fun g2 =>
    cond g2 (some (⟨(orI .i64 (orI .i64 (andNotI .i64 x1.fields 4) 8) 64), x1.types⟩ : hardware_form)) (some x1)
theorem form_O (x : HwInstruction) : hardware_formOf x = formO x.Op x.InStorage := rfl

noncomputable def usedO (op : Int) (ins : Bool) : Option ref15_fields := ref15_used ⟨op, 0, 0, 0, 0, ⟨false, 0, 0⟩, ⟨false, 0, 0⟩, ⟨0, 0, 0⟩, ⟨0, 0, 0⟩, false, ins, ⟨0, 0⟩, ⟨#[]⟩, ⟨#[]⟩, 0, 0, 0, 0⟩
theorem used_O (x : HwInstruction) : ref15_used x = usedO x.Op x.InStorage := rfl

/-- The form and the fields say the same. -/
structure Agree (f : hardware_form) (u : ref15_fields) : Prop where
  R : (andI .i64 f.fields 1 != 0) = u.R
  A : (andI .i64 f.fields 2 != 0) = u.A
  B : (andI .i64 f.fields 4 != 0) = u.B
  Place : (andI .i64 f.fields 8 != 0) = u.Place
  From : (andI .i64 f.fields 16 != 0) = u.From
  Type_ : (andI .i64 f.fields 32 != 0) = (u.Type_ != 0)
  Second : (andI .i64 f.fields 64 != 0) = (u.Second != 0)
  Half : (andI .i64 f.fields 128 != 0) = u.Half
  Number : (andI .i64 f.fields 256 != 0) = u.Number
  Text : (andI .i64 f.fields 512 != 0) = u.Text
  Other : (andI .i64 f.fields 1024 != 0) = u.Other
  Mask : (andI .i64 f.fields 2048 != 0) = u.Mask
  Target : (andI .i64 f.fields 4096 != 0) = u.Target
  Pointer : (andI .i64 f.fields 8192 != 0) = u.Pointer
  Source : (andI .i64 f.fields 16384 != 0) = u.Source
  Calc : (andI .i64 f.fields 32768 != 0) = u.Calculation
  class1 : u.Type_ = 0 ∨ u.Type_ = f.types
  class2 : u.Second = 0 ∨ u.Second = f.types
  cls : f.types = 0 ∨ f.types = 1 ∨ f.types = 2 ∨ f.types = 3

noncomputable def agreeB (f : hardware_form) (u : ref15_fields) : Bool :=
  ((andI .i64 f.fields 1 != 0) == u.R) && (((andI .i64 f.fields 2 != 0) == u.A) && (((andI .i64 f.fields 4 != 0) == u.B) && (((andI .i64 f.fields 8 != 0) == u.Place) && (((andI .i64 f.fields 16 != 0) == u.From) &&
  (((andI .i64 f.fields 32 != 0) == (u.Type_ != 0)) && (((andI .i64 f.fields 64 != 0) == (u.Second != 0)) && (((andI .i64 f.fields 128 != 0) == u.Half) && (((andI .i64 f.fields 256 != 0) == u.Number) && (((andI .i64 f.fields 512 != 0) == u.Text) &&
  (((andI .i64 f.fields 1024 != 0) == u.Other) && (((andI .i64 f.fields 2048 != 0) == u.Mask) && (((andI .i64 f.fields 4096 != 0) == u.Target) && (((andI .i64 f.fields 8192 != 0) == u.Pointer) && (((andI .i64 f.fields 16384 != 0) == u.Source) &&
  (((andI .i64 f.fields 32768 != 0) == u.Calculation) && ((u.Type_ == 0 || u.Type_ == f.types) && ((u.Second == 0 || u.Second == f.types) && (f.types == 0 || (f.types == 1 || (f.types == 2 || f.types == 3))))))))))))))))))))
theorem agree_of {f : hardware_form} {u : ref15_fields} (h : agreeB f u = true) : Agree f u := by
  simp only [agreeB, Bool.and_eq_true, beq_iff_eq, Bool.or_eq_true] at h
  obtain ⟨h1, h2, h3, h4, h5, h6, h7, h8, h9, h10, h11, h12, h13, h14, h15, h16, h17, h18, h19⟩ := h
  exact ⟨h1, h2, h3, h4, h5, h6, h7, h8, h9, h10, h11, h12, h13, h14, h15, h16, h17, h18, h19⟩

noncomputable def opOk (op : Int) (ins : Bool) : Bool := match formO op ins, usedO op ins with
  | some f, some u => (agreeB f u && ((!u.From || u.Second != 0) && (!u.Place || cond (op == 4) (u.Second != 0) (u.Type_ != 0)))) && (cond (op == 4) (u.R && u.A && u.Calculation && (u.Place == ins) && (u.Second != 0) == ins) (u.Calculation == false))
  | _, _ => false
theorem ops_ok : ((List.range 27).all fun k => opOk (k : Int) true && opOk (k : Int) false) = true := by kernel_rfl

theorem form_used (x : HwInstruction) (h : inB x.Op 0 26 = true) : ∃ f u, hardware_formOf x = some f ∧ ref15_used x = some u ∧ Agree f u ∧ (x.Op = 4 → u.Place = x.InStorage) ∧ (u.From = true → u.Second ≠ 0) ∧ (u.Place = true → if x.Op = 4 then u.Second ≠ 0 else u.Type_ ≠ 0) := by
  obtain ⟨h1, h2⟩ := inB_iff.1 h
  obtain ⟨k, hk⟩ : ∃ k : Nat, x.Op = (k : Int) := ⟨x.Op.toNat, by omega⟩
  have hlt : k < 27 := by omega
  have h3 := List.all_eq_true.1 ops_ok k (by simpa using hlt)
  have h4 : opOk x.Op x.InStorage = true := by
    rw [hk]
    cases x.InStorage
    · exact ((Bool.and_eq_true _ _).mp h3).2
    · exact ((Bool.and_eq_true _ _).mp h3).1
  rw [form_O, used_O]
  unfold opOk at h4
  split at h4
  · rename_i f u hf hu
    obtain ⟨h5, h6⟩ := (Bool.and_eq_true _ _).mp h4
    simp only [Bool.and_eq_true] at h5
    obtain ⟨h5, h8, h9⟩ := h5
    refine ⟨f, u, hf, hu, agree_of h5, fun h7 => ?_, fun h7 => ?_, fun h7 => ?_⟩
    · rw [h7] at h6
      simp only [beq_self_eq_true, cond_true, Bool.and_eq_true, beq_iff_eq] at h6
      exact h6.1.2
    · rw [h7] at h8
      simpa using h8
    · rw [h7] at h9
      split
      · rename_i h10
        rw [h10] at h9
        simpa using h9
      · rename_i h10
        rw [ibeq, decide_eq_false h10] at h9
        simpa using h9
  · cases h4

/-! ### what a form keeps -/
theorem beqNot (a b : Int) : (a == b) = !(a != b) := by simp [bne]

noncomputable def extraB (x : HwInstruction) (u : ref15_fields) : Bool :=
  (!u.R && x.R != 0) || ((!u.A && x.A != 0) || ((!u.B && x.B != 0) || ((!u.Calculation && x.Calculation != 0) || ((!u.Place && !(!x.Place.Based && (x.Place.Pointer == 0 && x.Place.Offset == 0))) ||
  ((!u.From && !(!x.From.Based && (x.From.Pointer == 0 && x.From.Offset == 0))) || ((u.Type_ == 0 && !(x.Type_.Kind == 0 && (x.Type_.Length == 0 && x.Type_.Scale == 0))) || ((u.Second == 0 && !(x.Second.Kind == 0 && (x.Second.Length == 0 && x.Second.Scale == 0))) ||
  ((!u.Half && x.Half) || ((x.Op != 4 && x.InStorage) || ((!u.Number && !(x.Number.N == 0 && x.Number.Scale == 0)) || ((!u.Text && !(x.Text.toList == [])) || ((!u.Other && !(x.Other.toList == [])) ||
  ((!u.Mask && x.Mask != 0) || ((!u.Target && x.Target != 0) || ((!u.Pointer && x.Pointer != 0) || ((!u.Source && x.Source != 0) || ((!x.Place.Based && x.Place.Pointer != 0) || (!x.From.Based && x.From.Pointer != 0))))))))))))))))))

theorem orB (a b : Bool) : (cond a (some true) (some b)) = some (a || b) := by cases a <;> rfl
theorem andB (a b : Bool) : (cond a (some b) (some false)) = some (a && b) := by cases a <;> rfl
theorem andO (a : Bool) (b : Option Bool) (c : Bool) (h : b = some c) : (cond a b (some false)) = some (a && c) := by subst h; cases a <;> rfl
theorem rf_extra (x : HwInstruction) (u : ref15_fields) : ref15_hasExtra x u = some (extraB x u) := by
  unfold ref15_hasExtra extraB
  have e : (⟨#[]⟩ : ByteArray).toList = [] := by kernel_rfl
  simp only [andB, orB, Option.bind_some, eqAll, Bool.and_true, e, Bool.or_assoc, beq_false]
end Go.Proofs.YtppbpnknfigboaaGreatDoor.M

namespace Go.Proofs.YtppbpnknfigboaaGreatDoor.M
open Go Go.Amx
set_option linter.unusedVariables false
set_option linter.unusedSimpArgs false
set_option maxRecDepth 100000

def placeK (p : HwPlace) (b : Bool) : HwPlace := cond b (cond p.Based p ⟨p.Based, 0, p.Offset⟩) ⟨false, 0, 0⟩
theorem hw_placeK (p : HwPlace) (b : Bool) : hardware_place p b = some (placeK p b) := by
  unfold hardware_place placeK
  cases b <;> cases p.Based <;> rfl
theorem hw_c1 (k v fl : Int) : hardware_kept_c1 k v fl = some (cond (andI .i64 fl k != 0) v 0) := by
  unfold hardware_kept_c1
  rw [beqNot]
  cases (andI .i64 fl k != 0) <;> rfl

noncomputable def keptF (x : HwInstruction) (u : ref15_fields) : HwInstruction :=
  ⟨x.Op, cond u.R x.R 0, cond u.A x.A 0, cond u.B x.B 0, cond u.Calculation x.Calculation 0, placeK x.Place u.Place, placeK x.From u.From, cond (u.Type_ != 0) x.Type_ ⟨0, 0, 0⟩, cond (u.Second != 0) x.Second ⟨0, 0, 0⟩,
    cond x.Half u.Half false, cond x.InStorage (x.Op == 4) false, cond u.Number x.Number ⟨0, 0⟩, cond u.Text x.Text ⟨#[]⟩, cond u.Other x.Other ⟨#[]⟩, cond u.Mask x.Mask 0, cond u.Target x.Target 0, cond u.Pointer x.Pointer 0, cond u.Source x.Source 0⟩

theorem hw_kept {x : HwInstruction} {f : hardware_form} {u : ref15_fields} (hf : hardware_formOf x = some f) (ag : Agree f u) : hardware_kept x = some (keptF x u) := by
  have b2 : ∀ a b : Bool, (cond a (some b) (some false)) = some (cond a b false) := fun a b => by cases a <;> rfl
  unfold hardware_kept keptF
  simp only [hf, hw_c1, hw_placeK, b2, Option.bind_some, beqNot (andI .i64 f.fields 32), beqNot (andI .i64 f.fields 64), beqNot (andI .i64 f.fields 256), beqNot (andI .i64 f.fields 512), beqNot (andI .i64 f.fields 1024),
    ag.R, ag.A, ag.B, ag.Place, ag.From, ag.Type_, ag.Second, ag.Half, ag.Number, ag.Text, ag.Other, ag.Mask, ag.Target, ag.Pointer, ag.Source, ag.Calc]
  cases (u.Type_ != 0) <;> cases (u.Second != 0) <;> cases u.Number <;> cases u.Text <;> cases u.Other <;> rfl

/-! ### kept is the same: nothing extra -/
theorem keepN (b : Bool) (n : Int) : (!(cond b n 0 == n)) = (!b && n != 0) := by
  cases b
  · by_cases h : n = 0
    · simp [h]
    · simp [h, ibeq, ibne, Ne.symm h]
  · simp
theorem bbeq (a b : ByteArray) : (a == b) = decide (a = b) := by
  cases a with | mk x =>
  cases b with | mk y =>
  show ByteArray.beq _ _ = _
  unfold ByteArray.beq
  by_cases h : x = y
  · simp [h]
  · simp [h]
theorem keepT (b : Bool) (t : ByteArray) : (!(cond b t (⟨#[]⟩ : ByteArray) == t)) = (!b && !(t.toList == [])) := by
  rw [bbeq]
  cases b
  · simp only [cond_false, Bool.not_false, Bool.true_and]
    congr 1
    rw [Lib.toList_data]
    by_cases h : t = ⟨#[]⟩
    · subst h; rfl
    · rw [decide_eq_false (Ne.symm h)]
      symm
      rw [beq_eq_false_iff_ne]
      intro hh
      apply h
      cases t with
      | mk d => simp at hh; rw [hh]
  · simp
theorem keepH (a b : Bool) : (!(cond a b false == a)) = (!b && a) := by cases a <;> cases b <;> rfl
theorem keepI (a : Bool) (op : Int) : (!(cond a (op == 4) false == a)) = (op != 4 && a) := by
  cases a
  · simp
  · simp [bne]
theorem keepP (p : HwPlace) (b r : Bool) : (!((placeK p b).Based == p.Based) || (!((placeK p b).Pointer == p.Pointer) || (!((placeK p b).Offset == p.Offset) || r))) =
    ((!b && !(!p.Based && (p.Pointer == 0 && p.Offset == 0))) || ((!p.Based && p.Pointer != 0) || r)) := by
  obtain ⟨ba, pt, of⟩ := p
  cases b <;> cases ba <;> by_cases h1 : pt = 0 <;> by_cases h2 : of = 0 <;> simp [placeK, ibeq, ibne, h1, h2, eq_comm (a := (0 : Int))]
theorem keepD (t : DataType) (b : Int) (r : Bool) : (!((cond (b != 0) t ⟨0, 0, 0⟩).Kind == t.Kind) || (!((cond (b != 0) t ⟨0, 0, 0⟩).Length == t.Length) || (!((cond (b != 0) t ⟨0, 0, 0⟩).Scale == t.Scale) || r))) =
    ((b == 0 && !(t.Kind == 0 && (t.Length == 0 && t.Scale == 0))) || r) := by
  obtain ⟨k, l, s⟩ := t
  by_cases h0 : b = 0 <;> by_cases h1 : k = 0 <;> by_cases h2 : l = 0 <;> by_cases h3 : s = 0 <;> simp [ibeq, ibne, h0, h1, h2, h3, eq_comm (a := (0 : Int))]
end Go.Proofs.YtppbpnknfigboaaGreatDoor.M

namespace Go.Proofs.YtppbpnknfigboaaGreatDoor.M
open Go Go.Amx
set_option linter.unusedVariables false
set_option linter.unusedSimpArgs false
set_option maxRecDepth 100000

theorem keepU (t : Number) (b r : Bool) : (!((cond b t ⟨0, 0⟩).N == t.N) || (!((cond b t ⟨0, 0⟩).Scale == t.Scale) || r)) = ((!b && !(t.N == 0 && t.Scale == 0)) || r) := by
  obtain ⟨n, s⟩ := t
  cases b <;> by_cases h1 : n = 0 <;> by_cases h2 : s = 0 <;> simp [ibeq, ibne, h1, h2, eq_comm (a := (0 : Int))]

theorem kept_extra (x : HwInstruction) (u : ref15_fields) (r2 : HwInstruction) (h : r2 = keptF x u) :
    (!(eqAll [(r2.Op == x.Op), (r2.R == x.R), (r2.A == x.A), (r2.B == x.B), (r2.Calculation == x.Calculation), (r2.Place.Based == x.Place.Based), (r2.Place.Pointer == x.Place.Pointer), (r2.Place.Offset == x.Place.Offset), (r2.From.Based == x.From.Based), (r2.From.Pointer == x.From.Pointer), (r2.From.Offset == x.From.Offset), (r2.Type_.Kind == x.Type_.Kind), (r2.Type_.Length == x.Type_.Length), (r2.Type_.Scale == x.Type_.Scale), (r2.Second.Kind == x.Second.Kind), (r2.Second.Length == x.Second.Length), (r2.Second.Scale == x.Second.Scale), (r2.Half == x.Half), (r2.InStorage == x.InStorage), (r2.Number.N == x.Number.N), (r2.Number.Scale == x.Number.Scale), (r2.Text == x.Text), (r2.Other == x.Other), (r2.Mask == x.Mask), (r2.Target == x.Target), (r2.Pointer == x.Pointer), (r2.Source == x.Source)])) = extraB x u := by
  subst h
  simp only [eqAll, Bool.not_and, keptF]
  rw [keepP x.Place, keepP x.From, keepD x.Type_, keepD x.Second, keepU x.Number]
  simp only [keepN, keepT, keepH, keepI, beq_self_eq_true, Bool.not_true, Bool.false_or, Bool.or_false, extraB, bne]
  ac_rfl

/-! ### types of an instruction -/
def wantE (t : DataType) (c : Int) : Int := if c = 0 then 0 else if typeE t = 0 then (if (c = 1 ∧ ¬ (1 ≤ t.Kind ∧ t.Kind ≤ 3)) ∨ (c = 2 ∧ t.Kind ≠ 0) ∨ (c = 3 ∧ t.Kind = 4) then 17 else 0) else typeE t
theorem wantE_type {t : DataType} {c : Int} (h : wantE t c = 0) (hc : c ≠ 0) : typeE t = 0 := by
  unfold wantE at h
  rw [if_neg hc] at h
  by_cases h0 : typeE t = 0
  · exact h0
  · rw [if_neg h0] at h
    exact absurd h h0
theorem hw_typeErr (N : Nat) (hN : 10 < N) (t : DataType) (c : Int) (hc : c = 1 ∨ c = 2 ∨ c = 3) : hardware_typeErr N t c = some (wantE t c) := by
  have f2 : ∀ a b : Int, hardware_first N [a, b] = some (fst0 [a, b]) := fun a b => hw_first N _ (by simp; omega) (by simp)
  unfold hardware_typeErr wantE
  rw [nu_type N hN]
  simp only [hw_cond, f2, andB, orB, Option.bind_some, ibeq, ibne]
  have hc0 : c ≠ 0 := by omega
  rw [if_neg hc0]
  by_cases h : typeE t = 0
  · rw [if_pos h, h]
    simp only [fst0, if_true]
    rcases type_facts h with ⟨h0, _⟩ | ⟨h0 | h0, _⟩ | ⟨h0, _⟩ | ⟨h0, _⟩ <;> rcases hc with rfl | rfl | rfl <;> simp [h0]
  · rw [if_neg h]
    simp only [fst0, h, if_false]
theorem rf_typeErr (t : DataType) (c : Int) (hc : c = 0 ∨ c = 1 ∨ c = 2 ∨ c = 3) : ref15_typeErr t c = some (wantE t c) := by
  unfold ref15_typeErr wantE
  rw [rf_type]
  simp only [rf_numeric, andB, orB, Option.bind_some, ibeq, ibne]
  by_cases hc0 : c = 0
  · simp [hc0]
  · rw [if_neg hc0]
    simp only [hc0, decide_false, cond_false]
    by_cases h : typeE t = 0
    · rw [if_pos h, h]
      rcases type_facts h with ⟨h0, _⟩ | ⟨h0 | h0, _⟩ | ⟨h0, _⟩ | ⟨h0, _⟩ <;> rcases hc with rfl | rfl | rfl | rfl <;> first | exact absurd rfl hc0 | simp [h0, inB]
    · rw [if_neg h]
      simp [h]

theorem hw_types (N : Nat) (hN : 10 < N) {x : HwInstruction} {f : hardware_form} {u : ref15_fields} (ag : Agree f u) : hardware_typesErr N x f = some (fst0 [wantE x.Type_ u.Type_, wantE x.Second u.Second]) := by
  have w0 : ∀ t, wantE t 0 = 0 := fun t => by simp [wantE]
  have hcls : ∀ c, c ≠ 0 → (c = 0 ∨ c = f.types) → c = f.types ∧ (f.types = 1 ∨ f.types = 2 ∨ f.types = 3) := by
    intro c h0 h1
    have := ag.cls
    omega
  have eta : ∀ t : DataType, (⟨t.Kind, t.Length, t.Scale⟩ : DataType) = t := fun t => rfl
  unfold hardware_typesErr
  rw [ag.Type_, ag.Second]
  by_cases h1 : u.Type_ = 0
  · by_cases h2 : u.Second = 0
    · simp [h1, h2, w0, fst0]
    · obtain ⟨e2, c2⟩ := hcls _ h2 ag.class2
      have ht := fun t => hw_typeErr N hN t f.types c2
      have h0 : f.types ≠ 0 := by omega
      simp only [eta, ht, h1, e2, w0]
      by_cases h3 : wantE x.Second f.types = 0 <;> simp [h3, h0, fst0, ibne]
  · obtain ⟨e1, c1⟩ := hcls _ h1 ag.class1
    have ht := fun t => hw_typeErr N hN t f.types c1
    have h0 : f.types ≠ 0 := by omega
    by_cases h2 : u.Second = 0
    · simp only [eta, ht, h2, e1, w0]
      by_cases h3 : wantE x.Type_ f.types = 0 <;> simp [h3, h0, fst0, ibne]
    · obtain ⟨e2, c2⟩ := hcls _ h2 ag.class2
      simp only [eta, ht, e2, e1]
      by_cases h3 : wantE x.Type_ f.types = 0 <;> by_cases h4 : wantE x.Second f.types = 0 <;> simp [h3, h4, h0, fst0, ibne]
end Go.Proofs.YtppbpnknfigboaaGreatDoor.M

namespace Go.Proofs.YtppbpnknfigboaaGreatDoor.M
open Go Go.Amx
set_option linter.unusedVariables false
set_option linter.unusedSimpArgs false
set_option maxRecDepth 100000

/-! ### registers -/
def regL (x : HwInstruction) (u : ref15_fields) : List Int := cond u.R [x.R] [] ++ (cond u.A [x.A] [] ++ cond u.B [x.B] [])
theorem hw_regs (n : Nat) {x : HwInstruction} {f : hardware_form} {u : ref15_fields} (hf : hardware_formOf x = some f) (ag : Agree f u) : hardware_registers (n + 10) x = some (regL x u) := by
  have s0 : IntKind.wrap .i64 (1 * 2 ^ (min ((0 : Int).toNat) 64)) = 1 := by decide
  have s1 : IntKind.wrap .i64 (1 * 2 ^ (min ((1 : Int).toNat) 64)) = 2 := by decide
  have s2 : IntKind.wrap .i64 (1 * 2 ^ (min ((2 : Int).toNat) 64)) = 4 := by decide
  have a0 : IntKind.wrap .i64 (0 + 1) = 1 := by decide
  have a1 : IntKind.wrap .i64 (1 + 1) = 2 := by decide
  have a2 : IntKind.wrap .i64 (2 + 1) = 3 := by decide
  have rm : ∀ k : Nat, k ≤ 3 → Nat.ble (k * 8) room = true := fun k hk => Nat.ble_eq_true_of_le (by unfold room; omega)
  unfold hardware_registers
  rw [hf]
  simp only [Option.bind_some]
  have i0 : ∀ l, hardware_registers.r0 (n + 10) (l, f.fields, [x.R, x.A, x.B], (([x.R, x.A, x.B] : List Int).length : Int), 0) = some (.again (cond u.R (l ++ [x.R]) l, f.fields, [x.R, x.A, x.B], (([x.R, x.A, x.B] : List Int).length : Int), 1)) ∨ l.length > 2 := by
    intro l
    by_cases hl : l.length > 2
    · exact .inr hl
    · left
      simp only [hardware_registers.r0, hardware_registers.b0, s0, a0, ag.R]
      have := rm (l.length + 1) (by omega)
      cases u.R <;> simp [this]
  have i1 : ∀ l, hardware_registers.r0 (n + 10) (l, f.fields, [x.R, x.A, x.B], (([x.R, x.A, x.B] : List Int).length : Int), 1) = some (.again (cond u.A (l ++ [x.A]) l, f.fields, [x.R, x.A, x.B], (([x.R, x.A, x.B] : List Int).length : Int), 2)) ∨ l.length > 2 := by
    intro l
    by_cases hl : l.length > 2
    · exact .inr hl
    · left
      simp only [hardware_registers.r0, hardware_registers.b0, s1, a1, ag.A]
      have := rm (l.length + 1) (by omega)
      cases u.A <;> simp [this]
  have i2 : ∀ l, hardware_registers.r0 (n + 10) (l, f.fields, [x.R, x.A, x.B], (([x.R, x.A, x.B] : List Int).length : Int), 2) = some (.again (cond u.B (l ++ [x.B]) l, f.fields, [x.R, x.A, x.B], (([x.R, x.A, x.B] : List Int).length : Int), 3)) ∨ l.length > 2 := by
    intro l
    by_cases hl : l.length > 2
    · exact .inr hl
    · left
      simp only [hardware_registers.r0, hardware_registers.b0, s2, a2, ag.B]
      have := rm (l.length + 1) (by omega)
      cases u.B <;> simp [this]
  have i3 : ∀ l, hardware_registers.r0 (n + 10) (l, f.fields, [x.R, x.A, x.B], (([x.R, x.A, x.B] : List Int).length : Int), 3) = some (.leave (l, f.fields, [x.R, x.A, x.B], (([x.R, x.A, x.B] : List Int).length : Int), 3)) := by
    intro l
    simp [hardware_registers.r0, hardware_registers.b0]
  have l1 : (cond u.R ([] ++ [x.R]) ([] : List Int)).length ≤ 1 := by cases u.R <;> simp
  have l2 : (cond u.A (cond u.R ([] ++ [x.R]) ([] : List Int) ++ [x.A]) (cond u.R ([] ++ [x.R]) ([] : List Int))).length ≤ 2 := by cases u.R <;> cases u.A <;> simp
  show (iterP (hardware_registers.r0 (n + 10)) (n + 10) _).bind _ = _
  simp only [iterP]
  rw [(i0 []).resolve_right (by simp)]
  simp only [Option.bind_some]
  rw [(i1 _).resolve_right (by omega)]
  simp only [Option.bind_some]
  rw [(i2 _).resolve_right (by omega)]
  simp only [Option.bind_some]
  rw [i3]
  simp only [Option.bind_some, regL]
  cases u.R <;> cases u.A <;> cases u.B <;> rfl

def regBad (m : HwModel) (r : Int) : Bool := !inB r 0 (m.Registers - 1)
theorem hw_contains (N : Nat) (l : List Int) (h : l.length < N) (hl : l.length < 1000000000) (m : HwModel) (hm : 2 ≤ m.Registers ∧ m.Registers ≤ 8) : slices_ContainsFunc_int_f140 N l m = some (l.any (regBad m)) := by
  unfold slices_ContainsFunc_int_f140 slices_IndexFunc_int_f140
  have c1 : ∀ r, hardware_isRange_c1 r m = some (regBad m r) := fun r => by
    unfold hardware_isRange_c1 regBad
    rw [wrap64 (by omega) (by omega), hw_in]
    rfl
  have := iterR_count (f := slices_IndexFunc_int_f140.r0 N) (fun i => (l, (l.length : Int), (i : Int), m)) (fun i => (l[i]?).bind fun x => if regBad m x then some (i : Int) else none) l.length
    (fun i hi => by
      have hx := List.getElem?_eq_getElem hi
      simp only [slices_IndexFunc_int_f140.r0, slices_IndexFunc_int_f140.b0, idx_nat, hx, Option.bind_some, decide_eq_true (show (i : Int) < (l.length : Int) by omega), cond_true, c1]
      rw [wrap64 (by omega) (by omega)]
      cases hb : regBad m l[i] <;> simp)
    (by simp only [slices_IndexFunc_int_f140.r0, slices_IndexFunc_int_f140.b0, decide_eq_false (show ¬ (l.length : Int) < (l.length : Int) by omega), cond_false]) h
  simp only [Int.natCast_zero] at this
  rw [this]
  simp only [Option.bind_some]
  cases hfs : (List.range l.length).findSome? (fun i : Nat => (l[i]?).bind fun x => if regBad m x = true then some (i : Int) else none) with
  | some r =>
    simp only [resR, Option.bind_some]
    obtain ⟨i, hi, hr⟩ := List.exists_of_findSome?_eq_some hfs
    rw [Option.bind_eq_some_iff] at hr
    obtain ⟨x, hx, hr⟩ := hr
    split at hr
    · rename_i hb
      cases hr
      have : l.any (regBad m) = true := List.any_eq_true.2 ⟨x, List.mem_of_getElem? hx, hb⟩
      rw [this]
      simp
    · cases hr
  | none =>
    simp only [resR, Option.bind_some]
    rw [List.findSome?_eq_none_iff] at hfs
    have : l.any (regBad m) = false := by
      rw [List.any_eq_false]
      intro x hx hb
      obtain ⟨i, hi⟩ := List.getElem?_of_mem hx
      have := hfs i (by simp; exact (List.getElem?_eq_some_iff.1 hi).1)
      rw [hi] at this
      simp [hb] at this
    rw [this]
    rfl
theorem rf_regs (m : HwModel) (hm : 2 ≤ m.Registers ∧ m.Registers ≤ 8) {x : HwInstruction} {u : ref15_fields} (hu : ref15_used x = some u) : ref15_hasRegisters m x = some (!(regL x u).any (regBad m)) := by
  have c1 : ∀ r, ref15_isRegister m r = some (!regBad m r) := fun r => by
    unfold ref15_isRegister regBad
    rw [wrap64 (by omega) (by omega), rf_in]
    simp
  unfold ref15_hasRegisters
  rw [hu]
  have aux : ∀ b r, (cond b [r] []).any (regBad m) = (b && regBad m r) := fun b r => by cases b <;> simp
  simp only [c1, Option.bind_some, regL, List.any_append, aux]
  generalize regBad m x.R = p
  generalize regBad m x.A = q
  generalize regBad m x.B = r
  cases u.R <;> cases u.A <;> cases u.B <;> cases p <;> cases q <;> cases r <;> rfl
end Go.Proofs.YtppbpnknfigboaaGreatDoor.M

namespace Go.Proofs.YtppbpnknfigboaaGreatDoor.M
open Go Go.Amx
set_option linter.unusedVariables false
set_option linter.unusedSimpArgs false
set_option maxRecDepth 100000

/-- The type of the place. -/
def placedT (x : HwInstruction) : DataType := if x.Op = 4 then x.Second else x.Type_

/-- Something of an instruction is out of its range. -/
noncomputable def rangeBad (m : HwModel) (c : HwCode) (x : HwInstruction) (u : ref15_fields) : Bool :=
  (regL x u).any (regBad m) || ((u.Target && !inB x.Target 0 ((c.Instructions.length : Int) - 1)) || ((u.Mask && !inB x.Mask 1 7) || ((u.Pointer && !quadB c.Storage x.Pointer) || ((u.Source && !quadB c.Storage x.Source) ||
    ((u.Place && !placeB c.Storage x.Place (szE (placedT x))) || ((u.From && !placeB c.Storage x.From (szE x.Second)) || (u.Calculation && !inB x.Calculation 0 4)))))))

theorem eD (t : DataType) : (⟨t.Kind, t.Length, t.Scale⟩ : DataType) = t := rfl
theorem eP (t : HwPlace) : (⟨t.Based, t.Pointer, t.Offset⟩ : HwPlace) = t := rfl
theorem eS (t : Storage) : (⟨t.Bytes, t.Tags⟩ : Storage) = t := rfl
theorem eN (t : Number) : (⟨t.N, t.Scale⟩ : Number) = t := rfl
theorem eM (t : HwModel) : (⟨t.Registers, t.Fused, t.Memory⟩ : HwModel) = t := rfl
theorem eC (t : HwCode) : (⟨t.Storage, t.Instructions, t.Traps⟩ : HwCode) = t := rfl
theorem eX (t : HwInstruction) : (⟨t.Op, t.R, t.A, t.B, t.Calculation, t.Place, t.From, t.Type_, t.Second, t.Half, t.InStorage, t.Number, t.Text, t.Other, t.Mask, t.Target, t.Pointer, t.Source⟩ : HwInstruction) = t := rfl
theorem eF (t : hardware_form) : (⟨t.fields, t.types⟩ : hardware_form) = t := rfl

theorem nF (a b : Bool) : (cond a (some (!b)) (some false)) = some (a && !b) := by cases a <;> rfl

/-- What is known of an instruction whose types are right. -/
structure InsOk (c : HwCode) (x : HwInstruction) (u : ref15_fields) : Prop where
  sto : StoOk c.Storage
  len : c.Instructions.length < 1000000000
  pt : u.Place = true → typeE (placedT x) = 0
  ft : u.From = true → typeE x.Second = 0
  po : -9223372036854775808 ≤ x.Place.Offset ∧ x.Place.Offset ≤ 9223372036854775807
  fo : -9223372036854775808 ≤ x.From.Offset ∧ x.From.Offset ≤ 9223372036854775807

theorem andK {a b : Bool} {o : Option Bool} (h : a = true → o = some b) : (cond a o (some false)) = some (a && b) := by
  cases a
  · rfl
  · exact h rfl

theorem hw_range (N : Nat) (hN : 20 < N) {m : HwModel} (hm : 2 ≤ m.Registers ∧ m.Registers ≤ 8) {c : HwCode} {x : HwInstruction} {f : hardware_form} {u : ref15_fields} (hf : hardware_formOf x = some f) (ag : Agree f u) (ok : InsOk c x u) :
    hardware_isRange N m c x = some (!rangeBad m c x u) := by
  obtain ⟨n, rfl⟩ : ∃ n, N = n + 10 := ⟨N - 10, by omega⟩
  have hl : (regL x u).length ≤ 3 := by unfold regL; cases u.R <;> cases u.A <;> cases u.B <;> simp
  have hlen := ok.len
  have g1 : ∀ p t, (u.Place = true → typeE t = 0) → (cond u.Place ((hardware_isPlace (n + 10) c.Storage p t).bind fun r => some (!r)) (some false)) = some (u.Place && !placeB c.Storage p (szE t)) := fun p t h => andK fun hp => by rw [hw_place ok.sto _ (by omega) _ (h hp)]; rfl
  have g2 : ∀ p t, (u.From = true → typeE t = 0) → (cond u.From ((hardware_isPlace (n + 10) c.Storage p t).bind fun r => some (!r)) (some false)) = some (u.From && !placeB c.Storage p (szE t)) := fun p t h => andK fun hp => by rw [hw_place ok.sto _ (by omega) _ (h hp)]; rfl
  unfold hardware_isRange
  simp only [eD, eP, eS, eM, eC, eX]
  rw [hf, hw_regs n hf ag]
  simp only [Option.bind_some]
  rw [hw_contains _ _ (by omega) (by omega) m hm]
  simp only [Option.bind_some]
  unfold rangeBad
  cases hr : (regL x u).any (regBad m) with
  | true => rfl
  | false =>
    simp only [cond_false, Bool.false_or, ag.Place, ag.From, ag.Target, ag.Mask, ag.Pointer, ag.Source, ag.Calc, andB, ibeq, Option.bind_some]
    rw [wrap64 (by omega) (by omega)]
    simp only [hw_in, hw_quad, nF, Option.bind_some]
    by_cases h4 : x.Op = 4
    · have hp : placedT x = x.Second := if_pos h4
      have k := ok.pt
      rw [hp] at k ⊢
      rw [g2 _ _ ok.ft]
      cases hup : u.Place with
      | true =>
        simp only [h4, decide_true, Bool.and_true, cond_true, Bool.true_and]
        have := g1 x.Place x.Second k
        rw [hup] at this
        simp only [cond_true, Bool.true_and] at this
        rw [this]
        simp only [orB, Option.bind_some, Bool.or_assoc, Bool.true_and]
      | false =>
        simp only [h4, decide_true, Bool.false_and, cond_false, Option.bind_some, orB, Bool.or_assoc, Bool.false_or]
    · have hp : placedT x = x.Type_ := if_neg h4
      have k := ok.pt
      rw [hp] at k ⊢
      rw [g1 _ _ k, g2 _ _ ok.ft]
      simp only [h4, decide_false, Bool.and_false, cond_false, Option.bind_some, orB, Bool.or_assoc]
end Go.Proofs.YtppbpnknfigboaaGreatDoor.M

namespace Go.Proofs.YtppbpnknfigboaaGreatDoor.M
open Go Go.Amx
set_option linter.unusedVariables false
set_option linter.unusedSimpArgs false
set_option maxRecDepth 100000

def lacksB (m : HwModel) (x : HwInstruction) : Bool := (decide (x.Op = 7) && !m.Fused) || (x.InStorage && !m.Memory)
def longB (x : HwInstruction) : Bool := decide ((x.Text.size : Int) > 256) || decide ((x.Other.size : Int) > 256)

theorem hw_has (m : HwModel) (x : HwInstruction) (h : x.InStorage = true → x.Op = 4) : hardware_has m x = some (!lacksB m x) := by
  unfold hardware_has lacksB
  by_cases h7 : x.Op = 7
  · have h4 : x.InStorage = false := by
      cases hi : x.InStorage with
      | false => rfl
      | true => have := h hi; omega
    rw [h4]
    simp only [h7, ibne]
    cases m.Fused <;> rfl
  · by_cases h4 : x.Op = 4
    · simp only [h4, ibne]
      cases x.InStorage <;> cases m.Memory <;> rfl
    · have h5 : x.InStorage = false := by
        cases hi : x.InStorage with
        | false => rfl
        | true => exact absurd (h hi) h4
      simp [h5, h7, h4, ibne]
theorem rf_lacks (m : HwModel) (x : HwInstruction) : ref15_lacks m x = some (lacksB m x) := by
  unfold ref15_lacks lacksB
  simp only [ibeq]
  cases decide (x.Op = 7) <;> cases m.Fused <;> cases x.InStorage <;> cases m.Memory <;> rfl

/-- The error of an instruction with a right operation. -/
noncomputable def insE (m : HwModel) (c : HwCode) (x : HwInstruction) (u : ref15_fields) : Int :=
  cond (extraB x u) 5 (cond (lacksB m x) 39 (if wantE x.Type_ u.Type_ ≠ 0 then wantE x.Type_ u.Type_ else if wantE x.Second u.Second ≠ 0 then wantE x.Second u.Second else
    cond (rangeBad m c x u) 3 (if numE x.Number ≠ 0 then numE x.Number else cond (longB x) 2 0)))

theorem extra_facts {x : HwInstruction} {u : ref15_fields} (h : extraB x u = false) : (x.InStorage = true → x.Op = 4) ∧ (u.Number = false → numE x.Number = 0) := by
  unfold extraB at h
  simp only [Bool.or_eq_false_iff] at h
  obtain ⟨_, _, _, _, _, _, _, _, _, h10, h11, _⟩ := h
  constructor
  · intro hi
    rw [hi] at h10
    simpa using h10
  · intro hn
    rw [hn] at h11
    simp only [Bool.not_false, Bool.true_and, Bool.not_eq_eq_eq_not, Bool.not_true, Bool.and_eq_true, beq_iff_eq, Bool.not_eq_false'] at h11
    obtain ⟨e1, e2⟩ : x.Number.N = 0 ∧ x.Number.Scale = 0 := by simpa using h11
    unfold numE
    rw [e1, e2]
    decide

theorem hw_ins (N : Nat) (hN : 20 < N) {m : HwModel} (hm : 2 ≤ m.Registers ∧ m.Registers ≤ 8) {c : HwCode} {x : HwInstruction} {f : hardware_form} {u : ref15_fields} (hop : inB x.Op 0 26 = true) (hf : hardware_formOf x = some f) (ag : Agree f u)
    (ok : wantE x.Type_ u.Type_ = 0 → wantE x.Second u.Second = 0 → InsOk c x u) : hardware_instructionErr N m c x = some (insE m c x u) := by
  have f3 : ∀ a b d : Int, hardware_first N [a, b, d] = some (fst0 [a, b, d]) := fun a b d => hw_first N _ (by simp; omega) (by simp)
  unfold hardware_instructionErr insE
  simp only [eD, eP, eS, eM, eC, eX, eN, eF]
  rw [hw_in, hop, hf, hw_kept hf ag]
  simp only [Option.bind_some, Bool.not_true, cond_false]
  rw [hw_types N (by omega) ag]
  rw [kept_extra x u _ rfl]
  simp only [hw_cond, nu_number, Option.bind_some, f3, orB]
  cases he : extraB x u with
  | true =>
    have hx : ∃ b, hardware_has m x = some b := by
      unfold hardware_has
      cases (x.Op != 7) <;> cases m.Fused <;> cases (x.Op != 4) <;> cases x.InStorage <;> cases m.Memory <;> exact ⟨_, rfl⟩
    obtain ⟨b, hb⟩ := hx
    rw [hb]
    simp [fst0]
  | false =>
    obtain ⟨h1, h2⟩ := extra_facts he
    rw [hw_has m x h1]
    simp only [Option.bind_some, Bool.not_not, cond_false]
    cases lacksB m x with
    | true => simp [fst0]
    | false =>
      simp only [cond_false]
      by_cases e1 : wantE x.Type_ u.Type_ = 0
      · by_cases e2 : wantE x.Second u.Second = 0
        · rw [hw_range N hN hm hf ag (ok e1 e2)]
          simp only [e1, e2, fst0, if_true, Option.bind_some, Bool.not_not]
          cases rangeBad m c x u with
          | true => simp
          | false =>
            by_cases e3 : numE x.Number = 0
            · cases hl : longB x with
              | true => unfold longB at hl; simp [e3, hl]
              | false => unfold longB at hl; simp [e3, hl]
            · simp [e3]
        · simp [fst0, e1, e2, ibne]
      · simp [fst0, e1, ibne]
end Go.Proofs.YtppbpnknfigboaaGreatDoor.M

namespace Go.Proofs.YtppbpnknfigboaaGreatDoor.M
open Go Go.Amx
set_option linter.unusedVariables false
set_option linter.unusedSimpArgs false
set_option maxRecDepth 100000

theorem classes {f : hardware_form} {u : ref15_fields} (ag : Agree f u) : (u.Type_ = 0 ∨ u.Type_ = 1 ∨ u.Type_ = 2 ∨ u.Type_ = 3) ∧ (u.Second = 0 ∨ u.Second = 1 ∨ u.Second = 2 ∨ u.Second = 3) := by
  have h1 := ag.class1
  have h2 := ag.class2
  have h3 := ag.cls
  omega

theorem rf_ins {m : HwModel} (hm : 2 ≤ m.Registers ∧ m.Registers ≤ 8) {c : HwCode} {x : HwInstruction} {f : hardware_form} {u : ref15_fields} (hop : inB x.Op 0 26 = true) (hu : ref15_used x = some u) (ag : Agree f u)
    (ok : wantE x.Type_ u.Type_ = 0 → wantE x.Second u.Second = 0 → InsOk c x u) : ref15_instructionErr m c x = some (insE m c x u) := by
  obtain ⟨c1, c2⟩ := classes ag
  unfold ref15_instructionErr insE
  simp only [eD, eP, eS, eM, eC, eX, eN, eF]
  rw [rf_in, hop, hu]
  simp only [Option.bind_some, Bool.not_true, cond_false]
  rw [rf_extra, rf_lacks, rf_typeErr _ _ c1, rf_typeErr _ _ c2, rf_regs m hm hu]
  simp only [Option.bind_some]
  cases he : extraB x u with
  | true => rfl
  | false =>
    obtain ⟨h1, h2⟩ := extra_facts he
    simp only [cond_false]
    cases lacksB m x with
    | true => rfl
    | false =>
      simp only [cond_false]
      by_cases e1 : wantE x.Type_ u.Type_ = 0
      · by_cases e2 : wantE x.Second u.Second = 0
        · have o := ok e1 e2
          have hlen := o.len
          have hb : ∀ t, typeE t = 0 → base_Size t = some (szE t) := fun t h => rf_size h
          have g1 : ∀ t, (u.Place = true → typeE t = 0) → (cond u.Place ((base_Size t).bind fun r => (ref15_isPlace c x.Place r).bind fun r => some (!r)) (some false)) = some (u.Place && !placeB c.Storage x.Place (szE t)) := fun t h => andK fun hp => by rw [rf_size (h hp)]; simp only [Option.bind_some]; rw [rf_place o.sto rfl _ o.po (h hp)]; rfl
          have g2 : (cond u.From ((base_Size x.Second).bind fun r => (ref15_isPlace c x.From r).bind fun r => some (!r)) (some false)) = some (u.From && !placeB c.Storage x.From (szE x.Second)) := andK fun hp => by rw [rf_size (o.ft hp)]; simp only [Option.bind_some]; rw [rf_place o.sto rfl _ o.fo (o.ft hp)]; rfl
          have k := o.pt
          have kn : ∀ e : Int, (u.Number = false → e = 0) → (cond (u.Number && e != 0) (some e) (cond (longB x) (some 2) (some 0))) = some (if e ≠ 0 then e else cond (longB x) 2 0) := by
            intro e h
            by_cases h0 : e = 0
            · subst h0; cases u.Number <;> cases longB x <;> rfl
            · cases hn : u.Number with
              | false => exact absurd (h hn) h0
              | true => simp [h0, ibne]
          simp only [e1, e2, bne_self_eq_false, cond_false, ne_eq, not_true_eq_false, if_false, ibeq]
          rw [wrap64 (by omega) (by omega)]
          simp only [rf_in, rf_quad o.sto, rf_number, nF, andB, orB, g2, Option.bind_some, ← longB.eq_def]
          unfold rangeBad
          by_cases h4 : x.Op = 4
          · have hp : placedT x = x.Second := if_pos h4
            rw [hp] at k ⊢
            rw [g1 _ k]
            simp only [h4, decide_true, cond_true, Option.bind_some, kn _ h2]
            generalize (regL x u).any (regBad m) = t1
            generalize (u.Target && !inB x.Target 0 ((c.Instructions.length : Int) - 1)) = t2
            generalize (u.Mask && !inB x.Mask 1 7) = t3
            generalize (u.Pointer && !quadB c.Storage x.Pointer) = t4
            generalize (u.Source && !quadB c.Storage x.Source) = t5
            generalize (u.Place && !placeB c.Storage x.Place (szE x.Second)) = t6
            generalize (u.From && !placeB c.Storage x.From (szE x.Second)) = t7
            generalize (u.Calculation && !inB x.Calculation 0 4) = t8
            cases t1 <;> cases t2 <;> cases t3 <;> cases t4 <;> cases t5 <;> cases t6 <;> cases t7 <;> cases t8 <;> rfl
          · have hp : placedT x = x.Type_ := if_neg h4
            rw [hp] at k ⊢
            rw [g1 _ k]
            simp only [h4, decide_false, cond_false, Option.bind_some, kn _ h2]
            generalize (regL x u).any (regBad m) = t1
            generalize (u.Target && !inB x.Target 0 ((c.Instructions.length : Int) - 1)) = t2
            generalize (u.Mask && !inB x.Mask 1 7) = t3
            generalize (u.Pointer && !quadB c.Storage x.Pointer) = t4
            generalize (u.Source && !quadB c.Storage x.Source) = t5
            generalize (u.Place && !placeB c.Storage x.Place (szE x.Type_)) = t6
            generalize (u.From && !placeB c.Storage x.From (szE x.Second)) = t7
            generalize (u.Calculation && !inB x.Calculation 0 4) = t8
            cases t1 <;> cases t2 <;> cases t3 <;> cases t4 <;> cases t5 <;> cases t6 <;> cases t7 <;> cases t8 <;> rfl
        · simp [e1, e2, ibne]
      · simp [e1, ibne]
end Go.Proofs.YtppbpnknfigboaaGreatDoor.M

namespace Go.Proofs.YtppbpnknfigboaaGreatDoor.M
open Go Go.Amx
set_option linter.unusedVariables false
set_option linter.unusedSimpArgs false
set_option maxRecDepth 100000

/-! ### what fits -/
theorem code_wf {n : Nat} {c : HwCode} (h : Wft En n Ty.HwCode c) : c.Storage.Bytes.size ≤ n ∧ c.Storage.Tags.length ≤ n ∧ c.Instructions.length ≤ n ∧ c.Traps.length ≤ n ∧ ∀ x ∈ c.Instructions, Wft En n Ty.HwInstruction x := by
  have h1 := h (.sc (.string c.Storage.Bytes)) (by show _ ∈ eHwCode c; simp [eHwCode])
  have h2 := h (.lst Ty.bool c.Storage.Tags) (by show _ ∈ eHwCode c; simp [eHwCode])
  have h3 := h (.lst Ty.HwInstruction c.Instructions) (by show _ ∈ eHwCode c; simp [eHwCode])
  have h4 := h (.lst Ty.HwTrap c.Traps) (by show _ ∈ eHwCode c; simp [eHwCode])
  cases h1 with
  | str h1 =>
    cases h2 with
    | lst h2 _ =>
      cases h3 with
      | lst h3 h3' =>
        cases h4 with
        | lst h4 _ => exact ⟨h1, h2, h3, h4, h3'⟩
theorem wfc_i64 {n : Nat} {z : Int} (h : Wfc En n (.sc (.int .i64 z))) : -9223372036854775808 ≤ z ∧ z ≤ 9223372036854775807 := by
  cases h with
  | int h1 h2 =>
    have e1 : IntKind.i64.min = -9223372036854775808 := by decide
    have e2 : IntKind.i64.max = 9223372036854775807 := by decide
    rw [e1] at h1
    rw [e2] at h2
    exact ⟨h1, h2⟩
theorem ins_wf {n : Nat} {x : HwInstruction} (h : Wft En n Ty.HwInstruction x) : (-9223372036854775808 ≤ x.Place.Offset ∧ x.Place.Offset ≤ 9223372036854775807) ∧ (-9223372036854775808 ≤ x.From.Offset ∧ x.From.Offset ≤ 9223372036854775807) :=
  ⟨wfc_i64 (h _ (by show _ ∈ eHwInstruction x; simp [eHwInstruction])), wfc_i64 (h _ (by show _ ∈ eHwInstruction x; simp [eHwInstruction]))⟩

/-! ### one instruction -/
noncomputable def errI (m : HwModel) (c : HwCode) (x : HwInstruction) : Int := if inB x.Op 0 26 = true then insE m c x ((ref15_used x).getD ⟨false, false, false, false, false, false, false, false, false, false, false, false, false, false, 0, 0⟩) else 4
theorem both_ins (N : Nat) (hN : 20 < N) {m : HwModel} (hm : 2 ≤ m.Registers ∧ m.Registers ≤ 8) {c : HwCode} (hs : StoOk c.Storage) (hlen : c.Instructions.length < 1000000000) {n : Nat} {x : HwInstruction} (hx : Wft En n Ty.HwInstruction x) :
    hardware_instructionErr N m c x = some (errI m c x) ∧ ref15_instructionErr m c x = some (errI m c x) := by
  obtain ⟨w1, w2⟩ := ins_wf hx
  unfold errI
  by_cases hop : inB x.Op 0 26 = true
  · obtain ⟨f, u, hf, hu, ag, h4, h5, h6⟩ := form_used x hop
    have ok : wantE x.Type_ u.Type_ = 0 → wantE x.Second u.Second = 0 → InsOk c x u := fun e1 e2 => {
      sto := hs, len := hlen, po := w1, fo := w2,
      pt := fun hp => (by
        have := h6 hp
        unfold placedT
        split
        · rename_i h7
          rw [if_pos h7] at this
          exact wantE_type e2 this
        · rename_i h7
          rw [if_neg h7] at this
          exact wantE_type e1 this),
      ft := fun hp => wantE_type e2 (h5 hp) }
    rw [if_pos hop, hu]
    exact ⟨hw_ins N hN hm hop hf ag ok, rf_ins hm hop hu ag ok⟩
  · rw [if_neg hop]
    have e : inB x.Op 0 26 = false := by simpa using hop
    constructor
    · unfold hardware_instructionErr
      rw [hw_in, e]
      rfl
    · unfold ref15_instructionErr
      rw [rf_in, e]
      rfl

/-! ### traps -/
def trapB (c : HwCode) (t : HwTrap) : Bool := (inB t.From 0 t.To && (decide (t.To ≤ (c.Instructions.length : Int)) && (inB t.Exception 0 999 && inB t.Handler 0 ((c.Instructions.length : Int) - 1))))
theorem hw_trap (c : HwCode) (hlen : c.Instructions.length < 1000000000) (t : HwTrap) : hardware_trapErr c t = some (cond (trapB c t) 0 3) := by
  unfold hardware_trapErr trapB
  rw [wrap64 (by omega) (by omega)]
  simp only [hw_in, hw_cond, andB, Option.bind_some, Bool.and_assoc]
  generalize (inB t.From 0 t.To && (decide (t.To ≤ (c.Instructions.length : Int)) && (inB t.Exception 0 999 && inB t.Handler 0 ((c.Instructions.length : Int) - 1)))) = b
  cases b <;> rfl
theorem rf_trap (c : HwCode) (t : HwTrap) : ((decide (t.From < 0) || decide (t.From > t.To)) || (decide (t.To > (c.Instructions.length : Int)))) = !(inB t.From 0 t.To && decide (t.To ≤ (c.Instructions.length : Int))) := by
  unfold inB
  by_cases h1 : t.From < 0
  · simp [h1, show ¬ (0 ≤ t.From) by omega]
  · by_cases h2 : t.From > t.To
    · simp [h1, h2, show ¬ (t.From ≤ t.To) by omega]
    · by_cases h3 : t.To > (c.Instructions.length : Int)
      · simp [h1, h2, h3, show ¬ (t.To ≤ (c.Instructions.length : Int)) by omega]
      · simp [h1, h2, h3, show (0 ≤ t.From) by omega, show (t.From ≤ t.To) by omega, show (t.To ≤ (c.Instructions.length : Int)) by omega]

/-! ### both loops -/
noncomputable def gI (m : HwModel) (c : HwCode) (i : Nat) : Option (Int × Int) := (c.Instructions[i]?).bind fun x => if errI m c x = 0 then none else some ((i : Int), errI m c x)
def gT (c : HwCode) (i : Nat) : Option (Int × Int) := (c.Traps[i]?).bind fun t => if trapB c t = true then none else some ((i : Int), 3)

/-- What both answer of a code whose storage and sizes are right. -/
noncomputable def restE (m : HwModel) (c : HwCode) : Int × Int :=
  match (List.range c.Instructions.length).findSome? (gI m c) with
  | some r => r
  | none => match (List.range c.Traps.length).findSome? (gT c) with
    | some r => r
    | none => ((c.Instructions.length : Int), 0)

theorem hw_loops (N : Nat) (hN : 1048600 < N) {m : HwModel} (hm : 2 ≤ m.Registers ∧ m.Registers ≤ 8) {c : HwCode} (hs : StoOk c.Storage) (hc : Wft En 1048576 Ty.HwCode c) :
    ((iterR (hardware_CheckCode.r0 N) N (c.Instructions, (c.Instructions.length : Int), 0, m, c)).bind fun z10 =>
    resR z10 (fun z => some z) (fun y9 => (iterR (hardware_CheckCode.r2 N) N (y9.2.2.2.2.Traps, (y9.2.2.2.2.Traps.length : Int), 0, y9.2.2.2.2)).bind fun z12 => resR z12 (fun z =>
    some z) (fun y11 => some ((y11.2.2.2.Instructions.length : Int), 0)))) = some (restE m c) := by
  obtain ⟨w1, w2, w3, w4, w5⟩ := code_wf hc
  have l1 := iterR_count (f := hardware_CheckCode.r0 N) (fun i => (c.Instructions, (c.Instructions.length : Int), (i : Int), m, c)) (gI m c) c.Instructions.length
    (fun i hi => by
      have hx := List.getElem?_eq_getElem hi
      have hb := (both_ins N (by omega) hm hs (by omega) (w5 _ (List.getElem_mem hi))).1
      simp only [hardware_CheckCode.r0, hardware_CheckCode.b0, idx_nat, hx, Option.bind_some, decide_eq_true (show (i : Int) < (c.Instructions.length : Int) by omega), cond_true, eD, eP, eS, eM, eC, eX, eN, gI, hb]
      rw [wrap64 (by omega) (by omega)]
      by_cases h0 : errI m c c.Instructions[i] = 0 <;> simp [h0, ibne])
    (by simp only [hardware_CheckCode.r0, hardware_CheckCode.b0, decide_eq_false (show ¬ (c.Instructions.length : Int) < (c.Instructions.length : Int) by omega), cond_false]) (N := N) (by omega)
  have l2 := iterR_count (f := hardware_CheckCode.r2 N) (fun i => (c.Traps, (c.Traps.length : Int), (i : Int), c)) (gT c) c.Traps.length
    (fun i hi => by
      have hx := List.getElem?_eq_getElem hi
      simp only [hardware_CheckCode.r2, hardware_CheckCode.b2, idx_nat, hx, Option.bind_some, decide_eq_true (show (i : Int) < (c.Traps.length : Int) by omega), cond_true, gT, hw_trap c (by omega)]
      rw [wrap64 (by omega) (by omega)]
      cases trapB c c.Traps[i] <;> simp)
    (by simp only [hardware_CheckCode.r2, hardware_CheckCode.b2, decide_eq_false (show ¬ (c.Traps.length : Int) < (c.Traps.length : Int) by omega), cond_false]) (N := N) (by omega)
  simp only [Int.natCast_zero] at l1 l2
  rw [l1]
  unfold restE
  simp only [Option.bind_some]
  cases (List.range c.Instructions.length).findSome? (gI m c) with
  | some r => rfl
  | none =>
    simp only [resR]
    rw [l2]
    simp only [Option.bind_some]
    cases (List.range c.Traps.length).findSome? (gT c) <;> rfl

theorem rf_loops (N : Nat) (hN : 1048600 < N) {m : HwModel} (hm : 2 ≤ m.Registers ∧ m.Registers ≤ 8) {c : HwCode} (hs : StoOk c.Storage) (hc : Wft En 1048576 Ty.HwCode c) :
    ((iterR (ref15_CheckCode.r1 N) N (0, m, c)).bind fun z6 =>
    resR z6 (fun z => some z) (fun y5 => (iterR (ref15_CheckCode.r3 N) N (0, y5.2.2)).bind fun z8 => resR z8 (fun z => some z) (fun y7 =>
    some ((y7.2.Instructions.length : Int), 0)))) = some (restE m c) := by
  obtain ⟨w1, w2, w3, w4, w5⟩ := code_wf hc
  have l1 := iterR_count (f := ref15_CheckCode.r1 N) (fun i => ((i : Int), m, c)) (gI m c) c.Instructions.length
    (fun i hi => by
      have hx := List.getElem?_eq_getElem hi
      have hb := (both_ins N (by omega) hm hs (by omega) (w5 _ (List.getElem_mem hi))).2
      simp only [ref15_CheckCode.r1, ref15_CheckCode.b1, idx_nat, hx, Option.bind_some, decide_eq_true (show (i : Int) < (c.Instructions.length : Int) by omega), cond_true, eD, eP, eS, eM, eC, eX, eN, gI, hb]
      rw [wrap64 (by omega) (by omega)]
      by_cases h0 : errI m c c.Instructions[i] = 0 <;> simp [h0, ibne])
    (by simp only [ref15_CheckCode.r1, ref15_CheckCode.b1, decide_eq_false (show ¬ (c.Instructions.length : Int) < (c.Instructions.length : Int) by omega), cond_false]) (N := N) (by omega)
  have l2 := iterR_count (f := ref15_CheckCode.r3 N) (fun i => ((i : Int), c)) (gT c) c.Traps.length
    (fun i hi => by
      have hx := List.getElem?_eq_getElem hi
      simp only [ref15_CheckCode.r3, ref15_CheckCode.b3, idx_nat, hx, Option.bind_some, decide_eq_true (show (i : Int) < (c.Traps.length : Int) by omega), cond_true, gT, orB, rf_in, rf_trap]
      rw [wrap64 (n := (i : Int) + 1) (by omega) (by omega), wrap64 (n := (c.Instructions.length : Int) - 1) (by omega) (by omega)]
      have bl : ∀ a b d e : Bool, ((!(a && b) || !d) || !e) = !(a && (b && (d && e))) := fun a b d e => by cases a <;> cases b <;> cases d <;> cases e <;> rfl
      simp only [rf_in, Option.bind_some, orB, bl, ← trapB.eq_def]
      cases trapB c c.Traps[i] <;> simp)
    (by simp only [ref15_CheckCode.r3, ref15_CheckCode.b3, decide_eq_false (show ¬ (c.Traps.length : Int) < (c.Traps.length : Int) by omega), cond_false]) (N := N) (by omega)
  simp only [Int.natCast_zero] at l1 l2
  rw [l1]
  unfold restE
  simp only [Option.bind_some]
  cases (List.range c.Instructions.length).findSome? (gI m c) with
  | some r => rfl
  | none =>
    simp only [resR]
    rw [l2]
    simp only [Option.bind_some]
    cases (List.range c.Traps.length).findSome? (gT c) <;> rfl
end Go.Proofs.YtppbpnknfigboaaGreatDoor.M

namespace Go.Proofs.YtppbpnknfigboaaGreatDoor.M
open Go Go.Amx
set_option linter.unusedVariables false
set_option linter.unusedSimpArgs false
set_option maxRecDepth 100000

/-! ### a pointer in sixteen bytes: both answer -/
theorem tg_in (n lo hi : Int) : tagged_within n lo hi = some (inB n lo hi) := by
  unfold tagged_within inB
  cases decide (lo ≤ n) <;> rfl
theorem idxB_at {b : ByteArray} {i : Int} (h0 : 0 ≤ i) (h1 : i < (b.size : Int)) : ∃ x, idxB b i = some x := by
  unfold idxB
  rw [if_pos h0]
  exact ⟨_, getElem?_pos b i.toNat (by omega)⟩
theorem tg_number (N : Nat) (b : ByteArray) (h : b.size < N) (hb : b.size < 1000) : ∃ x, tagged_number N b = some x := by
  unfold tagged_number
  obtain ⟨s', h1, _⟩ := iterP_total (f := tagged_number.r0 N) (fun i s => ∃ a : Int, s = (b, a, (b.size : Int), (i : Int))) b.size
    (fun i s hi hs => by
      obtain ⟨a, rfl⟩ := hs
      obtain ⟨x, hx⟩ := idxB_at (b := b) (i := (i : Int)) (by omega) (by omega)
      simp only [tagged_number.r0, tagged_number.b0, decide_eq_true (show (i : Int) < (b.size : Int) by omega), cond_true, hx, Option.bind_some]
      rw [wrap64 (n := (i : Int) + 1) (by omega) (by omega)]
      exact ⟨_, rfl, _, rfl⟩)
    (fun s hs => by
      obtain ⟨a, rfl⟩ := hs
      simp only [tagged_number.r0, tagged_number.b0, decide_eq_false (show ¬ (b.size : Int) < (b.size : Int) by omega), cond_false]
      exact ⟨_, rfl, _, rfl⟩) h (s := (b, 0, (b.size : Int), 0)) ⟨0, rfl⟩
  rw [h1]
  exact ⟨_, rfl⟩
theorem rf_big (N : Nat) (b : ByteArray) (hb : b.size = 16) (k n : Nat) (hn : k + n ≤ 16) (hN : 20 < N) : ∃ x, base_Big N b (k : Int) (n : Int) = some x := by
  unfold base_Big
  obtain ⟨s', h1, _⟩ := iterP_total (f := base_Big.r0 N) (fun i s => ∃ a : Int, s = (b, (k : Int), (n : Int), a, (i : Int))) n
    (fun i s hi hs => by
      obtain ⟨a, rfl⟩ := hs
      obtain ⟨x, hx⟩ := idxB_at (b := b) (i := (k : Int) + (i : Int)) (by omega) (by omega)
      simp only [base_Big.r0, base_Big.b0, decide_eq_true (show (i : Int) < (n : Int) by omega), cond_true]
      rw [wrap64 (n := (k : Int) + (i : Int)) (by omega) (by omega), hx, wrap64 (n := (i : Int) + 1) (by omega) (by omega)]
      exact ⟨_, rfl, _, rfl⟩)
    (fun s hs => by
      obtain ⟨a, rfl⟩ := hs
      simp only [base_Big.r0, base_Big.b0, decide_eq_false (show ¬ (n : Int) < (n : Int) by omega), cond_false]
      exact ⟨_, rfl, _, rfl⟩) (N := N) (by omega) (s := (b, (k : Int), (n : Int), 0, 0)) ⟨0, rfl⟩
  rw [h1]
  exact ⟨_, rfl⟩
theorem tg_check (p : Pointer) : ∃ e, tagged_CheckPointer p = some e := by
  unfold tagged_CheckPointer
  simp only [tg_in, Option.bind_some, andB]
  generalize inB p.Kind 0 2 = a
  generalize inB p.Address.Segment 0 1099511627775 = b
  generalize inB p.Address.Offset 0 16777215 = c
  generalize inB p.Authority 0 1023 = d
  generalize (p.Authority != 0 && p.Kind != 1) = e
  cases a <;> cases b <;> cases c <;> cases d <;> cases e <;> exact ⟨_, rfl⟩
theorem rf_check (p : Pointer) : ∃ e, ref03_PointerErr p = some e := by
  unfold ref03_PointerErr
  simp only [rf_in, Option.bind_some, andB, orB]
  generalize inB p.Kind 0 2 = a
  generalize inB p.Address.Segment 0 1099511627775 = b
  generalize inB p.Address.Offset 0 16777215 = c
  generalize inB p.Authority 0 1023 = d
  generalize (p.Kind != 1 && p.Authority != 0) = e
  cases a <;> cases b <;> cases c <;> cases d <;> cases e <;> exact ⟨_, rfl⟩
theorem extract_size (b : ByteArray) (i j : Nat) (h : j ≤ b.size) (hij : i ≤ j) : (b.extract i j).size = j - i := by
  rw [ByteArray.size_extract]
  omega
theorem tg_pointer (N : Nat) (hN : 20 < N) (b : ByteArray) (hb : b.size = 16) : ∃ r, tagged_PointerIn N b = some r := by
  obtain ⟨x1, h1⟩ := idxB_at (b := b) (i := 1) (by omega) (by omega)
  obtain ⟨x0, h0⟩ := idxB_at (b := b) (i := 0) (by omega) (by omega)
  have z1 : (b.extract (2 : Int).toNat (4 : Int).toNat).size = 2 := extract_size b 2 4 (by omega) (by omega)
  have z2 : (b.extract (4 : Int).toNat (10 : Int).toNat).size = 6 := extract_size b 4 10 (by omega) (by omega)
  have z3 : (b.extract (10 : Int).toNat b.size).size = 6 := (extract_size b 10 b.size (by omega) (by omega)).trans (by omega)
  obtain ⟨n1, e1⟩ := tg_number N _ (by omega : (b.extract (2 : Int).toNat (4 : Int).toNat).size < N) (by omega)
  obtain ⟨n2, e2⟩ := tg_number N _ (by omega : (b.extract (4 : Int).toNat (10 : Int).toNat).size < N) (by omega)
  obtain ⟨n3, e3⟩ := tg_number N _ (by omega : (b.extract (10 : Int).toNat b.size).size < N) (by omega)
  unfold tagged_PointerIn
  rw [show ((b.size : Int) != 16) = false by rw [hb]; rfl]
  simp only [cond_false, h1, h0, Option.bind_some]
  cases ((x1.toNat : Int) != 0) with
  | true => exact ⟨_, rfl⟩
  | false =>
    simp only [cond_false]
    rw [if_pos (by omega), if_pos (by omega), e1]
    simp only [Option.bind_some]
    rw [if_pos (by omega), if_pos (by omega), e2]
    simp only [Option.bind_some]
    rw [if_pos (by omega), e3]
    simp only [Option.bind_some]
    obtain ⟨e, he⟩ := tg_check (⟨(IntKind.wrap .i64 (x0.toNat : Int)), (⟨n2, n3⟩ : Address), n1⟩ : Pointer)
    rw [he]
    simp only [Option.bind_some]
    cases (e != 0) <;> exact ⟨_, rfl⟩
theorem rf_pointer (N : Nat) (hN : 20 < N) (b : ByteArray) (hb : b.size = 16) : ∃ r, ref03_In N b = some r := by
  obtain ⟨x1, h1⟩ := idxB_at (b := b) (i := 1) (by omega) (by omega)
  obtain ⟨x0, h0⟩ := idxB_at (b := b) (i := 0) (by omega) (by omega)
  obtain ⟨n1, e1⟩ := rf_big N b hb 2 2 (by omega) hN
  obtain ⟨n2, e2⟩ := rf_big N b hb 4 6 (by omega) hN
  obtain ⟨n3, e3⟩ := rf_big N b hb 10 6 (by omega) hN
  have e1' : base_Big N b 2 2 = some n1 := e1
  have e2' : base_Big N b 4 6 = some n2 := e2
  have e3' : base_Big N b 10 6 = some n3 := e3
  unfold ref03_In
  rw [show ((b.size : Int) != 16) = false by rw [hb]; rfl]
  simp only [cond_false, h1, h0, Option.bind_some]
  cases ((x1.toNat : Int) != 0) with
  | true => exact ⟨_, rfl⟩
  | false =>
    simp only [cond_false, e1', e2', e3', Option.bind_some]
    obtain ⟨e, he⟩ := rf_check (⟨(IntKind.wrap .i64 (x0.toNat : Int)), (⟨n2, n3⟩ : Address), n1⟩ : Pointer)
    rw [he]
    simp only [Option.bind_some]
    cases (e != 0) <;> exact ⟨_, rfl⟩

/-! ### storages -/
theorem sto_both (N : Nat) (hN : 2000 < N) (s : Storage) : ∃ i1 e1 e2, tagged_CheckStorage N s = some (i1, e1) ∧ ref03_Err N s = some e2 ∧
    ((e1 = e2 ∧ e1 ≠ 0) ∨ (StoOk s ∧ s.Tags.length ≤ 64 ∧ (e1 = 0 ∨ (e1 = 22 ∧ true ∈ s.Tags)) ∧ (e2 = 0 ∨ (e2 = 22 ∧ true ∈ s.Tags)))) := by
  unfold tagged_CheckStorage ref03_Err ref03_Check
  simp only [eS]
  by_cases h1 : (s.Bytes.size : Int) > 1024
  · rw [decide_eq_true h1]
    exact ⟨_, _, _, rfl, rfl, .inl ⟨rfl, by decide⟩⟩
  · rw [decide_eq_false h1]
    have hm : (s.Bytes.size : Int).tmod 16 = (s.Bytes.size : Int) % 16 := Int.tmod_eq_emod_of_nonneg (by omega)
    have hd : (s.Bytes.size : Int).tdiv 16 = (s.Bytes.size : Int) / 16 := Int.tdiv_eq_ediv_of_nonneg (by omega)
    by_cases h2 : (s.Bytes.size : Int) % 16 = 0
    · rw [hm, hd, wrap64 (by omega) (by omega)]
      by_cases h3 : (s.Tags.length : Int) = (s.Bytes.size : Int) / 16
      · rw [show (((s.Bytes.size : Int) % 16) != 0) = false by rw [h2]; rfl, show ((s.Tags.length : Int) != (s.Bytes.size : Int) / 16) = false by rw [← h3]; exact bne_self_eq_false _]
        simp only [cond_false]
        have ok : StoOk s := ⟨by omega, by omega⟩
        have hw : ∀ i : Nat, i < s.Tags.length → IntKind.wrap .i64 ((i : Int) * 16) = (i : Int) * 16 ∧ IntKind.wrap .i64 ((i : Int) * 16 + 16) = (i : Int) * 16 + 16 := fun i hi => ⟨wrap64 (by omega) (by omega), wrap64 (by omega) (by omega)⟩
        have hx : ∀ i : Nat, i < s.Tags.length → (s.Bytes.extract ((i : Int) * 16).toNat ((i : Int) * 16 + 16).toNat).size = 16 := fun i hi => by
          rw [extract_size _ _ _ (by omega) (by omega)]
          omega
        have l1 := iterR_total (f := tagged_CheckStorage.r1 N) (fun i t => t = (s.Tags, (s.Tags.length : Int), (i : Int), s)) (fun r => r.2 = 22 ∧ true ∈ s.Tags) s.Tags.length
          (fun i t hi ht => by
            subst ht
            obtain ⟨w1, w2⟩ := hw i hi
            have hx1 := List.getElem?_eq_getElem hi
            simp only [tagged_CheckStorage.r1, tagged_CheckStorage.b1, idx_nat, hx1, Option.bind_some, decide_eq_true (show (i : Int) < (s.Tags.length : Int) by omega), cond_true]
            rw [wrap64 (n := (i : Int) + 1) (by omega) (by omega)]
            cases hb : s.Tags[i] with
            | false => exact .inl ⟨_, rfl, rfl⟩
            | true =>
              simp only [Bool.not_true, cond_false, w1, w2]
              rw [if_pos (by omega), if_pos (by omega)]
              obtain ⟨r, hr⟩ := tg_pointer N (by omega) _ (hx i hi)
              rw [hr]
              simp only [Option.bind_some]
              cases (r.2 != 0) with
              | true => exact .inr ⟨_, rfl, rfl, by rw [← hb]; exact List.getElem_mem hi⟩
              | false => exact .inl ⟨_, rfl, rfl⟩)
          (fun t ht => by
            subst ht
            exact ⟨_, by simp only [tagged_CheckStorage.r1, tagged_CheckStorage.b1, decide_eq_false (show ¬ (s.Tags.length : Int) < (s.Tags.length : Int) by omega), cond_false], rfl⟩) (N := N) (by omega) (s := (s.Tags, (s.Tags.length : Int), 0, s)) rfl
        have l2 := iterR_total (f := ref03_Check.r0 N) (fun i t => t = ((s.Bytes.size : Int) / 16, (i : Int), s)) (fun r => r.2 = 22 ∧ true ∈ s.Tags) s.Tags.length
          (fun i t hi ht => by
            subst ht
            obtain ⟨w1, w2⟩ := hw i hi
            have hx1 := List.getElem?_eq_getElem hi
            simp only [ref03_Check.r0, ref03_Check.b0, idx_nat, hx1, Option.bind_some, decide_eq_true (show (i : Int) < (s.Bytes.size : Int) / 16 by omega), cond_true]
            rw [wrap64 (n := (i : Int) + 1) (by omega) (by omega)]
            cases hb : s.Tags[i] with
            | false => exact .inl ⟨_, rfl, rfl⟩
            | true =>
              simp only [cond_true, ref03_quad, w1, w2]
              rw [if_pos (by omega), if_pos (by omega)]
              simp only [Option.bind_some]
              obtain ⟨r, hr⟩ := rf_pointer N (by omega) _ (hx i hi)
              rw [hr]
              simp only [Option.bind_some]
              cases (r.2 != 0) with
              | true => exact .inr ⟨_, rfl, rfl, by rw [← hb]; exact List.getElem_mem hi⟩
              | false => exact .inl ⟨_, rfl, rfl⟩)
          (fun t ht => by
            subst ht
            exact ⟨_, by simp only [ref03_Check.r0, ref03_Check.b0, decide_eq_false (show ¬ (s.Tags.length : Int) < (s.Bytes.size : Int) / 16 by omega), cond_false], rfl⟩) (N := N) (by omega) (s := ((s.Bytes.size : Int) / 16, 0, s)) rfl
        have r1 : ∃ i1 e1, ((iterR (tagged_CheckStorage.r1 N) N (s.Tags, (s.Tags.length : Int), 0, s)).bind fun z2 => resR z2 (fun z => some z) (fun y1 => some ((y1.2.2.2.Tags.length : Int), (0 : Int)))) = some (i1, e1) ∧ (e1 = 0 ∨ (e1 = 22 ∧ true ∈ s.Tags)) := by
          rcases l1 with ⟨t, g1, _⟩ | ⟨r, g1, g2⟩
          · rw [g1]; exact ⟨_, _, rfl, .inl rfl⟩
          · rw [g1]; exact ⟨r.1, r.2, rfl, .inr g2⟩
        have r2 : ∃ e2, ((((iterR (ref03_Check.r0 N) N ((s.Bytes.size : Int) / 16, 0, s)).bind fun z2 => resR z2 (fun z => some z) (fun y1 => some (y1.1, (0 : Int)))).bind fun r1 => some r1.2) = some e2) ∧ (e2 = 0 ∨ (e2 = 22 ∧ true ∈ s.Tags)) := by
          rcases l2 with ⟨t, g1, _⟩ | ⟨r, g1, g2⟩
          · rw [g1]; exact ⟨_, rfl, .inl rfl⟩
          · rw [g1]; exact ⟨r.2, rfl, .inr g2⟩
        obtain ⟨i1, e1, g1, g2⟩ := r1
        obtain ⟨e2, g3, g4⟩ := r2
        exact ⟨i1, e1, e2, g1, g3, .inr ⟨ok, by omega, g2, g4⟩⟩
      · rw [show (((s.Bytes.size : Int) % 16) != 0) = false by rw [h2]; rfl, show ((s.Tags.length : Int) != (s.Bytes.size : Int) / 16) = true by rw [ibne]; exact decide_eq_true h3]
        exact ⟨_, _, _, rfl, rfl, .inl ⟨rfl, by decide⟩⟩
    · rw [hm, show (((s.Bytes.size : Int) % 16) != 0) = true by rw [ibne]; exact decide_eq_true h2]
      exact ⟨_, _, _, rfl, rfl, .inl ⟨rfl, by decide⟩⟩
end Go.Proofs.YtppbpnknfigboaaGreatDoor.M

namespace Go.Proofs.YtppbpnknfigboaaGreatDoor.M
open Go Go.Amx
set_option linter.unusedVariables false
set_option linter.unusedSimpArgs false
set_option maxRecDepth 100000

/-! ### tags -/
theorem hw_tags (N : Nat) (l : List Bool) (h : l.length < N) (hl : l.length < 1000000000) : slices_Contains_bool N l true = some (l.contains true) := by
  unfold slices_Contains_bool slices_Index_bool
  have := iterR_count (f := slices_Index_bool.r0 N) (fun i => (l, true, (l.length : Int), (i : Int))) (fun i => (l[i]?).bind fun x => if x = true then some (i : Int) else none) l.length
    (fun i hi => by
      have hx := List.getElem?_eq_getElem hi
      simp only [slices_Index_bool.r0, slices_Index_bool.b0, idx_nat, hx, Option.bind_some, decide_eq_true (show (i : Int) < (l.length : Int) by omega), cond_true]
      rw [wrap64 (by omega) (by omega)]
      cases hb : l[i] <;> simp)
    (by simp only [slices_Index_bool.r0, slices_Index_bool.b0, decide_eq_false (show ¬ (l.length : Int) < (l.length : Int) by omega), cond_false]) h
  simp only [Int.natCast_zero] at this
  rw [this]
  simp only [Option.bind_some]
  cases hfs : (List.range l.length).findSome? (fun i : Nat => (l[i]?).bind fun x => if x = true then some (i : Int) else none) with
  | some r =>
    simp only [resR, Option.bind_some]
    obtain ⟨i, hi, hr⟩ := List.exists_of_findSome?_eq_some hfs
    rw [Option.bind_eq_some_iff] at hr
    obtain ⟨x, hx, hr⟩ := hr
    split at hr
    · rename_i hb
      cases hr
      have : l.contains true = true := by rw [List.contains_iff_mem, ← hb]; exact List.mem_of_getElem? hx
      rw [this]
      simp
    · cases hr
  | none =>
    simp only [resR, Option.bind_some]
    rw [List.findSome?_eq_none_iff] at hfs
    have : l.contains true = false := by
      rw [Bool.eq_false_iff]
      intro hc
      rw [List.contains_iff_mem] at hc
      obtain ⟨i, hi⟩ := List.getElem?_of_mem hc
      have := hfs i (by simp; exact (List.getElem?_eq_some_iff.1 hi).1)
      rw [hi] at this
      simp at this
    rw [this]
    rfl
theorem rf_tags (N : Nat) (s : Storage) (h : s.Tags.length ≤ 64) (hN : 2000 < N) : ∃ l, ref03_Pointers N s = some l ∧ (decide ((l.length : Int) > 0)) = s.Tags.contains true := by
  unfold ref03_Pointers
  obtain ⟨s', h1, l, h2, h3, h4⟩ := iterP_total (f := ref03_Pointers.r0 N) (fun i t => ∃ l : List Int, t = (l, (i : Int), s) ∧ l.length ≤ i ∧ (decide ((l.length : Int) > 0)) = (s.Tags.take i).contains true) s.Tags.length
    (fun i t hi ht => by
      obtain ⟨l, rfl, h3, h4⟩ := ht
      have hx := List.getElem?_eq_getElem hi
      have rm : Nat.ble ((l.length + ([(IntKind.wrap .i64 ((i : Int) * 16))] : List Int).length) * 8) room = true := Nat.ble_eq_true_of_le (by unfold room; simp; omega)
      simp only [ref03_Pointers.r0, ref03_Pointers.b0, idx_nat, hx, Option.bind_some, decide_eq_true (show (i : Int) < (s.Tags.length : Int) by omega), cond_true, rm]
      rw [wrap64 (n := (i : Int) + 1) (by omega) (by omega)]
      have tk : s.Tags.take (i + 1) = s.Tags.take i ++ [s.Tags[i]] := by rw [List.take_add_one, hx]; rfl
      cases hb : s.Tags[i] with
      | true => exact ⟨_, rfl, _, rfl, by simp; omega, by rw [tk, hb]; simp⟩
      | false => exact ⟨_, rfl, _, rfl, by omega, by rw [tk, hb, h4]; simp⟩)
    (fun t ht => by
      obtain ⟨l, rfl, h3, h4⟩ := ht
      simp only [ref03_Pointers.r0, ref03_Pointers.b0, decide_eq_false (show ¬ (s.Tags.length : Int) < (s.Tags.length : Int) by omega), cond_false]
      exact ⟨_, rfl, l, rfl, h3, h4⟩) (N := N) (by omega) (s := ([], 0, s)) ⟨[], rfl, by simp, by simp⟩
  rw [h1, h2]
  exact ⟨l, rfl, by rw [h4, List.take_length]⟩

/-! ### the whole -/
theorem own_code {c : HwCode} (hc : Wft En 1048576 Ty.HwCode c) : ref15_OwnCode c = some c := by
  obtain ⟨w1, w2, w3, w4, w5⟩ := code_wf hc
  unfold ref15_OwnCode base_OwnStorage base_CopyBools
  rw [show Nat.ble (c.Storage.Tags.length * 1) room = true from Nat.ble_eq_true_of_le (by unfold room; omega), show Nat.ble (c.Instructions.length * 224) room = true from Nat.ble_eq_true_of_le (by unfold room; omega), show Nat.ble (c.Traps.length * 32) room = true from Nat.ble_eq_true_of_le (by unfold room; omega)]
  rfl

theorem code_same (N : Nat) (hN : 1048600 < N) (m : HwModel) {c : HwCode} (hc : Wft En 1048576 Ty.HwCode c) : ∃ r, hardware_CheckCode N m c = some r ∧ ref15_CheckCode N m c = some r := by
  obtain ⟨e, he1, he2, he3⟩ := model_same m
  obtain ⟨i1, e1, e2, hs1, hs2, hs⟩ := sto_both N (by omega) c.Storage
  obtain ⟨w1, w2, w3, w4, w5⟩ := code_wf hc
  have f3 : ∀ a b d : Int, hardware_first N [a, b, d] = some (fst0 [a, b, d]) := fun a b d => hw_first N _ (by simp; omega) (by simp)
  unfold hardware_CheckCode ref15_CheckCode
  simp only [eS, eM, eC]
  rw [he1, he2, hs1, hs2]
  simp only [Option.bind_some]
  by_cases h0 : e = 0
  · subst h0
    have hm := he3 rfl
    simp only [bne_self_eq_false, cond_false]
    rcases hs with ⟨rfl, hs⟩ | ⟨ok, htl, hs3, hs4⟩
    · rw [show (e1 != 0) = true by rw [ibne]; exact decide_eq_true hs]
      exact ⟨_, rfl, rfl⟩
    · obtain ⟨l, hl1, hl2⟩ := rf_tags N c.Storage htl (by omega)
      rw [hw_tags N _ (by omega) (by omega), hl1]
      simp only [Option.bind_some, hw_cond, f3, orB, hl2]
      by_cases ht : c.Storage.Tags.contains true = true
      · rw [ht]
        refine ⟨(0, 22), ?_, ?_⟩
        · rcases hs3 with rfl | ⟨rfl, _⟩
          · simp [fst0]
          · rfl
        · rcases hs4 with rfl | ⟨rfl, _⟩
          · rfl
          · rfl
      · have ht' : c.Storage.Tags.contains true = false := by simpa using ht
        have hn : ¬ true ∈ c.Storage.Tags := fun hh => ht (List.contains_iff_mem.2 hh)
        obtain rfl : e1 = 0 := hs3.resolve_right fun hh => hn hh.2
        obtain rfl : e2 = 0 := hs4.resolve_right fun hh => hn hh.2
        rw [ht']
        have hl1 := hw_loops N hN hm ok hc
        have hl2 := rf_loops N hN hm ok hc
        by_cases hz : (c.Instructions.length : Int) = 0
        · refine ⟨(0, 1), ?_, ?_⟩
          · simp [fst0, hz]
          · simp [hz]
        · cases hbig : (decide ((c.Instructions.length : Int) > 240) || decide ((c.Traps.length : Int) > 40)) with
          | true =>
            refine ⟨(0, 2), ?_, ?_⟩
            · simp only [bne_self_eq_false, cond_false, cond_true, Option.bind_some, ibeq, decide_eq_false hz, fst0, if_true]
              rfl
            · simp only [bne_self_eq_false, cond_false, cond_true, Option.bind_some, ibeq, decide_eq_false hz]
          | false =>
            refine ⟨restE m c, ?_, ?_⟩
            · rw [← hl1]
              simp only [bne_self_eq_false, cond_false, Option.bind_some, ibeq, decide_eq_false hz, fst0, if_true]
            · rw [← hl2]
              simp only [bne_self_eq_false, cond_false, Option.bind_some, ibeq, decide_eq_false hz]
  · rw [show (e != 0) = true by rw [ibne]; exact decide_eq_true h0]
    exact ⟨_, rfl, rfl⟩

theorem few_total (N : Nat) (hN : 1048600 < N) {c : HwCode} (hc : Wft En 1048576 Ty.HwCode c) : ∃ b, law15_Few N c = some b := by
  obtain ⟨w1, w2, w3, w4, w5⟩ := code_wf hc
  unfold law15_Few
  have ft : ∀ s, ∃ b, law15_fewStorage s = some b := fun s => by
    unfold law15_fewStorage
    cases decide ((s.Bytes.size : Int) ≤ 1072) <;> exact ⟨_, rfl⟩
  have e1 : ∀ i : Nat, i ≤ c.Instructions.length → (cond (decide ((i : Int) < (c.Instructions.length : Int))) (some (decide ((i : Int) < 244))) (some false)) = some (decide ((i : Int) < (c.Instructions.length : Int)) && decide ((i : Int) < 244)) := fun i _ => andB _ _
  have l1 := iterR_total (f := law15_Few.r0 N) (fun i t => t = ((i : Int), c)) (fun r => True) (min c.Instructions.length 244)
    (fun i t hi ht => by
      subst ht
      have hlt : i < c.Instructions.length := by omega
      have hx := List.getElem?_eq_getElem hlt
      simp only [law15_Few.r0, law15_Few.b0, andB, Option.bind_some, decide_eq_true (show (i : Int) < (c.Instructions.length : Int) by omega), decide_eq_true (show (i : Int) < 244 by omega), Bool.and_self, cond_true, idx_nat, hx, orB]
      rw [wrap64 (n := (i : Int) + 1) (by omega) (by omega)]
      cases (decide ((c.Instructions[i].Text.size : Int) > 300) || decide ((c.Instructions[i].Other.size : Int) > 300)) with
      | true => exact .inr ⟨_, rfl, trivial⟩
      | false => exact .inl ⟨_, rfl, rfl⟩)
    (fun t ht => by
      subst ht
      have e : (decide (((min c.Instructions.length 244 : Nat) : Int) < (c.Instructions.length : Int)) && decide (((min c.Instructions.length 244 : Nat) : Int) < 244)) = false := by
        by_cases h : c.Instructions.length < 244
        · rw [decide_eq_false (show ¬ ((min c.Instructions.length 244 : Nat) : Int) < (c.Instructions.length : Int) by omega)]; rfl
        · rw [decide_eq_false (show ¬ ((min c.Instructions.length 244 : Nat) : Int) < 244 by omega)]; simp
      simp only [law15_Few.r0, law15_Few.b0, andB, Option.bind_some, e, cond_false]
      exact ⟨_, rfl, rfl⟩) (N := N) (by omega) (s := (0, c)) rfl
  rcases l1 with ⟨t, g1, _⟩ | ⟨r, g1, _⟩
  · rw [g1]
    simp only [Option.bind_some, resR]
    obtain ⟨b, hb⟩ := ft t.2.Storage
    rw [hb]
    simp only [Option.bind_some, andB]
    exact ⟨_, rfl⟩
  · rw [g1]
    exact ⟨_, rfl⟩

end Go.Proofs.YtppbpnknfigboaaGreatDoor.M

namespace Go.Proofs.YtppbpnknfigboaaGreatDoor.M
open Go Go.Amx
set_option linter.unusedVariables false
set_option linter.unusedSimpArgs false
set_option maxRecDepth 100000

/-! ### what an accepted code is -/
theorem rest_ok {m : HwModel} {c : HwCode} {n : Int} (h : restE m c = (n, 0)) : ∀ x ∈ c.Instructions, errI m c x = 0 := by
  intro x hx
  refine Classical.byContradiction fun h0 => ?_
  unfold restE at h
  obtain ⟨i, hi⟩ := List.getElem?_of_mem hx
  cases hf : (List.range c.Instructions.length).findSome? (gI m c) with
  | none =>
    rw [List.findSome?_eq_none_iff] at hf
    have := hf i (by simp; exact (List.getElem?_eq_some_iff.1 hi).1)
    unfold gI at this
    rw [hi] at this
    simp [h0] at this
  | some r =>
    rw [hf] at h
    simp only at h
    subst h
    obtain ⟨j, _, hj⟩ := List.exists_of_findSome?_eq_some hf
    unfold gI at hj
    rw [Option.bind_eq_some_iff] at hj
    obtain ⟨y, _, hy⟩ := hj
    by_cases h1 : errI m c y = 0
    · simp [h1] at hy
    · rw [if_neg h1] at hy
      simp only [Option.some.injEq, Prod.mk.injEq] at hy
      exact h1 hy.2

theorem code_ok (N : Nat) (hN : 1048600 < N) {m : HwModel} {c : HwCode} (hc : Wft En 1048576 Ty.HwCode c) {n : Int} (h : ref15_CheckCode N m c = some (n, 0)) :
    (2 ≤ m.Registers ∧ m.Registers ≤ 8) ∧ StoOk c.Storage ∧ c.Instructions.length ≤ 240 ∧ ∀ x ∈ c.Instructions, errI m c x = 0 := by
  obtain ⟨e, _, he2, he3⟩ := model_same m
  obtain ⟨i1, e1, e2, _, hs2, hs⟩ := sto_both N (by omega) c.Storage
  obtain ⟨w1, w2, w3, w4, w5⟩ := code_wf hc
  unfold ref15_CheckCode at h
  simp only [eS, eM, eC] at h
  rw [he2, hs2] at h
  simp only [Option.bind_some] at h
  by_cases h0 : e = 0
  · subst h0
    have hm := he3 rfl
    simp only [bne_self_eq_false, cond_false] at h
    by_cases h2 : e2 = 0
    · rcases hs with ⟨rfl, hs⟩ | ⟨ok, htl, _, _⟩
      · exact absurd h2 hs
      · subst h2
        obtain ⟨l, hl1, hl2⟩ := rf_tags N c.Storage htl (by omega)
        rw [hl1] at h
        simp only [bne_self_eq_false, cond_false, Option.bind_some, orB] at h
        cases hd : decide ((l.length : Int) > 0) with
        | true => rw [hd] at h; cases h
        | false =>
          rw [hd] at h
          simp only [cond_false] at h
          by_cases hz : (c.Instructions.length : Int) = 0
          · rw [hz] at h; cases h
          · rw [ibeq, decide_eq_false hz] at h
            simp only [cond_false] at h
            cases hb : (decide ((c.Instructions.length : Int) > 240) || decide ((c.Traps.length : Int) > 40)) with
            | true => rw [hb] at h; cases h
            | false =>
              rw [hb] at h
              simp only [cond_false] at h
              have := rf_loops N hN hm ok hc
              rw [this] at h
              simp only [Bool.or_eq_false_iff, decide_eq_false_iff_not] at hb
              exact ⟨hm, ok, by omega, rest_ok (Option.some.inj h)⟩
    · rw [ibne, decide_eq_true h2] at h
      simp only [cond_true, Option.some.injEq, Prod.mk.injEq] at h
      exact absurd h.2 h2
  · rw [ibne, decide_eq_true h0] at h
    simp only [cond_true, Option.some.injEq, Prod.mk.injEq] at h
    exact absurd h.2 h0

/-- What an instruction without an error is. -/
theorem ins_ok {m : HwModel} {c : HwCode} {x : HwInstruction} (h : errI m c x = 0) : ∃ f u, hardware_formOf x = some f ∧ ref15_used x = some u ∧ Agree f u ∧ (x.InStorage = true → x.Op = 4) ∧ rangeBad m c x u = false ∧ lacksB m x = false := by
  unfold errI at h
  by_cases hop : inB x.Op 0 26 = true
  · obtain ⟨f, u, hf, hu, ag, _⟩ := form_used x hop
    rw [if_pos hop, hu] at h
    have h' : insE m c x u = 0 := h
    unfold insE at h'
    cases he : extraB x u with
    | true => rw [he] at h'; cases h'
    | false =>
      rw [he] at h'
      simp only [cond_false] at h'
      cases hl : lacksB m x with
      | true => rw [hl] at h'; cases h'
      | false =>
        rw [hl] at h'
        simp only [cond_false] at h'
        refine ⟨f, u, hf, hu, ag, (extra_facts he).1, ?_, rfl⟩
        by_cases h1 : wantE x.Type_ u.Type_ = 0
        · by_cases h2 : wantE x.Second u.Second = 0
          · rw [h1, h2] at h'
            cases hr : rangeBad m c x u with
            | true => rw [hr] at h'; simp at h'
            | false => rfl
          · rw [h1] at h'
            simp [h2] at h'
        · simp [h1] at h'
  · rw [if_neg hop] at h
    cases h
end Go.Proofs.YtppbpnknfigboaaGreatDoor.M

namespace Go.Proofs.YtppbpnknfigboaaGreatDoor.M
open Go Go.Amx
set_option linter.unusedVariables false
set_option linter.unusedSimpArgs false
set_option maxRecDepth 100000

theorem hw_contains66 (N : Nat) (l : List Int) (h : l.length < N) (hl : l.length < 1000000000) (m : HwModel) : slices_ContainsFunc_int_f66 N l m = some (l.any fun r => decide (r ≥ m.Registers)) := by
  unfold slices_ContainsFunc_int_f66 slices_IndexFunc_int_f66
  have c1 : ∀ r, hardware_RunsOn_c1_c1 r m = some (decide (r ≥ m.Registers)) := fun r => rfl
  have := iterR_count (f := slices_IndexFunc_int_f66.r0 N) (fun i => (l, (l.length : Int), (i : Int), m)) (fun i => (l[i]?).bind fun x => if decide (x ≥ m.Registers) = true then some (i : Int) else none) l.length
    (fun i hi => by
      have hx := List.getElem?_eq_getElem hi
      simp only [slices_IndexFunc_int_f66.r0, slices_IndexFunc_int_f66.b0, idx_nat, hx, Option.bind_some, decide_eq_true (show (i : Int) < (l.length : Int) by omega), cond_true, c1]
      rw [wrap64 (by omega) (by omega)]
      cases hb : decide (l[i] ≥ m.Registers) <;> simp)
    (by simp only [slices_IndexFunc_int_f66.r0, slices_IndexFunc_int_f66.b0, decide_eq_false (show ¬ (l.length : Int) < (l.length : Int) by omega), cond_false]) h
  simp only [Int.natCast_zero] at this
  rw [this]
  simp only [Option.bind_some]
  cases hfs : (List.range l.length).findSome? (fun i : Nat => (l[i]?).bind fun x => if decide (x ≥ m.Registers) = true then some (i : Int) else none) with
  | some r =>
    simp only [resR, Option.bind_some]
    obtain ⟨i, hi, hr⟩ := List.exists_of_findSome?_eq_some hfs
    rw [Option.bind_eq_some_iff] at hr
    obtain ⟨x, hx, hr⟩ := hr
    split at hr
    · rename_i hb
      cases hr
      have : (l.any fun r => decide (r ≥ m.Registers)) = true := List.any_eq_true.2 ⟨x, List.mem_of_getElem? hx, hb⟩
      rw [this]
      simp
    · cases hr
  | none =>
    simp only [resR, Option.bind_some]
    rw [List.findSome?_eq_none_iff] at hfs
    have : (l.any fun r => decide (r ≥ m.Registers)) = false := by
      rw [List.any_eq_false]
      intro x hx hb
      obtain ⟨i, hi⟩ := List.getElem?_of_mem hx
      have := hfs i (by simp; exact (List.getElem?_eq_some_iff.1 hi).1)
      rw [hi] at this
      simp only [Option.bind_some] at this
      rw [if_pos hb] at this
      cases this
    rw [this]
    rfl

/-- Does a model not have an instruction, or a register of it? -/
noncomputable def missB (m : HwModel) (x : HwInstruction) : Bool := lacksB m x || (regL x ((ref15_used x).getD ⟨false, false, false, false, false, false, false, false, false, false, false, false, false, false, 0, 0⟩)).any (regBad m)

theorem miss_both (N : Nat) (hN : 20 < N) {m : HwModel} (hm : 2 ≤ m.Registers ∧ m.Registers ≤ 8) {M : HwModel} (hM : M.Registers = 8) {c : HwCode} {x : HwInstruction} (h : errI M c x = 0) :
    hardware_RunsOn_c1 N x m = some (missB m x) ∧ ((ref15_lacks m x).bind fun r => (cond r (some true) ((ref15_hasRegisters m x).bind fun r => some (!r)))) = some (missB m x) := by
  obtain ⟨n, rfl⟩ : ∃ n, N = n + 10 := ⟨N - 10, by omega⟩
  obtain ⟨f, u, hf, hu, ag, hi, hr, _⟩ := ins_ok h
  have hl : (regL x u).length ≤ 3 := by unfold regL; cases u.R <;> cases u.A <;> cases u.B <;> simp
  have e : ((regL x u).any fun r => decide (r ≥ m.Registers)) = (regL x u).any (regBad m) := by
    unfold rangeBad at hr
    simp only [Bool.or_eq_false_iff] at hr
    have h1 := hr.1
    rw [List.any_eq_false] at h1
    apply Bool.eq_iff_iff.2
    simp only [List.any_eq_true]
    constructor
    · rintro ⟨r, h2, h3⟩
      refine ⟨r, h2, ?_⟩
      unfold regBad inB
      simp only [ge_iff_le, decide_eq_true_eq] at h3
      simp only [Bool.not_eq_true', Bool.and_eq_false_iff, decide_eq_false_iff_not]
      right
      omega
    · rintro ⟨r, h2, h3⟩
      refine ⟨r, h2, ?_⟩
      have h4 := h1 r h2
      have h5 : inB r 0 (M.Registers - 1) = true := by unfold regBad at h4; simpa using h4
      have h3' : inB r 0 (m.Registers - 1) = false := by unfold regBad at h3; simpa using h3
      obtain ⟨h6, h7⟩ := inB_iff.1 h5
      refine decide_eq_true ?_
      refine Classical.byContradiction fun hlt => ?_
      have h8 : inB r 0 (m.Registers - 1) = true := inB_iff.2 ⟨h6, by omega⟩
      rw [h3'] at h8
      cases h8
  constructor
  · unfold hardware_RunsOn_c1 missB
    rw [hw_has m x hi, hw_regs n hf ag, hu]
    simp only [Option.bind_some, Bool.not_not]
    rw [hw_contains66 _ _ (by omega) (by omega), e]
    simp only [Option.bind_some]
    cases lacksB m x <;> rfl
  · unfold missB
    rw [rf_lacks, rf_regs m hm hu, hu]
    simp only [Option.bind_some, Bool.not_not]
    cases lacksB m x <;> rfl
end Go.Proofs.YtppbpnknfigboaaGreatDoor.M

namespace Go.Proofs.YtppbpnknfigboaaGreatDoor.M
open Go Go.Amx
set_option linter.unusedVariables false
set_option linter.unusedSimpArgs false
set_option maxRecDepth 100000

noncomputable def gM (m : HwModel) (c : HwCode) (i : Nat) : Option Int := (c.Instructions[i]?).bind fun x => if missB m x = true then some (i : Int) else none
noncomputable def firstM (m : HwModel) (c : HwCode) : Option Int := (List.range c.Instructions.length).findSome? (gM m c)

theorem firstM_lt {m : HwModel} {c : HwCode} {i : Int} (h : firstM m c = some i) : 0 ≤ i ∧ i < (c.Instructions.length : Int) := by
  obtain ⟨j, hj, hr⟩ := List.exists_of_findSome?_eq_some h
  unfold gM at hr
  rw [Option.bind_eq_some_iff] at hr
  obtain ⟨x, hx, hr⟩ := hr
  have hl := (List.getElem?_eq_some_iff.1 hx).1
  split at hr
  · cases hr
    omega
  · cases hr

theorem hw_first_miss (N : Nat) (hN : 1048600 < N) {m : HwModel} (hm : 2 ≤ m.Registers ∧ m.Registers ≤ 8) {M : HwModel} (hM : M.Registers = 8) {c : HwCode} (hlen : c.Instructions.length ≤ 240) (h : ∀ x ∈ c.Instructions, errI M c x = 0) :
    slices_IndexFunc_api_HwInstruction_f62 N c.Instructions m = some (match firstM m c with | some i => i | none => -1) := by
  unfold slices_IndexFunc_api_HwInstruction_f62
  have l1 := iterR_count (f := slices_IndexFunc_api_HwInstruction_f62.r0 N) (fun i => (c.Instructions, (c.Instructions.length : Int), (i : Int), m)) (gM m c) c.Instructions.length
    (fun i hi => by
      have hx := List.getElem?_eq_getElem hi
      have hb := (miss_both N (by omega) hm hM (h _ (List.getElem_mem hi))).1
      simp only [slices_IndexFunc_api_HwInstruction_f62.r0, slices_IndexFunc_api_HwInstruction_f62.b0, idx_nat, hx, Option.bind_some, decide_eq_true (show (i : Int) < (c.Instructions.length : Int) by omega), cond_true, eD, eP, eS, eM, eC, eX, eN, gM, hb]
      rw [wrap64 (by omega) (by omega)]
      cases missB m c.Instructions[i] <;> simp)
    (by simp only [slices_IndexFunc_api_HwInstruction_f62.r0, slices_IndexFunc_api_HwInstruction_f62.b0, decide_eq_false (show ¬ (c.Instructions.length : Int) < (c.Instructions.length : Int) by omega), cond_false]) (N := N) (by omega)
  simp only [Int.natCast_zero] at l1
  rw [l1]
  simp only [Option.bind_some, firstM]
  cases (List.range c.Instructions.length).findSome? (gM m c) <;> rfl

theorem rf_first_miss (N : Nat) (hN : 1048600 < N) {m : HwModel} (hm : 2 ≤ m.Registers ∧ m.Registers ≤ 8) {M : HwModel} (hM : M.Registers = 8) {c : HwCode} (hlen : c.Instructions.length ≤ 240) (h : ∀ x ∈ c.Instructions, errI M c x = 0) :
    ref15_RunsOn N m c = some (match firstM m c with | some i => i | none => (c.Instructions.length : Int)) := by
  unfold ref15_RunsOn
  have l1 := iterR_count (f := ref15_RunsOn.r0 N) (fun i => ((i : Int), m, c)) (gM m c) c.Instructions.length
    (fun i hi => by
      have hx := List.getElem?_eq_getElem hi
      have hb := (miss_both N (by omega) hm hM (h _ (List.getElem_mem hi))).2
      simp only [ref15_RunsOn.r0, ref15_RunsOn.b0, idx_nat, hx, Option.bind_some, decide_eq_true (show (i : Int) < (c.Instructions.length : Int) by omega), cond_true, eD, eP, eS, eM, eC, eX, eN, gM]
      rw [wrap64 (by omega) (by omega), ← Option.bind_assoc, hb]
      simp only [Option.bind_some]
      cases missB m c.Instructions[i] <;> simp)
    (by simp only [ref15_RunsOn.r0, ref15_RunsOn.b0, decide_eq_false (show ¬ (c.Instructions.length : Int) < (c.Instructions.length : Int) by omega), cond_false]) (N := N) (by omega)
  simp only [Int.natCast_zero] at l1
  rw [l1]
  simp only [Option.bind_some, firstM]
  cases (List.range c.Instructions.length).findSome? (gM m c) <;> rfl

theorem awakeP : law15_awake 2000000 = some true := by kernel_rfl

theorem plainHardwarePorts : PlainHardwarePorts := by
  intro m c hm hc
  refine ⟨2000000, ?_⟩
  obtain ⟨b, hb⟩ := few_total 2000000 (by decide) hc
  obtain ⟨r, hr1, hr2⟩ := code_same 2000000 (by decide) ⟨8, true, true⟩ hc
  obtain ⟨e, he1, he2, he3⟩ := model_same m
  have f2 : ∀ a b : Int, hardware_first 2000000 [a, b] = some (fst0 [a, b]) := fun a b => hw_first _ _ (by simp) (by simp)
  unfold law15_HardwarePorts
  rw [awakeP]
  simp only [Option.bind_some, Bool.not_true, cond_false, eS, eM, eC]
  rw [hb]
  cases b with
  | false => rfl
  | true =>
    simp only [Option.bind_some, Bool.not_true, cond_false]
    rw [own_code hc]
    simp only [Option.bind_some]
    unfold hardware_RunsOn hardware_codeErr ref15_CodeErr ref15_Largest
    simp only [eM, eC, eS, Option.bind_some]
    rw [he1, hr1, hr2, he2]
    simp only [Option.bind_some, f2]
    obtain ⟨n, d⟩ := r
    by_cases h0 : e = 0
    · subst h0
      have hm' := he3 rfl
      by_cases hd : d = 0
      · subst hd
        obtain ⟨_, _, hlen, hall⟩ := code_ok 2000000 (by decide) hc hr2
        rw [hw_first_miss 2000000 (by decide) hm' (M := ⟨8, true, true⟩) rfl hlen hall, rf_first_miss 2000000 (by decide) hm' (M := ⟨8, true, true⟩) rfl hlen hall]
        cases hf : firstM m c with
        | none => simp [fst0]
        | some i =>
          obtain ⟨h1, h2⟩ := firstM_lt hf
          simp [fst0, show ¬ i < 0 by omega, show ¬ i = (c.Instructions.length : Int) by omega]
      · simp [fst0, hd, ibne]
    · simp [fst0, h0, ibeq, ibne]
end Go.Proofs.YtppbpnknfigboaaGreatDoor.M
namespace Go.Proofs.YtppbpnknfigboaaGreatDoor
theorem hardwarePorts_card : Rows.HardwarePortsUptoCardSaid := M.cardHardwarePorts M.plainHardwarePorts
#print axioms hardwarePorts_card
end Go.Proofs.YtppbpnknfigboaaGreatDoor

