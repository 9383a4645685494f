/- The plain law of InterpretStates: part 0. -/
import Derived.Test.YtmifhmfokbigiaaGreatDoorF1
import Derived.Test.YtmifhmfokbigiaaGreatDoorA4
import Derived.Lib.Strings
namespace Go.Proofs.YtmifhmfokbigiaaGreatDoor.M
open Go Go.Amx
set_option linter.unusedVariables false
set_option linter.unusedSimpArgs false
set_option maxRecDepth 100000
noncomputable section
theorem obs {α β : Type} (a : α) (f : α → Option β) : (some a).bind f = f a := rfl
theorem dct {p : Prop} [Decidable p] (h : p) : decide p = true := decide_eq_true h
theorem dcf {p : Prop} [Decidable p] (h : ¬ p) : decide p = false := decide_eq_false h
theorem lna {α : Type} {a b : List α} : (a ++ b).length = a.length + b.length := List.length_append
theorem lns {α : Type} {a : α} : [a].length = 1 := List.length_singleton
theorem lge {α : Type} {l : List α} {i : Nat} (h : i < l.length) : l[i]? = some l[i] := List.getElem?_eq_getElem h
theorem itn (n : Nat) : Int.toNat (n : Int) = n := Int.toNat_natCast n
theorem ctr {α : Sort _} (a b : α) : cond true a b = a := rfl
theorem cfa {α : Sort _} (a b : α) : cond false a b = b := rfl
theorem ifp {c : Prop} {h : Decidable c} (hc : c := by omega) {α : Sort _} {t e : α} : ite c t e = t := if_pos hc
theorem ifn {c : Prop} {h : Decidable c} (hc : ¬c := by omega) {α : Sort _} {t e : α} : ite c t e = e := if_neg hc
theorem bsf {α : Type _} [BEq α] [LawfulBEq α] (a : α) : (a != a) = false := bne_self_eq_false a
theorem tde {a b : Int} (h : 0 ≤ a := by omega) : a.tdiv b = a / b := Int.tdiv_eq_ediv_of_nonneg h
theorem tme {a b : Int} (h : 0 ≤ a := by omega) : a.tmod b = a % b := Int.tmod_eq_emod_of_nonneg h
theorem lnt {α : Type _} {i : Nat} {l : List α} : (l.take i).length = min i l.length := List.length_take
theorem lnr {α : Type _} {n : Nat} {a : α} : (List.replicate n a).length = n := List.length_replicate
theorem gdd {α : Type _} {l : List α} {i : Nat} {a : α} : l.getD i a = l[i]?.getD a := List.getD_eq_getElem?_getD
theorem cbc {p : Prop} (h : ¬p → False) : p := Classical.byContradiction h
theorem lnc {α : Type _} {a : α} {l : List α} : (a :: l).length = l.length + 1 := List.length_cons
theorem gei {α : Type _} {i : Nat} {a : α} {l : List α} (h : l[i]? = some a) : ∃ h : i < l.length, l[i] = a := List.getElem?_eq_some_iff.1 h
theorem eof {α β : Type _} {b : β} {f : α → Option β} {l : List α} (h : l.findSome? f = some b) : ∃ a, a ∈ l ∧ f a = some b := List.exists_of_findSome?_eq_some h
theorem ln0 {α : Type _} : ([] : List α).length = 0 := rfl
theorem lnm {α β : Type _} {l : List α} (f : α → β) : (l.map f).length = l.length := List.length_map f
theorem dr0 {α : Type _} {l : List α} : l.drop 0 = l := rfl
theorem bsa {a b : ByteArray} : (a ++ b).size = a.size + b.size := ByteArray.size_append
theorem bnt : (!true) = false := rfl
theorem mel {a b : Nat} (h : a < b) : a % b = a := Nat.mod_eq_of_lt h
theorem nc0 : ((0 : Nat) : Int) = 0 := Int.natCast_zero
theorem bst {α : Type _} [BEq α] [ReflBEq α] (a : α) : (a == a) = true := beq_self_eq_true a
theorem lmg {α : Type _} {l : List α} {i : Nat} {a : α} (h : l[i]? = some a) : a ∈ l := List.mem_of_getElem? h
theorem w6e {n : Int} (h1 : -9223372036854775808 ≤ n := by omega) (h2 : n ≤ 9223372036854775807 := by omega) : w6 n = n := z6n h1 h2
def zq8 (a0 : Storage) (a1 : Int) (a2 : Int) : Option Bool :=
 (ze a1 0 (a0.Bytes.size : Int)).bind fun r1 => (cond r1 ((ze a2 0 (w6 ((a0.Bytes.size : Int) - a1))).bind fun r2 => some r2)
  (some false)).bind fun g3 => some g3
def zhn (N : Nat) (a0 : zB) (a1 : zD) (a2 : Int) : Option (Int × Int) :=
 (idx a0.zA a2).bind fun x1 => (zi N a0).bind fun r2 => cond (x1.Kind != 2) ((idx r2.1 a2).bind fun x3 => some (x3, 0)) ((zcw N a0 x1.Base).bind fun r4 =>
  (idx r2.1 r4).bind fun x5 => (zgq N a1.Storage x5).bind fun r6 => cond (r6.2 != 0) (some (0, 4)) ((zc2 x1.zI).bind fun r7 =>
  (zq8 a1.Storage (w6 (r6.1.Address.Offset + x1.Offset)) r7).bind fun r8 => cond (!r8) (some (0, 5))
  (some ((w6 (r6.1.Address.Offset + x1.Offset)), 0))))
def zdr.b0 (N : Nat) (s1 : Int) (s2 : ByteArray) (s8 : Int) (b6 : Storage) (b7 : Storage) : Option (Stp (Int × ByteArray × Int × Storage × Storage)) :=
 cond (decide (s8 < (s2.size : Int)))
  (if 0 ≤ (w6 ((w6 (s1 + s8)).tdiv 16)) then (if (w6 ((w6 (s1 + s8)).tdiv 16)) < (b7.Tags.length : Int) then ((b7.Tags[(w6 ((w6 (s1 + s8)).tdiv 16)).toNat]?).bind fun x1001 =>
  some (.again (s1, s2, (w6 (s8 + 1)), b6, (⟨b7.Bytes, (b7.Tags.set ((w6 ((w6 (s1 + s8)).tdiv 16)).toNat) false)⟩ : Storage)))) else none) else none)
  (some (.leave (s1, s2, s8, b6, b7)))
def zdr.r0 (N : Nat) (x : Int × ByteArray × Int × Storage × Storage) := zdr.b0 N x.1 x.2.1 x.2.2.1 x.2.2.2.1 x.2.2.2.2
def zdr (N : Nat) (a0 : Storage) (a1 : Int) (a2 : ByteArray) : Option Storage :=
 (zev a0).bind fun r1 => (zgj a0.Bytes a1 a2).bind fun r2 =>
  (zl (zdr.r0 N) N (a1, a2, 0, (⟨(⟨#[]⟩ : ByteArray), []⟩ : Storage), (⟨r2, r1.Tags⟩ : Storage))).bind fun y3 => some y3.2.2.2.2
theorem ztx (N : Nat) (l : List Int) (h : l.length < N) (hl : l.length < 1000000000) : zm N l = some (zhe l) := by
 unfold zm
 have := zbh (f := zm.r0 N) (fun i => (l, (l.length : Int), (i : Int))) (fun i => (l[i]?).bind fun x => if x = 0 then none else some x) l.length
  (fun i hi => by
   have hx := lge hi; simp only [zm.r0, zm.b0, zai, hx, obs, dct (show (i : Int) < (l.length : Int) by omega), ctr]
   by_cases h0 : l[i] = 0
   · simp only [h0, bsf, cfa, if_true]; rw [w6e]; rfl
   · simp only [h0, if_false]; rw [show (l[i] != 0) = true by simpa using h0]; rfl)
  (by simp only [zm.r0, zm.b0, dcf (show ¬ (l.length : Int) < (l.length : Int) by omega), cfa]) h
 simp only [nc0] at this
 rw [this, zmh, ← zot]
 simp only [obs]
 cases l.findSome? (fun x => if x = 0 then none else some x) <;> rfl
def inB (n lo hi : Int) : Bool := decide (lo ≤ n) && decide (n ≤ hi)
theorem z0z (n lo hi : Int) : zc3 n lo hi = some (inB n lo hi) := by
 unfold zc3 inB
 cases decide (lo ≤ n) <;> rfl
theorem zgl (n lo hi : Int) : ze n lo hi = some (inB n lo hi) := by
 unfold ze inB
 cases decide (lo ≤ n) <;> rfl
theorem zsn (b : Bool) (e : Int) : zah b e = some (cond b e 0) := by cases b <;> rfl
theorem znv (b : Bool) : zb3 b = some (cond b 1 0) := by cases b <;> rfl
def zdq (t : DataType) : Int :=
 if t.Kind = 0 then (if inB t.Length 1 256 then (if t.Scale = 0 then 0 else 3) else 18)
 else if t.Kind = 1 ∨ t.Kind = 2 then (if inB t.Length 1 15 then (if inB t.Scale 0 t.Length then 0 else 3) else 18)
 else if t.Kind = 3 then (if t.Length = 4 ∨ t.Length = 9 then (if inB t.Scale 0 t.Length then 0 else 3) else 18)
 else if t.Kind = 4 then (if t.Length = 0 then (if t.Scale = 0 then 0 else 3) else 18)
 else 4
theorem zr4 (a b : Bool) (x y : Int) (hx : x ≠ 0) (hy : y ≠ 0) : zhe [cond a x 0, cond b y 0] = cond a x (cond b y 0) := by
 cases a <;> cases b <;> simp [zhe, hx, hy]
theorem zpo (N : Nat) (hN : 10 < N) (t : DataType) : zat N t = some (zdq t) := by
 have f2 : ∀ a b : Int, zm N [a, b] = some (zhe [a, b]) := fun a b => ztx N _ (by simp; omega) (by simp)
 unfold zat zdq
 simp only [z0z, zsn, f2, obs, zr4 _ _ 18 3 (by decide) (by decide)]
 by_cases h0 : t.Kind = 0
 · simp only [h0, bst, ctr, if_true]; cases inB t.Length 1 256 <;> by_cases hs : t.Scale = 0 <;> simp [zcn, hs]
 · simp only [beq_eq_false_iff_ne.2 h0, h0, cfa, if_false]
   by_cases h1 : t.Kind = 1
   · simp only [h1, bst, ctr, true_or, if_true, obs]; cases inB t.Length 1 15 <;> cases inB t.Scale 0 t.Length <;> simp
   · by_cases h2 : t.Kind = 2
     · simp only [h2, h1]; cases inB t.Length 1 15 <;> cases inB t.Scale 0 t.Length <;> simp
     · by_cases h3 : t.Kind = 3
       · simp only [h3]
         by_cases h4 : t.Length = 4 <;> by_cases h5 : t.Length = 9 <;> cases inB t.Scale 0 t.Length <;> simp [zcn, h4, h5]
       · by_cases h4 : t.Kind = 4
         · simp only [h4]
           by_cases h5 : t.Length = 0 <;> by_cases h6 : t.Scale = 0 <;> simp [zcn, h5, h6]
         · simp [zcn, h1, h2, h3, h4]
theorem zul (k : Int) : zcs k = some (inB k 1 3) := by simp only [zcs, zgl, obs]
theorem zzq (t : DataType) : zfs t = some (zdq t) := by
 have w0' : w6 0 = 0 := by decide
 have w1 : w6 3 = 3 := by decide
 have hz : inB t.Scale 0 0 = decide (t.Scale = 0) := by
  unfold inB
  by_cases h : t.Scale = 0
  · simp [h]
  · simp only [h, decide_false]
    by_cases h1 : 0 ≤ t.Scale
    · simp [h1, show ¬ t.Scale ≤ 0 by omega]
    · simp [h1]
 unfold zfs zdq
 simp only [zgl, zul, znv, obs, hz]
 by_cases h0 : t.Kind = 0
 · have e : inB (0 : Int) 0 4 = true := by decide
   have e' : inB (0 : Int) 1 3 = false := by decide
   simp only [h0, e, e']; cases inB t.Length 1 256 <;> by_cases hs : t.Scale = 0 <;> simp [zcn, hs, w0', w1]
 · by_cases h1 : t.Kind = 1
   · have e : inB (1 : Int) 0 4 = true := by decide
     have e' : inB (1 : Int) 1 3 = true := by decide
     simp only [h1, e, e']; cases inB t.Length 1 15 <;> cases inB t.Scale 0 t.Length <;> simp [w0', w1]
   · by_cases h2 : t.Kind = 2
     · have e : inB (2 : Int) 0 4 = true := by decide
       have e' : inB (2 : Int) 1 3 = true := by decide
       simp only [h2, e, e']; cases inB t.Length 1 15 <;> cases inB t.Scale 0 t.Length <;> simp [w0', w1]
     · by_cases h3 : t.Kind = 3
       · have e : inB (3 : Int) 0 4 = true := by decide
         have e' : inB (3 : Int) 1 3 = true := by decide
         simp only [h3, e, e']
         by_cases h4 : t.Length = 4 <;> by_cases h5 : t.Length = 9 <;> cases inB t.Scale 0 t.Length <;> simp [zcn, h4, h5, w0', w1]
       · by_cases h4 : t.Kind = 4
         · have e : inB (4 : Int) 0 4 = true := by decide
           have e' : inB (4 : Int) 1 3 = false := by decide
           simp only [h4, e, e']
           by_cases h5 : t.Length = 0 <;> by_cases h6 : t.Scale = 0 <;> simp [zcn, h5, h6, w0', w1]
         · have e : inB t.Kind 0 4 = false := by
            unfold inB
            by_cases hh : 0 ≤ t.Kind
            · simp only [hh, decide_true, Bool.true_and, decide_eq_false_iff_not]; omega
            · simp [hh]
           simp [zcn, h0, h1, h2, h3, h4, e]
theorem zdk {n lo hi : Int} : inB n lo hi = true ↔ lo ≤ n ∧ n ≤ hi := by simp [inB]
theorem zj6 {t : DataType} (h : zdq t = 0) : (t.Kind = 0 ∧ 1 ≤ t.Length ∧ t.Length ≤ 256) ∨ ((t.Kind = 1 ∨ t.Kind = 2) ∧ 1 ≤ t.Length ∧ t.Length ≤ 15) ∨ (t.Kind = 3 ∧ (t.Length = 4 ∨ t.Length = 9)) ∨ (t.Kind = 4 ∧ t.Length = 0) := by
 unfold zdq at h
 split at h
 · rename_i h0; split at h
   · rename_i h1; exact .inl ⟨h0, (zdk.1 h1).1, (zdk.1 h1).2⟩
   · cases h
 · split at h
   · rename_i h0; split at h
     · rename_i h1; exact .inr (.inl ⟨h0, (zdk.1 h1).1, (zdk.1 h1).2⟩)
     · cases h
   · split at h
     · rename_i h0; split at h
       · rename_i h1; exact .inr (.inr (.inl ⟨h0, h1⟩))
       · cases h
     · split at h
       · rename_i h0; split at h
         · rename_i h1; exact .inr (.inr (.inr ⟨h0, h1⟩))
         · cases h
       · cases h
def szE (t : DataType) : Int := if t.Kind = 1 then t.Length / 2 + 1 else if t.Kind = 3 then (if t.Length = 9 then 4 else 2) else if t.Kind = 4 then 16 else t.Length
theorem zfn {t : DataType} (h : zdq t = 0) : 0 < szE t ∧ szE t ≤ 256 := by
 unfold szE
 rcases zj6 h with ⟨h0, h1, h2⟩ | ⟨h0 | h0, h1, h2⟩ | ⟨h0, h1 | h1⟩ | ⟨h0, h1⟩ <;> simp only [h0] <;> simp <;> omega
theorem zpl {t : DataType} (h : zdq t = 0) : zc2 t = some (szE t) := by
 unfold zc2 szE
 rcases zj6 h with ⟨h0, h1, h2⟩ | ⟨h0 | h0, h1, h2⟩ | ⟨h0, h1 | h1⟩ | ⟨h0, h1⟩ <;> simp only [h0, h1, zcn, znv] <;> simp
 · rw [tde, w6e (n := t.Length / 2), w6e]
 · decide
 · decide
theorem zvm {t : DataType} (h : zdq t = 0) : ze0 t = some (szE t) := by
 unfold ze0 szE
 rcases zj6 h with ⟨h0, h1, h2⟩ | ⟨h0 | h0, h1, h2⟩ | ⟨h0, h1 | h1⟩ | ⟨h0, h1⟩ <;> simp only [h0, h1, zcn] <;> simp
 · rw [tde, w6e (n := t.Length / 2), w6e]
 · decide
 · decide
structure StoOk (s : Storage) : Prop where
 le : s.Bytes.size ≤ 1024
 quad : s.Bytes.size % 16 = 0
def zoj (s : Storage) (a : Int) : Bool := decide (0 ≤ a) && (decide (a % 16 = 0) && decide (a < (s.Bytes.size : Int)))
theorem z5u {s : Storage} (ok : StoOk s) (a : Int) : zg8 s a = some (zoj s a) := by
 have h1 := ok.le
 have h2 := ok.quad
 unfold zg8 zoj
 rw [w6e, zgl]
 simp only [obs]
 by_cases h : 0 ≤ a
 · rw [tme h]; simp only [inB, h, decide_true, Bool.true_and, zcn]
   by_cases h3 : a % 16 = 0
   · have e : decide (a ≤ (s.Bytes.size : Int) - 16) = decide (a < (s.Bytes.size : Int)) := by
      by_cases h4 : a < (s.Bytes.size : Int)
      · rw [dct h4]; exact dct (by omega)
      · rw [dcf h4]; exact dcf (by omega)
     simp only [h3, decide_true, Bool.true_and, e]; cases decide (a < (s.Bytes.size : Int)) <;> rfl
   · simp only [h3, decide_false, Bool.false_and]; cases decide (a ≤ (s.Bytes.size : Int) - 16) <;> rfl
 · simp [inB, h]
theorem orB (a b : Bool) : (cond a (some true) (some b)) = some (a || b) := by cases a <;> rfl
theorem zph (a b : Bool) : (cond a (some b) (some false)) = some (a && b) := by cases a <;> rfl
theorem z7h (a b : ByteArray) : (a == b) = decide (a = b) := by
 cases a with | mk x =>
 cases b with | mk y =>
 show ByteArray.beq _ _ = _
 unfold ByteArray.beq
 by_cases h : x = y
 · simp [h]
 · simp [h]
theorem eD (t : DataType) : (⟨t.Kind, t.Length, t.Scale⟩ : DataType) = t := rfl
theorem z43 (n lo hi : Int) : zdn n lo hi = some (inB n lo hi) := by
 unfold zdn inB
 cases decide (lo ≤ n) <;> rfl
theorem zcv (b : ByteArray) (i j : Nat) (h : j ≤ b.size) (hij : i ≤ j) : (b.extract i j).size = j - i := by
 rw [ByteArray.size_extract]
 omega
theorem z7o {n : Int} (h1 : 0 ≤ n) (h2 : n < 18446744073709551616) : IntKind.wrap .u64 n = n := by
 have e : (2 : Int) ^ (IntKind.u64.bits) = 18446744073709551616 := by decide
 unfold IntKind.wrap
 simp only [e, show IntKind.u64.signed = false from rfl, Bool.false_and]
 simp only [Bool.false_eq_true, if_false]
 omega
theorem zln {n : Int} (h1 : 0 ≤ n) (h2 : n < 256) : IntKind.wrap .u8 n = n := by
 have e : (2 : Int) ^ (IntKind.u8.bits) = 256 := by decide
 unfold IntKind.wrap
 simp only [e, show IntKind.u8.signed = false from rfl, Bool.false_and]
 simp only [Bool.false_eq_true, if_false]
 omega
theorem z8x (x y : Nat) (hx : x < 2 ^ 64) (hy : y < 2 ^ 64) : zf7 .u64 (x : Int) (y : Int) = ((x &&& y : Nat) : Int) := by
 have h := Nat.and_lt_two_pow x hy
 unfold zf7
 have e : (BitVec.ofInt IntKind.u64.bits (x : Int) &&& BitVec.ofInt IntKind.u64.bits (y : Int)).toNat = (x &&& y) := by
  show (BitVec.ofInt 64 (x : Int) &&& BitVec.ofInt 64 (y : Int)).toNat = _; rw [BitVec.toNat_and, BitVec.ofInt_natCast, BitVec.ofInt_natCast, BitVec.toNat_ofNat, BitVec.toNat_ofNat, mel hx, mel hy]
 rw [e]
 exact z7o (by omega) (by omega)
theorem z1w (m : Nat) : IntKind.wrap .u64 (m : Int) = ((m % 18446744073709551616 : Nat) : Int) := by
 have e : (2 : Int) ^ (IntKind.u64.bits) = 18446744073709551616 := by decide
 unfold IntKind.wrap
 simp only [e, show IntKind.u64.signed = false from rfl, Bool.false_and]
 simp only [Bool.false_eq_true, if_false]
 omega
theorem z4t (p q : Nat) : (p : Int).fdiv (q : Int) = ((p / q : Nat) : Int) := by
 rw [Int.fdiv_eq_ediv_of_nonneg _ (by omega)]
 exact (Int.natCast_ediv p q).symm
theorem zyl (p : Nat) : (p : Int).fdiv (2 ^ (min (32 : Int).toNat 64)) = ((p / 4294967296 : Nat) : Int) := z4t p 4294967296
theorem z1r (p : Nat) (h : p < 18446744073709551616) : zf7 .u64 (p : Int) 4294967295 = ((p % 4294967296 : Nat) : Int) := by
 rw [show (4294967295 : Int) = ((4294967295 : Nat) : Int) from rfl, z8x p 4294967295 h (by decide)]
 rw [show (4294967295 : Nat) = 2 ^ 32 - 1 from rfl, Nat.and_two_pow_sub_one_eq_mod]
theorem z8j (p q : Nat) (hp : p < 18446744073709551616) (hq : q < 18446744073709551616) : zet (p : Int) (q : Int) = some (((p * q / 18446744073709551616 : Nat) : Int), ((p * q % 18446744073709551616 : Nat) : Int)) := by
 unfold zet
 simp only [zyl, z1r p hp, z1r q hq, ← Int.natCast_mul, z1w, ← Int.natCast_add, zyl]
 rw [z1r _ (Nat.mod_lt _ (by decide))]
 simp only [zyl, ← Int.natCast_mul, z1w, ← Int.natCast_add]
 have e1 := Nat.div_add_mod p 4294967296
 have e2 := Nat.div_add_mod q 4294967296
 have b1 : p / 4294967296 ≤ 4294967295 := by omega
 have b2 : q / 4294967296 ≤ 4294967295 := by omega
 have b3 : p % 4294967296 ≤ 4294967295 := by omega
 have b4 : q % 4294967296 ≤ 4294967295 := by omega
 have m : p * q = 18446744073709551616 * ((p / 4294967296) * (q / 4294967296)) + 4294967296 * ((p / 4294967296) * (q % 4294967296)) + (4294967296 * ((p % 4294967296) * (q / 4294967296)) + (p % 4294967296) * (q % 4294967296)) := by
  conv => lhs; rw [← e1, ← e2]
  rw [Nat.add_mul, Nat.mul_add, Nat.mul_add, Nat.mul_mul_mul_comm, Nat.mul_assoc 4294967296 (p / 4294967296) (q % 4294967296), Nat.mul_left_comm (p % 4294967296) 4294967296 (q / 4294967296)]
 have c1 := Nat.mul_le_mul b1 b2
 have c2 := Nat.mul_le_mul b1 b4
 have c3 := Nat.mul_le_mul b3 b2
 have c4 := Nat.mul_le_mul b3 b4
 rw [m]
 clear m e1 e2 b1 b2 b3 b4
 generalize (p / 4294967296) * (q / 4294967296) = A at *
 generalize (p / 4294967296) * (q % 4294967296) = B at *
 generalize (p % 4294967296) * (q / 4294967296) = C at *
 generalize (p % 4294967296) * (q % 4294967296) = D at *
 simp only [Option.some.injEq, Prod.mk.injEq, Int.natCast_inj]
 refine ⟨?_, trivial⟩
 omega
def zn0 (t : DataType) : Prop := zdq t = 0 ∧ 1 ≤ t.Kind ∧ t.Kind ≤ 3
theorem zi0 {t : DataType} (h : zn0 t) : (1 ≤ t.Length ∧ t.Length ≤ 15) ∧ 0 ≤ t.Scale ∧ t.Scale ≤ t.Length := by
 obtain ⟨h0, h1, h2⟩ := h
 unfold zdq at h0
 rw [ifn] at h0
 by_cases hk : t.Kind = 3
 · rw [ifn, ifp hk] at h0; split at h0
   · split at h0
     · rename_i h3 h4; have := zdk.1 h4; omega
     · cases h0
   · cases h0
 · rw [ifp] at h0; split at h0
   · split at h0
     · rename_i h3 h4; have := zdk.1 h4; have := zdk.1 h3; omega
     · cases h0
   · cases h0
theorem zk7 {k m : Nat} (h : k ≤ m) : 10 ^ k ≤ 10 ^ m := Nat.pow_le_pow_right (by decide) h
theorem zv6 (k : Nat) : 0 < 10 ^ k := Nat.pow_pos (by decide)
def bl (b : ByteArray) : List UInt8 := b.data.toList
theorem zj1 (b : ByteArray) : (bl b).length = b.size := rfl
theorem zu9 {a b : ByteArray} (h : bl a = bl b) : a = b := by
 cases a; cases b
 unfold bl at h
 simp only at h
 congr 1
 exact Array.toList_inj.1 h
theorem zmg (b : ByteArray) (i : Nat) : zhl b (i : Int) = (bl b)[i]? := by
 unfold zhl bl
 rw [ifp]
 show b[i]? = _
 by_cases h : i < b.size
 · rw [getElem?_pos b i h, lge (by simpa using h)]
   congr 1
 · rw [getElem?_neg b i h, List.getElem?_eq_none (by simpa using h)]
theorem zge (b : ByteArray) (i j : Nat) : bl (b.extract i j) = ((bl b).take j).drop i := by
 unfold bl
 rw [ByteArray.data_extract, Array.toList_extract, List.extract_eq_drop_take', List.drop_take]
theorem zlk (a b : ByteArray) : bl (a ++ b) = bl a ++ bl b := by
 unfold bl
 rw [ByteArray.data_append, Array.toList_append]
def beV (l : List UInt8) : Nat := l.foldl (fun n c => n * 256 + c.toNat) 0
theorem zt3 (l : List UInt8) (x : UInt8) : beV (l ++ [x]) = beV l * 256 + x.toNat := by
 unfold beV; rw [List.foldl_append]; rfl
theorem z3i (l : List UInt8) : beV l < 256 ^ l.length := by
 have key : ∀ (l r : List UInt8), l = r.reverse → beV l < 256 ^ l.length := by
  intro l r
  induction r generalizing l with
  | nil => intro h; subst h; decide
  | cons x r ih =>
   intro h; rw [List.reverse_cons] at h; subst h; have := ih _ rfl; rw [zt3, lna, lns, Nat.pow_succ]; have := x.toNat_lt; omega
 exact key l l.reverse (by simp)
theorem zhp {α : Type} (l : List α) (i : Nat) {x : α} (h : l[i]? = some x) : l.take (i + 1) = l.take i ++ [x] := by
 obtain ⟨h1, h2⟩ := gei h
 rw [List.take_succ_eq_append_getElem h1, h2]
theorem zke {α : Type} {l : List α} {i : Nat} (h : i < l.length) : ∃ x, l[i]? = some x := ⟨_, lge h⟩
theorem or8 (n : Int) (c : Nat) (h1 : -36028797018963968 ≤ n) (h2 : n < 36028797018963968) (hc : c < 256) : orI .i64 (n * 256) (c : Int) = n * 256 + c := by
 unfold orI
 have e : (BitVec.ofInt IntKind.i64.bits (n * 256) ||| BitVec.ofInt IntKind.i64.bits (c : Int)).toNat = ((n * 256) % 18446744073709551616).toNat + c := by
  show (BitVec.ofInt 64 (n * 256) ||| BitVec.ofInt 64 (c : Int)).toNat = _; rw [BitVec.toNat_or, BitVec.ofInt_natCast, BitVec.toNat_ofNat, BitVec.toNat_ofInt, mel (by omega)]; show ((n * 256) % 18446744073709551616).toNat ||| c = _; have := Nat.two_pow_add_eq_or_of_lt (i := 8) (b := c) hc (((n * 256) % 18446744073709551616).toNat / 256); rw [show 2 ^ 8 * (((n * 256) % 18446744073709551616).toNat / 256) = ((n * 256) % 18446744073709551616).toNat by omega] at this; exact this.symm
 rw [e]
 have k : (2 : Int) ^ (IntKind.i64.bits) = 18446744073709551616 := by decide
 have k' : (2 : Int) ^ (IntKind.i64.bits - 1) = 9223372036854775808 := by decide
 unfold IntKind.wrap
 simp only [k, k', show IntKind.i64.signed = true from rfl, Bool.true_and, decide_eq_true_eq, ge_iff_le]
 split <;> omega
theorem zw0 (N : Nat) (hN : 20 < N) (b : ByteArray) (hb : b.size ≤ 6) : zbe N b = some (beV (bl b) : Int) := by
 unfold zbe
 have := za1 (f := zbe.r0 N) (fun i => (b, ((beV ((bl b).take i) : Nat) : Int), (b.size : Int), (i : Int))) b.size
  (fun i hi => by
   obtain ⟨x, hx⟩ : ∃ x, (bl b)[i]? = some x := zke (by rw [zj1]; exact hi); have hl := z3i ((bl b).take i); have hl2 : 256 ^ ((bl b).take i).length ≤ 256 ^ 6 := Nat.pow_le_pow_right (by decide) (by rw [lnt, zj1]; omega); have hc := x.toNat_lt; simp only [zbe.r0, zbe.b0, dct (show (i : Int) < (b.size : Int) by omega), ctr, zmg, hx, obs]; rw [show (2 : Int) ^ (min (8 : Int).toNat 64) = 256 from rfl, w6e (n := ((beV ((bl b).take i) : Nat) : Int) * 256), w6e (n := (x.toNat : Int)), w6e (n := (i : Int) + 1), or8 _ _ (by omega) (by omega) hc, zhp _ _ hx, zt3]; simp only [Int.natCast_add, Int.natCast_mul, Int.natCast_one]; rfl)
  (by simp only [zbe.r0, zbe.b0, dcf (show ¬ (b.size : Int) < (b.size : Int) by omega), cfa]) (N := N) (by omega)
 simp only [List.take_zero, nc0] at this
 rw [show ((beV [] : Nat) : Int) = 0 from rfl] at this
 rw [this, ← zj1, List.take_length]
 rfl
theorem zvj (N : Nat) (hN : 20 < N) (b : ByteArray) (k n : Nat) (hn : n ≤ 6) (hk : k + n ≤ b.size) (hb : b.size < 1000000) : zcx N b (k : Int) (n : Int) = some (beV (((bl b).drop k).take n) : Int) := by
 unfold zcx
 have := za1 (f := zcx.r0 N) (fun i => (b, (k : Int), (n : Int), ((beV (((bl b).drop k).take i) : Nat) : Int), (i : Int))) n
  (fun i hi => by
   have hlen : i < ((bl b).drop k).length := by rw [List.length_drop, zj1]; omega
   obtain ⟨x, hy⟩ : ∃ x, ((bl b).drop k)[i]? = some x := zke hlen; have hx : (bl b)[k + i]? = some x := by rw [← List.getElem?_drop]; exact hy
   have hl := z3i (((bl b).drop k).take i); have hl2 : 256 ^ (((bl b).drop k).take i).length ≤ 256 ^ 6 := Nat.pow_le_pow_right (by decide) (by rw [lnt]; omega); have hc := x.toNat_lt; simp only [zcx.r0, zcx.b0, dct (show (i : Int) < (n : Int) by omega), ctr]; rw [w6e (n := (k : Int) + (i : Int)), ← Int.natCast_add, zmg, hx]; simp only [obs]; rw [w6e (n := ((beV (((bl b).drop k).take i) : Nat) : Int) * 256), w6e (n := (x.toNat : Int)), w6e (n := (i : Int) + 1), w6e, zhp _ _ hy, zt3]; simp only [Int.natCast_add, Int.natCast_mul, Int.natCast_one]; rfl)
  (by simp only [zcx.r0, zcx.b0, dcf (show ¬ (n : Int) < (n : Int) by omega), cfa]) (N := N) (by omega)
 simp only [List.take_zero, nc0] at this
 rw [show ((beV [] : Nat) : Int) = 0 from rfl] at this
 rw [this]
 rfl
def z40 (v k : Nat) : List Int := (List.range k).map fun j => ((v / 256 ^ (k - 1 - j) % 256 : Nat) : Int)
def zfi (f : Nat → Int) (k i : Nat) : List Int := (List.range k).map fun j => if k - i ≤ j then f (k - 1 - j) else 0
theorem zqf (f : Nat → Int) (k i : Nat) : (zfi f k i).length = k := by simp [zfi]
theorem zok (f : Nat → Int) (k : Nat) : zfi f k 0 = List.replicate k (0 : Int) := by
 unfold zfi
 refine List.ext_getElem? fun j => ?_
 rw [List.getElem?_map, List.getElem?_replicate]
 by_cases h : j < k
 · rw [lge (by simpa using h), ifp h]; simp only [List.getElem_range, Option.map_some]; rw [ifn]
 · rw [List.getElem?_eq_none (by simpa using h), ifn h]; rfl
theorem zom (f : Nat → Int) (k : Nat) : zfi f k k = (List.range k).map fun j => f (k - 1 - j) := by
 unfold zfi
 refine List.map_congr_left fun j _ => ?_
 rw [ifp]
theorem zol (f : Nat → Int) (k i : Nat) (h : i < k) : (zfi f k i).set (k - 1 - i) (f i) = zfi f k (i + 1) := by
 refine List.ext_getElem? fun j => ?_
 rw [List.getElem?_set]
 unfold zfi
 simp only [lnm, List.length_range, List.getElem?_map]
 by_cases hj : j < k
 · rw [lge (by simpa using hj)]; simp only [List.getElem_range, Option.map_some]
   by_cases he : k - 1 - i = j
   · rw [ifp he, ifp, ifp, show k - 1 - j = i by omega]
   · rw [ifn he]
     congr 1
     by_cases h2 : k - i ≤ j
     · rw [ifp h2, ifp]
     · rw [ifn h2, ifn]
 · rw [List.getElem?_eq_none (by simpa using hj)]
   by_cases he : k - 1 - i = j
   · omega
   · rw [ifn he]; rfl
def zt7 : Pointer := ⟨0, ⟨0, 0⟩, 0⟩
def zxs (off : Int) : Pointer := ⟨0, ⟨1, off⟩, 0⟩
def zr8 (p : Pointer) : Int := cond (!inB p.Kind 0 2) 4 (cond (!inB p.Address.zR 0 1099511627775 || (!inB p.Address.Offset 0 16777215 || !inB p.Authority 0 1023)) 3 (cond (p.Authority != 0 && p.Kind != 1) 5 0))
theorem z1z (p : Pointer) : zcz p = some (zr8 p) := by
 unfold zcz zr8
 simp only [z43, obs, zph]
 generalize inB p.Kind 0 2 = a
 generalize inB p.Address.zR 0 1099511627775 = b
 generalize inB p.Address.Offset 0 16777215 = c
 generalize inB p.Authority 0 1023 = d
 generalize (p.Authority != 0 && p.Kind != 1) = e
 cases a <;> cases b <;> cases c <;> cases d <;> cases e <;> rfl
theorem z2n (p : Pointer) : zf2 p = some (zr8 p) := by
 unfold zf2 zr8
 rw [Bool.and_comm (p.Authority != 0) (p.Kind != 1)]
 simp only [zgl, obs, zph, orB]
 generalize inB p.Kind 0 2 = a
 generalize inB p.Address.zR 0 1099511627775 = b
 generalize inB p.Address.Offset 0 16777215 = c
 generalize inB p.Authority 0 1023 = d
 generalize (p.Kind != 1 && p.Authority != 0) = e
 cases a <;> cases b <;> cases c <;> cases d <;> cases e <;> rfl
def ztv (l : List UInt8) : Pointer := ⟨((l.getD 0 0).toNat : Nat), ⟨(beV ((l.drop 4).take 6) : Nat), (beV ((l.drop 10).take 6) : Nat)⟩, (beV ((l.drop 2).take 2) : Nat)⟩
def zjg (l : List UInt8) : Pointer × Int := if (l.getD 1 0).toNat ≠ 0 then (zt7, 5) else if zr8 (ztv l) ≠ 0 then (zt7, zr8 (ztv l)) else (ztv l, 0)
theorem zsp {l : List UInt8} {i : Nat} (h : i < l.length) : l[i]? = some (l.getD i 0) := by
 rw [gdd, lge h]; rfl
theorem zwz (N : Nat) (hN : 20 < N) (b : ByteArray) (hb : b.size = 16) : zd6 N b = some (zjg (bl b)) := by
 have hl : (bl b).length = 16 := hb
 have i1 : zhl b 1 = some ((bl b).getD 1 0) := by rw [show (1 : Int) = ((1 : Nat) : Int) from rfl, zmg, zsp (by omega)]
 have i0 : zhl b 0 = some ((bl b).getD 0 0) := by rw [show (0 : Int) = ((0 : Nat) : Int) from rfl, zmg, zsp (by omega)]
 have z1 : (b.extract (2 : Int).toNat (4 : Int).toNat).size = 2 := zcv b 2 4 (by omega) (by omega)
 have z2 : (b.extract (4 : Int).toNat (10 : Int).toNat).size = 6 := zcv b 4 10 (by omega) (by omega)
 have z3 : (b.extract (10 : Int).toNat b.size).size = 6 := (zcv b 10 b.size (by omega) (by omega)).trans (by omega)
 have e1 := zw0 N hN (b.extract (2 : Int).toNat (4 : Int).toNat) (by omega)
 have e2 := zw0 N hN (b.extract (4 : Int).toNat (10 : Int).toNat) (by omega)
 have e3 := zw0 N hN (b.extract (10 : Int).toNat b.size) (by omega)
 rw [zge, show (2 : Int).toNat = 2 from rfl, show (4 : Int).toNat = 4 from rfl, List.drop_take] at e1
 rw [zge, show (4 : Int).toNat = 4 from rfl, show (10 : Int).toNat = 10 from rfl, List.drop_take] at e2
 rw [zge, show (10 : Int).toNat = 10 from rfl, List.drop_take, hb] at e3
 unfold zd6
 rw [show ((b.size : Int) != 16) = false by rw [hb]; rfl]
 simp only [cfa, i1, i0, obs]
 by_cases h : ((bl b).getD 1 0).toNat = 0
 · rw [h, show ((((0 : Nat) : Int)) != 0) = false from rfl, cfa]; rw [ifp, ifp, show (2 : Int).toNat = 2 from rfl, show (4 : Int).toNat = 4 from rfl, e1]; simp only [obs]; rw [ifp, ifp, show (10 : Int).toNat = 10 from rfl, e2]; simp only [obs]; rw [ifp, hb, e3]; simp only [obs]; have hx := ((bl b).getD 0 0).toNat_lt; rw [w6e]; rw [show (⟨(((bl b).getD 0 0).toNat : Int), ⟨(beV (((bl b).drop 4).take (10 - 4)) : Int), (beV (((bl b).drop 10).take (16 - 10)) : Int)⟩, (beV (((bl b).drop 2).take (4 - 2)) : Int)⟩ : Pointer) = ztv (bl b) from rfl, z1z]; simp only [obs]; unfold zjg; rw [ifn]
   by_cases h2 : zr8 (ztv (bl b)) = 0
   · rw [h2]; rfl
   · rw [ifp h2, zd1, dct h2]; rfl
 · unfold zjg; rw [ifp h, zd1, dct (by omega)]; rfl
theorem zxf (N : Nat) (hN : 20 < N) (b : ByteArray) (hb : b.size = 16) : zjt N b = some (zjg (bl b)) := by
 have hl : (bl b).length = 16 := hb
 have i1 : zhl b 1 = some ((bl b).getD 1 0) := by rw [show (1 : Int) = ((1 : Nat) : Int) from rfl, zmg, zsp (by omega)]
 have i0 : zhl b 0 = some ((bl b).getD 0 0) := by rw [show (0 : Int) = ((0 : Nat) : Int) from rfl, zmg, zsp (by omega)]
 have e1 : zcx N b 2 2 = _ := zvj N hN b 2 2 (by omega) (by omega) (by omega)
 have e2 : zcx N b 4 6 = _ := zvj N hN b 4 6 (by omega) (by omega) (by omega)
 have e3 : zcx N b 10 6 = _ := zvj N hN b 10 6 (by omega) (by omega) (by omega)
 unfold zjt
 rw [show ((b.size : Int) != 16) = false by rw [hb]; rfl]
 simp only [cfa, i1, i0, obs]
 by_cases h : ((bl b).getD 1 0).toNat = 0
 · rw [h, show ((((0 : Nat) : Int)) != 0) = false from rfl, cfa]; rw [e1, e2, e3]; simp only [obs]; have hx := ((bl b).getD 0 0).toNat_lt; rw [w6e]; rw [show (⟨(((bl b).getD 0 0).toNat : Int), ⟨(beV (((bl b).drop 4).take 6) : Int), (beV (((bl b).drop 10).take 6) : Int)⟩, (beV (((bl b).drop 2).take 2) : Int)⟩ : Pointer) = ztv (bl b) from rfl, z2n]; simp only [obs]; unfold zjg; rw [ifn]
   by_cases h2 : zr8 (ztv (bl b)) = 0
   · rw [h2]; rfl
   · rw [ifp h2, zd1, dct h2]; rfl
 · unfold zjg; rw [ifp h, zd1, dct (by omega)]; rfl
def zh7 (s : Storage) (i : Nat) : List UInt8 := ((bl s.Bytes).drop (16 * i)).take 16
def gS (s : Storage) (i : Nat) : Option (Int × Int) := (s.Tags[i]?).bind fun t => if t = true ∧ (zjg (zh7 s i)).2 ≠ 0 then some ((i : Int), 22) else none
def zk1 (s : Storage) : Int × Int :=
 if s.Bytes.size > 1024 then (0, 2) else if s.Bytes.size % 16 ≠ 0 then (0, 18) else if s.Tags.length ≠ s.Bytes.size / 16 then (0, 6)
 else match (List.range s.Tags.length).findSome? (gS s) with | some r => r | none => ((s.Tags.length : Int), 0)
theorem zie (s : Storage) (i : Nat) : bl (s.Bytes.extract (16 * i) (16 * i + 16)) = zh7 s i := by
 rw [zge, List.drop_take, zh7, show 16 * i + 16 - 16 * i = 16 by omega]
theorem zl6 (N : Nat) (hN : 2000 < N) (s : Storage) : zn N s = some (zk1 s) ∧ zcj N s = some (zk1 s) := by
 unfold zn zcj zk1
 by_cases h1 : (s.Bytes.size : Int) > 1024
 · rw [dct h1, ifp]; exact ⟨rfl, rfl⟩
 · rw [dcf h1, ifn]; have hm : (s.Bytes.size : Int).tmod 16 = (s.Bytes.size : Int) % 16 := tme; have hd : (s.Bytes.size : Int).tdiv 16 = (s.Bytes.size : Int) / 16 := tde
   by_cases h2 : (s.Bytes.size : Int) % 16 = 0
   · rw [hm, hd, w6e, ifn]
     by_cases h3 : (s.Tags.length : Int) = (s.Bytes.size : Int) / 16
     · rw [show (((s.Bytes.size : Int) % 16) != 0) = false by rw [h2]; rfl, show ((s.Tags.length : Int) != (s.Bytes.size : Int) / 16) = false by rw [← h3]; exact bsf _, ifn]; simp only [cfa]; have hw : ∀ i : Nat, i < s.Tags.length → w6 ((i : Int) * 16) = (i : Int) * 16 ∧ w6 ((i : Int) * 16 + 16) = (i : Int) * 16 + 16 := fun i hi => ⟨w6e, w6e⟩; have hx : ∀ i : Nat, i < s.Tags.length → s.Bytes.extract ((i : Int) * 16).toNat ((i : Int) * 16 + 16).toNat = s.Bytes.extract (16 * i) (16 * i + 16) := fun i hi => by
        rw [show ((i : Int) * 16).toNat = 16 * i by omega, show ((i : Int) * 16 + 16).toNat = 16 * i + 16 by omega]
       have hz : ∀ i : Nat, i < s.Tags.length → (s.Bytes.extract (16 * i) (16 * i + 16)).size = 16 := fun i hi => by
        rw [zcv _ _ _ (by omega) (by omega)]; omega
       constructor
       · have l1 := zbh (f := zn.r1 N) (fun i => (s.Tags, (s.Tags.length : Int), (i : Int), s)) (gS s) s.Tags.length
          (fun i hi => by
           obtain ⟨w1, w2⟩ := hw i hi; have hx1 := lge hi; simp only [zn.r1, zn.b1, zai, hx1, obs, dct (show (i : Int) < (s.Tags.length : Int) by omega), ctr, gS]; rw [w6e (n := (i : Int) + 1)]; cases hb : s.Tags[i] with
           | false => simp
           | true =>
            simp only [bnt, cfa, w1, w2]; rw [ifp, ifp, hx i hi, zwz N (by omega) _ (hz i hi), zie]; simp only [obs]
            by_cases hq : (zjg (zh7 s i)).2 = 0
            · rw [hq]; simp
            · rw [zd1, dct hq, ifp ⟨trivial, hq⟩]; rfl)
          (by simp only [zn.r1, zn.b1, dcf (show ¬ (s.Tags.length : Int) < (s.Tags.length : Int) by omega), cfa]) (N := N) (by omega)
         simp only [nc0] at l1; rw [l1]; simp only [obs]; cases (List.range s.Tags.length).findSome? (gS s) <;> rfl
       · have l1 := zbh (f := zcj.r0 N) (fun i => ((s.Bytes.size : Int) / 16, (i : Int), s)) (gS s) s.Tags.length
          (fun i hi => by
           obtain ⟨w1, w2⟩ := hw i hi; have hx1 := lge hi; simp only [zcj.r0, zcj.b0, zai, hx1, obs, dct (show (i : Int) < (s.Bytes.size : Int) / 16 by omega), ctr, gS]; rw [w6e (n := (i : Int) + 1)]; cases hb : s.Tags[i] with
           | false => simp
           | true =>
            simp only [ctr, zgp, w1, w2]; rw [ifp, ifp]; simp only [obs]; rw [hx i hi, zxf N (by omega) _ (hz i hi), zie]; simp only [obs]
            by_cases hq : (zjg (zh7 s i)).2 = 0
            · rw [hq]; simp
            · rw [zd1, dct hq, ifp ⟨trivial, hq⟩]; rfl)
          (by simp only [zcj.r0, zcj.b0, dcf (show ¬ (s.Tags.length : Int) < (s.Bytes.size : Int) / 16 by omega), cfa]) (N := N) (by omega)
         simp only [nc0] at l1; rw [l1]; simp only [obs]; cases (List.range s.Tags.length).findSome? (gS s) with
         | some r => rfl
         | none => simp only [zb5, ← h3]
     · rw [show (((s.Bytes.size : Int) % 16) != 0) = false by rw [h2]; rfl, show ((s.Tags.length : Int) != (s.Bytes.size : Int) / 16) = true by rw [zd1]; exact dct h3, ifp]; exact ⟨rfl, rfl⟩
   · rw [hm, show (((s.Bytes.size : Int) % 16) != 0) = true by rw [zd1]; exact dct h2, ifp]; exact ⟨rfl, rfl⟩
structure zl4 (s : Storage) : Prop where
 le : s.Bytes.size ≤ 1024
 quad : s.Bytes.size % 16 = 0
 tags : s.Tags.length = s.Bytes.size / 16
 ptr : ∀ i, s.Tags[i]? = some true → ∃ off : Int, (0 ≤ off ∧ off ≤ 16777215) ∧ zjg (zh7 s i) = (zxs off, 0)
theorem zl4.err {s : Storage} (h : zl4 s) : zk1 s = ((s.Tags.length : Int), 0) := by
 obtain ⟨h1, h2, h3, h4⟩ := h
 unfold zk1
 rw [ifn, ifn, ifn]
 have : (List.range s.Tags.length).findSome? (gS s) = none := by
  rw [List.findSome?_eq_none_iff]; intro i _; unfold gS; cases ht : s.Tags[i]? with
  | none => rfl
  | some t =>
   rw [obs]; split
   · rename_i h5; rw [h5.1] at ht; obtain ⟨off, _, h6⟩ := h4 i ht; rw [h6] at h5; exact absurd rfl h5.2
   · rfl
 rw [this]
theorem zl4.ok {s : Storage} (h : zl4 s) : StoOk s := ⟨h.le, h.quad⟩
def ldV (s : Storage) (at_ : Int) : Option Int := if s.Tags[(at_ / 16).toNat]? = some true then some (zjg (zh7 s (at_ / 16).toNat)).1.Address.Offset else none
theorem z25 {s : Storage} (h : zl4 s) {at_ o : Int} (hl : ldV s at_ = some o) : 0 ≤ o ∧ o ≤ 16777215 := by
 unfold ldV at hl
 split at hl
 · rename_i ht; obtain ⟨off, h1, h2⟩ := h.ptr _ ht; rw [h2] at hl; cases hl; exact h1
 · cases hl
theorem zs6 {s : Storage} {a : Int} (h : zoj s a = true) : 0 ≤ a ∧ a % 16 = 0 ∧ a < (s.Bytes.size : Int) := by
 unfold zoj at h
 simpa using h
theorem z5j (N : Nat) (hN : 2000 < N) {s : Storage} (h : zl4 s) {a : Int} (ha : zoj s a = true) :
 zb9 N s a = some (match ldV s a with | some o => (zxs o, 0) | none => (zt7, 22)) := by
 obtain ⟨a1, a2, a3⟩ := zs6 ha
 have hl := h.le
 have hq := h.quad
 have ht := h.tags
 unfold zb9 zgg
 rw [(zl6 N hN s).1, h.err]
 simp only [obs, bsf, cfa]
 rw [dcf (show ¬ a < 0 by omega), dcf (show ¬ a ≥ (s.Bytes.size : Int) by omega), tme a1, a2]
 simp only [bsf, cfa, obs]
 have ed : w6 (a.tdiv 16) = (((a / 16).toNat : Nat) : Int) := by
  rw [tde a1, w6e]; omega
 have hi : (a / 16).toNat < s.Tags.length := by omega
 rw [ed, zai, lge hi]
 simp only [obs]
 unfold ldV
 rw [lge hi]
 cases hb : s.Tags[(a / 16).toNat] with
 | false => rfl
 | true =>
  simp only [bnt, cfa, if_true]; rw [w6e, ifp, ifp]; have e : s.Bytes.extract a.toNat (a + 16).toNat = s.Bytes.extract (16 * (a / 16).toNat) (16 * (a / 16).toNat + 16) := by
   rw [show a.toNat = 16 * (a / 16).toNat by omega, show (a + 16).toNat = 16 * (a / 16).toNat + 16 by omega]
  rw [e, zwz N (by omega) _ (by rw [zcv _ _ _ (by omega) (by omega)]; omega), zie]; obtain ⟨off, _, h2⟩ := h.ptr (a / 16).toNat (by rw [lge hi, hb]); rw [h2]; rfl
theorem zco {n : Nat} (h : n ≤ 1000000) : Nat.ble n zbr = true := by
 rw [Nat.ble_eq]; unfold zbr; omega
def spl (l : List UInt8) (a : Nat) (d : List UInt8) : List UInt8 := l.take a ++ d ++ l.drop (a + d.length)
theorem z5k {l : List UInt8} {a : Nat} {d : List UInt8} (h : a + d.length ≤ l.length) : (spl l a d).length = l.length := by
 unfold spl
 simp only [lna, lnt, List.length_drop]
 omega
def clr (t : List Bool) (a n : Nat) : List Bool := (List.range t.length).map fun k => if 16 * k < a + n ∧ a < 16 * k + 16 then false else t.getD k false
theorem zz4 (t : List Bool) (a n : Nat) : (clr t a n).length = t.length := by simp [clr]
theorem zpu (t : List Bool) (a n k : Nat) : (clr t a n)[k]? = if 16 * k < a + n ∧ a < 16 * k + 16 then (if k < t.length then some false else none) else t[k]? := by
 unfold clr
 rw [List.getElem?_map]
 by_cases h : k < t.length
 · rw [lge (by simpa using h)]; simp only [List.getElem_range, Option.map_some]; split
   · simp [h]
   · rw [lge h, gdd, lge h]; rfl
 · rw [List.getElem?_eq_none (by simpa using h), List.getElem?_eq_none (by simpa using h)]; simp [h]
def wrV (s : Storage) (a : Nat) (d : ByteArray) : Storage := ⟨⟨(spl (bl s.Bytes) a (bl d)).toArray⟩, clr s.Tags a d.size⟩
theorem zti {s : Storage} {a : Nat} {d : ByteArray} (h : a + d.size ≤ s.Bytes.size) : (wrV s a d).Bytes.size = s.Bytes.size := z5k (l := bl s.Bytes) (d := bl d) h
theorem z4u {l : List UInt8} {a : Nat} {d : List UInt8} (h : a + d.length ≤ l.length) (i n : Nat) (hi : i + n ≤ a ∨ a + d.length ≤ i) : ((spl l a d).drop i).take n = (l.drop i).take n := by
 refine List.ext_getElem? fun k => ?_
 rw [List.getElem?_take, List.getElem?_take]
 by_cases hk : k < n
 · rw [ifp hk, ifp hk, List.getElem?_drop, List.getElem?_drop]; unfold spl; rcases hi with hi | hi
   · rw [List.append_assoc, List.getElem?_append_left (by rw [lnt]; omega), List.getElem?_take, ifp]
   · rw [List.getElem?_append_right (by rw [lna, lnt]; omega), lna, lnt, List.getElem?_drop]
     congr 1
     omega
 · rw [ifn hk, ifn hk]
theorem z1x {s : Storage} (h : zl4 s) {a : Nat} {d : ByteArray} (hd : a + d.size ≤ s.Bytes.size) (hd0 : 0 < d.size) : zl4 (wrV s a d) := by
 have hs := zti hd
 refine ⟨by rw [hs]; exact h.le, by rw [hs]; exact h.quad, by rw [hs]; exact (zz4 _ _ _).trans h.tags, fun i hi => ?_⟩
 have hi' : (clr s.Tags a d.size)[i]? = some true := hi
 rw [zpu] at hi'
 split at hi'
 · split at hi' <;> cases hi'
 · rename_i hn; obtain ⟨off, h1, h2⟩ := h.ptr i hi'; refine ⟨off, h1, ?_⟩; have : zh7 (wrV s a d) i = zh7 s i := z4u (l := bl s.Bytes) (d := bl d) hd _ _ (by rw [zj1]; omega); rw [this]; exact h2
theorem zla (b : ByteArray) : b.toList = bl b := ByteArray.toList_eq b
theorem z6p {s : Storage} (h : zl4 s) {a : Nat} {d : ByteArray} (hd : a + d.size ≤ s.Bytes.size) (hd0 : 0 < d.size) : zhq s (a : Int) d = some (wrV s a d) := by
 have hl := h.le
 have hq := h.quad
 have ht := h.tags
 have hmax : IntKind.i64.max = 9223372036854775807 := by decide
 unfold zhq
 rw [hmax]
 have z1 : (s.Bytes.extract (0 : Int).toNat (a : Int).toNat).size = a := by rw [zcv _ _ _ (by omega) (by omega)]; omega
 rw [ifp, ifp, ifn (by rw [z1]; omega), w6e (n := (a : Int) + (d.size : Int)), ifp]
 have z2 : (s.Bytes.extract ((a : Int) + (d.size : Int)).toNat s.Bytes.size).size = s.Bytes.size - (a + d.size) := by rw [zcv _ _ _ (by omega) (by omega)]; omega
 rw [ifn (by rw [z2, bsa, z1]; omega)]
 have hc : zki 1 s.Tags = some s.Tags := by unfold zki; rw [zco (by omega)]; rfl
 rw [hc]
 simp only [obs]
 have hne : (d.toList == (⟨#[]⟩ : ByteArray).toList) = false := by
  rw [zla, zla]; refine beq_eq_false_iff_ne.2 fun h => ?_; have := congrArg List.length h; rw [zj1, zj1] at this; have : d.size = 0 := this; omega
 rw [hne]
 simp only [Bool.not_false, ctr]
 have e1 : w6 ((w6 ((w6 ((a : Int) + (d.size : Int) - 1)).tdiv 16)) + 1) = (((a + d.size - 1) / 16 + 1 : Nat) : Int) := by
  rw [w6e (n := (a : Int) + (d.size : Int) - 1), tde, w6e (n := ((a : Int) + (d.size : Int) - 1) / 16), w6e]; omega
 have e2 : w6 ((a : Int).tdiv 16) = ((a / 16 : Nat) : Int) := by
  rw [tde, w6e]; omega
 rw [e1, e2, ifp, ifp]
 simp only [itn]
 have f1 : ((s.Bytes.extract (0 : Int).toNat a) ++ d) ++ (s.Bytes.extract ((a : Int) + (d.size : Int)).toNat s.Bytes.size) = (wrV s a d).Bytes := by
  refine zu9 ?_; rw [zlk, zlk, zge, zge, show (0 : Int).toNat = 0 from rfl, dr0, show ((a : Int) + (d.size : Int)).toNat = a + d.size by omega, ← zj1 s.Bytes, List.take_length]; rfl
 have f2 : s.Tags.take (a / 16) ++ List.replicate ((a + d.size - 1) / 16 + 1 - a / 16) false ++ s.Tags.drop (a / 16 + ((a + d.size - 1) / 16 + 1 - a / 16)) = (wrV s a d).Tags := by
  refine List.ext_getElem? fun k => ?_; show _ = (clr s.Tags a d.size)[k]?; rw [zpu]
  by_cases h1 : k < a / 16
  · rw [List.append_assoc, List.getElem?_append_left (by rw [lnt]; omega), List.getElem?_take, ifp h1, ifn]
  · by_cases h2 : k < (a + d.size - 1) / 16 + 1
    · rw [List.append_assoc, List.getElem?_append_right (by rw [lnt]; omega), List.getElem?_append_left (by rw [lnt, lnr]; omega), List.getElem?_replicate, ifp (by rw [lnt]; omega), ifp, ifp]
    · rw [List.getElem?_append_right (by rw [lna, lnt, lnr]; omega), lna, lnt, lnr, List.getElem?_drop, ifn]
      congr 1
      omega
 rw [f1, f2]
theorem zwy (N : Nat) (hN : 2000 < N) {s : Storage} (h : zl4 s) {a : Nat} {d : ByteArray} (hd : a + d.size ≤ s.Bytes.size) (hd0 : 0 < d.size) : zdu N s (a : Int) d = some (wrV s a d, 0) := by
 have hl := h.le
 unfold zdu zi5
 rw [(zl6 N hN s).1, h.err]
 simp only [obs, bsf, cfa]
 rw [dcf (show ¬ (a : Int) < 0 by omega), dcf (show ¬ (d.size : Int) < 0 by omega), dcf (show ¬ (a : Int) > (s.Bytes.size : Int) by omega), w6e, dcf (show ¬ (d.size : Int) > (s.Bytes.size : Int) - (a : Int) by omega)]
 simp only [cfa, obs, bsf]
 rw [z6p h hd hd0]
 rfl
theorem zva (l : List Int) : bl (zd3 l) = l.map fun n => UInt8.ofNat n.toNat := rfl
theorem zx3 (N : Nat) (hN : 100 < N) (k : Nat) (hk : k ≤ 18) : zbw N (k : Int) = some ((10 ^ k : Nat) : Int) := by
 unfold zbw
 have := za1 (f := zbw.r0 N) (fun i => (((10 ^ i : Nat) : Int), (k : Int), (i : Int))) k
  (fun i hi => by
   have : 10 ^ (i + 1) ≤ 10 ^ 18 := zk7 (by omega); rw [Nat.pow_succ] at this; simp only [zbw.r0, zbw.b0, dct (show (i : Int) < (k : Int) by omega), ctr]; rw [w6e (n := ((10 ^ i : Nat) : Int) * 10), w6e, Nat.pow_succ]; simp only [Int.natCast_add, Int.natCast_mul, Int.natCast_one]; rfl)
  (by simp only [zbw.r0, zbw.b0, dcf (show ¬ (k : Int) < (k : Int) by omega), cfa]) (N := N) (by omega)
 simp only [Nat.pow_zero, nc0] at this
 rw [ifn, show (1 : Int) = ((1 : Nat) : Int) from rfl, this]
 rfl
theorem zwo (N : Nat) (hN : 100 < N) {t : DataType} (ht : zn0 t) (n : Int) : za5 N t ⟨n, ⟨#[]⟩⟩ = some (if -((10 ^ t.Length.toNat : Nat) : Int) < n ∧ n < ((10 ^ t.Length.toNat : Nat) : Int) then 0 else 19) := by
 have f2 : ∀ a b : Int, zm N [a, b] = some (zhe [a, b]) := fun a b => ztx N _ (by simp; omega) (by simp)
 obtain ⟨⟨l1, l2⟩, l3, l4⟩ := zi0 ht
 have hp := zx3 N hN t.Length.toNat (by omega)
 rw [Int.toNat_of_nonneg (by omega)] at hp
 have hp2 : 10 ^ t.Length.toNat ≤ 10 ^ 15 := zk7 (by omega)
 have hp3 := zv6 t.Length.toNat
 obtain ⟨h0, h1, h2⟩ := ht
 unfold za5
 rw [zpo N (by omega), h0, zcn, zcn, dcf (show ¬ t.Kind = 4 by omega), dcf (show ¬ t.Kind = 0 by omega)]
 simp only [zsn, cfa, obs, f2, show zhe [0, 0] = 0 from rfl, bsf]
 rw [hp]
 simp only [obs, bst, bnt, cfa, z0z, zsn]
 generalize 10 ^ t.Length.toNat = P at *
 rw [w6e (n := (P : Int) - 1), w6e]
 by_cases h : -(P : Int) < n ∧ n < (P : Int)
 · rw [ifp h, show inB n (0 - ((P : Int) - 1)) ((P : Int) - 1) = true from zdk.2 ⟨by omega, by omega⟩]; rfl
 · rw [ifn h, show inB n (0 - ((P : Int) - 1)) ((P : Int) - 1) = false by
    cases hb : inB n (0 - ((P : Int) - 1)) ((P : Int) - 1) with
    | false => rfl
    | true => have := zdk.1 hb; omega]
   rfl
theorem zvf {t : DataType} (ht : zn0 t) : szE t = (if t.Kind = 1 then t.Length / 2 + 1 else if t.Kind = 3 then (if t.Length = 9 then 4 else 2) else t.Length) := by
 obtain ⟨_, h1, h2⟩ := ht
 unfold szE
 split
 · rfl
 · split
   · rfl
   · rw [ifn]
def zn6 (n len : Nat) : List Int := (List.range len).map fun j => ((n / 10 ^ (len - 1 - j) % 10 : Nat) : Int)
theorem zq0 (n len : Nat) : (zn6 n len).length = len := by simp [zn6]
theorem zqz {n len : Nat} : ∀ d ∈ zn6 n len, 0 ≤ d ∧ d ≤ 9 := by
 intro d hd
 obtain ⟨j, _, rfl⟩ := List.mem_map.1 hd
 omega
def zww (l : List Int) (neg : Bool) : List Int := (l.take (l.length - 1)).map (· + 240) ++ [l.getD (l.length - 1) 0 + cond neg 208 240]
def zhr : List Int → List Int
 | a :: b :: l => (16 * a + b) :: zhr l
 | _ => []
def z1g (n : Int) (k : Nat) : List Int := (List.range k).map fun j => n / 256 ^ (k - 1 - j) % 256
def zo9 (t : DataType) (n : Int) : List Int := (if t.Length % 2 = 0 then [0] else []) ++ zn6 n.natAbs t.Length.toNat ++ [if n < 0 then 13 else 15]
def zqx (t : DataType) (n : Int) : ByteArray :=
 zd3 (if t.Kind = 3 then z1g n (szE t).toNat else if t.Kind = 2 then zww (zn6 n.natAbs t.Length.toNat) (decide (n < 0)) else zhr (zo9 t n))
theorem z2y (N : Nat) (hN : 100 < N) (n len : Nat) (hn : n ≤ 1000000000000000000) (hl : len ≤ 20) : zal N (n : Int) (len : Int) = some (zn6 n len) := by
 unfold zal
 have := za1 (f := zal.r0 N) (fun i => (((n / 10 ^ i : Nat) : Int), zfi (fun e => ((n / 10 ^ e % 10 : Nat) : Int)) len i, (len : Int) - 1 - (i : Int))) len
  (fun i hi => by
   have hl2 : n / 10 ^ i ≤ n := Nat.div_le_self _ _; have hl : (zfi (fun e => ((n / 10 ^ e % 10 : Nat) : Int)) len i).length = len := zqf _ _ _; have e1 : n / 10 ^ (i + 1) = n / 10 ^ i / 10 := by rw [Nat.pow_succ, ← Nat.div_div_eq_div_mul]
   have e2 : (zfi (fun e => ((n / 10 ^ e % 10 : Nat) : Int)) len i).set (len - 1 - i) ((n / 10 ^ i % 10 : Nat) : Int) = zfi (fun e => ((n / 10 ^ e % 10 : Nat) : Int)) len (i + 1) := zol _ len i hi; rw [e1, ← e2]; generalize (zfi (fun e => ((n / 10 ^ e % 10 : Nat) : Int)) len i) = P at *; generalize n / 10 ^ i = q at *; simp only [zal.r0, zal.b0, dct (show (len : Int) - 1 - (i : Int) ≥ 0 by omega), ctr, hl]; rw [ifp, ifp]; obtain ⟨x, hx⟩ : ∃ x, P[((len : Int) - 1 - (i : Int)).toNat]? = some x := zke (by omega); rw [hx]; simp only [obs]
   rw [tde, tme, w6e (n := (q : Int) / 10), w6e (n := (len : Int) - 1 - (i : Int) - 1), zln (by omega) (by omega), show ((len : Int) - 1 - (i : Int)).toNat = len - 1 - i by omega, show (q : Int) % 10 = ((q % 10 : Nat) : Int) by omega, show (q : Int) / 10 = ((q / 10 : Nat) : Int) by omega, show (len : Int) - 1 - (i : Int) - 1 = (len : Int) - 1 - ((i + 1 : Nat) : Int) by omega])
  (by simp only [zal.r0, zal.b0, dcf (show ¬ (len : Int) - 1 - (len : Int) ≥ 0 by omega), cfa]) (N := N) (by omega)
 rw [ifp, ifp, zco (by omega), ctr, itn, w6e]
 simp only [Nat.pow_zero, Nat.div_one, zok, nc0, Int.sub_zero, zom] at this
 rw [this]
 rfl
theorem or4 (x y : Nat) (hx : x < 16) (hy : y < 16) : orI .u8 (IntKind.wrap .u8 ((x : Int) * 2 ^ (min (4 : Int).toNat 8))) (y : Int) = ((16 * x + y : Nat) : Int) := by
 rw [show (2 : Int) ^ (min (4 : Int).toNat 8) = 16 from rfl, zln (by omega) (by omega)]
 unfold orI
 have e : (BitVec.ofInt IntKind.u8.bits ((x : Int) * 16) ||| BitVec.ofInt IntKind.u8.bits (y : Int)).toNat = 16 * x + y := by
  show (BitVec.ofInt 8 ((x : Int) * 16) ||| BitVec.ofInt 8 (y : Int)).toNat = _; rw [show (x : Int) * 16 = ((16 * x : Nat) : Int) by omega, BitVec.toNat_or, BitVec.ofInt_natCast, BitVec.ofInt_natCast, BitVec.toNat_ofNat, BitVec.toNat_ofNat, mel (by omega), mel (by omega)]; exact (Nat.two_pow_add_eq_or_of_lt (i := 4) (b := y) hy x).symm
 rw [e]
 exact zln (by omega) (by omega)
theorem zqh : ∀ (n : Nat) (l : List Int) (x y : Int), l.length = 2 * n → zhr (l ++ [x, y]) = zhr l ++ [16 * x + y]
 | 0, l, x, y, h => by
  obtain rfl := List.length_eq_zero_iff.1 (by omega : l.length = 0); rfl
 | n + 1, [], x, y, h => by simp at h
 | n + 1, [a], x, y, h => by simp at h; omega
 | n + 1, a :: b :: l, x, y, h => by
  simp only [List.cons_append, zhr]; rw [zqh n l x y (by simp only [lnc] at h; omega)]
theorem zm0 : ∀ (n : Nat) (l : List Int), l.length = 2 * n → (zhr l).length = n
 | 0, l, h => by
  obtain rfl := List.length_eq_zero_iff.1 (by omega : l.length = 0); rfl
 | n + 1, [], h => by simp at h
 | n + 1, [a], h => by simp at h; omega
 | n + 1, a :: b :: l, h => by
  simp only [zhr, lnc]; rw [zm0 n l (by simp only [lnc] at h; omega)]
theorem z2x (N : Nat) (hN : 100 < N) (l : List Int) (n : Nat) (hl : l.length = 2 * n) (hn : n ≤ 20) (hd : ∀ d ∈ l, 0 ≤ d ∧ d < 16) : zax N l = some (zd3 (zhr l)) := by
 unfold zax
 have := za1 (f := zax.r0 N) (fun i => (l, zhr (l.take (2 * i)), 2 * (i : Int))) n
  (fun i hi => by
   obtain ⟨x, hx⟩ : ∃ x, l[2 * i]? = some x := zke (by omega); obtain ⟨y, hy⟩ : ∃ y, l[2 * i + 1]? = some y := zke (by omega); obtain ⟨x1, x2⟩ := hd x (lmg hx); obtain ⟨y1, y2⟩ := hd y (lmg hy); have hlt : (l.take (2 * i)).length = 2 * i := by rw [lnt]; omega
   simp only [zax.r0, zax.b0, dct (show 2 * (i : Int) < (l.length : Int) by omega), ctr]; rw [w6e (n := 2 * (i : Int) + 1), w6e (n := 2 * (i : Int) + 2), show 2 * (i : Int) = ((2 * i : Nat) : Int) by omega, show ((2 * i : Nat) : Int) + 1 = ((2 * i + 1 : Nat) : Int) by omega, zai, zai, hx, hy]; simp only [obs]; obtain ⟨u, rfl⟩ : ∃ u : Nat, x = (u : Int) := ⟨x.toNat, by omega⟩; obtain ⟨v, rfl⟩ : ∃ v : Nat, y = (v : Int) := ⟨y.toNat, by omega⟩; rw [or4 u v (by omega) (by omega), zco (by rw [zm0 i _ hlt]; simp only [lnc, ln0]; omega), ctr]; rw [show 2 * (i + 1) = 2 * i + 1 + 1 by omega, zhp _ _ hy, zhp _ _ hx, List.append_assoc, show ([(u : Int)] ++ [(v : Int)] : List Int) = [(u : Int), (v : Int)] from rfl, zqh i _ _ _ hlt]
   congr 4)
  (by simp only [zax.r0, zax.b0, dcf (show ¬ 2 * (n : Int) < (l.length : Int) by omega), cfa]) (N := N) (by omega)
 simp only [Nat.mul_zero, List.take_zero, nc0, Int.mul_zero] at this
 rw [show zhr [] = [] from rfl] at this
 rw [this, obs, ← hl, List.take_length]
theorem z5l (f : Int → Int) (l : List Int) (i : Nat) {x : Int} (hx : l[i]? = some x) : ((l.take i).map f ++ l.drop i)[i]? = some x ∧ ((l.take i).map f ++ l.drop i).set i (f x) = (l.take (i + 1)).map f ++ l.drop (i + 1) := by
 obtain ⟨h1, h2⟩ := gei hx
 have hl : ((l.take i).map f).length = i := by rw [lnm, lnt]; omega
 have hd : l.drop i = x :: l.drop (i + 1) := by rw [List.drop_eq_getElem_cons h1, h2]
 constructor
 · rw [List.getElem?_append_right (by omega), hl, Nat.sub_self, hd]; rfl
 · rw [List.set_append_right _ _ (by omega), hl, Nat.sub_self, hd, zhp l i hx, List.map_append, List.append_assoc]; rfl
theorem z04 {l : List Int} (h : 0 < l.length) : l = l.take (l.length - 1) ++ [l.getD (l.length - 1) 0] := by
 have hx : l[l.length - 1]? = some (l.getD (l.length - 1) 0) := by rw [gdd, lge (by omega)]; rfl
 have := zhp l (l.length - 1) hx
 rw [show l.length - 1 + 1 = l.length by omega, List.take_length] at this
 exact this
theorem z5f (z : Int) : IntKind.wrap .u8 z = z % 256 := by
 have e : (2 : Int) ^ (IntKind.u8.bits) = 256 := by decide
 unfold IntKind.wrap
 simp only [e, show IntKind.u8.signed = false from rfl, Bool.false_and]
 simp only [Bool.false_eq_true, if_false]
theorem zna {l : List Int} (h : 0 < l.length) : l.map (· + 240) = zww l false := by
 conv => lhs; rw [z04 h]
 rw [List.map_append]
 rfl
theorem zvb {n : Int} (h1 : -9223372036854775807 ≤ n) (h2 : n ≤ 9223372036854775807) : (if w6 (0 - n) > n then w6 (0 - n) else n) = ((n.natAbs : Nat) : Int) := by
 rw [w6e]
 split <;> omega
theorem zqi {t : DataType} (h1 : 1 ≤ t.Length) (n : Int) : (zo9 t n).length = 2 * (t.Length.toNat / 2 + 1) ∧ ∀ d ∈ zo9 t n, 0 ≤ d ∧ d < 16 := by
 unfold zo9
 constructor
 · rw [lna, lna, zq0, lns]; split
   · rw [lns]; omega
   · rw [ln0]; omega
 · intro d hd; rcases List.mem_append.1 hd with hd | hd
   · rcases List.mem_append.1 hd with hd | hd
     · split at hd
       · rcases List.mem_cons.1 hd with rfl | hd
         · omega
         · cases hd
       · cases hd
     · have := zqz d hd; omega
   · rcases List.mem_cons.1 hd with rfl | hd
     · split <;> omega
     · cases hd
theorem z00 (N : Nat) (hN : 100 < N) {t : DataType} (ht : zn0 t) (n : Int) (hn : -((10 ^ t.Length.toNat : Nat) : Int) < n ∧ n < ((10 ^ t.Length.toNat : Nat) : Int)) : zq N t ⟨n, ⟨#[]⟩⟩ = some (zqx t n) := by
 obtain ⟨⟨l1, l2⟩, l3, l4⟩ := zi0 ht
 have hp2 : 10 ^ t.Length.toNat ≤ 10 ^ 15 := zk7 (by omega)
 have hsz := zvf ht
 have ht' := ht
 obtain ⟨h0, h1, h2⟩ := ht'
 have hd := z2y N hN n.natAbs t.Length.toNat (by omega) (by omega)
 rw [Int.toNat_of_nonneg (by omega)] at hd
 unfold zq zqx
 try simp only [eD]
 rw [zvb (by omega) (by omega), hd]
 simp only [obs]
 have hlen := zq0 n.natAbs t.Length.toNat
 have hrange := zqz (n := n.natAbs) (len := t.Length.toNat)
 have hpac := zqi (t := t) l1 n
 have epac : zo9 t n = (if t.Length % 2 = 0 then [0] else []) ++ zn6 n.natAbs t.Length.toNat ++ [if n < 0 then 13 else 15] := rfl
 generalize zn6 n.natAbs t.Length.toNat = d at *
 simp only [zcn]
 by_cases k2 : t.Kind = 2
 · rw [dct k2, ctr, ifn, ifp k2]; have lp := za1 (f := zq.r1 N) (fun i => ((d.take i).map (· + 240) ++ d.drop i, (d.length : Int), (i : Int), (⟨n, ⟨#[]⟩⟩ : Value))) d.length
    (fun i hi => by
     obtain ⟨x, hx⟩ : ∃ x, d[i]? = some x := zke hi; obtain ⟨e1, e2⟩ := z5l (· + 240) d i hx; have hxr := hrange x (lmg hx); have hl : ((d.take i).map (· + 240) ++ d.drop i).length = d.length := by rw [lna, lnm, lnt, List.length_drop]; omega
     simp only [zq.r1, zq.b1, dct (show (i : Int) < (d.length : Int) by omega), ctr, hl]; rw [ifp, ifp, itn, e1]; simp only [obs]; rw [ifp, ifp, zln (by omega) (by omega), w6e, e2]; rfl)
    (by simp only [zq.r1, zq.b1, dcf (show ¬ (d.length : Int) < (d.length : Int) by omega), cfa]) (N := N) (by omega)
   simp only [List.take_zero, nc0, dr0, List.map_nil, List.nil_append, List.take_length, List.drop_length, List.append_nil] at lp; rw [lp]; simp only [obs, lnm]
   by_cases hneg : n < 0
   · rw [dct hneg, ctr, w6e, ifp, ifp]; have hi : (d.length : Int) - 1 = ((d.length - 1 : Nat) : Int) := by omega
     have hx : d[d.length - 1]? = some (d.getD (d.length - 1) 0) := by rw [gdd, lge (by omega)]; rfl
     have hxr := hrange _ (lmg hx); rw [hi, itn, List.getElem?_map, hx]; simp only [Option.map_some, obs]; rw [ifp, ifp, zln (by omega) (by omega)]
     congr 2
     conv => lhs; rw [show d.map (· + 240) = (d.take (d.length - 1)).map (· + 240) ++ [d.getD (d.length - 1) 0 + 240] from zna (by omega)]
     have hl : ((d.take (d.length - 1)).map (· + 240)).length = d.length - 1 := by rw [lnm, lnt]; omega
     rw [List.set_append_right _ _ (by omega), hl, Nat.sub_self]; unfold zww
     congr 1
     show [_] = [_]
     congr 1
     simp only [ctr]; omega
   · rw [dcf hneg, cfa, zna (by omega)]
 · rw [dcf k2, cfa, ifn (c := t.Kind = 2) k2]
   by_cases k1 : t.Kind = 1
   · rw [dct k1, ctr, ifn]; have pk := z2x N hN (zo9 t n) _ hpac.1 (by omega) hpac.2; have ev : decide ((d.length : Int).tmod 2 = 0) = decide (t.Length % 2 = 0) := by
      rw [tme]; simp only [decide_eq_decide]; omega
     rw [ev]; rw [epac] at pk ⊢
     by_cases hneg : n < 0
     · rw [dct hneg, ctr]; rw [ifp hneg] at pk ⊢
       by_cases he : t.Length % 2 = 0
       · rw [dct he, ctr]; rw [ifp he] at pk ⊢; rw [zco (by simp only [lnc, ln0]; omega), ctr, zco (by simp only [lna, lnc, ln0]; omega), ctr, pk]; rfl
       · rw [dcf he, cfa]; rw [ifn he, List.nil_append] at pk ⊢; rw [zco (by simp only [lnc, ln0]; omega), ctr, pk]; rfl
     · rw [dcf hneg, cfa]; rw [ifn hneg] at pk ⊢
       by_cases he : t.Length % 2 = 0
       · rw [dct he, ctr]; rw [ifp he] at pk ⊢; rw [zco (by simp only [lnc, ln0]; omega), ctr, zco (by simp only [lna, lnc, ln0]; omega), ctr, pk]; rfl
       · rw [dcf he, cfa]; rw [ifn he, List.nil_append] at pk ⊢; rw [zco (by simp only [lnc, ln0]; omega), ctr, pk]; rfl
   · have k3 : t.Kind = 3 := by omega
     rw [dcf k1, cfa, dct k3, ctr, ifp k3, zvm h0]; have hs : (szE t).toNat ≤ 4 ∧ 0 < (szE t).toNat ∧ szE t = ((szE t).toNat : Int) := by
      rw [hsz, ifn k1, ifp k3]; split <;> decide
     obtain ⟨s1, s2, s3⟩ := hs; generalize (szE t).toNat = k at *; rw [s3]; simp only [obs]; rw [ifp, ifp, zco (by omega), ctr, itn, lnr, w6e]; have lp := za1 (f := zq.r3 N) (fun i => (zfi (fun e => n / 256 ^ e % 256) k i, (k : Int) - 1 - (i : Int), n / 256 ^ i)) k
      (fun i hi => by
       have e2 : (zfi (fun e => n / 256 ^ e % 256) k i).set (k - 1 - i) (n / 256 ^ i % 256) = zfi (fun e => n / 256 ^ e % 256) k (i + 1) := zol _ k i hi; have hl : (zfi (fun e => n / 256 ^ e % 256) k i).length = k := zqf _ _ _; have e1 : n / 256 ^ (i + 1) = n / 256 ^ i / 256 := by rw [Int.pow_succ, Int.ediv_ediv_of_nonneg (Int.le_of_lt (Int.pow_pos (by decide)))]
       rw [e1, ← e2]; generalize zfi (fun e => n / 256 ^ e % 256) k i = P at *; simp only [zq.r3, zq.b3, dct (show (k : Int) - 1 - (i : Int) ≥ 0 by omega), ctr, hl]; rw [ifp, ifp]; obtain ⟨x, hx⟩ : ∃ x, P[((k : Int) - 1 - (i : Int)).toNat]? = some x := zke (by omega); rw [hx]; simp only [obs]; rw [z5f, w6e, show (2 : Int) ^ (min (8 : Int).toNat 64) = 256 from rfl, Int.fdiv_eq_ediv_of_nonneg _ (by decide), show ((k : Int) - 1 - (i : Int)).toNat = k - 1 - i by omega, show (k : Int) - 1 - (i : Int) - 1 = (k : Int) - 1 - ((i + 1 : Nat) : Int) by omega])
      (by simp only [zq.r3, zq.b3, dcf (show ¬ (k : Int) - 1 - (k : Int) ≥ 0 by omega), cfa]) (N := N) (by omega)
     simp only [Int.pow_zero, Int.ediv_one, zok, nc0, Int.sub_zero, zom] at lp; rw [lp]; rfl
theorem zwa (N : Nat) (hN : 100 < N) {t : DataType} (ht : zn0 t) (n : Int) (hn : -((10 ^ t.Length.toNat : Nat) : Int) < n ∧ n < ((10 ^ t.Length.toNat : Nat) : Int)) : zb1 N t ⟨n, ⟨#[]⟩⟩ = some (zqx t n, 0) := by
 unfold zb1
 rw [zwo N hN ht, ifp hn]
 simp only [obs, bsf, cfa, eD]
 rw [z00 N hN ht n hn]
 rfl
theorem zwd {t : DataType} (ht : zn0 t) (n : Int) : ((zqx t n).size : Int) = szE t := by
 obtain ⟨⟨l1, l2⟩, l3, l4⟩ := zi0 ht
 have hsz := zvf ht
 obtain ⟨h0, h1, h2⟩ := ht
 rw [← zj1]
 unfold zqx
 rw [zva, lnm]
 by_cases k3 : t.Kind = 3
 · rw [ifp k3]; unfold z1g; rw [lnm, List.length_range]; rw [hsz, ifn, ifp k3]; split <;> rfl
 · rw [ifn k3]
   by_cases k2 : t.Kind = 2
   · rw [ifp k2]; unfold zww; rw [lna, lnm, lnt, zq0, lns, hsz, ifn, ifn k3]; omega
   · rw [ifn k2, zm0 _ _ (zqi l1 n).1, hsz, ifp]; omega
theorem z33 (N : Nat) (hN : 100 < N) (k : Nat) (hk : k ≤ 18) : zc4 N (k : Int) = some ((10 ^ k : Nat) : Int) := by
 unfold zc4
 have := za1 (f := zc4.r0 N) (fun i => ((k : Int), ((10 ^ i : Nat) : Int), (i : Int))) k
  (fun i hi => by
   have : 10 ^ (i + 1) ≤ 10 ^ 18 := zk7 (by omega); rw [Nat.pow_succ] at this; simp only [zc4.r0, zc4.b0, dct (show (i : Int) < (k : Int) by omega), ctr]; rw [w6e (n := ((10 ^ i : Nat) : Int) * 10), w6e, Nat.pow_succ]; simp only [Int.natCast_add, Int.natCast_mul, Int.natCast_one]; rfl)
  (by simp only [zc4.r0, zc4.b0, dcf (show ¬ (k : Int) < (k : Int) by omega), cfa]) (N := N) (by omega)
 simp only [Nat.pow_zero, nc0] at this
 rw [show (1 : Int) = ((1 : Nat) : Int) from rfl, this]
 rfl
theorem z2m (N : Nat) (hN : 100 < N) (n len : Nat) (hn : n ≤ 1000000000000000000) (hl : len ≤ 20) : zb6 N (n : Int) (len : Int) = some (zn6 n len) := by
 unfold zb6
 have := za1 (f := zb6.r0 N) (fun i => (((n / 10 ^ i : Nat) : Int), zfi (fun e => ((n / 10 ^ e % 10 : Nat) : Int)) len i, (len : Int) - 1 - (i : Int))) len
  (fun i hi => by
   have hl2 : n / 10 ^ i ≤ n := Nat.div_le_self _ _; have hl : (zfi (fun e => ((n / 10 ^ e % 10 : Nat) : Int)) len i).length = len := zqf _ _ _; have e1 : n / 10 ^ (i + 1) = n / 10 ^ i / 10 := by rw [Nat.pow_succ, ← Nat.div_div_eq_div_mul]
   have e2 : (zfi (fun e => ((n / 10 ^ e % 10 : Nat) : Int)) len i).set (len - 1 - i) ((n / 10 ^ i % 10 : Nat) : Int) = zfi (fun e => ((n / 10 ^ e % 10 : Nat) : Int)) len (i + 1) := zol _ len i hi; rw [e1, ← e2]; generalize (zfi (fun e => ((n / 10 ^ e % 10 : Nat) : Int)) len i) = P at *; generalize n / 10 ^ i = q at *; simp only [zb6.r0, zb6.b0, dct (show (len : Int) - 1 - (i : Int) ≥ 0 by omega), ctr, hl]; rw [ifp, ifp]; obtain ⟨x, hx⟩ : ∃ x, P[((len : Int) - 1 - (i : Int)).toNat]? = some x := zke (by omega); rw [hx]; simp only [obs]; rw [tde, tme, w6e (n := (q : Int) / 10), w6e (n := (len : Int) - 1 - (i : Int) - 1), show ((len : Int) - 1 - (i : Int)).toNat = len - 1 - i by omega, show (q : Int) % 10 = ((q % 10 : Nat) : Int) by omega, show (q : Int) / 10 = ((q / 10 : Nat) : Int) by omega, show (len : Int) - 1 - (i : Int) - 1 = (len : Int) - 1 - ((i + 1 : Nat) : Int) by omega])
  (by simp only [zb6.r0, zb6.b0, dcf (show ¬ (len : Int) - 1 - (len : Int) ≥ 0 by omega), cfa]) (N := N) (by omega)
 rw [ifp, ifp, zco (by omega), ctr, itn, w6e]
 simp only [Nat.pow_zero, Nat.div_one, zok, nc0, Int.sub_zero, zom] at this
 rw [this]
 rfl
theorem zs3 (N : Nat) (hN : 100 < N) (v k : Nat) (hv : v < 9223372036854775807) (hk : k ≤ 8) : zbp N (v : Int) (k : Int) = some (zd3 (z40 v k)) := by
 unfold zbp
 have := za1 (f := zbp.r0 N) (fun i => (((v / 256 ^ i : Nat) : Int), (k : Int), zfi (fun e => ((v / 256 ^ e % 256 : Nat) : Int)) k i, (i : Int))) k
  (fun i hi => by
   have hl2 : v / 256 ^ i ≤ v := Nat.div_le_self _ _; have hl : (zfi (fun e => ((v / 256 ^ e % 256 : Nat) : Int)) k i).length = k := zqf _ _ _; have e1 : v / 256 ^ (i + 1) = v / 256 ^ i / 256 := by rw [Nat.pow_succ, ← Nat.div_div_eq_div_mul]
   have e2 : (zfi (fun e => ((v / 256 ^ e % 256 : Nat) : Int)) k i).set (k - 1 - i) ((v / 256 ^ i % 256 : Nat) : Int) = zfi (fun e => ((v / 256 ^ e % 256 : Nat) : Int)) k (i + 1) := zol _ k i hi; rw [e1, ← e2]; generalize (zfi (fun e => ((v / 256 ^ e % 256 : Nat) : Int)) k i) = P at *; generalize v / 256 ^ i = q at *; simp only [zbp.r0, zbp.b0, dct (show (i : Int) < (k : Int) by omega), ctr, hl]; rw [w6e (n := (k : Int) - 1), w6e (n := (k : Int) - 1 - (i : Int)), ifp, ifp]; obtain ⟨x, hx⟩ : ∃ x, P[((k : Int) - 1 - (i : Int)).toNat]? = some x := zke (by omega); rw [hx]; simp only [obs]; rw [tde, tme, w6e (n := (q : Int) / 256), w6e (n := (i : Int) + 1), zln (by omega) (by omega), show ((k : Int) - 1 - (i : Int)).toNat = k - 1 - i by omega, show (q : Int) % 256 = ((q % 256 : Nat) : Int) by omega, show (q : Int) / 256 = ((q / 256 : Nat) : Int) by omega]; rfl)
  (by simp only [zbp.r0, zbp.b0, dcf (show ¬ (k : Int) < (k : Int) by omega), cfa]) (N := N) (by omega)
 rw [ifp, ifp, zco (by omega), ctr, itn]
 simp only [Nat.pow_zero, Nat.div_one, zok, nc0] at this
 rw [this, obs, zom]
 rfl
theorem z3u (f : Int → Int) (l : List Int) (m i : Nat) {x : Int} (hx : l[i]? = some x) (hm : i < m) : ((l.take i).map f ++ List.replicate (m - i) 0)[i]? = some 0 ∧ ((l.take i).map f ++ List.replicate (m - i) 0).set i (f x) = (l.take (i + 1)).map f ++ List.replicate (m - (i + 1)) 0 := by
 obtain ⟨h1, h2⟩ := gei hx
 have hl : ((l.take i).map f).length = i := by rw [lnm, lnt]; omega
 have hd : List.replicate (m - i) (0 : Int) = 0 :: List.replicate (m - (i + 1)) 0 := by rw [show m - i = m - (i + 1) + 1 by omega, List.replicate_succ]
 constructor
 · rw [List.getElem?_append_right (by omega), hl, Nat.sub_self, hd]; rfl
 · rw [List.set_append_right _ _ (by omega), hl, Nat.sub_self, hd, zhp l i hx, List.map_append, List.append_assoc]; rfl
theorem zyo (n : Int) (k : Nat) (m : Nat) (h : (m : Int) = n ∨ (m : Int) = n + (256 ^ k : Nat)) : z40 m k = z1g n k := by
 unfold z40 z1g
 refine List.map_congr_left fun j hj => ?_
 have hjk := List.mem_range.1 hj
 have hc : (256 : Int) ^ (k - 1 - j) = ((256 ^ (k - 1 - j) : Nat) : Int) := by rw [Int.natCast_pow]; rfl
 rw [hc]
 rcases h with h | h
 · rw [← h]; rfl
 · have hk : (256 ^ k : Nat) = 256 ^ (k - 1 - j) * (256 * 256 ^ j) := by
    rw [← Nat.pow_succ', ← Nat.pow_add]; congr 1; omega
   have hp : ((256 ^ (k - 1 - j) : Nat) : Int) ≠ 0 := by
    have : 0 < 256 ^ (k - 1 - j) := Nat.pow_pos (by decide); omega
   have e : ((m / 256 ^ (k - 1 - j) % 256 : Nat) : Int) = (m : Int) / ((256 ^ (k - 1 - j) : Nat) : Int) % 256 := rfl; rw [e, h, hk, Int.natCast_mul, Int.add_mul_ediv_left _ _ hp, Int.natCast_mul]; exact Int.add_mul_emod_self_left _ _ _
theorem zxh (N : Nat) (hN : 100 < N) {t : DataType} (ht : zn0 t) (n : Int) (hn : -((10 ^ t.Length.toNat : Nat) : Int) < n ∧ n < ((10 ^ t.Length.toNat : Nat) : Int)) : zaf N t ⟨n, ⟨#[]⟩⟩ = some (zqx t n) := by
 obtain ⟨⟨l1, l2⟩, l3, l4⟩ := zi0 ht
 have hp2 : 10 ^ t.Length.toNat ≤ 10 ^ 15 := zk7 (by omega)
 have hsz := zvf ht
 have ht' := ht
 obtain ⟨h0, h1, h2⟩ := ht'
 have hd := z2m N hN n.natAbs t.Length.toNat (by omega) (by omega)
 rw [Int.toNat_of_nonneg (by omega)] at hd
 unfold zaf zqx zju
 simp only [eD, zcn]
 rw [dcf (show ¬ t.Kind = 0 by omega), cfa]
 by_cases k3 : t.Kind = 3
 · rw [dct k3, ctr, ifp k3, zpl h0]; have hs : (szE t).toNat ≤ 4 ∧ 0 < (szE t).toNat ∧ szE t = ((szE t).toNat : Int) ∧ ((szE t).toNat = 2 ∨ (szE t).toNat = 4) ∧ ((szE t).toNat = 2 → t.Length = 4) := by
    have h9 := h0; unfold zdq at h9; rw [ifn, ifn, ifp k3] at h9; rw [hsz, ifn, ifp k3]; split at h9
    · split
      · exact ⟨by decide, by decide, by decide, by decide, fun h => by cases h⟩
      · exact ⟨by decide, by decide, by decide, by decide, fun _ => by omega⟩
    · cases h9
   obtain ⟨s1, s2, s3, s4, s5⟩ := hs; generalize (szE t).toNat = k at *; rw [s3]; simp only [obs]
   by_cases hneg : n < 0
   · rw [dct hneg, ctr, w6e (n := 8 * (k : Int)), ifn]; have hpow : (1 : Int) * 2 ^ (min (8 * (k : Int)).toNat 64) = ((256 ^ k : Nat) : Int) := by
      rcases s4 with rfl | rfl <;> decide
     have hlow : -((256 ^ k : Nat) : Int) ≤ n := by
      rcases s4 with rfl | rfl
      · have := s5 rfl; rw [this] at hn; have : (10 ^ (4 : Int).toNat : Nat) = 10000 := by decide
        rw [this] at hn; have : (256 ^ 2 : Nat) = 65536 := by decide
        omega
      · have hl9 : 10 ^ t.Length.toNat ≤ 10 ^ 9 := by
         refine zk7 ?_; unfold zdq at h0; rw [ifn, ifn, ifp k3] at h0; split at h0
         · omega
         · cases h0
        have : (256 ^ 4 : Nat) = 4294967296 := by decide
        omega
     have hup : 256 ^ k ≤ 4294967296 := by rcases s4 with rfl | rfl <;> decide
     rw [hpow, w6e (n := ((256 ^ k : Nat) : Int)), w6e]; obtain ⟨m, hm⟩ : ∃ m : Nat, (m : Int) = n + (256 ^ k : Nat) := ⟨(n + (256 ^ k : Nat)).toNat, by omega⟩; rw [← hm, zs3 N hN m k (by omega) (by omega), zyo n k m (.inr hm)]; rfl
   · rw [dcf hneg, cfa]; obtain ⟨m, hm⟩ : ∃ m : Nat, (m : Int) = n := ⟨n.toNat, by omega⟩; rw [← hm, zs3 N hN m k (by omega) (by omega), zyo (m : Int) k m (.inl rfl)]; rfl
 · rw [dcf k3, cfa, ifn k3, zvb (by omega) (by omega)]; simp only [obs]; rw [hd]; simp only [obs]; have hlen := zq0 n.natAbs t.Length.toNat; have hrange := zqz (n := n.natAbs) (len := t.Length.toNat); have hpac := zqi (t := t) l1 n; have epac : zo9 t n = (if t.Length % 2 = 0 then [0] else []) ++ zn6 n.natAbs t.Length.toNat ++ [if n < 0 then 13 else 15] := rfl; generalize zn6 n.natAbs t.Length.toNat = d at *
   by_cases k2 : t.Kind = 2
   · rw [dct k2, ctr, ifp k2, ifp, ifp, zco (by omega), ctr]; have lp := za1 (f := zaf.r1 N) (fun i => (d, (d.take i).map (· + 240) ++ List.replicate (d.length - i) 0, (i : Int), t, (⟨n, ⟨#[]⟩⟩ : Value))) d.length
      (fun i hi => by
       obtain ⟨x, hx⟩ : ∃ x, d[i]? = some x := zke hi; obtain ⟨e1, e2⟩ := z3u (· + 240) d d.length i hx hi; have hxr := hrange x (lmg hx); have hl : ((d.take i).map (· + 240) ++ List.replicate (d.length - i) 0).length = d.length := by rw [lna, lnm, lnt, lnr]; omega
       simp only [zaf.r1, zaf.b1, dct (show (i : Int) < t.Length by omega), ctr, hl]; rw [ifp, ifp, itn, hx]; simp only [obs]; rw [ifp, ifp, e1]; simp only [obs]; rw [w6e (n := 240 + x), zln (by omega) (by omega), w6e, Int.add_comm 240 x, e2]; rfl)
      (by simp only [zaf.r1, zaf.b1, dcf (show ¬ (d.length : Int) < t.Length by omega), cfa]) (N := N) (by omega)
     simp only [List.take_zero, nc0, List.map_nil, List.nil_append, List.take_length, Nat.sub_self, Nat.sub_zero, List.replicate_zero, List.append_nil] at lp; rw [← hlen, lp]; simp only [obs, lnm]
     by_cases hneg : n < 0
     · rw [dct hneg, ctr, w6e (n := t.Length - 1), ifp, ifp]; have hi : t.Length - 1 = ((d.length - 1 : Nat) : Int) := by omega
       have hx : d[d.length - 1]? = some (d.getD (d.length - 1) 0) := by rw [gdd, lge (by omega)]; rfl
       have hxr := hrange _ (lmg hx); rw [hi, itn, hx]; simp only [obs]; rw [ifp, ifp, List.getElem?_map, hx]; simp only [Option.map_some, obs]; rw [w6e, zln (by omega) (by omega)]
       congr 2
       conv => lhs; rw [show d.map (· + 240) = (d.take (d.length - 1)).map (· + 240) ++ [d.getD (d.length - 1) 0 + 240] from zna (by omega)]
       have hl : ((d.take (d.length - 1)).map (· + 240)).length = d.length - 1 := by rw [lnm, lnt]; omega
       rw [List.set_append_right _ _ (by omega), hl, Nat.sub_self]; unfold zww
       congr 1
       show [_] = [_]
       congr 1
       simp only [ctr]; omega
     · rw [dcf hneg, cfa, zna (by omega)]
   · rw [dcf k2, cfa, ifn k2]; have lp : ∀ (l : List Int) (m : Nat), l.length = 2 * m → m ≤ 20 → (∀ d ∈ l, 0 ≤ d ∧ d < 16) → zl (zaf.r3 N) N (l, List.replicate m 0, 0) = some (l, zhr l, (m : Int)) := fun l m hl hm hr => by
      have := za1 (f := zaf.r3 N) (fun i => (l, zhr (l.take (2 * i)) ++ List.replicate (m - i) 0, (i : Int))) m
       (fun i hi => by
        obtain ⟨x, hx⟩ : ∃ x, l[2 * i]? = some x := zke (by omega); obtain ⟨y, hy⟩ : ∃ y, l[2 * i + 1]? = some y := zke (by omega); obtain ⟨x1, x2⟩ := hr x (lmg hx); obtain ⟨y1, y2⟩ := hr y (lmg hy); have hlt : (l.take (2 * i)).length = 2 * i := by rw [lnt]; omega
        have hpl := zm0 i _ hlt; have hl2 : (zhr (l.take (2 * i)) ++ List.replicate (m - i) 0).length = m := by rw [lna, hpl, lnr]; omega
        have hd : List.replicate (m - i) (0 : Int) = 0 :: List.replicate (m - (i + 1)) 0 := by rw [show m - i = m - (i + 1) + 1 by omega, List.replicate_succ]
        have e1 : (zhr (l.take (2 * i)) ++ List.replicate (m - i) 0)[i]? = some 0 := by rw [List.getElem?_append_right (by omega), hpl, Nat.sub_self, hd]; rfl
        have e2 : (zhr (l.take (2 * i)) ++ List.replicate (m - i) 0).set i (16 * x + y) = zhr (l.take (2 * (i + 1))) ++ List.replicate (m - (i + 1)) 0 := by
         rw [List.set_append_right _ _ (by omega), hpl, Nat.sub_self, hd, show 2 * (i + 1) = 2 * i + 1 + 1 by omega, zhp _ _ hy, zhp _ _ hx, List.append_assoc, show ([x] ++ [y] : List Int) = [x, y] from rfl, zqh i _ _ _ hlt, List.append_assoc]; rfl
        simp only [zaf.r3, zaf.b3, hl2, dct (show (i : Int) < (m : Int) by omega), ctr]; rw [w6e (n := 2 * (i : Int)), w6e (n := 2 * (i : Int) + 1), ifp, ifp, show (2 * (i : Int)).toNat = 2 * i by omega, hx]; simp only [obs]; rw [ifp, ifp, show (2 * (i : Int) + 1).toNat = 2 * i + 1 by omega, hy]; simp only [obs]; rw [ifp, ifp, itn, e1]; simp only [obs]; rw [w6e (n := 16 * x), w6e (n := 16 * x + y), zln (by omega) (by omega), w6e, e2]; rfl)
       (by simp only [zaf.r3, zaf.b3]; rw [lna, zm0 m _ (by rw [lnt]; omega), Nat.sub_self, lnr, Nat.add_zero, dcf (show ¬ (m : Int) < (m : Int) by omega), cfa]) (N := N) (by omega)
      simp only [Nat.mul_zero, List.take_zero, nc0, Nat.sub_zero, Nat.sub_self, List.replicate_zero, List.append_nil] at this; rw [show zhr [] = [] from rfl, List.nil_append, ← hl, List.take_length] at this; exact this
     have lpp := lp (zo9 t n) _ hpac.1 (by omega) hpac.2; have hpl := hpac.1; rw [znv, show decide (t.Length.tmod 2 = 0) = decide (t.Length % 2 = 0) by rw [tme]]; simp only [obs]; have hsg : w6 (15 - w6 (2 * cond (decide (n < 0)) 1 0)) = if n < 0 then 13 else 15 := by
      by_cases hneg : n < 0
      · rw [dct hneg, ifp hneg]; decide
      · rw [dcf hneg, ifn hneg]; decide
     rw [hsg]
     by_cases he : t.Length % 2 = 0
     · rw [ifp he] at epac; rw [dct he, ctr, zco (by simp only [lnc, ln0]; omega), ctr, ← epac, zco (by simp only [lna, lnc, ln0]; omega), ctr, tde, w6e, ifp, ifp, zco (by omega), ctr, show ((zo9 t n).length : Int) / 2 = ((t.Length.toNat / 2 + 1 : Nat) : Int) by omega, itn, lpp]; rfl
     · rw [ifn he, List.nil_append] at epac; rw [dcf he, cfa, zco (by simp only [lnc, ln0]; omega), ctr, ← epac, tde, w6e, ifp, ifp, zco (by omega), ctr, show ((zo9 t n).length : Int) / 2 = ((t.Length.toNat / 2 + 1 : Nat) : Int) by omega, itn, lpp]; rfl
set_option exponentiation.threshold 3000
theorem z5w (N : Nat) (hN : 2000 < N) {s : Storage} (h : zl4 s) {a : Int} (ha : zoj s a = true) :
 zgq N s a = some (match ldV s a with | some o => (zxs o, 0) | none => (zt7, 22)) := by
 obtain ⟨a1, a2, a3⟩ := zs6 ha
 have hl := h.le
 have hq := h.quad
 have ht := h.tags
 unfold zgq
 rw [z5u h.ok, ha]
 simp only [obs, bnt, cfa]
 have ed : w6 (a.tdiv 16) = (((a / 16).toNat : Nat) : Int) := by
  rw [tde a1, w6e]; omega
 have hi : (a / 16).toNat < s.Tags.length := by omega
 rw [ed, zai, lge hi]
 simp only [obs]
 unfold ldV
 rw [lge hi]
 cases hb : s.Tags[(a / 16).toNat] with
 | false => rfl
 | true =>
  simp only [bnt, cfa, if_true]; unfold zgp; rw [w6e (n := (((a / 16).toNat : Nat) : Int) * 16), w6e, ifp, ifp]; simp only [obs]; have e : s.Bytes.extract ((((a / 16).toNat : Nat) : Int) * 16).toNat ((((a / 16).toNat : Nat) : Int) * 16 + 16).toNat = s.Bytes.extract (16 * (a / 16).toNat) (16 * (a / 16).toNat + 16) := by
   rw [show ((((a / 16).toNat : Nat) : Int) * 16).toNat = 16 * (a / 16).toNat by omega, show ((((a / 16).toNat : Nat) : Int) * 16 + 16).toNat = 16 * (a / 16).toNat + 16 by omega]
  rw [e, zxf N (by omega) _ (by rw [zcv _ _ _ (by omega) (by omega)]; omega), zie]; obtain ⟨off, _, h2⟩ := h.ptr (a / 16).toNat (by rw [lge hi, hb]); rw [h2]; rfl
theorem z56 {s : Storage} (h : s.Tags.length ≤ 100000) : zev s = some s := by
 unfold zev zg4
 rw [zco (by omega)]
 rfl
theorem z30 (N : Nat) (hN : 2000 < N) {s : Storage} (h : zl4 s) {a : Nat} {d : ByteArray} (hd : a + d.size ≤ s.Bytes.size) (hd0 : 0 < d.size) : zdr N s (a : Int) d = some (wrV s a d) := by
 have hl := h.le
 have hq := h.quad
 have ht := h.tags
 have hmax : IntKind.i64.max = 9223372036854775807 := by decide
 unfold zdr zgj
 rw [z56 (by omega), hmax]
 simp only [obs]
 have z1 : (s.Bytes.extract (0 : Int).toNat (a : Int).toNat).size = a := by rw [zcv _ _ _ (by omega) (by omega)]; omega
 rw [ifp, ifp, ifn (by rw [z1]; omega), w6e (n := (a : Int) + (d.size : Int)), ifp]
 have z2 : (s.Bytes.extract ((a : Int) + (d.size : Int)).toNat s.Bytes.size).size = s.Bytes.size - (a + d.size) := by rw [zcv _ _ _ (by omega) (by omega)]; omega
 rw [ifn (by rw [z2, bsa, z1]; omega)]
 simp only [obs]
 have f1 : ((s.Bytes.extract (0 : Int).toNat (a : Int).toNat) ++ d) ++ (s.Bytes.extract ((a : Int) + (d.size : Int)).toNat s.Bytes.size) = (wrV s a d).Bytes := by
  refine zu9 ?_; rw [zlk, zlk, zge, zge, show (0 : Int).toNat = 0 from rfl, dr0, show ((a : Int) + (d.size : Int)).toNat = a + d.size by omega, ← zj1 s.Bytes, List.take_length, itn]; rfl
 rw [f1]
 have lp := za1 (f := zdr.r0 N) (fun i => ((a : Int), d, (i : Int), (⟨⟨#[]⟩, []⟩ : Storage), (⟨(wrV s a d).Bytes, if i = 0 then s.Tags else clr s.Tags a i⟩ : Storage))) d.size
  (fun i hi => by
   have hlen : (if i = 0 then s.Tags else clr s.Tags a i).length = s.Tags.length := by split <;> simp [zz4]
   have ei : w6 ((w6 ((a : Int) + (i : Int))).tdiv 16) = (((a + i) / 16 : Nat) : Int) := by
    rw [w6e (n := (a : Int) + (i : Int)), tde, w6e]; omega
   simp only [zdr.r0, zdr.b0, dct (show (i : Int) < (d.size : Int) by omega), ctr, ei, hlen]; rw [ifp, ifp, itn]; obtain ⟨x, hx⟩ : ∃ x, (if i = 0 then s.Tags else clr s.Tags a i)[(a + i) / 16]? = some x := zke (by omega); rw [hx]; simp only [obs]; rw [w6e]; have e2 : (if i = 0 then s.Tags else clr s.Tags a i).set ((a + i) / 16) false = clr s.Tags a (i + 1) := by
    refine List.ext_getElem? fun k => ?_; rw [zpu, List.getElem?_set, hlen]; have hc : (if i = 0 then s.Tags else clr s.Tags a i)[k]? = if i ≠ 0 ∧ 16 * k < a + i ∧ a < 16 * k + 16 then (if k < s.Tags.length then some false else none) else s.Tags[k]? := by
     by_cases h0 : i = 0
     · rw [ifp h0, ifn]
     · rw [ifn h0, zpu]
       by_cases h1 : 16 * k < a + i ∧ a < 16 * k + 16
       · rw [ifp h1, ifp (show i ≠ 0 ∧ 16 * k < a + i ∧ a < 16 * k + 16 from ⟨h0, h1⟩)]
       · rw [ifn h1, ifn (fun h => h1 h.2)]
    rw [hc]
    by_cases hk : (a + i) / 16 = k
    · rw [ifp hk, ifp (show (a + i) / 16 < s.Tags.length by omega), ifp (show 16 * k < a + (i + 1) ∧ a < 16 * k + 16 by omega), ifp]
    · rw [ifn hk]
      by_cases h1 : i ≠ 0 ∧ 16 * k < a + i ∧ a < 16 * k + 16
      · rw [ifp h1, ifp (show 16 * k < a + (i + 1) ∧ a < 16 * k + 16 by omega)]
      · rw [ifn h1, ifn (show ¬ (16 * k < a + (i + 1) ∧ a < 16 * k + 16) by omega)]
   rw [e2, ifn (show ¬ i + 1 = 0 by omega)]; rfl)
  (by simp only [zdr.r0, zdr.b0, dcf (show ¬ (d.size : Int) < (d.size : Int) by omega), cfa]) (N := N) (by omega)
 simp only [if_true, nc0] at lp
 rw [lp, ifn (show ¬ d.size = 0 by omega)]
 rfl
theorem z2j (N : Nat) (c : Nat) (hc : c < 256) (n : Nat) (hn : n < N) (hn2 : n ≤ 100000) : zck N (c : Int) (n : Int) = some ⟨(List.replicate n (UInt8.ofNat c)).toArray⟩ := by
 unfold zck
 have := za1 (f := zck.r0 N) (fun i => ((c : Int), (n : Int), List.replicate i (c : Int), (i : Int))) n
  (fun i hi => by
   simp only [zck.r0, zck.b0, dct (show (i : Int) < (n : Int) by omega), ctr]; rw [zco (by simp only [lnr, lnc, ln0]; omega), ctr, w6e, ← List.replicate_succ']; rfl)
  (by simp only [zck.r0, zck.b0, dcf (show ¬ (n : Int) < (n : Int) by omega), cfa]) hn
 simp only [nc0, List.replicate_zero] at this
 rw [this, obs]
 congr 1
 refine zu9 ?_
 rw [zva, List.map_replicate]
 rfl
theorem zs5 (c : UInt8) : ∀ n, Lib.repeatL [c] n = List.replicate n c
 | 0 => rfl
 | n + 1 => by show c :: Lib.repeatL [c] n = _; rw [zs5 c n, List.replicate_succ]
theorem znf {R α : Type} {f : α → Option (Round R α)} (S : Nat → α) (g : Nat → Option R) (n : Nat) (h : ∀ i, i < n → (∀ j, j < i → g j = none) → f (S i) = some (match g i with | some r => .result r | none => .again (S (i + 1)))) (hl : (∀ j, j < n → g j = none) → f (S n) = some (.leave (S n))) {N : Nat} (hN : n < N) :
 zj f N (S 0) = some (match (List.range n).findSome? g with | some r => .inl r | none => .inr (S n)) := by
 have key : ∀ k i N, i + k = n → k < N → (∀ j, j < i → g j = none) → zj f N (S i) = some (match (List.range' i k).findSome? g with | some r => .inl r | none => .inr (S n)) := by
  intro k
  induction k with
  | zero =>
   intro i N hi hN hp; obtain ⟨m, rfl⟩ : ∃ m, N = m + 1 := ⟨N - 1, by omega⟩; obtain rfl : i = n := by omega
   simp only [zj, hl hp, obs]; rfl
  | succ k ih =>
   intro i N hi hN hp; obtain ⟨m, rfl⟩ : ∃ m, N = m + 1 := ⟨N - 1, by omega⟩; simp only [zj, h i (by omega) hp, obs, List.range'_succ, List.findSome?_cons]; cases hg : g i with
   | some r => rfl
   | none =>
    refine ih (i + 1) m (by omega) (by omega) fun j hj => ?_; rcases Nat.lt_or_ge j i with h1 | h1
    · exact hp j h1
    · obtain rfl : j = i := by omega
      exact hg
 rw [List.range_eq_range']
 exact key n 0 N (by omega) hN (fun j hj => absurd hj (by omega))
theorem zix {R : Type} {g : Nat → Option R} {n : Nat} : (List.range n).findSome? g = none ↔ ∀ i, i < n → g i = none := by
 rw [List.findSome?_eq_none_iff]
 exact ⟨fun h i hi => h i (List.mem_range.2 hi), fun h i hi => h i (List.mem_range.1 hi)⟩
theorem ziw {R : Type} {g : Nat → Option R} {r : R} : ∀ {n : Nat}, (List.range n).findSome? g = some r → ∃ i, i < n ∧ g i = some r ∧ ∀ j, j < i → g j = none
 | 0, h => by simp at h
 | n + 1, h => by
  rw [List.range_succ, List.findSome?_append] at h; cases hn : (List.range n).findSome? g with
  | some r' =>
   rw [hn] at h; obtain ⟨i, h1, h2, h3⟩ := ziw hn; exact ⟨i, by omega, by rw [h2]; exact h, h3⟩
  | none =>
   rw [hn] at h; simp only [List.findSome?_cons, List.findSome?_nil] at h; refine ⟨n, by omega, ?_, zix.1 hn⟩; cases hg : g n with
   | some x => rw [hg] at h; exact h
   | none => rw [hg] at h; cases h
theorem zsm (b : Bool) (e : Int) : zba b e = some (cond b e 0) := by cases b <;> rfl
theorem zsl (n lo hi : Int) : zct n lo hi = some (inB n lo hi) := by
 unfold zct inB
 cases decide (lo ≤ n) <;> rfl
theorem zqg (N : Nat) (l : List Int) (h : l.length < N) (hl : l.length < 1000000000) : zav N l = some (zhe l) := by
 unfold zav
 have := zbh (f := zav.r0 N) (fun i => (l, (l.length : Int), (i : Int))) (fun i => (l[i]?).bind fun x => if x = 0 then none else some x) l.length
  (fun i hi => by
   have hx := lge hi; simp only [zav.r0, zav.b0, zai, hx, obs, dct (show (i : Int) < (l.length : Int) by omega), ctr]
   by_cases h0 : l[i] = 0
   · simp only [h0, bsf, cfa, if_true]; rw [w6e]; rfl
   · simp only [h0, if_false]; rw [show (l[i] != 0) = true by simpa using h0]; rfl)
  (by simp only [zav.r0, zav.b0, dcf (show ¬ (l.length : Int) < (l.length : Int) by omega), cfa]) h
 simp only [nc0] at this
 rw [this, zmh, ← zot]
 simp only [obs]
 cases l.findSome? (fun x => if x = 0 then none else some x) <;> rfl
def z4h (c : Int) : Bool := (decide (65 ≤ c) && decide (c ≤ 90)) || (decide (c = 35) || (decide (c = 36) || decide (c = 64)))
def z4e (c : Int) : Bool := (decide (48 ≤ c) && decide (c ≤ 57)) || (decide (c = 95) || decide (c = 46))
def zt5 (c i : Int) : Bool := !z4h c && (decide (i = 0) || !z4e c)
def zng (s : ByteArray) (i : Nat) : Option Bool := ((bl s)[i]?).bind fun c => if zt5 ((c.toNat : Nat) : Int) (i : Int) = true then some false else none
def zql (s : ByteArray) : Bool := decide (1 ≤ s.size ∧ s.size ≤ 10) && ((List.range s.size).findSome? (zng s)).isNone
theorem zzn (s : ByteArray) : s.size = (bl s).length := rfl
theorem z6e (s : ByteArray) (i : Nat) : zhl s (i : Int) = (bl s)[i]? := by
 unfold zhl
 rw [ifp]
 show s.data[i]? = s.data.toList[i]?
 simp
theorem z50 (N : Nat) (hN : 20 < N) (s : ByteArray) : zbm N s = some (zql s) := by
 unfold zbm zql
 rw [zla, zla, show bl (⟨#[]⟩ : ByteArray) = [] from rfl]
 by_cases h0 : s.size = 0
 · have : bl s = [] := List.eq_nil_of_length_eq_zero (by rw [← zzn]; exact h0); rw [this, dcf (show ¬ (1 ≤ s.size ∧ s.size ≤ 10) by omega)]; rfl
 by_cases h1 : s.size > 10
 · rw [dcf (show ¬ (1 ≤ s.size ∧ s.size ≤ 10) by omega), dct (show (s.size : Int) > 10 by omega)]; cases (bl s == ([] : List UInt8)) <;> rfl
 have hne : (bl s == ([] : List UInt8)) = false := by
  cases hb : (bl s == ([] : List UInt8)) with
  | false => rfl
  | true =>
   have := congrArg List.length (eq_of_beq hb); rw [← zzn] at this; exact absurd this h0
 rw [hne, dcf (show ¬ (s.size : Int) > 10 by omega), dct (show 1 ≤ s.size ∧ s.size ≤ 10 by omega)]
 simp only [cfa, obs, Bool.true_and]
 have hlen : (zex s).length = s.size := by unfold zex; rw [lnm]; rfl
 have l1 := zbh (f := zbm.r0 N) (fun i => (zex s, ((zex s).length : Int), (i : Int))) (zng s) s.size
  (fun i hi => by
   have hi' : i < (bl s).length := hi; have hx : (zex s)[i]? = some (((bl s)[i].toNat : Nat) : Int) := by
    unfold zex; rw [List.getElem?_map]; show ((bl s)[i]?).map _ = _; rw [lge hi']; rfl
   simp only [zbm.r0, zbm.b0, hlen, dct (show (i : Int) < (s.size : Int) by omega), ctr, ifp (show (0 : Int) ≤ (i : Int) by omega), ifp (show (i : Int) < (s.size : Int) by omega), itn, hx, obs, zph, orB, zcn, zng, lge hi']; rw [w6e]; generalize (((bl s)[i].toNat : Nat) : Int) = c; have e : (!(((decide (65 ≤ c) && decide (c ≤ 90)) || decide (c = 35) || decide (c = 36)) || decide (c = 64)) && (decide ((i : Int) = 0) || !(((decide (48 ≤ c) && decide (c ≤ 57)) || decide (c = 95)) || decide (c = 46)))) = zt5 c (i : Int) := by
    unfold zt5 z4h z4e; simp only [Bool.or_assoc]
   rw [e]; cases zt5 c (i : Int) <;> rfl)
  (by simp only [zbm.r0, zbm.b0, hlen, dcf (show ¬ (s.size : Int) < (s.size : Int) by omega), cfa]) (N := N) (by omega)
 simp only [nc0] at l1
 rw [l1]
 cases hg : (List.range s.size).findSome? (zng s) with
 | none => rfl
 | some r =>
  obtain ⟨i, _, hi, _⟩ := ziw hg; unfold zng at hi; rw [Option.bind_eq_some_iff] at hi; obtain ⟨c, _, hc⟩ := hi; split at hc
  · cases hc; rfl
  · cases hc
theorem z5v (N : Nat) (hN : 20 < N) (s : ByteArray) : zcl N s = some (zql s) := by
 unfold zcl zql
 rw [zgl, obs]
 by_cases h1 : 1 ≤ s.size ∧ s.size ≤ 10
 · rw [show inB (s.size : Int) 1 10 = true from zdk.2 (by omega), dct h1]; simp only [bnt, cfa, Bool.true_and]; have l1 := zbh (f := zcl.r0 N) (fun i => (s, (i : Int))) (zng s) s.size
    (fun i hi => by
     have hi' : i < (bl s).length := hi; simp only [zcl.r0, zcl.b0, zj2, zj3, dct (show (i : Int) < (s.size : Int) by omega), ctr, z6e, lge hi', obs, zph, orB, zcn, zd1, zng]; rw [w6e]; generalize (((bl s)[i].toNat : Nat) : Int) = c; have e : (!((((decide (65 ≤ c) && decide (c ≤ 90)) || decide (c = 36)) || decide (c = 35)) || decide (c = 64)) && (decide ((i : Int) = 0) || ((!(decide (48 ≤ c) && decide (c ≤ 57)) && decide (c ≠ 95)) && decide (c ≠ 46)))) = zt5 c (i : Int) := by
      unfold zt5 z4h z4e; simp only [decide_not, Bool.not_or, Bool.not_and, Bool.or_assoc, Bool.and_assoc]; cases decide (65 ≤ c) <;> cases decide (c ≤ 90) <;> cases decide (c = 36) <;> cases decide (c = 35) <;> simp
     rw [e]; cases zt5 c (i : Int) <;> rfl)
    (by simp only [zcl.r0, zcl.b0, dcf (show ¬ (s.size : Int) < (s.size : Int) by omega), cfa]) (N := N) (by omega)
   simp only [nc0] at l1; rw [l1]; cases hg : (List.range s.size).findSome? (zng s) with
   | none => rfl
   | some r =>
    obtain ⟨i, _, hi, _⟩ := ziw hg; unfold zng at hi; rw [Option.bind_eq_some_iff] at hi; obtain ⟨c, _, hc⟩ := hi; split at hc
    · cases hc; rfl
    · cases hc
 · rw [show inB (s.size : Int) 1 10 = false by
    cases hb : inB (s.size : Int) 1 10 with
    | false => rfl
    | true => have := zdk.1 hb; omega, dcf h1]
   rfl
def gNm (l : List zF) (s : ByteArray) (i : Nat) : Option Int := (l[i]?).bind fun o => if (o.Name.toList == s.toList) = true then some (i : Int) else none
def nmI (l : List zF) (s : ByteArray) : Int := match (List.range l.length).findSome? (gNm l s) with | some i => i | none => -1
theorem ztw (N : Nat) (l : List zF) (h : l.length < N) (hl : l.length < 1000000000) (s : ByteArray) : zea N l s = some (nmI l s) := by
 unfold zea zh nmI
 have l1 := zbh (f := zh.r0 N) (fun i => (l, (l.length : Int), (i : Int), s)) (gNm l s) l.length
  (fun i hi => by
   have hx := lge hi; simp only [zh.r0, zh.b0, zg9, zai, hx, obs, dct (show (i : Int) < (l.length : Int) by omega), ctr, gNm]; rw [w6e]; cases (l[i].Name.toList == s.toList) <;> rfl)
  (by simp only [zh.r0, zh.b0, dcf (show ¬ (l.length : Int) < (l.length : Int) by omega), cfa]) h
 simp only [nc0] at l1
 rw [l1]
 cases (List.range l.length).findSome? (gNm l s) <;> rfl
theorem zwr (N : Nat) (p : zB) (h : p.zA.length < N) (hl : p.zA.length < 1000000000) (s : ByteArray) : zcw N p s = some (nmI p.zA s) := by
 unfold zcw nmI
 have l1 := zbh (f := zcw.r0 N) (fun i => (s, (i : Int), p)) (gNm p.zA s) p.zA.length
  (fun i hi => by
   have hx := lge hi; simp only [zcw.r0, zcw.b0, zai, hx, obs, dct (show (i : Int) < (p.zA.length : Int) by omega), ctr, gNm]; rw [w6e]; cases (p.zA[i].Name.toList == s.toList) <;> rfl)
  (by simp only [zcw.r0, zcw.b0, dcf (show ¬ (p.zA.length : Int) < (p.zA.length : Int) by omega), cfa]) h
 simp only [nc0] at l1
 rw [l1]
 cases (List.range p.zA.length).findSome? (gNm p.zA s) <;> rfl
theorem z4q {l : List zF} {s : ByteArray} {i : Nat} {r : Int} (h : gNm l s i = some r) : r = (i : Int) ∧ ∃ o, l[i]? = some o ∧ (o.Name.toList == s.toList) = true := by
 unfold gNm at h
 rw [Option.bind_eq_some_iff] at h
 obtain ⟨o, h1, h2⟩ := h
 split at h2
 · rename_i h3; cases h2; exact ⟨rfl, o, h1, h3⟩
 · cases h2
theorem znp (l : List zF) (s : ByteArray) : (nmI l s = -1 ∧ ∀ i, i < l.length → gNm l s i = none) ∨ ∃ i : Nat, nmI l s = (i : Int) ∧ i < l.length ∧ gNm l s i = some (i : Int) ∧ ∀ j, j < i → gNm l s j = none := by
 unfold nmI
 cases hf : (List.range l.length).findSome? (gNm l s) with
 | none => exact .inl ⟨rfl, zix.1 hf⟩
 | some r =>
  obtain ⟨i, h1, h2, h3⟩ := ziw hf; have := (z4q h2).1; subst this; exact .inr ⟨i, rfl, h1, h2, h3⟩
theorem z8i {l : List zF} {s : ByteArray} {i : Nat} (h1 : i < l.length) (h2 : gNm l s i = some (i : Int)) (h3 : ∀ j, j < i → gNm l s j = none) : nmI l s = (i : Int) := by
 rcases znp l s with ⟨_, g2⟩ | ⟨k, g1, g2, g3, g4⟩
 · rw [g2 i h1] at h2; cases h2
 · rcases Nat.lt_trichotomy i k with h | h | h
   · rw [g4 i h] at h2; cases h2
   · rw [g1, h]
   · rw [h3 k h] at g3; cases g3
theorem zqu {l : List zF} {s : ByteArray} {n i : Nat} (h : i < n) : gNm (l.take n) s i = gNm l s i := by
 unfold gNm
 rw [List.getElem?_take, ifp h]
theorem zzu (l : List zF) (s : ByteArray) (n : Nat) : nmI (l.take n) s = if nmI l s < (n : Int) then nmI l s else -1 := by
 rcases znp l s with ⟨g1, g2⟩ | ⟨k, g1, g2, g3, g4⟩
 · rw [g1, ifp]; rcases znp (l.take n) s with ⟨e1, _⟩ | ⟨k, _, e2, e3, _⟩
   · exact e1
   · rw [lnt] at e2; rw [zqu (by omega), g2 k (by omega)] at e3; cases e3
 · by_cases hk : k < n
   · rw [g1, ifp]; exact z8i (by rw [lnt]; omega) (by rw [zqu hk]; exact g3) (fun j hj => by rw [zqu (by omega)]; exact g4 j hj)
   · rw [g1, ifn]; rcases znp (l.take n) s with ⟨e1, _⟩ | ⟨k', _, e2, e3, _⟩
     · exact e1
     · rw [lnt] at e2; rw [zqu (by omega), g4 k' (by omega)] at e3; cases e3
theorem zx4 {l : List zF} {i : Nat} {o : zF} (h : l[i]? = some o) : 0 ≤ nmI l o.Name ∧ nmI l o.Name ≤ (i : Int) := by
 have hi := (gei h).1
 have hg : gNm l o.Name i = some (i : Int) := by
  unfold gNm; rw [h, obs, ifp (bst _)]
 rcases znp l o.Name with ⟨_, g2⟩ | ⟨k, g1, g2, g3, g4⟩
 · rw [g2 i hi] at hg; cases hg
 · have : ¬ i < k := fun hlt => by rw [g4 i hlt] at hg; cases hg
   omega
def isS (k : Int) : Bool := (decide (k = 0) || decide (k = 1)) || decide (k = 2)
def isD (k : Int) : Bool := isS k || decide (k = 4)
theorem zrx (o : zF) : zds o = some (isD o.Kind) := by
 unfold zds isD isS
 simp only [orB, zcn, obs]
theorem zs2 (k : Int) : zed k = some (isS k) := by
 unfold zed isS
 simp only [orB, zcn, obs]
theorem zv3 (k : Int) : zez k = some (isD k) := by
 unfold zez isD
 rw [zs2]
 simp only [orB, zcn, obs]
theorem z0h (a b : ByteArray) : (a.toList == b.toList) = decide (a = b) := by
 rw [zla, zla]
 by_cases h : a = b
 · subst h; rw [dct rfl]; exact bst _
 · rw [dcf h]; refine beq_eq_false_iff_ne.2 fun hh => h ?_; obtain ⟨⟨a⟩⟩ := a; obtain ⟨⟨b⟩⟩ := b; have : a = b := hh; rw [this]
def e0 : ByteArray := ⟨#[]⟩
def noV (o : zF) : Bool := decide (o.Value.N = 0) && decide (o.Value.S = e0)
def noB (o : zF) : Bool := decide (o.Base = e0) && decide (o.Offset = 0)
def noT (o : zF) : Bool := decide (o.zI.Kind = 0) && (decide (o.zI.Length = 0) && decide (o.zI.Scale = 0))
def zn5 (o : zF) : Bool :=
 if o.Kind = 0 ∨ o.Kind = 4 then !noB o || !decide (o.Target = 0)
 else if o.Kind = 1 ∨ o.Kind = 2 then !noV o || !decide (o.Target = 0)
 else if o.Kind = 3 then !noT o || (!noV o || (!noB o || !decide (o.Target = 0)))
 else !noT o || (!noV o || !noB o)
theorem zuw {k : Int} (h : inB k 0 5 = true) : k = 0 ∨ k = 1 ∨ k = 2 ∨ k = 3 ∨ k = 4 ∨ k = 5 := by
 have := zdk.1 h
 omega
theorem z8r (a : Int) : decide (0 = a) = decide (a = 0) := by
 by_cases h : a = 0
 · rw [dct h, dct h.symm]
 · rw [dcf h, dcf fun e => h e.symm]
theorem z8t (a : ByteArray) : decide ((⟨#[]⟩ : ByteArray) = a) = decide (a = e0) := by
 by_cases h : a = e0
 · rw [dct h, dct (show (⟨#[]⟩ : ByteArray) = a from h.symm)]
 · rw [dcf h, dcf fun e => h e.symm]
theorem z52 {o : zF} (h : inB o.Kind 0 5 = true) : ∃ k, zha o = some k ∧ (!(zfd [(k.Name == o.Name), (k.Kind == o.Kind), (k.zI.Kind == o.zI.Kind), (k.zI.Length == o.zI.Length), (k.zI.Scale == o.zI.Scale), (k.Value.N == o.Value.N), (k.Value.S == o.Value.S), (k.Base == o.Base), (k.Offset == o.Offset), (k.Target == o.Target)])) = zn5 o := by
 obtain ⟨nm, kd, ty, v, bs, off, tg⟩ := o
 have hk := zuw h
 simp only at hk
 rcases hk with rfl | rfl | rfl | rfl | rfl | rfl
 all_goals
  refine ⟨_, rfl, ?_⟩; simp only [zfd, zn5, noV, noB, noT, zcn, z7h, z8r, z8t]; simp [Bool.and_assoc, Bool.or_assoc]
  try congr
theorem z2l {o : zF} (h : inB o.Kind 0 5 = true) : zg0 o = some (zn5 o) := by
 obtain ⟨nm, kd, ty, v, bs, off, tg⟩ := o
 have hk := zuw h
 simp only at hk
 unfold zg0
 simp only [z0h]
 rcases hk with rfl | rfl | rfl | rfl | rfl | rfl
 all_goals
  simp only [zfd, zn5, noV, noB, noT, zcn, zd1, z7h, z0h, orB, zph, obs]; simp [e0, Bool.and_assoc, Bool.or_assoc]
  try congr
def zku (t : DataType) : Int := ((10 ^ t.Length.toNat : Nat) : Int) - 1
def zhx (t : DataType) (v : Value) : Int :=
 if t.Kind = 0 then (if v.N ≠ 0 then 5 else if (v.S.size : Int) ≠ t.Length then 18 else 0)
 else (if v.S ≠ e0 then 5 else if inB v.N (-zku t) (zku t) = true then 0 else 19)
theorem zuu {t : DataType} (h : zdq t = 0) (h0 : t.Kind ≠ 0) (h4 : t.Kind ≠ 4) : zn0 t := by
 rcases zj6 h with ⟨k, _⟩ | ⟨k | k, _⟩ | ⟨k, _⟩ | ⟨k, _⟩
 · exact absurd k h0
 · exact ⟨h, by omega, by omega⟩
 · exact ⟨h, by omega, by omega⟩
 · exact ⟨h, by omega, by omega⟩
 · exact absurd k h4
theorem zwb {t : DataType} (h : zn0 t) : w6 (((10 ^ t.Length.toNat : Nat) : Int) - 1) = zku t ∧ w6 (0 - zku t) = -zku t ∧ 0 ≤ zku t := by
 obtain ⟨⟨l1, l2⟩, _⟩ := zi0 h
 have hp : 10 ^ t.Length.toNat ≤ 10 ^ 15 := zk7 (by omega)
 have hp2 := zv6 t.Length.toNat
 unfold zku
 exact ⟨w6e, by rw [w6e]; omega, by omega⟩
theorem zx2 (N : Nat) (hN : 100 < N) {t : DataType} (ht : zdq t = 0) (h4 : t.Kind ≠ 4) (v : Value) : za5 N t v = some (zhx t v) := by
 have f2 : ∀ a b : Int, zm N [a, b] = some (zhe [a, b]) := fun a b => ztx N _ (by simp; omega) (by simp)
 unfold za5 zhx
 rw [zpo N (by omega), ht]
 simp only [obs, zsn, f2, zcn, dcf h4, cfa]
 rw [show zhe [0, 0] = 0 from rfl]
 simp only [bsf, cfa]
 by_cases h0 : t.Kind = 0
 · rw [ifp h0, dct h0]; simp only [ctr, zd1]; rw [zr4 _ _ _ _ (by decide) (by decide)]
   by_cases h1 : v.N ≠ 0
   · rw [ifp h1, dct h1]; rfl
   · rw [ifn h1, dcf h1]
     by_cases h2 : (v.S.size : Int) ≠ t.Length
     · rw [ifp h2, dct h2]; rfl
     · rw [ifn h2, dcf h2]; rfl
 · have hn := zuu ht h0 h4; obtain ⟨⟨l1, l2⟩, _⟩ := zi0 hn; obtain ⟨m1, m2, m3⟩ := zwb hn; rw [ifn h0, dcf h0]; simp only [cfa]; have := zx3 N (by omega) t.Length.toNat (by omega); rw [show ((t.Length.toNat : Nat) : Int) = t.Length by omega] at this; rw [this]; simp only [obs, z0z, m1, m2, z0h]; rw [zr4 _ _ _ _ (by decide) (by decide)]
   by_cases h1 : v.S = e0
   · rw [ifn (fun h => h h1), dct (show v.S = (⟨#[]⟩ : ByteArray) from h1)]; cases hb : inB v.N (-zku t) (zku t) <;> rfl
   · rw [ifp h1, dcf (show ¬ v.S = (⟨#[]⟩ : ByteArray) from h1)]; rfl
theorem z31 (N : Nat) (hN : 100 < N) {t : DataType} (ht : zdq t = 0) (h4 : t.Kind ≠ 4) (v : Value) : zf3 N t v = some (zhx t v) := by
 unfold zf3 zhx
 rw [zzq, ht]
 simp only [obs, zcn, zd1, dcf h4, cfa, bsf, z0h]
 by_cases h0 : t.Kind = 0
 · rw [ifp h0, dct h0]; simp only [ctr, obs, dcf (show ¬ t.Kind ≠ 0 from fun h => h h0), cfa]
   by_cases h1 : v.N ≠ 0
   · rw [ifp h1, dct h1]; rfl
   · rw [ifn h1, dcf h1]; simp only [cfa, obs, znv]
     by_cases h2 : (v.S.size : Int) ≠ t.Length
     · rw [ifp h2, dct h2]; rfl
     · rw [ifn h2, dcf h2]; rfl
 · have hn := zuu ht h0 h4; obtain ⟨⟨l1, l2⟩, _⟩ := zi0 hn; obtain ⟨m1, m2, m3⟩ := zwb hn; rw [ifn h0, dcf h0]; simp only [ctr, cfa, obs, dct (show t.Kind ≠ 0 from h0)]; have := z33 N (by omega) t.Length.toNat (by omega); rw [show ((t.Length.toNat : Nat) : Int) = t.Length by omega] at this; unfold zj9; rw [this]; simp only [obs, zgl, znv, m1, m2]
   by_cases h1 : v.S = e0
   · rw [ifn (fun h => h h1), dct (show v.S = (⟨#[]⟩ : ByteArray) from h1)]; cases hb : inB v.N (-zku t) (zku t) <;> rfl
   · rw [ifp h1, dcf (show ¬ v.S = (⟨#[]⟩ : ByteArray) from h1)]; rfl
def zo2 (ops : List zF) (i : Int) (o : zF) : Int :=
 if nmI ops o.Base < 0 ∨ i ≤ nmI ops o.Base then 11
 else match ops[(nmI ops o.Base).toNat]? with
  | none => 0
  | some b => if o.Kind = 2 then (if b.Kind ≠ 3 then 17 else if inB o.Offset 0 256 = true then 0 else 3)
   else if b.Kind ≠ 0 then 17 else if inB o.Offset 0 (szE b.zI - szE o.zI) = true then 0 else 3
def zoi (p : zB) (i : Int) (o : zF) : Int :=
 if o.Kind = 0 ∨ o.Kind = 4 then zhx o.zI o.Value
 else if o.Kind = 1 ∨ o.Kind = 2 then zo2 p.zA i o
 else if o.Kind = 5 then (if inB o.Target 0 ((p.zG.length : Int) - 1) = true then 0 else 3)
 else 0
def opE (p : zB) (i : Nat) : Int :=
 match p.zA[i]? with
 | none => 0
 | some o => if zql o.Name = false then 7 else if nmI p.zA o.Name < (i : Int) then 13 else if inB o.Kind 0 5 = false then 4 else if zn5 o = true then 5
  else if isD o.Kind = true ∧ zdq o.zI ≠ 0 then zdq o.zI else if isD o.Kind = true ∧ o.zI.Kind = 4 then 17 else zoi p i o
structure OpV (p : zB) (i : Nat) (o : zF) : Prop where
 kind : 0 ≤ o.Kind ∧ o.Kind ≤ 5
 own : nmI p.zA o.Name = (i : Int)
 ty : isD o.Kind = true → zdq o.zI = 0 ∧ o.zI.Kind ≠ 4
 val : o.Kind = 0 ∨ o.Kind = 4 → zhx o.zI o.Value = 0
 base : o.Kind = 1 ∨ o.Kind = 2 → zo2 p.zA i o = 0
 tg : o.Kind = 5 → 0 ≤ o.Target ∧ o.Target < (p.zG.length : Int)
theorem z4f {p : zB} {i : Nat} {o : zF} (ho : p.zA[i]? = some o) (h : opE p i = 0) : OpV p i o := by
 unfold opE at h
 rw [ho] at h
 simp only at h
 obtain ⟨n1, n2⟩ := zx4 ho
 split at h
 · cases h
 split at h
 · cases h
 split at h
 · cases h
 split at h
 · cases h
 rename_i h1 h2 h3 h4
 have hk := zuw (show inB o.Kind 0 5 = true by simpa using h3)
 split at h
 · rename_i h5; exact absurd h h5.2
 split at h
 · cases h
 rename_i h5 h6
 refine { kind := by omega, own := by omega, ty := fun hd => ⟨cbc fun hh => h5 ⟨hd, hh⟩, fun hh => h6 ⟨hd, hh⟩⟩, val := fun hv => ?_, base := fun hv => ?_, tg := fun hv => ?_ }
 · unfold zoi at h; rw [ifp hv] at h; exact h
 · unfold zoi at h; rw [ifn, ifp hv] at h; exact h
 · unfold zoi at h; rw [ifn, ifn, ifp hv] at h; split at h
   · rename_i hh; have := zdk.1 hh; omega
   · cases h
theorem zvl (N : Nat) (hN : 10 < N) {o : zF} (h : zdq o.zI = 0) : zfg N o = some (szE o.zI) := by
 unfold zfg zfa
 rw [zpo N hN, h]
 simp [zvm h]
theorem z7f (a : Int) (b : Bool) : zhe [a, cond b 17 0] = if a = 0 then cond b 17 0 else a := by
 show (if a = 0 then zhe [cond b 17 0] else a) = _
 cases b <;> rfl
theorem z4i (o : zF) : ∃ k, zha o = some k := by
 unfold zha
 rw [zrx]
 simp only [obs]
 cases isD o.Kind <;> cases (o.Kind == 0) <;> cases (o.Kind == 4) <;> cases (o.Kind == 1) <;> cases (o.Kind == 2) <;> cases (o.Kind == 5) <;> exact ⟨_, rfl⟩
structure Upto (p : zB) (i : Nat) : Prop where
 ops : p.zA.length ≤ 1000
 ins : p.zG.length ≤ 1000000
 ok : ∀ j, j < i → opE p j = 0
theorem zx5 (l : List zF) (s : ByteArray) : nmI l s = -1 ∨ (0 ≤ nmI l s ∧ nmI l s < (l.length : Int) ∧ ∃ o, l[(nmI l s).toNat]? = some o) := by
 rcases znp l s with ⟨h, _⟩ | ⟨k, h1, h2, _⟩
 · exact .inl h
 · rw [h1]; exact .inr ⟨by omega, by omega, _, lge h2⟩
theorem zz6 {p : zB} {i : Nat} (hu : Upto p i) {n : Int} (h0 : 0 ≤ n) (h1 : n < (i : Int)) {b : zF} (hb : p.zA[n.toNat]? = some b) (hk : b.Kind = 0) : zdq b.zI = 0 := by
 have := z4f hb (hu.ok n.toNat (by omega))
 exact (this.ty (by rw [hk]; rfl)).1
theorem zw1 {a b : DataType} (ha : zdq a = 0) (hb : zdq b = 0) : w6 (szE a - szE b) = szE a - szE b := by
 have h1 := zfn ha
 have h2 := zfn hb
 exact w6e
theorem z7q (l : List zF) (i : Nat) : (l.take ((i : Int)).toNat).drop (0 : Int).toNat = l.take i := rfl
theorem zzt (N : Nat) (hN : 1100 < N) {p : zB} {i : Nat} (hu : Upto p i) {o : zF} (ht : zdq o.zI = 0) (hk : o.Kind = 1 ∨ o.Kind = 2) : zfh N o (p.zA.take i) = some (zo2 p.zA i o) := by
 have hl := hu.ops
 unfold zfh zo2
 rw [ztw N _ (by rw [lnt]; omega) (by rw [lnt]; omega), zzu]
 simp only [obs]
 by_cases hc : nmI p.zA o.Base < 0 ∨ (i : Int) ≤ nmI p.zA o.Base
 · rw [ifp hc]; rw [dct (by split <;> omega)]; rfl
 · rw [ifn hc, ifp, dcf (by omega)]; obtain ⟨b, hb⟩ : ∃ b, p.zA[(nmI p.zA o.Base).toNat]? = some b := by
    rcases zx5 p.zA o.Base with h | ⟨_, _, h⟩
    · omega
    · exact h
   have hx : idx (p.zA.take i) (nmI p.zA o.Base) = some b := by
    unfold idx; rw [ifp, List.getElem?_take, ifp, hb]
   rw [hx, hb]; simp only [cfa, obs, zsm, zsl, zcn, zd1]
   by_cases h2 : o.Kind = 2
   · rw [ifp h2, dct h2]; simp only [ctr]; rw [zqg N _ (by simp; omega) (by simp), zr4 _ _ _ _ (by decide) (by decide)]
     by_cases h3 : b.Kind ≠ 3
     · rw [ifp h3, dct h3]; rfl
     · rw [ifn h3, dcf h3]; cases inB o.Offset 0 256 <;> rfl
   · rw [ifn h2, dcf h2]; simp only [cfa]
     by_cases h3 : b.Kind ≠ 0
     · rw [ifp h3, dct h3]; rfl
     · rw [ifn h3, dcf h3]; have hbt := zz6 hu (by omega) (by omega) hb (by omega); simp only [cfa]; rw [zvl N (by omega) hbt, zvl N (by omega) ht]; simp only [obs]; rw [zw1 hbt ht]; cases inB o.Offset 0 (szE b.zI - szE o.zI) <;> rfl
theorem zzr (N : Nat) (hN : 1100 < N) {p : zB} {i : Nat} (hu : Upto p i) {o : zF} (ht : zdq o.zI = 0) (hk : o.Kind = 1 ∨ o.Kind = 2) :
 ((cond (nmI p.zA o.Base == (-1)) (some true) (some (decide (nmI p.zA o.Base ≥ (i : Int))))).bind fun g12 => cond g12 (some (11 : Int)) ((idx p.zA (nmI p.zA o.Base)).bind fun x13 =>
 (cond (o.Kind == 1) (some (x13.Kind != 0)) (some false)).bind fun g14 => (cond g14 (some true) ((cond (o.Kind == 2) (some (x13.Kind != 3)) (some false)).bind fun g15 =>
 some g15)).bind fun g16 => cond g16 (some 17) (cond (o.Kind == 1) ((zc2 x13.zI).bind fun r17 => (zc2 o.zI).bind fun r18 =>
 (ze o.Offset 0 (w6 (r17 - r18))).bind fun r19 => cond (!r19) (some 3) (some 0)) ((ze o.Offset 0 256).bind fun r20 => cond (!r20) (some 3)
 (some 0))))) = some (zo2 p.zA i o) := by
 have hl := hu.ops
 unfold zo2
 rcases zx5 p.zA o.Base with h | ⟨n0, n1, b, hb⟩
 · rw [h, ifp]; rfl
 · rw [zcn, dcf (by omega)]; simp only [cfa, obs]
   by_cases hc : (i : Int) ≤ nmI p.zA o.Base
   · rw [ifp (.inr hc), dct (show nmI p.zA o.Base ≥ (i : Int) from hc)]; rfl
   · rw [ifn, dcf (show ¬ nmI p.zA o.Base ≥ (i : Int) from hc)]; have hx : idx p.zA (nmI p.zA o.Base) = some b := by
      unfold idx; rw [ifp n0, hb]
     rw [hx, hb]; simp only [cfa, obs, zgl, zcn, zd1, orB, zph]
     by_cases h2 : o.Kind = 2
     · rw [ifp h2, dct h2, dcf (show ¬ o.Kind = 1 by omega)]; simp only [Bool.false_and, Bool.false_or, Bool.true_and, cfa]
       by_cases h3 : b.Kind ≠ 3
       · rw [ifp h3, dct h3]; rfl
       · rw [ifn h3, dcf h3]; cases inB o.Offset 0 256 <;> rfl
     · rw [ifn h2, dcf h2, dct (show o.Kind = 1 by omega)]; simp only [Bool.false_and, Bool.or_false, Bool.true_and, ctr]
       by_cases h3 : b.Kind ≠ 0
       · rw [ifp h3, dct h3]; rfl
       · rw [ifn h3, dcf h3]; have hbt := zz6 hu n0 (by omega) hb (by omega); simp only [cfa]; rw [zpl hbt, zpl ht]; simp only [obs, zgl]; rw [zw1 hbt ht]; cases inB o.Offset 0 (szE b.zI - szE o.zI) <;> rfl
theorem z07 {p : zB} {i : Nat} (hu : Upto p i) : w6 ((p.zG.length : Int) - 1) = (p.zG.length : Int) - 1 := by
 have := hu.ins
 exact w6e
theorem z8g (N : Nat) (hN : 1100 < N) {p : zB} {i : Nat} (hu : Upto p i) (hi : i < p.zA.length) : ze7 N p (i : Int) = some (opE p i) := by
 have hl := hu.ops
 have hx := lge hi
 unfold ze7 opE
 rw [zai, hx]
 generalize p.zA[i] = o at hx ⊢
 obtain ⟨n0, n1⟩ := zx4 hx
 simp only [obs]
 rw [ifp, ifp]
 simp only [z7q]
 rw [z50 N (by omega), ztw N _ (by rw [lnt]; omega) (by rw [lnt]; omega), zzu]
 simp only [obs, zsm, zsl]
 obtain ⟨k, hk⟩ := z4i o
 rw [hk]
 simp only [obs]
 rw [zqg N _ (by simp; omega) (by simp)]
 simp only [obs]
 cases hnm : zql o.Name with
 | false => rfl
 | true =>
  by_cases hd : nmI p.zA o.Name < (i : Int)
  · rw [ifp hd, dct (show nmI p.zA o.Name ≥ 0 from n0)]; simp only [Bool.true_eq_false, if_false, ifp hd]; rfl
  · rw [ifn hd, dcf (show ¬ (-1 : Int) ≥ 0 by decide)]; simp only [Bool.true_eq_false, if_false, ifn hd]; cases hkd : inB o.Kind 0 5 with
    | false => rfl
    | true =>
     obtain ⟨k', hk1, hk2⟩ := z52 hkd; rw [hk] at hk1; cases hk1; rw [hk2]; cases hex : zn5 o with
     | true => rfl
     | false =>
      rw [show zhe [cond (!true) 7 0, cond false 13 0, cond (!true) 4 0, cond false 5 0] = 0 from rfl]; simp only [bsf, cfa, Bool.true_eq_false, Bool.false_eq_true, if_false, zrx, obs]; have hks := zuw hkd; cases hdt : isD o.Kind with
      | true =>
       simp only [ctr]; rw [zpo N (by omega)]; simp only [obs, true_and]; rw [zqg N _ (by simp; omega) (by simp)]; simp only [obs, z7f]
       by_cases ht : zdq o.zI = 0
       · rw [ifp ht, ifn (fun h => h ht)]
         by_cases h4 : o.zI.Kind = 4
         · rw [ifp h4, zcn, dct h4]; rfl
         · rw [ifn h4, zcn, dcf h4]; simp only [cfa, bsf]; rw [zx2 N (by omega) ht h4]; unfold zoi; rcases hks with h | h | h | h | h | h
           · rw [h]; rfl
           · rw [zzt N hN hu ht (.inl h), ifn, ifp (.inl h), h]; rfl
           · rw [zzt N hN hu ht (.inr h), ifn, ifp (.inr h), h]; rfl
           · rw [h] at hdt; cases hdt
           · rw [h]; rfl
           · rw [h] at hdt; cases hdt
       · rw [ifn ht, ifp ht, zd1, dct ht]; rfl
      | false =>
       simp only [cfa, Bool.false_eq_true, false_and, if_false]; unfold zoi; rcases hks with h | h | h | h | h | h
       · rw [h] at hdt; cases hdt
       · rw [h] at hdt; cases hdt
       · rw [h] at hdt; cases hdt
       · rw [h]; rfl
       · rw [h] at hdt; cases hdt
       · rw [h, z07 hu]; cases inB o.Target 0 ((p.zG.length : Int) - 1) <;> rfl
theorem z7x (N : Nat) (hN : 1100 < N) {p : zB} {i : Nat} (hu : Upto p i) (hi : i < p.zA.length) : zf1 N p (i : Int) = some (opE p i) := by
 have hl := hu.ops
 have hx := lge hi
 unfold zf1 opE
 rw [zai, hx]
 generalize p.zA[i] = o at hx ⊢
 obtain ⟨n0, n1⟩ := zx4 hx
 simp only [obs]
 rw [z5v N (by omega)]
 simp only [obs]
 cases hnm : zql o.Name with
 | false => rfl
 | true =>
  simp only [bnt, cfa, Bool.true_eq_false, if_false]; rw [zwr N p (by omega) (by omega)]; simp only [obs]
  by_cases hd : nmI p.zA o.Name < (i : Int)
  · rw [dct hd, ifp hd]; rfl
  · rw [dcf hd, ifn hd]; simp only [cfa, zgl, obs]; cases hkd : inB o.Kind 0 5 with
    | false => rfl
    | true =>
     rw [z2l hkd]; simp only [bnt, cfa, obs, Bool.true_eq_false, if_false]; cases hex : zn5 o with
     | true => rfl
     | false =>
      simp only [cfa, Bool.false_eq_true, if_false, zv3, obs]; have hks := zuw hkd; rw [zwr N p (by omega) (by omega)]; cases hdt : isD o.Kind with
      | true =>
       simp only [ctr, true_and, zzq, obs]
       by_cases ht : zdq o.zI = 0
       · rw [ifn (fun h => h ht), zd1, dcf (fun h => h ht)]; simp only [cfa]
         by_cases h4 : o.zI.Kind = 4
         · rw [ifp h4, zcn, dct h4]; rfl
         · rw [ifn h4, zcn, dcf h4]; simp only [cfa]; rw [z31 N (by omega) ht h4]; unfold zoi; rcases hks with h | h | h | h | h | h
           · rw [h]; rfl
           · have hb := zzr N hN hu ht (.inl h); simp only [zgl, obs] at hb; rw [ifn, ifp (.inl h), ← hb, h]; rfl
           · have hb := zzr N hN hu ht (.inr h); simp only [zgl, obs] at hb; rw [ifn, ifp (.inr h), ← hb, h]; rfl
           · rw [h] at hdt; cases hdt
           · rw [h]; rfl
           · rw [h] at hdt; cases hdt
       · rw [ifp ht, zd1, dct ht]; rfl
      | false =>
       simp only [cfa, Bool.false_eq_true, false_and, if_false, obs]; unfold zoi; rcases hks with h | h | h | h | h | h
       · rw [h] at hdt; cases hdt
       · rw [h] at hdt; cases hdt
       · rw [h] at hdt; cases hdt
       · rw [h]; rfl
       · rw [h] at hdt; cases hdt
       · rw [h, z07 hu]; cases inB o.Target 0 ((p.zG.length : Int) - 1) <;> rfl
def zjx (o : zF) : Bool := decide (o.zI.Kind ≠ 0)
def zm6 (o b : zF) (c : Int) : Bool :=
 if c = 0 then isS o.Kind else if c = 1 then isD o.Kind else if c = 2 then isS o.Kind && zjx o else if c = 3 then isD o.Kind && zjx o
 else if c = 4 then isD o.Kind && (zjx o == zjx b) else if c = 5 then decide (o.Kind = 3) else decide (o.Kind = 5)
theorem z4j (k : Int) : (isD k && !decide (k = 4)) = isS k := by
 unfold isD
 by_cases h : k = 4
 · subst h; rfl
 · rw [dcf h]; simp
theorem z54 (o b : zF) {c : Int} (hc : 0 ≤ c ∧ c ≤ 6) : zif o b c = some (zm6 o b c) := by
 have h : c = 0 ∨ c = 1 ∨ c = 2 ∨ c = 3 ∨ c = 4 ∨ c = 5 ∨ c = 6 := by omega
 unfold zif
 rw [zrx]
 simp only [zep, zcn, zd1, obs]
 have hs := z4j o.Kind
 unfold zm6 zjx
 rcases h with rfl | rfl | rfl | rfl | rfl | rfl | rfl
 · rw [← hs]; simp only [if_true]; cases isD o.Kind <;> cases decide (o.Kind = 4) <;> rfl
 · rw [ifn (by decide), ifp rfl]; cases isD o.Kind <;> rfl
 · rw [← hs, ifn (by decide), ifn (by decide), ifp rfl]; cases isD o.Kind <;> cases decide (o.Kind = 4) <;> cases decide (o.zI.Kind ≠ 0) <;> rfl
 · rw [ifn (by decide), ifn (by decide), ifn (by decide), ifp rfl]; cases isD o.Kind <;> cases decide (o.zI.Kind ≠ 0) <;> rfl
 · rw [ifn (by decide), ifn (by decide), ifn (by decide), ifn (by decide), ifp rfl]; cases isD o.Kind <;> cases decide (o.zI.Kind ≠ 0) <;> cases decide (b.zI.Kind ≠ 0) <;> rfl
 · rw [ifn (by decide), ifn (by decide), ifn (by decide), ifn (by decide), ifn (by decide), ifp rfl]; rfl
 · rw [ifn (by decide), ifn (by decide), ifn (by decide), ifn (by decide), ifn (by decide), ifn (by decide)]; rfl
def zt8 : zF := ⟨⟨#[]⟩, 0, ⟨0, 0, 0⟩, ⟨0, ⟨#[]⟩⟩, ⟨#[]⟩, 0, 0⟩
def zl1 (p : zB) (x : zJ) : Nat → zF
 | 0 => zt8
 | k + 1 => p.zA.getD ((x.Args.getD k 0).toNat) zt8
def zgu (op : Int) : List Int := zor.getD op.toNat []
def gA (p : zB) (x : zJ) (i : Nat) : Option Int :=
 (x.Args[i]?).bind fun a => if inB a 0 ((p.zA.length : Int) - 1) = true then (match p.zA[a.toNat]?, (zgu x.Op)[i]? with | some o, some c => if zm6 o (zl1 p x i) c = true then none else some 17 | _, _ => none) else some 3
def zqp (p : zB) (x : zJ) : Int :=
 if inB x.Op 0 18 = false then 4 else if (x.Args.length : Int) ≠ ((zgu x.Op).length : Int) then 37
 else match (List.range x.Args.length).findSome? (gA p x) with | some e => e | none => 0
theorem z2v {k : Int} (h : inB k 0 18 = true) : ∃ n : Nat, k = (n : Int) ∧ n < 19 := by
 have := zdk.1 h
 exact ⟨k.toNat, by omega, by omega⟩
theorem z6r : ((List.range 19).all fun n => (match zor[n]? with | some l => l.all (fun c => decide (0 ≤ c) && decide (c ≤ 6)) && (decide (l.length ≤ 3) && ((List.range l.length).all fun i => !(l.getD i 0 == 4) || (i == 1 && (l.getD 0 9 == 0 || l.getD 0 9 == 1)))) | none => false)) = true := by kernel_rfl
def zvi (c : Int) : Int := if c = 1 then 2 else if c = 2 then 1 else c
theorem z5t : ((List.range 19).all fun n => match zhz (n : Int) with | some l => l == (zgu (n : Int)).map zvi | none => false) = true := by kernel_rfl
theorem zwh {k : Int} (h : inB k 0 18 = true) : idx zor k = some (zgu k) ∧ (zgu k).length ≤ 3 ∧ (∀ (i : Nat) (c : Int), (zgu k)[i]? = some c → (0 ≤ c ∧ c ≤ 6) ∧ (c = 4 → i = 1 ∧ ∃ d, (zgu k)[0]? = some d ∧ (d = 0 ∨ d = 1))) ∧ zhz k = some ((zgu k).map zvi) := by
 obtain ⟨n, rfl, hn⟩ := z2v h
 have h1 := List.all_eq_true.1 z6r n (List.mem_range.2 hn)
 have h2 := List.all_eq_true.1 z5t n (List.mem_range.2 hn)
 have hlt : n < zor.length := hn
 have hg : zor[n]? = some (zgu (n : Int)) := by
  unfold zgu; rw [itn, gdd, lge hlt]; rfl
 rw [hg] at h1
 simp only [Bool.and_eq_true, List.all_eq_true, decide_eq_true_eq, List.mem_range, Bool.or_eq_true, Bool.not_eq_true', beq_iff_eq, beq_eq_false_iff_ne] at h1
 obtain ⟨a1, a2, a3⟩ := h1
 refine ⟨by rw [zai, hg], a2, fun i c hc => ⟨a1 c (lmg hc), fun h4 => ?_⟩, ?_⟩
 · have hi := (gei hc).1; have e : (zgu (n : Int)).getD i 0 = c := by rw [gdd, hc]; rfl
   rcases a3 i hi with h | ⟨h5, h6⟩
   · rw [e] at h; exact absurd h4 h
   · refine ⟨h5, ?_⟩; have h0 : 0 < (zgu (n : Int)).length := by omega
     refine ⟨_, lge h0, ?_⟩; rw [gdd, lge h0] at h6; exact h6
 · cases hr : zhz (n : Int) with
   | none => rw [hr] at h2; cases h2
   | some l =>
    rw [hr] at h2; rw [eq_of_beq h2]
theorem z66 {p : zB} {i : Nat} (hu : Upto p i) : w6 ((p.zA.length : Int) - 1) = (p.zA.length : Int) - 1 := by
 have := hu.ops
 exact w6e
theorem zyz {p : zB} {a : Int} (h : inB a 0 ((p.zA.length : Int) - 1) = true) : ∃ o, p.zA[a.toNat]? = some o ∧ idx p.zA a = some o := by
 have := zdk.1 h
 refine ⟨_, lge (by omega), ?_⟩
 unfold idx
 rw [ifp, lge]
theorem z63 (N : Nat) (hN : 1100 < N) {p : zB} {i : Nat} (hu : Upto p i) (x : zJ) : zac N p x = some (zqp p x) := by
 unfold zac zqp
 rw [zsl]
 simp only [obs]
 cases hop : inB x.Op 0 18 with
 | false => rfl
 | true =>
  obtain ⟨t1, t2, t3, _⟩ := zwh hop; rw [t1]; simp only [bnt, cfa, obs, zd1, Bool.true_eq_false, if_false]
  by_cases hl : (x.Args.length : Int) ≠ ((zgu x.Op).length : Int)
  · rw [ifp hl, dct hl]; rfl
  · rw [ifn hl, dcf hl]; simp only [cfa]; have l1 := znf (f := zac.r0 N) (fun i => (x.Args, (x.Args.length : Int), (i : Int), p, x, zl1 p x i)) (gA p x) x.Args.length
     (fun i hi hp => by
      have hx := lge hi; have hi2 : i < (zgu x.Op).length := by omega
      have hc := lge hi2; simp only [zac.r0, zac.b0, zai, hx, obs, dct (show (i : Int) < (x.Args.length : Int) by omega), ctr, z66 hu, zsl, gA, t1, hc]; cases hin : inB x.Args[i] 0 ((p.zA.length : Int) - 1) with
      | false => rfl
      | true =>
       obtain ⟨o, ho, ho2⟩ := zyz hin; simp only [bnt, cfa, ho, ho2, obs, if_true]; rw [z54 _ _ (t3 i _ hc).1]; simp only [obs]; cases zm6 o (zl1 p x i) (zgu x.Op)[i] with
       | false => rfl
       | true =>
        simp only [bnt, cfa, if_true]; rw [w6e]; rw [show zl1 p x (i + 1) = o by
         show p.zA.getD ((x.Args.getD i 0).toNat) zt8 = o; rw [gdd (l := x.Args), hx, Option.getD_some, gdd, ho]; rfl]
        rfl)
     (fun _ => by simp only [zac.r0, zac.b0, dcf (show ¬ (x.Args.length : Int) < (x.Args.length : Int) by omega), cfa]) (N := N) (by omega)
    simp only [nc0] at l1; rw [show (⟨(⟨#[]⟩ : ByteArray), 0, (⟨0, 0, 0⟩ : DataType), (⟨0, (⟨#[]⟩ : ByteArray)⟩ : Value), (⟨#[]⟩ : ByteArray), 0, 0⟩ : zF) = zl1 p x 0 from rfl, l1]; cases (List.range x.Args.length).findSome? (gA p x) <;> rfl
theorem z2w {p : zB} {j : Nat} {o : zF} (ho : p.zA[j]? = some o) (h : opE p j = 0) (hd : isD o.Kind = true) : inB o.zI.Kind 1 3 = zjx o := by
 obtain ⟨h1, h2⟩ := (z4f ho h).ty hd
 unfold zjx
 rcases zj6 h1 with ⟨k, _⟩ | ⟨k | k, _⟩ | ⟨k, _⟩ | ⟨k, _⟩
 · rw [k]; rfl
 · rw [k]; rfl
 · rw [k]; rfl
 · rw [k]; rfl
 · exact absurd k h2
theorem z36 (N : Nat) (hN : 1100 < N) {p : zB} (hu : Upto p p.zA.length) (x : zJ) : zak N p x = some (zqp p x) := by
 have hol := hu.ops
 unfold zak zqp
 rw [zgl]
 simp only [obs]
 cases hop : inB x.Op 0 18 with
 | false => rfl
 | true =>
  obtain ⟨t1, t2, t3, t4⟩ := zwh hop; rw [t4]; simp only [bnt, cfa, obs, zd1, Bool.true_eq_false, if_false, lnm]
  by_cases hl : (x.Args.length : Int) ≠ ((zgu x.Op).length : Int)
  · rw [ifp hl, dct hl]; rfl
  · rw [ifn hl, dcf hl]; simp only [cfa]; have l1 := znf (f := zak.r0 N) (fun i => ((zgu x.Op).map zvi, (i : Int), p, x)) (gA p x) x.Args.length
     (fun i hi hp => by
      have hx := lge hi; have hi2 : i < (zgu x.Op).length := by omega
      have hc := lge hi2; simp only [zak.r0, zak.b0, zai, hx, obs, lnm, dct (show (i : Int) < ((zgu x.Op).length : Int) by omega), ctr, z66 hu, zgl, gA, List.getElem?_map, hc, Option.map_some]; cases hin : inB x.Args[i] 0 ((p.zA.length : Int) - 1) with
      | false => rfl
      | true =>
       obtain ⟨o, ho, ho2⟩ := zyz hin; have hlt := (gei ho).1; obtain ⟨c1, c2⟩ := t3 i _ hc; have hbf : (zgu x.Op)[i] = 4 → ∃ a b, i = 1 ∧ x.Args[0]? = some a ∧ idx p.zA a = some b ∧ zl1 p x i = b ∧ inB b.zI.Kind 1 3 = zjx b := fun h4 => by
        obtain ⟨rfl, d, hd, hd2⟩ := c2 h4; have h0 := hp 0 (by omega); have hx0 := lge (show 0 < x.Args.length by omega); unfold gA at h0; rw [hx0, obs] at h0; split at h0
        · rename_i hin0; obtain ⟨b, hb, hb2⟩ := zyz hin0; rw [hb, hd] at h0; simp only at h0; split at h0
          · rename_i hcl; have hlt0 := (gei hb).1; refine ⟨_, b, rfl, hx0, hb2, ?_, z2w hb (hu.ok _ hlt0) ?_⟩
            · show p.zA.getD ((x.Args.getD 0 0).toNat) zt8 = b; rw [gdd (l := x.Args), hx0, Option.getD_some, gdd, hb]; rfl
            · unfold zm6 at hcl; rcases hd2 with rfl | rfl
              · rw [ifp rfl] at hcl; unfold isD; rw [hcl]; rfl
              · rw [ifn (by decide), ifp rfl] at hcl; exact hcl
          · cases h0
        · cases h0
       have hnum : isD o.Kind = true → inB o.zI.Kind 1 3 = zjx o := z2w ho (hu.ok _ hlt); have hSD : isS o.Kind = true → isD o.Kind = true := fun h => by unfold isD; rw [h]; rfl
       simp only [bnt, cfa, ho, ho2, obs, if_true, zs2, zv3, zer, zul, zcn]; generalize (zgu x.Op)[i] = c at c1 hbf ⊢; have fin : ∀ b : Bool, (cond (!b) (some (Round.result (17 : Int))) (some (Round.again ((zgu x.Op).map zvi, w6 ((i : Int) + 1), p, x)))) = some (cond b (Round.again ((zgu x.Op).map zvi, ((i + 1 : Nat) : Int), p, x)) (.result 17)) := fun b => by
        rw [w6e]; cases b <;> rfl
       have hcs : c = 0 ∨ c = 1 ∨ c = 2 ∨ c = 3 ∨ c = 4 ∨ c = 5 ∨ c = 6 := by omega
       rcases hcs with rfl | rfl | rfl | rfl | rfl | rfl | rfl <;> simp only [zvi, Int.reduceEq, reduceIte, decide_true, decide_false, ctr, cfa]
       · rw [show zm6 o (zl1 p x i) 0 = isS o.Kind from rfl]; rw [fin]; cases (isS o.Kind) <;> rfl
       · rw [show zm6 o (zl1 p x i) 1 = isD o.Kind from rfl]; rw [fin]; cases (isD o.Kind) <;> rfl
       · rw [show zm6 o (zl1 p x i) 2 = (isS o.Kind && inB o.zI.Kind 1 3) by
          show (isS o.Kind && zjx o) = _; cases hs : isS o.Kind with
          | false => rfl
          | true => rw [hnum (hSD hs)]]
         cases isS o.Kind
         · simp only [ctr, cfa, obs, Bool.true_and, Bool.false_and]; rfl
         · simp only [ctr, cfa, obs, Bool.true_and, Bool.false_and]; rw [fin]; cases (inB o.zI.Kind 1 3) <;> rfl
       · rw [show zm6 o (zl1 p x i) 3 = (isD o.Kind && inB o.zI.Kind 1 3) by
          show (isD o.Kind && zjx o) = _; cases hs : isD o.Kind with
          | false => rfl
          | true => rw [hnum hs]]
         cases isD o.Kind
         · simp only [ctr, cfa, obs, Bool.true_and, Bool.false_and]; rfl
         · simp only [ctr, cfa, obs, Bool.true_and, Bool.false_and]; rw [fin]; cases (inB o.zI.Kind 1 3) <;> rfl
       · obtain ⟨a, b, rfl, ha, hb, hbb, hbn⟩ := hbf rfl; rw [show zm6 o (zl1 p x 1) 4 = (isD o.Kind && (inB o.zI.Kind 1 3 == inB b.zI.Kind 1 3)) by
          show (isD o.Kind && (zjx o == zjx (zl1 p x 1))) = _; rw [hbb, hbn]; cases hs : isD o.Kind with
          | false => rfl
          | true => rw [hnum hs]]
         rw [show w6 (((1 : Nat) : Int) - 1) = ((0 : Nat) : Int) from rfl, zai, ha]; simp only [obs]; rw [hb]; cases isD o.Kind
         · simp only [ctr, cfa, obs, Bool.true_and, Bool.false_and]; rfl
         · simp only [ctr, cfa, obs, Bool.true_and, Bool.false_and]; rw [fin]; cases (inB o.zI.Kind 1 3 == inB b.zI.Kind 1 3) <;> rfl
       · rw [show zm6 o (zl1 p x i) 5 = decide (o.Kind = 3) from rfl]; rw [fin]; cases (decide (o.Kind = 3)) <;> rfl
       · rw [show zm6 o (zl1 p x i) 6 = decide (o.Kind = 5) from rfl]; rw [fin]; cases (decide (o.Kind = 5)) <;> rfl)
     (fun _ => by simp only [zak.r0, zak.b0, lnm, dcf (show ¬ (x.Args.length : Int) < ((zgu x.Op).length : Int) by omega), cfa]) (N := N) (by omega)
    simp only [nc0] at l1; rw [l1]; cases (List.range x.Args.length).findSome? (gA p x) <;> rfl
def zr1 (p : zB) (m : zN) : Bool := decide (0 ≤ m.From) && (decide (m.From < m.To) && (decide (m.To ≤ (p.zG.length : Int)) && (inB m.Exception 0 999 && inB m.Handler 0 ((p.zG.length : Int) - 1))))
theorem z62 {p : zB} {i : Nat} (hu : Upto p i) (m : zN) : ze8 p m = some (cond (zr1 p m) 0 3) := by
 unfold ze8 zr1
 rw [z07 hu, zsl, zsl]
 simp only [obs, zph, zsm, ge_iff_le]
 cases decide (0 ≤ m.From) <;> cases decide (m.From < m.To) <;> cases decide (m.To ≤ (p.zG.length : Int)) <;> cases inB m.Exception 0 999 <;> cases inB m.Handler 0 ((p.zG.length : Int) - 1) <;> rfl
theorem z69 (p : zB) (m : zN) : ((((decide (m.From < 0) || decide (m.From ≥ m.To)) || decide (m.To > (p.zG.length : Int))) || !inB m.Exception 0 999) || !inB m.Handler 0 ((p.zG.length : Int) - 1)) = !zr1 p m := by
 unfold zr1
 rw [show decide (m.From < 0) = !decide (0 ≤ m.From) by rw [← decide_not]; congr 1; simp, show decide (m.From ≥ m.To) = !decide (m.From < m.To) by rw [← decide_not]; congr 1; simp, show decide (m.To > (p.zG.length : Int)) = !decide (m.To ≤ (p.zG.length : Int)) by rw [← decide_not]; congr 1; simp]
 simp only [Bool.not_and, Bool.or_assoc]
theorem zxn (N0 : Nat) (n : Nat) (hn : n ≤ 1000000) (v : Int) : ∀ (N k : Nat), 1 ≤ k → k ≤ n → n - k < N → zl (za7.r0 N0) N (List.replicate k v ++ List.replicate (n - k) 0, (k : Int)) = some (List.replicate n v, (n : Int))
 | 0, k, _, _, h => by omega
 | N + 1, k, h1, h2, h3 => by
  have hlen : (List.replicate k v ++ List.replicate (n - k) (0 : Int)).length = n := by rw [lna, lnr, lnr]; omega
  simp only [zl, za7.r0, za7.b0, hlen]
  by_cases hk : k < n
  · rw [dct (by omega), ctr, ifp, ifp, ifp]; simp only [obs]; have t1 : (List.replicate k v ++ List.replicate (n - k) (0 : Int)).take ((k : Int)).toNat = List.replicate k v := by
     rw [itn, List.take_append_of_le_length (by rw [lnr]; omega), List.take_replicate, Nat.min_self]
    have t2 : (((List.replicate k v ++ List.replicate (n - k) (0 : Int)).drop (0 : Int).toNat).take (((k : Int)).toNat - (0 : Int).toNat)) = List.replicate k v := t1; rw [t1, t2, lnr]; have e : ((k : Int)).toNat = k := itn k; rw [e, List.take_replicate, show min (min k (n - k)) k = min k (n - k) by omega, List.drop_append, List.drop_eq_nil_of_le (by rw [lnr]; omega), lnr, List.drop_replicate, List.nil_append]; rw [w6e]; have := zxn N0 n hn v N (k + min k (n - k)) (by omega) (by omega) (by omega); rw [← this, List.replicate_append_replicate, show n - k - (k + min k (n - k) - k) = n - (k + min k (n - k)) by omega]; rfl
  · obtain rfl : k = n := by omega
    rw [dcf (by omega), cfa, Nat.sub_self]; simp
theorem z17 (N : Nat) (n : Nat) (hn : n ≤ 100000) (hN : n < N) (v : Int) : za7 N [v] (n : Int) = some (List.replicate n v) := by
 have wu : ∀ m : Nat, m ≤ 1000000 → IntKind.wrap .u64 (m : Int) = (m : Int) := fun m hm => by
  unfold IntKind.wrap; rw [show (2 : Int) ^ IntKind.u64.bits = 18446744073709551616 from rfl, show IntKind.u64.signed = false from rfl]; simp only [Bool.false_and, Bool.false_eq_true, if_false]; omega
 unfold za7 zi7
 rw [show (([v] : List Int).length : Int) = ((1 : Nat) : Int) from rfl, wu 1 (by decide), wu n (by omega), z8j 1 n (by decide) (by omega)]
 rw [show (1 * n) / 18446744073709551616 = 0 by omega, show (1 * n) % 18446744073709551616 = n by omega]
 simp only [obs]
 rw [dcf (by omega), dcf (by omega), dcf (by omega), w6e, ifp, ifp, itn, zco (by omega)]
 simp only [cfa, ctr, obs, lnr]
 by_cases h0 : n = 0
 · subst h0; obtain ⟨M, rfl⟩ : ∃ M, N = M + 1 := ⟨N - 1, by omega⟩; rfl
 · have := zxn N n (by omega) v N 1 (by omega) (by omega) (by omega); rw [show min ([v] : List Int).length n = 1 by simp; omega]; rw [show ([v] : List Int).take 1 ++ (List.replicate n (0 : Int)).drop 1 = List.replicate 1 v ++ List.replicate (n - 1) 0 by rw [List.drop_replicate]; rfl, this]; rfl
def og (ops : List zF) (k : Nat) : zF := ops.getD k zt8
def pAt (ops : List zF) : Nat → Int
 | 0 => 0
 | k + 1 => pAt ops k + (if (og ops k).Kind = 3 then 16 else 0)
def zhk (ops : List zF) : Nat → Int
 | 0 => 0
 | k + 1 => zhk ops k + (if (og ops k).Kind = 0 then szE (og ops k).zI else 0)
def sAt (ops : List zF) (k : Nat) : Int := pAt ops ops.length + zhk ops k
def zfe (ops : List zF) (i : Nat) : Int :=
 if (og ops i).Kind = 3 then pAt ops i else if (og ops i).Kind = 0 then sAt ops i else if (og ops i).Kind = 1 then sAt ops (nmI ops (og ops i).Base).toNat + (og ops i).Offset else -1
def zpd (ops : List zF) : List Int := (List.range ops.length).map (zfe ops)
def zd0 (ops : List zF) : Int := (sAt ops ops.length + 15) / 16
theorem zmq {ops : List zF} {k : Nat} (h : k < ops.length) : ops[k]? = some (og ops k) := by
 unfold og
 rw [gdd, lge h]
 rfl
theorem zlg (ops : List zF) : ∀ k, 0 ≤ pAt ops k ∧ pAt ops k ≤ 16 * (k : Int) ∧ pAt ops k % 16 = 0
 | 0 => ⟨Int.le_refl _, by show (0 : Int) ≤ 16 * ((0 : Nat) : Int); omega, rfl⟩
 | k + 1 => by
  obtain ⟨h1, h2, h3⟩ := zlg ops k; unfold pAt; split <;> omega
theorem zxz (ops : List zF) {j : Nat} : ∀ {k : Nat}, j ≤ k → pAt ops j ≤ pAt ops k
 | 0, h => by
  obtain rfl : j = 0 := by omega
  exact Int.le_refl _
 | k + 1, h => by
  by_cases e : j = k + 1
  · subst e; exact Int.le_refl _
  · have := zxz ops (show j ≤ k by omega); have e2 : pAt ops (k + 1) = pAt ops k + (if (og ops k).Kind = 3 then 16 else 0) := rfl; rw [e2]; split <;> omega
def zkz (p : zB) : Prop := Upto p p.zA.length
theorem zkt {p : zB} (h : zkz p) {k : Nat} (hk : k < p.zA.length) : OpV p k (og p.zA k) := z4f (zmq hk) (h.ok k hk)
theorem zoo {p : zB} (h : zkz p) {k : Nat} (hk : k < p.zA.length) (h0 : (og p.zA k).Kind = 0) : zdq (og p.zA k).zI = 0 := ((zkt h hk).ty (by rw [h0]; rfl)).1
theorem zj8 {p : zB} (h : zkz p) : ∀ k, k ≤ p.zA.length → 0 ≤ zhk p.zA k ∧ zhk p.zA k ≤ 256 * (k : Int)
 | 0, _ => ⟨Int.le_refl _, by show (0 : Int) ≤ 256 * ((0 : Nat) : Int); omega⟩
 | k + 1, hk => by
  obtain ⟨h1, h2⟩ := zj8 h k (by omega); unfold zhk; split
  · rename_i h0; have := zfn (zoo h (by omega) h0); omega
  · omega
theorem zv2 {p : zB} (h : zkz p) {j : Nat} : ∀ {k : Nat}, k ≤ p.zA.length → j ≤ k → zhk p.zA j ≤ zhk p.zA k
 | 0, _, hj => by
  obtain rfl : j = 0 := by omega
  exact Int.le_refl _
 | k + 1, hk, hj => by
  by_cases e : j = k + 1
  · subst e; exact Int.le_refl _
  · have := zv2 h (show k ≤ p.zA.length by omega) (show j ≤ k by omega); have e2 : zhk p.zA (k + 1) = zhk p.zA k + (if (og p.zA k).Kind = 0 then szE (og p.zA k).zI else 0) := rfl; rw [e2]; split
    · rename_i h0; have := zfn (zoo h (by omega) h0); omega
    · omega
theorem zme {n : Nat} (f : Nat → Int) {k : Nat} (v : Int) : ((List.range n).map f).set k v = (List.range n).map fun i => if i = k then v else f i := by
 apply List.ext_getElem?
 intro i
 rw [List.getElem?_set, List.getElem?_map, List.getElem?_map, lnm, List.length_range]
 by_cases hi : i < n
 · rw [List.getElem?_range hi]
   by_cases e : k = i
   · subst e; simp [hi]
   · simp [e, Ne.symm e]
 · rw [List.getElem?_eq_none (by simpa using hi)]
   by_cases e : k = i
   · subst e; simp [hi]
   · simp [e]
theorem zkl {n : Nat} (f : Nat → Int) {k : Nat} (h : k < n) : ((List.range n).map f)[k]? = some (f k) := by
 rw [List.getElem?_map, List.getElem?_range h]
 rfl
theorem zd8 {n : Nat} {f g : Nat → Int} (h : ∀ i, i < n → f i = g i) : (List.range n).map f = (List.range n).map g := List.map_congr_left fun i hi => h i (List.mem_range.1 hi)
theorem zzv (n : Nat) (v : Int) : List.replicate n v = (List.range n).map fun _ => v := by
 apply List.ext_getElem?
 intro i
 rw [List.getElem?_replicate, List.getElem?_map]
 by_cases hi : i < n
 · rw [ifp hi, List.getElem?_range hi]; rfl
 · rw [ifn hi, List.getElem?_eq_none (by simpa using hi)]; rfl
def A1 (ops : List zF) (k i : Nat) : Int := if i < k ∧ (og ops i).Kind = 3 then pAt ops i else -1
def B1 (ops : List zF) (k i : Nat) : Int := if i < k then (if (og ops i).Kind = 3 then pAt ops i else -1) else 0
def A2 (ops : List zF) (k i : Nat) : Int := if i < k ∧ (og ops i).Kind = 0 then sAt ops i else if (og ops i).Kind = 3 then pAt ops i else -1
def A3 (ops : List zF) (k i : Nat) : Int := if i < k ∧ (og ops i).Kind = 1 then sAt ops (nmI ops (og ops i).Base).toNat + (og ops i).Offset else A2 ops ops.length i
theorem zrg {p : zB} (h : zkz p) {i : Nat} (hi : i < p.zA.length) (hk : (og p.zA i).Kind = 1) : ∃ b : Nat, nmI p.zA (og p.zA i).Base = (b : Int) ∧ b < i ∧ (og p.zA b).Kind = 0 ∧ 0 ≤ (og p.zA i).Offset ∧ (og p.zA i).Offset ≤ szE (og p.zA b).zI - szE (og p.zA i).zI := by
 have hb := (zkt h hi).base (.inl hk)
 unfold zo2 at hb
 by_cases hc : nmI p.zA (og p.zA i).Base < 0 ∨ (i : Int) ≤ nmI p.zA (og p.zA i).Base
 · rw [ifp hc] at hb; cases hb
 · rw [ifn hc] at hb; refine ⟨(nmI p.zA (og p.zA i).Base).toNat, by omega, by omega, ?_⟩; rw [zmq (by omega)] at hb; simp only at hb; rw [ifn] at hb; split at hb
   · cases hb
   · rename_i h0; split at hb
     · rename_i h1; have := zdk.1 h1; exact ⟨by omega, by omega, by omega⟩
     · cases hb
theorem z1m {p : zB} (h : zkz p) {i : Nat} (hi : i < p.zA.length) (hk : (og p.zA i).Kind = 2) : ∃ b : Nat, nmI p.zA (og p.zA i).Base = (b : Int) ∧ b < i ∧ (og p.zA b).Kind = 3 ∧ 0 ≤ (og p.zA i).Offset ∧ (og p.zA i).Offset ≤ 256 := by
 have hb := (zkt h hi).base (.inr hk)
 unfold zo2 at hb
 by_cases hc : nmI p.zA (og p.zA i).Base < 0 ∨ (i : Int) ≤ nmI p.zA (og p.zA i).Base
 · rw [ifp hc] at hb; cases hb
 · rw [ifn hc] at hb; refine ⟨(nmI p.zA (og p.zA i).Base).toNat, by omega, by omega, ?_⟩; rw [zmq (by omega)] at hb; simp only at hb; rw [ifp hk] at hb; split at hb
   · cases hb
   · rename_i h0; split at hb
     · rename_i h1; have := zdk.1 h1; exact ⟨by omega, by omega, by omega⟩
     · cases hb
theorem zwl {p : zB} (h : zkz p) (k : Nat) {b : Nat} (hb : b < p.zA.length) (h0 : (og p.zA b).Kind = 0) : A3 p.zA k b = sAt p.zA b := by
 unfold A3 A2
 rw [ifn, ifp ⟨hb, h0⟩]
theorem z3p (ops : List zF) : (List.range ops.length).map (A3 ops ops.length) = zpd ops := by
 refine zd8 fun i hi => ?_
 unfold A3 A2 zfe
 by_cases h1 : (og ops i).Kind = 1
 · rw [ifp ⟨hi, h1⟩, ifn, ifn, ifp h1]
 · rw [ifn]
   by_cases h0 : (og ops i).Kind = 0
   · rw [ifp ⟨hi, h0⟩, ifn, ifp h0]
   · rw [ifn]
     by_cases h3 : (og ops i).Kind = 3
     · rw [ifp h3, ifp h3]
     · rw [ifn h3, ifn h3, ifn h0, ifn h1]
section
variable {ops : List zF} {k : Nat}
theorem z6m : (List.range ops.length).map (A1 ops (k + 1)) = if (og ops k).Kind = 3 then ((List.range ops.length).map (A1 ops k)).set k (pAt ops k) else (List.range ops.length).map (A1 ops k) := by
 split
 · rename_i h; rw [zme]; refine zd8 fun i _ => ?_; unfold A1
   by_cases e : i = k
   · subst e; rw [ifp ⟨by omega, h⟩, ifp rfl]
   · rw [ifn e]
     by_cases h2 : i < k ∧ (og ops i).Kind = 3
     · rw [ifp h2, ifp ⟨by omega, h2.2⟩]
     · rw [ifn h2, ifn]
 · rename_i h; refine zd8 fun i _ => ?_; unfold A1
   by_cases e : i = k
   · subst e; rw [ifn, ifn]
   · by_cases h2 : i < k ∧ (og ops i).Kind = 3
     · rw [ifp h2, ifp ⟨by omega, h2.2⟩]
     · rw [ifn h2, ifn]
theorem z6l : (List.range ops.length).map (B1 ops (k + 1)) = if (og ops k).Kind = 3 then (((List.range ops.length).map (B1 ops k)).set k (-1)).set k (pAt ops k) else ((List.range ops.length).map (B1 ops k)).set k (-1) := by
 split
 · rename_i h; rw [zme, zme]; refine zd8 fun i _ => ?_; unfold B1
   by_cases e : i = k
   · subst e; rw [ifp, ifp h, ifp rfl]
   · rw [ifn e, ifn e]
     by_cases h2 : i < k
     · rw [ifp h2, ifp]
     · rw [ifn h2, ifn]
 · rename_i h; rw [zme]; refine zd8 fun i _ => ?_; unfold B1
   by_cases e : i = k
   · subst e; rw [ifp, ifn h, ifp rfl]
   · rw [ifn e]
     by_cases h2 : i < k
     · rw [ifp h2, ifp]
     · rw [ifn h2, ifn]
theorem z0d : (List.range ops.length).map (A2 ops (k + 1)) = if (og ops k).Kind = 0 then ((List.range ops.length).map (A2 ops k)).set k (sAt ops k) else (List.range ops.length).map (A2 ops k) := by
 split
 · rename_i h; rw [zme]; refine zd8 fun i _ => ?_; unfold A2
   by_cases e : i = k
   · subst e; rw [ifp ⟨by omega, h⟩, ifp rfl]
   · rw [ifn e]
     by_cases h2 : i < k ∧ (og ops i).Kind = 0
     · rw [ifp h2, ifp ⟨by omega, h2.2⟩]
     · rw [ifn h2, ifn (show ¬ (i < k + 1 ∧ (og ops i).Kind = 0) by omega)]
 · rename_i h; refine zd8 fun i _ => ?_; unfold A2
   by_cases e : i = k
   · subst e; rw [ifn (show ¬ (i < i + 1 ∧ (og ops i).Kind = 0) by omega), ifn (show ¬ (i < i ∧ (og ops i).Kind = 0) by omega)]
   · by_cases h2 : i < k ∧ (og ops i).Kind = 0
     · rw [ifp h2, ifp ⟨by omega, h2.2⟩]
     · rw [ifn h2, ifn (show ¬ (i < k + 1 ∧ (og ops i).Kind = 0) by omega)]
theorem z0c : (List.range ops.length).map (A3 ops (k + 1)) = if (og ops k).Kind = 1 then ((List.range ops.length).map (A3 ops k)).set k (sAt ops (nmI ops (og ops k).Base).toNat + (og ops k).Offset) else (List.range ops.length).map (A3 ops k) := by
 split
 · rename_i h; rw [zme]; refine zd8 fun i _ => ?_; unfold A3
   by_cases e : i = k
   · subst e; rw [ifp ⟨by omega, h⟩, ifp rfl]
   · rw [ifn e]
     by_cases h2 : i < k ∧ (og ops i).Kind = 1
     · rw [ifp h2, ifp ⟨by omega, h2.2⟩]
     · rw [ifn h2, ifn]
 · rename_i h; refine zd8 fun i _ => ?_; unfold A3
   by_cases e : i = k
   · subst e; rw [ifn, ifn]
   · by_cases h2 : i < k ∧ (og ops i).Kind = 1
     · rw [ifp h2, ifp ⟨by omega, h2.2⟩]
     · rw [ifn h2, ifn]
end
theorem zxr {a : Int} (h0 : 0 ≤ a) (h1 : a ≤ 1000000) : w6 ((w6 ((w6 (a + 16)) - 1)).tdiv 16) = (a + 15) / 16 := by
 rw [w6e (n := a + 16), w6e (n := a + 16 - 1), tde, show a + 16 - 1 = a + 15 by omega, w6e]
theorem zvp (n : Nat) (f : Nat → Int) : ((List.range n).map f).length = n := by rw [lnm, List.length_range]
theorem zrw (N : Nat) (hN : 1100 < N) {p : zB} (h : zkz p) : zg N p.zA = some (zpd p.zA, zd0 p.zA) := by
 have hl := h.ops
 have hp := fun k => zlg p.zA k
 have hs := fun k hk => zj8 h k hk
 unfold zg
 rw [z17 N _ (by omega) (by omega), zzv]
 simp only [obs]
 have l1 := za1 (f := zg.r0 N) (fun k => (p.zA, (List.range p.zA.length).map (A1 p.zA k), pAt p.zA k, p.zA, (p.zA.length : Int), (k : Int))) p.zA.length
  (fun k hk => by
   have h1 := hp k; simp only [zg.r0, zg.b0, zai, zmq hk, obs, dct (show (k : Int) < (p.zA.length : Int) by omega), ctr, zvp, ifp (show (0 : Int) ≤ (k : Int) by omega), ifp (show (k : Int) < (p.zA.length : Int) by omega), itn, zkl _ hk, z6m, zcn]; rw [w6e (n := (k : Int) + 1), w6e (n := pAt p.zA k + 16)]; rw [show pAt p.zA (k + 1) = pAt p.zA k + (if (og p.zA k).Kind = 3 then 16 else 0) from rfl]
   by_cases h3 : (og p.zA k).Kind = 3
   · rw [dct h3, ifp h3, ifp h3]; rfl
   · rw [dcf h3, ifn h3, ifn h3, Int.add_zero]; rfl)
  (by simp only [zg.r0, zg.b0, dcf (show ¬ (p.zA.length : Int) < (p.zA.length : Int) by omega), cfa]) (N := N) (by omega)
 simp only [nc0] at l1
 rw [show ((List.range p.zA.length).map fun _ => (-1 : Int)) = (List.range p.zA.length).map (A1 p.zA 0) from zd8 fun i _ => by unfold A1; rw [ifn], show (0 : Int) = pAt p.zA 0 from rfl]
 rw [show pAt p.zA 0 = 0 from rfl] at l1 ⊢
 rw [l1]
 simp only [obs]
 have l2 := za1 (f := zg.r2 N) (fun k => (p.zA, (List.range p.zA.length).map (A2 p.zA k), sAt p.zA k, p.zA, (p.zA.length : Int), (k : Int))) p.zA.length
  (fun k hk => by
   have h1 := hp p.zA.length; have h2 := hs k (by omega); simp only [zg.r2, zg.b2, zai, zmq hk, obs, dct (show (k : Int) < (p.zA.length : Int) by omega), ctr, zvp, ifp (show (0 : Int) ≤ (k : Int) by omega), ifp (show (k : Int) < (p.zA.length : Int) by omega), itn, zkl _ hk, z0d, zcn]; rw [w6e (n := (k : Int) + 1)]; have e : sAt p.zA (k + 1) = sAt p.zA k + (if (og p.zA k).Kind = 0 then szE (og p.zA k).zI else 0) := by
    unfold sAt; rw [show zhk p.zA (k + 1) = zhk p.zA k + (if (og p.zA k).Kind = 0 then szE (og p.zA k).zI else 0) from rfl]; omega
   rw [e]
   by_cases h3 : (og p.zA k).Kind = 0
   · have hz := zfn (zoo h hk h3); rw [dct h3, ifp h3, ifp h3, ctr, zvl N (by omega) (zoo h hk h3)]; simp only [obs]; rw [w6e (n := sAt p.zA k + szE (og p.zA k).zI) (by unfold sAt; omega) (by unfold sAt; omega)]; rfl
   · rw [dcf h3, ifn h3, ifn h3, Int.add_zero]; rfl)
  (by simp only [zg.r2, zg.b2, dcf (show ¬ (p.zA.length : Int) < (p.zA.length : Int) by omega), cfa]) (N := N) (by omega)
 simp only [nc0] at l2
 rw [show ((List.range p.zA.length).map (A1 p.zA p.zA.length)) = (List.range p.zA.length).map (A2 p.zA 0) from zd8 fun i hi => by
  unfold A1 A2; rw [ifn (show ¬ (i < 0 ∧ (og p.zA i).Kind = 0) by omega)]
  by_cases h3 : (og p.zA i).Kind = 3
  · rw [ifp ⟨hi, h3⟩, ifp h3]
  · rw [ifn, ifn h3], show pAt p.zA p.zA.length = sAt p.zA 0 by unfold sAt; rw [show zhk p.zA 0 = 0 from rfl, Int.add_zero], l2]
 simp only [obs]
 have l3 := za1 (f := zg.r4 N) (fun k => (p.zA, (List.range p.zA.length).map (A3 p.zA k), sAt p.zA p.zA.length, p.zA, (p.zA.length : Int), (k : Int))) p.zA.length
  (fun k hk => by
   have h1 := hp p.zA.length; simp only [zg.r4, zg.b4, zai, zmq hk, obs, dct (show (k : Int) < (p.zA.length : Int) by omega), ctr, zvp, ifp (show (0 : Int) ≤ (k : Int) by omega), ifp (show (k : Int) < (p.zA.length : Int) by omega), itn, zkl _ hk, z0c, zcn]; rw [w6e (n := (k : Int) + 1)]
   by_cases h3 : (og p.zA k).Kind = 1
   · obtain ⟨b, e1, e2, e3, e4, e5⟩ := zrg h hk h3; have hz := zfn (zoo h (show b < p.zA.length by omega) e3); have hz2 := zfn ((zkt h hk).ty (by rw [h3]; rfl)).1; have h2 := hs b (by omega); rw [dct h3, ifp h3, ctr, ztw N _ (by omega) (by omega), e1]; simp only [obs]; rw [ifp, ifp, itn, zkl _ (by omega), zwl h k (by omega) e3]; simp only [obs]; rw [w6e (n := sAt p.zA b + (og p.zA k).Offset) (by unfold sAt; omega) (by unfold sAt; omega)]; rfl
   · rw [dcf h3, ifn h3]; rfl)
  (by simp only [zg.r4, zg.b4, dcf (show ¬ (p.zA.length : Int) < (p.zA.length : Int) by omega), cfa]) (N := N) (by omega)
 simp only [nc0] at l3
 rw [show ((List.range p.zA.length).map (A2 p.zA p.zA.length)) = (List.range p.zA.length).map (A3 p.zA 0) from zd8 fun i hi => by
  unfold A3; rw [ifn (show ¬ (i < 0 ∧ (og p.zA i).Kind = 1) by omega)], l3]
 simp only [obs, z3p]
 have h1 := hp p.zA.length
 have h2 := hs p.zA.length (by omega)
 rw [zxr (by unfold sAt; omega) (by unfold sAt; omega)]
 rfl
theorem zoh (N : Nat) (hN : 1100 < N) {p : zB} (h : zkz p) : zi N p = some (zpd p.zA, zd0 p.zA) := by
 have hl := h.ops
 have hp := fun k => zlg p.zA k
 have hs := fun k hk => zj8 h k hk
 unfold zi
 rw [ifp, ifp, itn, zco (by omega), ctr, zzv]
 have l1 := za1 (f := zi.r0 N) (fun k => ((List.range p.zA.length).map (B1 p.zA k), pAt p.zA k, (k : Int), p)) p.zA.length
  (fun k hk => by
   have h1 := hp k; simp only [zi.r0, zi.b0, zai, zmq hk, obs, dct (show (k : Int) < (p.zA.length : Int) by omega), ctr, List.length_set, zvp, ifp (show (0 : Int) ≤ (k : Int) by omega), ifp (show (k : Int) < (p.zA.length : Int) by omega), itn, zkl _ hk, z6l, zcn]; rw [w6e (n := (k : Int) + 1), w6e (n := pAt p.zA k + 16)]; rw [show pAt p.zA (k + 1) = pAt p.zA k + (if (og p.zA k).Kind = 3 then 16 else 0) from rfl]
   by_cases h3 : (og p.zA k).Kind = 3
   · rw [dct h3, ifp h3, ifp h3, ctr, zme, zkl _ hk]; rfl
   · rw [dcf h3, ifn h3, ifn h3, Int.add_zero]; rfl)
  (by simp only [zi.r0, zi.b0, dcf (show ¬ (p.zA.length : Int) < (p.zA.length : Int) by omega), cfa]) (N := N) (by omega)
 simp only [nc0] at l1
 rw [show ((List.range p.zA.length).map fun _ => (0 : Int)) = (List.range p.zA.length).map (B1 p.zA 0) from zd8 fun i _ => by unfold B1; rw [ifn]]
 rw [show pAt p.zA 0 = 0 from rfl] at l1
 rw [l1]
 simp only [obs]
 have l2 := za1 (f := zi.r2 N) (fun k => ((List.range p.zA.length).map (A2 p.zA k), sAt p.zA k, (k : Int), p)) p.zA.length
  (fun k hk => by
   have h1 := hp p.zA.length; have h2 := hs k (by omega); simp only [zi.r2, zi.b2, zai, zmq hk, obs, dct (show (k : Int) < (p.zA.length : Int) by omega), ctr, zvp, ifp (show (0 : Int) ≤ (k : Int) by omega), ifp (show (k : Int) < (p.zA.length : Int) by omega), itn, zkl _ hk, z0d, zcn]; rw [w6e (n := (k : Int) + 1)]; have e : sAt p.zA (k + 1) = sAt p.zA k + (if (og p.zA k).Kind = 0 then szE (og p.zA k).zI else 0) := by
    unfold sAt; rw [show zhk p.zA (k + 1) = zhk p.zA k + (if (og p.zA k).Kind = 0 then szE (og p.zA k).zI else 0) from rfl]; omega
   rw [e]
   by_cases h3 : (og p.zA k).Kind = 0
   · have hz := zfn (zoo h hk h3); rw [dct h3, ifp h3, ifp h3, ctr, zpl (zoo h hk h3)]; simp only [obs]; rw [w6e (n := sAt p.zA k + szE (og p.zA k).zI) (by unfold sAt; omega) (by unfold sAt; omega)]; rfl
   · rw [dcf h3, ifn h3, ifn h3, Int.add_zero]; rfl)
  (by simp only [zi.r2, zi.b2, dcf (show ¬ (p.zA.length : Int) < (p.zA.length : Int) by omega), cfa]) (N := N) (by omega)
 simp only [nc0] at l2
 rw [show ((List.range p.zA.length).map (B1 p.zA p.zA.length)) = (List.range p.zA.length).map (A2 p.zA 0) from zd8 fun i hi => by
  unfold B1 A2; rw [ifn (show ¬ (i < 0 ∧ (og p.zA i).Kind = 0) by omega), ifp hi], show pAt p.zA p.zA.length = sAt p.zA 0 by unfold sAt; rw [show zhk p.zA 0 = 0 from rfl, Int.add_zero], l2]
 simp only [obs]
 have l3 := za1 (f := zi.r4 N) (fun k => ((List.range p.zA.length).map (A3 p.zA k), sAt p.zA p.zA.length, (k : Int), p)) p.zA.length
  (fun k hk => by
   have h1 := hp p.zA.length; simp only [zi.r4, zi.b4, zai, zmq hk, obs, dct (show (k : Int) < (p.zA.length : Int) by omega), ctr, zvp, ifp (show (0 : Int) ≤ (k : Int) by omega), ifp (show (k : Int) < (p.zA.length : Int) by omega), itn, zkl _ hk, z0c, zcn]; rw [w6e (n := (k : Int) + 1)]
   by_cases h3 : (og p.zA k).Kind = 1
   · obtain ⟨b, e1, e2, e3, e4, e5⟩ := zrg h hk h3; have hz := zfn (zoo h (show b < p.zA.length by omega) e3); have hz2 := zfn ((zkt h hk).ty (by rw [h3]; rfl)).1; have h2 := hs b (by omega); rw [dct h3, ifp h3, ctr, zwr N p (by omega) (by omega), e1]; simp only [obs]; rw [ifp, ifp, itn, zkl _ (by omega), zwl h k (by omega) e3]; simp only [obs]; rw [w6e (n := sAt p.zA b + (og p.zA k).Offset) (by unfold sAt; omega) (by unfold sAt; omega)]; rfl
   · rw [dcf h3, ifn h3]; rfl)
  (by simp only [zi.r4, zi.b4, dcf (show ¬ (p.zA.length : Int) < (p.zA.length : Int) by omega), cfa]) (N := N) (by omega)
 simp only [nc0] at l3
 rw [show ((List.range p.zA.length).map (A2 p.zA p.zA.length)) = (List.range p.zA.length).map (A3 p.zA 0) from zd8 fun i hi => by
  unfold A3; rw [ifn (show ¬ (i < 0 ∧ (og p.zA i).Kind = 1) by omega)], l3]
 simp only [obs, z3p]
 have h1 := hp p.zA.length
 have h2 := hs p.zA.length (by omega)
 rw [zxr (by unfold sAt; omega) (by unfold sAt; omega)]
 rfl
def gO (p : zB) (i : Nat) : Option (zK × Int) := if opE p i = 0 then none else some (⟨1, i⟩, opE p i)
def gX (p : zB) (i : Nat) : Option (zK × Int) := (p.zG[i]?).bind fun x => if zqp p x = 0 then none else some (⟨2, i⟩, zqp p x)
def gMo (p : zB) (i : Nat) : Option (zK × Int) := (p.zM[i]?).bind fun m => if zr1 p m = true then none else some (⟨3, i⟩, 3)
def zhm (p : zB) : zK × Int :=
 if p.zA.length > 24 ∨ p.zG.length > 40 ∨ p.zM.length > 6 then (⟨0, 0⟩, 2)
 else if p.zG.length = 0 then (⟨0, 0⟩, 1)
 else match (List.range p.zA.length).findSome? (gO p) with
  | some r => r
  | none => if zd0 p.zA > 24 then (⟨0, 0⟩, 30) else match (List.range p.zG.length).findSome? (gX p) with
   | some r => r
   | none => match (List.range p.zM.length).findSome? (gMo p) with
    | some r => r
    | none => (⟨0, 0⟩, 0)
theorem zvt {p : zB} {i : Nat} (h : gO p i = none) : opE p i = 0 := by
 unfold gO at h
 split at h
 · assumption
 · cases h
theorem zyb (p : zB) : ((decide ((p.zA.length : Int) > 24) || decide ((p.zG.length : Int) > 40)) || decide ((p.zM.length : Int) > 6)) = decide (p.zA.length > 24 ∨ p.zG.length > 40 ∨ p.zM.length > 6) := by
 rw [← Bool.decide_or, ← Bool.decide_or]
 congr 1
 apply propext
 omega
theorem zxw (N : Nat) (hN : 1100 < N) (p : zB) : zd N p = some (zhm p) := by
 unfold zd zhm
 simp only [orB, obs, zyb, zsm]
 rw [zqg N _ (by simp; omega) (by simp)]
 simp only [obs]
 rw [zr4 _ _ _ _ (by decide) (by decide)]
 by_cases hb : p.zA.length > 24 ∨ p.zG.length > 40 ∨ p.zM.length > 6
 · rw [ifp hb, dct hb]; rfl
 rw [ifn hb, dcf hb]
 by_cases h0 : p.zG.length = 0
 · rw [ifp h0, zcn, dct (by omega)]; rfl
 rw [ifn h0, zcn, dcf (by omega)]
 simp only [cfa, bsf]
 have mk : ∀ i, (∀ j, j < i → gO p j = none) → Upto p i := fun i h => { ops := by omega, ins := by omega, ok := fun j hj => zvt (h j hj) }
 have l1 := znf (f := zd.r0 N) (fun i => ((p.zA.length : Int), (i : Int), p, (⟨0, 0⟩ : zK))) (gO p) p.zA.length
  (fun i hi hp => by
   simp only [zd.r0, zd.b0, dct (show (i : Int) < (p.zA.length : Int) by omega), ctr]; rw [z8g N hN (mk i hp) hi, w6e]; unfold gO; simp only [obs, zd1]
   by_cases h : opE p i = 0
   · rw [ifp h, dcf (fun hh => hh h)]; rfl
   · rw [ifn h, dct h]; rfl)
  (fun _ => by simp only [zd.r0, zd.b0, dcf (show ¬ (p.zA.length : Int) < (p.zA.length : Int) by omega), cfa]) (N := N) (by omega)
 simp only [nc0] at l1
 rw [l1]
 cases hf : (List.range p.zA.length).findSome? (gO p) with
 | some r => rfl
 | none =>
  have hu : zkz p := mk _ (zix.1 hf); simp only [obs, zb5]; rw [zrw N hN hu]; simp only [obs]
  by_cases hq : zd0 p.zA > 24
  · rw [ifp hq, dct hq]; rfl
  rw [ifn hq, dcf hq]; simp only [cfa]; have l2 := zbh (f := zd.r2 N) (fun i => (p.zG, (p.zG.length : Int), (i : Int), p, (⟨0, 0⟩ : zK))) (gX p) p.zG.length
   (fun i hi => by
    have hx := lge hi; simp only [zd.r2, zd.b2, dct (show (i : Int) < (p.zG.length : Int) by omega), ctr, zai, hx, obs, gX]; rw [z63 N hN hu, w6e]; simp only [obs, zd1]
    by_cases h : zqp p p.zG[i] = 0
    · rw [ifp h, dcf (fun hh => hh h)]; rfl
    · rw [ifn h, dct h]; rfl)
   (by simp only [zd.r2, zd.b2, dcf (show ¬ (p.zG.length : Int) < (p.zG.length : Int) by omega), cfa]) (N := N) (by omega)
  simp only [nc0] at l2; rw [l2]; cases (List.range p.zG.length).findSome? (gX p) with
  | some r => rfl
  | none =>
   simp only [obs, zb5]; have l3 := zbh (f := zd.r4 N) (fun i => (p.zM, (p.zM.length : Int), (i : Int), p, (⟨0, 0⟩ : zK))) (gMo p) p.zM.length
    (fun i hi => by
     have hx := lge hi; simp only [zd.r4, zd.b4, dct (show (i : Int) < (p.zM.length : Int) by omega), ctr, zai, hx, obs, gMo]; rw [z62 hu, w6e]; simp only [obs]; cases zr1 p p.zM[i] <;> rfl)
    (by simp only [zd.r4, zd.b4, dcf (show ¬ (p.zM.length : Int) < (p.zM.length : Int) by omega), cfa]) (N := N) (by omega)
   simp only [nc0] at l3; rw [l3]; cases (List.range p.zM.length).findSome? (gMo p) <;> rfl
theorem z0u (N : Nat) (hN : 1100 < N) (p : zB) : zw N p = some (zhm p) := by
 unfold zw zhm
 simp only [orB, obs, zyb]
 by_cases hb : p.zA.length > 24 ∨ p.zG.length > 40 ∨ p.zM.length > 6
 · rw [ifp hb, dct hb]; rfl
 rw [ifn hb, dcf hb]
 by_cases h0 : p.zG.length = 0
 · rw [ifp h0, zcn, dct (by omega)]; rfl
 rw [ifn h0, zcn, dcf (by omega)]
 simp only [cfa]
 have mk : ∀ i, (∀ j, j < i → gO p j = none) → Upto p i := fun i h => { ops := by omega, ins := by omega, ok := fun j hj => zvt (h j hj) }
 have l1 := znf (f := zw.r0 N) (fun i => ((i : Int), p, (⟨0, 0⟩ : zK))) (gO p) p.zA.length
  (fun i hi hp => by
   simp only [zw.r0, zw.b0, dct (show (i : Int) < (p.zA.length : Int) by omega), ctr]; rw [z7x N hN (mk i hp) hi, w6e]; unfold gO; simp only [obs, zd1]
   by_cases h : opE p i = 0
   · rw [ifp h, dcf (fun hh => hh h)]; rfl
   · rw [ifn h, dct h]; rfl)
  (fun _ => by simp only [zw.r0, zw.b0, dcf (show ¬ (p.zA.length : Int) < (p.zA.length : Int) by omega), cfa]) (N := N) (by omega)
 simp only [nc0] at l1
 rw [l1]
 cases hf : (List.range p.zA.length).findSome? (gO p) with
 | some r => rfl
 | none =>
  have hu : zkz p := mk _ (zix.1 hf); simp only [obs, zb5]; rw [zoh N hN hu]; simp only [obs]
  by_cases hq : zd0 p.zA > 24
  · rw [ifp hq, dct hq]; rfl
  rw [ifn hq, dcf hq]; simp only [cfa]; have l2 := zbh (f := zw.r2 N) (fun i => ((i : Int), p, (⟨0, 0⟩ : zK))) (gX p) p.zG.length
   (fun i hi => by
    have hx := lge hi; simp only [zw.r2, zw.b2, dct (show (i : Int) < (p.zG.length : Int) by omega), ctr, zai, hx, obs, gX]; rw [z36 N hN hu, w6e]; simp only [obs, zd1]
    by_cases h : zqp p p.zG[i] = 0
    · rw [ifp h, dcf (fun hh => hh h)]; rfl
    · rw [ifn h, dct h]; rfl)
   (by simp only [zw.r2, zw.b2, dcf (show ¬ (p.zG.length : Int) < (p.zG.length : Int) by omega), cfa]) (N := N) (by omega)
  simp only [nc0] at l2; rw [l2]; cases (List.range p.zG.length).findSome? (gX p) with
  | some r => rfl
  | none =>
   simp only [obs, zb5]; have l3 := zbh (f := zw.r4 N) (fun i => ((i : Int), p, (⟨0, 0⟩ : zK))) (gMo p) p.zM.length
    (fun i hi => by
     have hx := lge hi; simp only [zw.r4, zw.b4, dct (show (i : Int) < (p.zM.length : Int) by omega), ctr, zai, hx, obs, gMo, zgl, orB, z07 hu]; rw [z69, w6e]; cases zr1 p p.zM[i] <;> rfl)
    (by simp only [zw.r4, zw.b4, dcf (show ¬ (p.zM.length : Int) < (p.zM.length : Int) by omega), cfa]) (N := N) (by omega)
   simp only [nc0] at l3; rw [l3]; cases (List.range p.zM.length).findSome? (gMo p) <;> rfl
theorem zxv (N : Nat) (hN : 1100 < N) (p : zB) : zdh N p = some (zhm p).2 := by
 unfold zdh
 rw [zxw N hN]; rfl
theorem zxg (N : Nat) (hN : 1100 < N) (p : zB) : zik N p = some (zhm p).2 := by
 unfold zik
 rw [z0u N hN]; rfl
structure ProgV (p : zB) : Prop where
 ok : zkz p
 n24 : p.zA.length ≤ 24
 i40 : p.zG.length ≤ 40
 i0 : 0 < p.zG.length
 m6 : p.zM.length ≤ 6
 quads : zd0 p.zA ≤ 24
 ins : ∀ x ∈ p.zG, zqp p x = 0
 mon : ∀ m ∈ p.zM, zr1 p m = true
theorem zxt {p : zB} (h : (zhm p).2 = 0) : ProgV p := by
 unfold zhm at h
 split at h
 · cases h
 split at h
 · cases h
 rename_i hb h0
 split at h
 · rename_i r hr
   exfalso
   obtain ⟨i, _, hi, _⟩ := ziw hr; unfold gO at hi; split at hi
   · cases hi
   · rename_i hne; cases hi; exact hne h
 · rename_i hf; split at h
   · cases h
   rename_i hq; split at h
   · rename_i r hr
     exfalso
     obtain ⟨i, _, hi, _⟩ := ziw hr; unfold gX at hi; rw [Option.bind_eq_some_iff] at hi; obtain ⟨x, _, hi⟩ := hi; split at hi
     · cases hi
     · rename_i hne; cases hi; exact hne h
   · rename_i hf2; split at h
     · rename_i r hr
       exfalso
       obtain ⟨i, _, hi, _⟩ := ziw hr; unfold gMo at hi; rw [Option.bind_eq_some_iff] at hi; obtain ⟨x, _, hi⟩ := hi; split at hi
       · cases hi
       · cases hi; cases h
     · rename_i hf3; refine { ok := { ops := by omega, ins := by omega, ok := fun j hj => zvt (zix.1 hf j hj) }, n24 := by omega, i40 := by omega, i0 := by omega, m6 := by omega, quads := by omega, ins := fun x hx => ?_, mon := fun m hm => ?_ }
       · obtain ⟨i, hi⟩ := List.getElem?_of_mem hx; have := zix.1 hf2 i (gei hi).1; unfold gX at this; rw [hi, obs] at this; split at this
         · assumption
         · cases this
       · obtain ⟨i, hi⟩ := List.getElem?_of_mem hm; have := zix.1 hf3 i (gei hi).1; unfold gMo at this; rw [hi, obs] at this; split at this
         · assumption
         · cases this
def mI (p : zB) (s : zD) (e : Int) : zC := ⟨p, s, zpd p.zA, e⟩
def mS (s : zD) (t : Storage) : zD := ⟨t, s.At, s.Stack, s.Lines, s.Status, s.Exception, s.Steps⟩
def mK (s : zD) (l : List Int) : zD := ⟨s.Storage, s.At, l, s.Lines, s.Status, s.Exception, s.Steps⟩
def mL (s : zD) (l : List ByteArray) : zD := ⟨s.Storage, s.At, s.Stack, l, s.Status, s.Exception, s.Steps⟩
def mT (s : zD) (k : Int) : zD := ⟨s.Storage, s.At, s.Stack, s.Lines, k, s.Exception, s.Steps⟩
def mA (s : zD) (k : Int) : zD := ⟨s.Storage, k, s.Stack, s.Lines, s.Status, s.Exception, s.Steps⟩
def mE (s : zD) (k : Int) : zD := ⟨s.Storage, s.At, s.Stack, s.Lines, s.Status, k, s.Steps⟩
def mP (s : zD) (k : Int) : zD := ⟨s.Storage, s.At, s.Stack, s.Lines, s.Status, s.Exception, k⟩
theorem z27 (p : zB) (s : zD) {e : Int} (he : e ≠ 0) (n : Int) : zk (mI p s e) n = some (mI p s e) := by
 unfold zk
 rw [show (mI p s e).raised = e from rfl, zcn, dcf he]
 rfl
structure StoP (p : zB) (t : Storage) : Prop where
 sto : zl4 t
 size : (t.Bytes.size : Int) = 16 * zd0 p.zA
section
variable {p : zB}
theorem ztj (h : ProgV p) : 0 ≤ sAt p.zA p.zA.length ∧ sAt p.zA p.zA.length ≤ 16 * zd0 p.zA := by
 have h1 := zlg p.zA p.zA.length
 have h2 := zj8 h.ok p.zA.length (Nat.le_refl _)
 unfold zd0
 have : sAt p.zA p.zA.length = pAt p.zA p.zA.length + zhk p.zA p.zA.length := rfl
 omega
theorem zpr {i : Nat} (hi : i < p.zA.length) : idx (zpd p.zA) (i : Int) = some (zfe p.zA i) := by
 rw [zai]
 exact zkl _ hi
theorem zzw (h : ProgV p) {i : Nat} (hi : i < p.zA.length) (h3 : (og p.zA i).Kind = 3) {t : Storage} (hs : StoP p t) : zoj t (zfe p.zA i) = true ∧ 0 ≤ zfe p.zA i ∧ zfe p.zA i % 16 = 0 ∧ zfe p.zA i + 16 ≤ (t.Bytes.size : Int) := by
 have e : zfe p.zA i = pAt p.zA i := by unfold zfe; rw [ifp h3]
 have b1 := zlg p.zA i
 have b2 := zxz p.zA (show i + 1 ≤ p.zA.length by omega)
 have e2 : pAt p.zA (i + 1) = pAt p.zA i + 16 := by
  show pAt p.zA i + (if (og p.zA i).Kind = 3 then 16 else 0) = _; rw [ifp h3]
 have b3 := zj8 h.ok p.zA.length (Nat.le_refl _)
 have b4 := ztj h
 have e4 : sAt p.zA p.zA.length = pAt p.zA p.zA.length + zhk p.zA p.zA.length := rfl
 have hz := hs.size
 rw [e]
 refine ⟨?_, b1.1, b1.2.2, by omega⟩
 unfold zoj
 rw [dct b1.1, dct b1.2.2, dct (by omega)]
 rfl
theorem zqn (h : ProgV p) {i : Nat} (hi : i < p.zA.length) (hk : (og p.zA i).Kind = 0 ∨ (og p.zA i).Kind = 1) {t : Storage} (hs : StoP p t) : 0 ≤ zfe p.zA i ∧ zfe p.zA i + szE (og p.zA i).zI ≤ (t.Bytes.size : Int) := by
 have b1 := zlg p.zA p.zA.length
 have b4 := ztj h
 have hz := hs.size
 have key : ∀ j, j < p.zA.length → (og p.zA j).Kind = 0 → 0 ≤ sAt p.zA j ∧ sAt p.zA j + szE (og p.zA j).zI ≤ (t.Bytes.size : Int) := by
  intro j hj h0; have b2 := zj8 h.ok j (by omega); have b3 := zv2 h.ok (Nat.le_refl p.zA.length) (show j + 1 ≤ p.zA.length by omega); have e2 : zhk p.zA (j + 1) = zhk p.zA j + szE (og p.zA j).zI := by
   show zhk p.zA j + (if (og p.zA j).Kind = 0 then szE (og p.zA j).zI else 0) = _; rw [ifp h0]
  have e4 : sAt p.zA p.zA.length = pAt p.zA p.zA.length + zhk p.zA p.zA.length := rfl; have e5 : sAt p.zA j = pAt p.zA p.zA.length + zhk p.zA j := rfl; omega
 unfold zfe
 rcases hk with h0 | h1
 · rw [ifn, ifp h0]; exact key i hi h0
 · obtain ⟨b, e1, e2, e3, e4, e5⟩ := zrg h.ok hi h1; have := key b (by omega) e3; rw [ifn, ifn, ifp h1, e1, itn]; have hz := zfn ((zkt h.ok hi).ty (by rw [h1]; rfl)).1; omega
theorem z4m (N : Nat) (l : List zF) (h : l.length < N) (hl : l.length < 1000000000) (o : zF) : zf N l o = some (nmI l o.Base) := by
 unfold zf nmI
 have l1 := zbh (f := zf.r0 N) (fun i => (l, (l.length : Int), (i : Int), o)) (gNm l o.Base) l.length
  (fun i hi => by
   have hx := lge hi; simp only [zf.r0, zf.b0, zda, zai, hx, obs, dct (show (i : Int) < (l.length : Int) by omega), ctr, gNm]; rw [w6e]; cases (l[i].Name.toList == o.Base.toList) <;> rfl)
  (by simp only [zf.r0, zf.b0, dcf (show ¬ (l.length : Int) < (l.length : Int) by omega), cfa]) h
 simp only [nc0] at l1
 rw [l1]
 cases (List.range l.length).findSome? (gNm l o.Base) <;> rfl
theorem z6c (N : Nat) (hN : 10 < N) {o : zF} (h : zdq o.zI = 0) : zc9 N o = some (szE o.zI) := by
 unfold zc9 zfa
 rw [zpo N hN, h]
 simp [zvm h]
theorem z08 (N : Nat) (hN : 2000 < N) (h : ProgV p) {s : zD} (hs : StoP p s.Storage) {i : Nat} (hi : i < p.zA.length) (h3 : (og p.zA i).Kind = 3) (e : Int) :
 za2 N (mI p s e) (i : Int) = some (match ldV s.Storage (zfe p.zA i) with | some o => (zxs o, zfe p.zA i, mI p s e) | none => (zt7, zfe p.zA i, mI p s (if e = 0 then 4 else e))) := by
 unfold za2
 rw [show (mI p s e).layout = zpd p.zA from rfl, zpr hi, show (mI p s e).zD.Storage = s.Storage from rfl]
 simp only [obs]
 rw [z5j N hN hs.sto (zzw h hi h3 hs).1]
 cases ldV s.Storage (zfe p.zA i) with
 | some o => rfl
 | none =>
  simp only [obs]
  by_cases he : e = 0
  · subst he; rfl
  · rw [z27 p s he, ifn he]; rfl
def adI (p : zB) (t : Storage) (i : Nat) : Except Int Int :=
 if (og p.zA i).Kind = 2 then (match ldV t (zfe p.zA (nmI p.zA (og p.zA i).Base).toNat) with
  | none => .error 4
  | some o => if o + (og p.zA i).Offset > (t.Bytes.size : Int) - szE (og p.zA i).zI then .error 5 else .ok (o + (og p.zA i).Offset))
 else .ok (zfe p.zA i)
theorem zus {i : Nat} (hi : i < p.zA.length) : idx p.zA (i : Int) = some (og p.zA i) := by
 rw [zai, zmq hi]
theorem z26 {k : Int} (h : isS k = true) : k = 0 ∨ k = 1 ∨ k = 2 := by
 unfold isS at h
 simp only [Bool.or_eq_true, decide_eq_true_eq] at h
 omega
theorem z05 {k : Int} (h : isS k = true) : isD k = true := by unfold isD; rw [h]; rfl
theorem z6k (N : Nat) (hN : 2000 < N) (h : ProgV p) {s : zD} (hs : StoP p s.Storage) {i : Nat} (hi : i < p.zA.length) (hk : isS (og p.zA i).Kind = true) :
 (∃ e j k, (e = 4 ∨ e = 5) ∧ adI p s.Storage i = .error e ∧ zap N (mI p s 0) (i : Int) = some (j, mI p s e) ∧ zhn N p s (i : Int) = some (k, e)) ∨
 ∃ a, adI p s.Storage i = .ok a ∧ zap N (mI p s 0) (i : Int) = some (a, mI p s 0) ∧ zhn N p s (i : Int) = some (a, 0) ∧ 0 ≤ a ∧ a + szE (og p.zA i).zI ≤ (s.Storage.Bytes.size : Int) := by
 have hl := hs.sto.le
 have n24 := h.n24
 have hty := ((zkt h.ok hi).ty (z05 hk)).1
 have hsz := zfn hty
 unfold zap zhn adI
 rw [show (mI p s 0).zB = p from rfl, zus hi, zoh N (by omega) h.ok]
 simp only [obs, zd1]
 by_cases h2 : (og p.zA i).Kind = 2
 · rw [ifp h2, dcf (fun hh => hh h2)]; obtain ⟨b, e1, e2, e3, e4, e5⟩ := z1m h.ok hi h2; have hb : b < p.zA.length := by omega
   simp only [cfa]; rw [z4m N _ (by omega) (by omega), zwr N p (by omega) (by omega), e1]; simp only [obs, itn]; rw [z08 N hN h hs hb e3, zpr hb]; simp only [obs]; rw [z5w N hN hs.sto (zzw h hb e3 hs).1]; cases hld : ldV s.Storage (zfe p.zA b) with
   | none => exact .inl ⟨4, _, _, .inl rfl, rfl, rfl, rfl⟩
   | some o =>
    have ho := z25 hs.sto hld; simp only [obs, show (zxs o).Address.Offset = o from rfl, show (mI p s 0).raised = 0 from rfl, show (mI p s 0).zD = s from rfl, bsf, bst, ctr, cfa]; rw [z6c N (by omega) hty, zpl hty]; simp only [obs]; rw [w6e (n := o + (og p.zA i).Offset), w6e (n := (s.Storage.Bytes.size : Int) - szE (og p.zA i).zI)]; unfold zq8; rw [zgl, zgl, w6e (n := (s.Storage.Bytes.size : Int) - (o + (og p.zA i).Offset))]; simp only [obs]
    by_cases hgt : o + (og p.zA i).Offset > (s.Storage.Bytes.size : Int) - szE (og p.zA i).zI
    · left; rw [dct hgt, ifp hgt]; refine ⟨5, _, 0, .inr rfl, rfl, rfl, ?_⟩
      by_cases h1 : inB (o + (og p.zA i).Offset) 0 (s.Storage.Bytes.size : Int) = true
      · rw [h1, ctr]; rw [show inB (szE (og p.zA i).zI) 0 ((s.Storage.Bytes.size : Int) - (o + (og p.zA i).Offset)) = false by
         cases hh : inB (szE (og p.zA i).zI) 0 ((s.Storage.Bytes.size : Int) - (o + (og p.zA i).Offset)) with
         | false => rfl
         | true => have := zdk.1 hh; omega]
        rfl
      · rw [show inB (o + (og p.zA i).Offset) 0 (s.Storage.Bytes.size : Int) = false by simpa using h1]; rfl
    · right; rw [dcf hgt, ifn hgt]; refine ⟨_, rfl, rfl, ?_, by omega, by omega⟩; rw [show inB (o + (og p.zA i).Offset) 0 (s.Storage.Bytes.size : Int) = true from zdk.2 ⟨by omega, by omega⟩, ctr, show inB (szE (og p.zA i).zI) 0 ((s.Storage.Bytes.size : Int) - (o + (og p.zA i).Offset)) = true from zdk.2 ⟨by omega, by omega⟩]; rfl
 · have hk2 := z26 hk; have hd := zqn h hi (by omega) hs; rw [ifn h2, dct h2, show (mI p s 0).layout = zpd p.zA from rfl, zpr hi]; exact .inr ⟨_, rfl, rfl, rfl, hd.1, hd.2⟩
end
def zm5 (o : zF) : ByteArray := if o.zI.Kind = 0 then o.Value.S else zqx o.zI o.Value.N
theorem z1h (N : Nat) (n len : Nat) (hn : n ≤ 1000000000000000000) (hl : len ≤ 300) (hN : len < N) : ∃ l, zal N (n : Int) (len : Int) = some l := by
 unfold zal
 rw [ifp, ifp, itn, zco (by omega), ctr, w6e]
 obtain ⟨s', h1, _⟩ := zzh (f := zal.r0 N) (fun i s => ∃ q P, s = (((q : Nat) : Int), P, (len : Int) - 1 - (i : Int)) ∧ q ≤ n ∧ P.length = len) len
  (fun i s hi hs => by
   obtain ⟨q, P, rfl, h1, h2⟩ := hs; obtain ⟨x, hx⟩ : ∃ x, P[((len : Int) - 1 - (i : Int)).toNat]? = some x := ⟨_, lge (by omega)⟩; simp only [zal.r0, zal.b0, dct (show (len : Int) - 1 - (i : Int) ≥ 0 by omega), ctr, h2]; rw [ifp, ifp, hx]; simp only [obs]; rw [tde, w6e (n := (q : Int) / 10), w6e (n := (len : Int) - 1 - (i : Int) - 1)]; exact ⟨_, rfl, q / 10, _, by rw [show (q : Int) / 10 = ((q / 10 : Nat) : Int) by omega, show (len : Int) - 1 - (i : Int) - 1 = (len : Int) - 1 - ((i + 1 : Nat) : Int) by omega], by omega, by rw [List.length_set]; exact h2⟩)
  (fun s hs => by
   obtain ⟨q, P, rfl, h1, h2⟩ := hs; exact ⟨_, by simp only [zal.r0, zal.b0, dcf (show ¬ (len : Int) - 1 - (len : Int) ≥ 0 by omega), cfa], q, P, rfl, h1, h2⟩) (N := N) hN (s := ((n : Int), List.replicate len 0, (len : Int) - 1)) ⟨n, _, by rw [show (len : Int) - 1 - ((0 : Nat) : Int) = (len : Int) - 1 by omega], Nat.le_refl _, by rw [lnr]⟩
 rw [h1]
 exact ⟨_, rfl⟩
theorem z5i {t : DataType} {v : Value} (ht : zn0 t) (hv : zhx t v = 0) : v = ⟨v.N, ⟨#[]⟩⟩ ∧ -((10 ^ t.Length.toNat : Nat) : Int) < v.N ∧ v.N < ((10 ^ t.Length.toNat : Nat) : Int) := by
 obtain ⟨_, k1, k2⟩ := ht
 unfold zhx at hv
 rw [ifn] at hv
 split at hv
 · cases hv
 · rename_i h1; split at hv
   · rename_i h2; have := zdk.1 h2; unfold zku at this; have h3 : v.S = e0 := cbc h1; obtain ⟨n, s⟩ := v; simp only at h3; subst h3; exact ⟨rfl, by omega, by omega⟩
   · cases hv
theorem zvn (N : Nat) (hN : 400 < N) {o : zF} (ht : zdq o.zI = 0) (h4 : o.zI.Kind ≠ 4) (hv : zhx o.zI o.Value = 0) : zb1 N o.zI o.Value = some (zm5 o, 0) ∧ zaf N o.zI o.Value = some (zm5 o) ∧ ((zm5 o).size : Int) = szE o.zI := by
 by_cases h0 : o.zI.Kind = 0
 · unfold zm5; rw [ifp h0]; have hv' := hv; unfold zhx at hv'; rw [ifp h0] at hv'; have hn : o.Value.N = 0 := by
    refine cbc fun h => ?_; rw [ifp h] at hv'; cases hv'
   rw [ifn (fun h => h hn)] at hv'; have hsz : (o.Value.S.size : Int) = o.zI.Length := by
    refine cbc fun h => ?_; rw [ifp h] at hv'; cases hv'
   have hlen : 1 ≤ o.zI.Length ∧ o.zI.Length ≤ 256 := by
    rcases zj6 ht with ⟨_, h⟩ | ⟨h | h, _⟩ | ⟨h, _⟩ | ⟨h, _⟩
    · exact h
    all_goals omega
   refine ⟨?_, ?_, ?_⟩
   · unfold zb1; rw [zx2 N (by omega) ht h4, hv]; simp only [obs, bsf, cfa]; unfold zq; obtain ⟨l, hl⟩ := z1h N 0 o.zI.Length.toNat (by decide) (by omega) (by omega); rw [hn, show (if w6 (0 - 0) > 0 then w6 (0 - 0) else 0) = ((0 : Nat) : Int) from rfl, show o.zI.Length = ((o.zI.Length.toNat : Nat) : Int) by omega, hl, h0]; rfl
   · unfold zaf; rw [h0]; rfl
   · unfold szE; rw [ifn, ifn, ifn]; exact hsz
 · have hn := zuu ht h0 h4; obtain ⟨e1, e2, e3⟩ := z5i hn hv; unfold zm5; rw [ifn h0]; rw [e1]; exact ⟨zwa N (by omega) hn _ ⟨e2, e3⟩, zxh N (by omega) hn _ ⟨e2, e3⟩, zwd hn _⟩
section
variable {p : zB}
theorem z67 (h : ProgV p) {i : Nat} (hi : i < p.zA.length) (hk : isD (og p.zA i).Kind = true) (hn : zjx (og p.zA i) = true) : zn0 (og p.zA i).zI := by
 obtain ⟨hty, hk4⟩ := (zkt h.ok hi).ty hk
 unfold zjx at hn
 exact zuu hty (of_decide_eq_true hn) hk4
def wrI (p : zB) (s : zD) (i : Nat) (d : ByteArray) : Except Int zD :=
 match adI p s.Storage i with | .error e => .error e | .ok a => .ok (mS s (wrV s.Storage a.toNat d))
theorem z5g (N : Nat) (hN : 2000 < N) (h : ProgV p) {s : zD} (hs : StoP p s.Storage) {i : Nat} (hi : i < p.zA.length) (hk : isS (og p.zA i).Kind = true) {d : ByteArray} (hd : (d.size : Int) = szE (og p.zA i).zI) :
 (∃ e k, (e = 4 ∨ e = 5) ∧ wrI p s i d = .error e ∧ zaz N (mI p s 0) (i : Int) d = some (mI p s e) ∧ zhn N p s (i : Int) = some (k, e)) ∨
 ∃ a : Nat, wrI p s i d = .ok (mS s (wrV s.Storage a d)) ∧ zaz N (mI p s 0) (i : Int) d = some (mI p (mS s (wrV s.Storage a d)) 0) ∧ zhn N p s (i : Int) = some ((a : Int), 0) ∧ zdr N s.Storage (a : Int) d = some (wrV s.Storage a d) ∧ StoP p (wrV s.Storage a d) := by
 have hty := ((zkt h.ok hi).ty (z05 hk)).1
 have hsz := zfn hty
 unfold wrI zaz
 rcases z6k N hN h hs hi hk with ⟨e, j, k, he, h1, h2, h3⟩ | ⟨a, h1, h2, h3, h4, h5⟩
 · left; rw [h1, h2, h3]; refine ⟨e, k, he, rfl, ?_, rfl⟩; rcases he with rfl | rfl <;> rfl
 · right; obtain ⟨a, rfl⟩ : ∃ k : Nat, a = (k : Int) := ⟨a.toNat, by omega⟩; rw [h1, h2, h3]; have hw : a + d.size ≤ s.Storage.Bytes.size := by omega
   have hw0 : 0 < d.size := by omega
   refine ⟨a, rfl, ?_, rfl, z30 N hN hs.sto hw hw0, ⟨z1x hs.sto hw hw0, by rw [zti hw]; exact hs.size⟩⟩; simp only [obs, show (mI p s 0).raised = 0 from rfl, show (mI p s 0).zD = s from rfl, bst, ctr]; rw [zwy N hN hs.sto hw hw0]; rfl
end
theorem z47 (n lo hi : Int) : zby n lo hi = some (inB n lo hi) := by
 unfold zby inB
 cases decide (lo ≤ n) <;> rfl
section
variable {p : zB}
def zws (p : zB) (s : zD) (i : Nat) (r : Value × Int) : Except Int zD :=
 if r.2 = 20 then .error 3 else if r.2 = 19 then .error 2 else wrI p s i (zqx (og p.zA i).zI r.1.N)
def zun (N : Nat) (p : zB) (s : zD) (i : Nat) (r : Value × Int) : Option (Int × zD) :=
 cond (r.2 == 20) (some (3, s)) (cond (r.2 != 0) (some (2, s)) ((zhn N p s (i : Int)).bind fun r19 => cond (r19.2 != 0) (some (r19.2, s)) ((zaf N (og p.zA i).zI r.1).bind fun r20 =>
  (zdr N s.Storage r19.1 r20).bind fun r21 => some (0, mS s r21))))
theorem z4a (N : Nat) (hN : 2000 < N) (h : ProgV p) {s : zD} (hs : StoP p s.Storage) {i : Nat} (hi : i < p.zA.length) (hk : isS (og p.zA i).Kind = true) (hn : zjx (og p.zA i) = true)
 {r : Value × Int} (hr : r.2 = 0 ∨ r.2 = 19 ∨ r.2 = 20) (hS : r.1 = ⟨r.1.N, ⟨#[]⟩⟩) (hb : r.2 = 0 → -((10 ^ (og p.zA i).zI.Length.toNat : Nat) : Int) < r.1.N ∧ r.1.N < ((10 ^ (og p.zA i).zI.Length.toNat : Nat) : Int)) :
 (∃ e, (2 ≤ e ∧ e ≤ 5) ∧ zws p s i r = .error e ∧ za3 N (mI p s 0) (i : Int) r.1 r.2 = some (mI p s e) ∧ zun N p s i r = some (e, s)) ∨
 ∃ t, zws p s i r = .ok (mS s t) ∧ za3 N (mI p s 0) (i : Int) r.1 r.2 = some (mI p (mS s t) 0) ∧ zun N p s i r = some (0, mS s t) ∧ StoP p t := by
 have ht := z67 h hi (z05 hk) hn
 unfold zws za3 zun
 rcases hr with h0 | h0 | h0
 · obtain ⟨b1, b2⟩ := hb h0; have hz := zwd ht r.1.N; rw [h0, ifn (by decide), ifn (by decide)]; simp only [show ((0 : Int) == 20) = false from rfl, show ((0 : Int) == 19) = false from rfl, bsf, cfa, show (mI p s 0).raised = 0 from rfl, bst, ctr, show (mI p s 0).zB = p from rfl]; rw [zus hi, hS]; simp only [obs]; rw [zwa N (by omega) ht _ ⟨b1, b2⟩, zxh N (by omega) ht _ ⟨b1, b2⟩]; simp only [obs]; rcases z5g N hN h hs hi hk hz with ⟨e, k, he, h1, h2, h3⟩ | ⟨a, h1, h2, h3, h4, h5⟩
   · left; rw [h1, h2, h3]; refine ⟨e, by omega, rfl, rfl, ?_⟩; rcases he with rfl | rfl <;> rfl
   · right; rw [h1, h2, h3]; refine ⟨_, rfl, rfl, ?_, h5⟩; simp only [obs, bsf, cfa]; rw [h4]; rfl
 · left; rw [h0]; exact ⟨2, by decide, rfl, rfl, rfl⟩
 · left; rw [h0]; exact ⟨3, by decide, rfl, rfl, rfl⟩
structure StI (p : zB) (s : zD) : Prop where
 sto : StoP p s.Storage
 at0 : 0 ≤ s.At
 at1 : s.At < (p.zG.length : Int)
 stk : s.Stack.length ≤ 6
 calls : ∀ i ∈ s.Stack, (0 ≤ i ∧ i < (p.zG.length : Int)) ∧ ∃ x, p.zG[i.toNat]? = some x ∧ x.Op = 13
 lines : s.Lines.length ≤ 40
 long : ∀ l ∈ s.Lines, l.size ≤ 256
 st0 : 0 ≤ s.Status
 st1 : s.Status ≤ 3
 ex0 : 0 ≤ s.Exception
 ex1 : s.Exception ≤ 999
 sp0 : 0 ≤ s.Steps
 sp1 : s.Steps ≤ 300
theorem StI.S {s : zD} (h : StI p s) {t : Storage} (ht : StoP p t) : StI p (mS s t) := { sto := ht, at0 := h.at0, at1 := h.at1, stk := h.stk, calls := h.calls, lines := h.lines, long := h.long, st0 := h.st0, st1 := h.st1, ex0 := h.ex0, ex1 := h.ex1, sp0 := h.sp0, sp1 := h.sp1 }
theorem StI.K {s : zD} (h : StI p s) {l : List Int} (h1 : l.length ≤ 6) (h2 : ∀ i ∈ l, (0 ≤ i ∧ i < (p.zG.length : Int)) ∧ ∃ x, p.zG[i.toNat]? = some x ∧ x.Op = 13) : StI p (mK s l) := { sto := h.sto, at0 := h.at0, at1 := h.at1, stk := h1, calls := h2, lines := h.lines, long := h.long, st0 := h.st0, st1 := h.st1, ex0 := h.ex0, ex1 := h.ex1, sp0 := h.sp0, sp1 := h.sp1 }
theorem StI.T {s : zD} (h : StI p s) {k : Int} (h1 : 0 ≤ k) (h2 : k ≤ 3) : StI p (mT s k) := { sto := h.sto, at0 := h.at0, at1 := h.at1, stk := h.stk, calls := h.calls, lines := h.lines, long := h.long, st0 := h1, st1 := h2, ex0 := h.ex0, ex1 := h.ex1, sp0 := h.sp0, sp1 := h.sp1 }
theorem StI.A {s : zD} (h : StI p s) {k : Int} (h1 : 0 ≤ k) (h2 : k < (p.zG.length : Int)) : StI p (mA s k) := { sto := h.sto, at0 := h1, at1 := h2, stk := h.stk, calls := h.calls, lines := h.lines, long := h.long, st0 := h.st0, st1 := h.st1, ex0 := h.ex0, ex1 := h.ex1, sp0 := h.sp0, sp1 := h.sp1 }
theorem StI.E {s : zD} (h : StI p s) {k : Int} (h1 : 0 ≤ k) (h2 : k ≤ 999) : StI p (mE s k) := { sto := h.sto, at0 := h.at0, at1 := h.at1, stk := h.stk, calls := h.calls, lines := h.lines, long := h.long, st0 := h.st0, st1 := h.st1, ex0 := h1, ex1 := h2, sp0 := h.sp0, sp1 := h.sp1 }
theorem StI.P {s : zD} (h : StI p s) {k : Int} (h1 : 0 ≤ k) (h2 : k ≤ 300) : StI p (mP s k) := { sto := h.sto, at0 := h.at0, at1 := h.at1, stk := h.stk, calls := h.calls, lines := h.lines, long := h.long, st0 := h.st0, st1 := h.st1, ex0 := h.ex0, ex1 := h.ex1, sp0 := h1, sp1 := h2 }
theorem StI.L {s : zD} (h : StI p s) {l : ByteArray} (h1 : s.Lines.length < 40) (h2 : l.size ≤ 256) : StI p (mL s (s.Lines ++ [l])) := {
 sto := h.sto, at0 := h.at0, at1 := h.at1, stk := h.stk, calls := h.calls
 lines := by show (s.Lines ++ [l]).length ≤ 40; rw [lna, lns]; omega
 long := fun y hy => by
  rcases List.mem_append.1 (show y ∈ s.Lines ++ [l] from hy) with h3 | h3
  · exact h.long y h3
  · rw [List.mem_singleton.1 h3]; exact h2
 st0 := h.st0, st1 := h.st1, ex0 := h.ex0, ex1 := h.ex1, sp0 := h.sp0, sp1 := h.sp1 }
end
section
variable {p : zB} {s : zD}
def z5c (N : Nat) (p : zB) (s : zD) (m : Except Int zD) (prog : Option zC) (rf : Option (Int × zD)) : Prop :=
 (∃ e u, (1 ≤ e ∧ e ≤ 5) ∧ m = .error e ∧ prog = some (mI p s e) ∧ rf = some (e, u)) ∨ ∃ t, m = .ok (mS s t) ∧ prog = some (mI p (mS s t) 0) ∧ rf = some (0, mS s t) ∧ StoP p t
theorem z5c.mk (N : Nat) {m : Except Int zD} {r : Value × Int} {i : Nat} (hN : 2000 < N) (h : ProgV p) (hs : StoP p s.Storage) (hi : i < p.zA.length) (hk : isS (og p.zA i).Kind = true) (hn : zjx (og p.zA i) = true)
 (hr : r.2 = 0 ∨ r.2 = 19 ∨ r.2 = 20) (hS : r.1 = ⟨r.1.N, ⟨#[]⟩⟩) (hb : r.2 = 0 → -((10 ^ (og p.zA i).zI.Length.toNat : Nat) : Int) < r.1.N ∧ r.1.N < ((10 ^ (og p.zA i).zI.Length.toNat : Nat) : Int)) (hm : m = zws p s i r) :
 z5c N p s m (za3 N (mI p s 0) (i : Int) r.1 r.2) (zun N p s i r) := by
 subst hm
 rcases z4a N hN h hs hi hk hn hr hS hb with ⟨e, he, h1, h2, h3⟩ | ⟨t, h1, h2, h3, h4⟩
 · exact .inl ⟨e, s, by omega, h1, h2, h3⟩
 · exact .inr ⟨t, h1, h2, h3, h4⟩
end
section
variable {p : zB} {s : zD}
end
section
variable {p : zB} {s : zD}
end
section
variable {p : zB} {s : zD}
end
section
variable {p : zB} {s : zD}
def zob (n : Nat) : Storage := ⟨⟨(List.replicate (16 * n) 0).toArray⟩, List.replicate n false⟩
theorem zt6 (n : Nat) : (zob n).Bytes.size = 16 * n := by
 show (List.replicate (16 * n) (0 : UInt8)).length = _
 rw [lnr]
theorem z3q {n : Nat} (hn : n ≤ 64) : zl4 (zob n) := by
 have hz := zt6 n
 refine ⟨by omega, by omega, ?_, fun i hi => ?_⟩
 · rw [hz]; show (List.replicate n false).length = _; rw [lnr]; omega
 · have hi' : (List.replicate n false)[i]? = some true := hi; rw [List.getElem?_replicate] at hi'; split at hi' <;> cases hi'
theorem z6q {n : Nat} (hn : n ≤ 64) : zfm (n : Int) = some (zob n, 0) := by
 unfold zfm znn
 have hb : inB (n : Int) 0 64 = true := zdk.2 ⟨by omega, by omega⟩
 have hs1 : (⟨#[0]⟩ : ByteArray).size = 1 := rfl
 rw [z43, hb, w6e]
 simp only [obs, bnt, cfa]
 rw [ifp ⟨by omega, by omega, by rw [hs1]; omega⟩, obs, ifp, ifp (Int.le_refl _), zco (by omega), ctr, show ((n : Int) * 16).toNat = 16 * n by omega, itn]
 show some ((⟨⟨(Lib.repeatL [0] (16 * n)).toArray⟩, _⟩ : Storage), (0 : Int)) = _
 rw [zs5]
 rfl
theorem z34 {b d : ByteArray} {a : Nat} (hd : a + d.size ≤ b.size) (hb : b.size ≤ 1024) : zgj b (a : Int) d = some ⟨(spl (bl b) a (bl d)).toArray⟩ := by
 have hmax : IntKind.i64.max = 9223372036854775807 := by decide
 unfold zgj
 rw [hmax]
 have z1 : (b.extract (0 : Int).toNat (a : Int).toNat).size = a := by rw [zcv _ _ _ (by omega) (by omega)]; omega
 rw [ifp, ifp, ifn (by rw [z1]; omega), w6e (n := (a : Int) + (d.size : Int)), ifp]
 have z2 : (b.extract ((a : Int) + (d.size : Int)).toNat b.size).size = b.size - (a + d.size) := by rw [zcv _ _ _ (by omega) (by omega)]; omega
 rw [ifn (by rw [z2, bsa, z1]; omega)]
 congr 1
 refine zu9 ?_
 rw [zlk, zlk, zge, zge, show (0 : Int).toNat = 0 from rfl, dr0, show ((a : Int) + (d.size : Int)).toNat = a + d.size by omega, ← zj1 b, List.take_length, itn]
 rfl
theorem zwi (n a k : Nat) : clr (List.replicate n false) a k = List.replicate n false := by
 refine List.ext_getElem? fun i => ?_
 rw [zpu]
 split
 · rw [List.getElem?_replicate, lnr]
 · rfl
def zgn (p : zB) : Nat → Storage
 | 0 => zob (zd0 p.zA).toNat
 | k + 1 => if (og p.zA k).Kind = 0 then wrV (zgn p k) (zfe p.zA k).toNat (zm5 (og p.zA k)) else zgn p k
theorem zlw (h : ProgV p) : 0 ≤ zd0 p.zA ∧ zd0 p.zA ≤ 24 := by
 have := ztj h
 have := h.quads
 omega
theorem zu0 (N : Nat) (hN : 400 < N) (h : ProgV p) : ∀ k, k ≤ p.zA.length → StoP p (zgn p k) ∧ (zgn p k).Tags = List.replicate (zd0 p.zA).toNat false
 | 0, _ => by
  have hl := zlw h; exact ⟨⟨z3q (by omega), by show ((zob _).Bytes.size : Int) = _; rw [zt6]; omega⟩, rfl⟩
 | k + 1, hk => by
  obtain ⟨i1, i2⟩ := zu0 N hN h k (by omega); show StoP p (if (og p.zA k).Kind = 0 then _ else _) ∧ (if (og p.zA k).Kind = 0 then wrV (zgn p k) (zfe p.zA k).toNat (zm5 (og p.zA k)) else zgn p k).Tags = _
  by_cases h0 : (og p.zA k).Kind = 0
  · rw [ifp h0]; have ov := zkt h.ok (show k < p.zA.length by omega); obtain ⟨t1, t2⟩ := ov.ty (by rw [h0]; rfl); obtain ⟨_, _, e3⟩ := zvn N hN t1 t2 (ov.val (.inl h0)); obtain ⟨d1, d2⟩ := zqn h (show k < p.zA.length by omega) (.inl h0) i1; have hp := zfn t1; have w : (zfe p.zA k).toNat + (zm5 (og p.zA k)).size ≤ (zgn p k).Bytes.size := by omega
    refine ⟨⟨z1x i1.sto w (by omega), by rw [zti w]; exact i1.size⟩, ?_⟩; show clr (zgn p k).Tags _ _ = _; rw [i2, zwi]
  · rw [ifn h0]; exact ⟨i1, i2⟩
theorem z0x (N : Nat) (hN : 20000 < N) (h : ProgV p) (hc : (zhm p).2 = 0) : zx N p = some (zgn p p.zA.length, 0) := by
 have hl := zlw h
 have n24 := h.n24
 unfold zx
 rw [zxv N (by omega), hc, zrw N (by omega) h.ok]
 simp only [obs, bsf, cfa]
 rw [show zd0 p.zA = ((zd0 p.zA).toNat : Int) by omega, z6q (by omega)]
 simp only [obs]
 have l1 := zbh (f := zx.r0 N) (fun i => (zpd p.zA, 0, p.zA, (p.zA.length : Int), (i : Int), (⟨⟨#[]⟩, []⟩ : Storage), zgn p i)) (fun _ => none) p.zA.length
  (fun i hi => by
   simp only [zx.r0, zx.b0, zus hi, obs, dct (show (i : Int) < (p.zA.length : Int) by omega), ctr, orB, bsf, Bool.or_false]; rw [w6e (n := (i : Int) + 1)]
   by_cases h0 : (og p.zA i).Kind = 0
   · rw [zd1, dcf (fun hh => hh h0)]; simp only [cfa]; have ov := zkt h.ok hi; obtain ⟨t1, t2⟩ := ov.ty (by rw [h0]; rfl); obtain ⟨e1, _, e3⟩ := zvn N (by omega) t1 t2 (ov.val (.inl h0)); obtain ⟨i1, _⟩ := zu0 N (by omega) h i (by omega); obtain ⟨d1, d2⟩ := zqn h hi (.inl h0) i1; have hp := zfn t1; have w : (zfe p.zA i).toNat + (zm5 (og p.zA i)).size ≤ (zgn p i).Bytes.size := by omega
     rw [e1, zpr hi]; simp only [obs, bsf, cfa]; have hw := zwy N (by omega) i1.sto w (by omega); rw [show (((zfe p.zA i).toNat : Nat) : Int) = zfe p.zA i by omega] at hw; rw [hw]; simp only [obs]; have e : zgn p (i + 1) = wrV (zgn p i) (zfe p.zA i).toNat (zm5 (og p.zA i)) := by
      show (if (og p.zA i).Kind = 0 then _ else _) = _; rw [ifp h0]
     rw [e]; rfl
   · rw [zd1, dct h0]; simp only [ctr]; have e : zgn p (i + 1) = zgn p i := by
      show (if (og p.zA i).Kind = 0 then _ else _) = _; rw [ifn h0]
     rw [e]; rfl)
  (by simp only [zx.r0, zx.b0, dcf (show ¬ (p.zA.length : Int) < (p.zA.length : Int) by omega), cfa]) (N := N) (by omega)
 simp only [nc0] at l1
 have e0 : zgn p 0 = zob (zd0 p.zA).toNat := rfl
 rw [e0] at l1
 rw [l1]
 have : ∀ l : List Nat, l.findSome? (fun _ => (none : Option (Storage × Int))) = none := fun l => by rw [List.findSome?_eq_none_iff]; intros; rfl
 rw [this]
 rfl
theorem z0t (N : Nat) (hN : 20000 < N) (h : ProgV p) : zbv N p = some (zgn p p.zA.length) := by
 have hl := zlw h
 have n24 := h.n24
 unfold zbv
 rw [zoh N (by omega) h.ok]
 simp only [obs]
 rw [show zd0 p.zA = ((zd0 p.zA).toNat : Int) by omega, w6e, show ((zd0 p.zA).toNat : Int) * 16 = ((16 * (zd0 p.zA).toNat : Nat) : Int) by omega, show (0 : Int) = ((0 : Nat) : Int) from rfl, z2j N 0 (by decide) _ (by omega) (by omega)]
 simp only [obs]
 rw [ifp, ifp (Int.le_refl _), itn, zco (by omega), ctr]
 have l1 := za1 (f := zbv.r0 N) (fun i => (zpd p.zA, (i : Int), p, (⟨⟨#[]⟩, []⟩ : Storage), zgn p i)) p.zA.length
  (fun i hi => by
   simp only [zbv.r0, zbv.b0, zus hi, obs, dct (show (i : Int) < (p.zA.length : Int) by omega), ctr]; rw [w6e (n := (i : Int) + 1), zcn]
   by_cases h0 : (og p.zA i).Kind = 0
   · rw [dct h0]; simp only [ctr]; have ov := zkt h.ok hi; obtain ⟨t1, t2⟩ := ov.ty (by rw [h0]; rfl); obtain ⟨_, e2, e3⟩ := zvn N (by omega) t1 t2 (ov.val (.inl h0)); obtain ⟨i1, i2⟩ := zu0 N (by omega) h i (by omega); obtain ⟨d1, d2⟩ := zqn h hi (.inl h0) i1; have hp := zfn t1; have w : (zfe p.zA i).toNat + (zm5 (og p.zA i)).size ≤ (zgn p i).Bytes.size := by omega
     rw [e2, zpr hi]; simp only [obs]; have hw := z34 w i1.sto.le; rw [show (((zfe p.zA i).toNat : Nat) : Int) = zfe p.zA i by omega] at hw; rw [hw]; simp only [obs]; have e : zgn p (i + 1) = wrV (zgn p i) (zfe p.zA i).toNat (zm5 (og p.zA i)) := by
      show (if (og p.zA i).Kind = 0 then _ else _) = _; rw [ifp h0]
     rw [e]; unfold wrV; rw [i2, zwi]; rfl
   · rw [dcf h0]; simp only [cfa]; have e : zgn p (i + 1) = zgn p i := by
      show (if (og p.zA i).Kind = 0 then _ else _) = _; rw [ifn h0]
     rw [e]; rfl)
  (by simp only [zbv.r0, zbv.b0, dcf (show ¬ (p.zA.length : Int) < (p.zA.length : Int) by omega), cfa]) (N := N) (by omega)
 simp only [nc0] at l1 ⊢
 have e0 : zgn p 0 = zob (zd0 p.zA).toNat := rfl
 rw [e0] at l1
 have e1 : (⟨⟨(List.replicate (16 * (zd0 p.zA).toNat) (UInt8.ofNat 0)).toArray⟩, List.replicate (zd0 p.zA).toNat false⟩ : Storage) = zob (zd0 p.zA).toNat := rfl
 rw [e1, l1]
 rfl
def zw3 (p : zB) : zD := ⟨zgn p p.zA.length, 0, [], [], 0, 0, 0⟩
theorem z4l (N : Nat) (hN : 20000 < N) (h : ProgV p) (hc : (zhm p).2 = 0) : zdd N p = some (zw3 p, 0) := by
 unfold zdd
 rw [z0x N hN h hc]
 rfl
theorem z0s (N : Nat) (hN : 20000 < N) (h : ProgV p) : zjb N p = some (zw3 p) := by
 unfold zjb
 rw [z0t N hN h]
 rfl
theorem z14 (h : ProgV p) : StI p (zw3 p) := {
 sto := (zu0 401 (by decide) h _ (Nat.le_refl _)).1
 at0 := Int.le_refl _
 at1 := by have := h.i0; show (0 : Int) < _; omega
 stk := by show (0 : Nat) ≤ 6; omega
 calls := fun i hi => by cases hi
 lines := by show (0 : Nat) ≤ 40; omega
 long := fun i hi => by cases hi
 st0 := Int.le_refl _
 st1 := by show (0 : Int) ≤ 3; omega
 ex0 := Int.le_refl _
 ex1 := by show (0 : Int) ≤ 999; omega
 sp0 := Int.le_refl _
 sp1 := by show (0 : Int) ≤ 300; omega }
theorem zyd (N : Nat) (hN : 20000 < N) (hc : (zhm p).2 ≠ 0) : zdd N p = some (⟨⟨⟨#[]⟩, []⟩, 0, [], [], 0, 0, 0⟩, (zhm p).2) := by
 unfold zdd zx
 rw [zxv N (by omega)]
 have e : ((zhm p).2 != 0) = true := by rw [zd1]; exact dct hc
 simp only [obs, e, ctr]
theorem z2s (N : Nat) (hN : 20000 < N) (h : ProgV p) (hc : (zhm p).2 = 0) : ze9 N p = some (zpd p.zA, zd0 p.zA, 0) := by
 unfold ze9
 rw [zxv N (by omega), hc, zrw N (by omega) h.ok]
 rfl
theorem zzs {n : Nat} (h : Wft En n Ty.zB p) : p.zA.length ≤ n ∧ p.zG.length ≤ n ∧ p.zM.length ≤ n ∧ ∀ x ∈ p.zG, x.Args.length ≤ n := by
 have h1 := h (.lst Ty.zF p.zA) (by show _ ∈ zhv p; simp [zhv])
 have h2 := h (.lst Ty.zJ p.zG) (by show _ ∈ zhv p; simp [zhv])
 have h3 := h (.lst Ty.zN p.zM) (by show _ ∈ zhv p; simp [zhv])
 cases h1 with
 | lst h1 _ =>
  cases h2 with
  | lst h2 h2' =>
   cases h3 with
   | lst h3 _ =>
    refine ⟨h1, h2, h3, fun x hx => ?_⟩; have h4 := h2' x hx (.lst (Ty.int .i64) x.Args) (by show _ ∈ zkf x; simp [zkf]); cases h4 with
    | lst h4 _ => exact h4
theorem zk2 {n : Nat} (h : n ≤ 1000000000) : Nat.ble n zbr = true := Nat.ble_eq_true_of_le (by unfold zbr; omega)
theorem z4c (N : Nat) (hN : 1048600 < N) (hp : Wft En 1048576 Ty.zB p) : zc0 N p = some p := by
 obtain ⟨w1, w2, w3, w4⟩ := zzs hp
 unfold zc0
 rw [zk2 (by omega), zk2 (by omega)]
 simp only [ctr]
 have l1 := za1 (f := zc0.r0 N) (fun i => ((i : Int), p, (⟨[], [], []⟩ : zB), (⟨p.zA, p.zG.take i, p.zM⟩ : zB))) p.zG.length
  (fun i hi => by
   have hx := lge hi; have ha := w4 _ (List.getElem_mem hi); simp only [zc0.r0, zc0.b0, zai, hx, obs, dct (show (i : Int) < (p.zG.length : Int) by omega), ctr, zfw, zk2 (show p.zG[i].Args.length * 8 ≤ 1000000000 by omega)]; rw [zk2 (by rw [lnt]; simp only [lnc, ln0]; omega), ctr, w6e, ← List.take_append_getElem hi]; rfl)
  (by simp only [zc0.r0, zc0.b0, dcf (show ¬ (p.zG.length : Int) < (p.zG.length : Int) by omega), cfa]) (N := N) (by omega)
 simp only [nc0, List.take_zero] at l1
 rw [l1, obs, List.take_length]
theorem z8p (N : Nat) (hN : 1048600 < N) (hp : Wft En 1048576 Ty.zB p) : ∃ b, zbg N p = some b := by
 obtain ⟨w1, w2, w3, w4⟩ := zzs hp
 unfold zbg
 simp only [orB, obs]
 cases (decide ((p.zA.length : Int) > 28) || decide ((p.zG.length : Int) > 44)) || decide ((p.zM.length : Int) > 9) with
 | true => exact ⟨_, rfl⟩
 | false =>
  simp only [cfa]; have l1 := zta (f := zbg.r0 N) (fun i t => t = ((i : Int), p)) (fun r => True) p.zA.length
   (fun i t hi ht => by
    subst ht; have hx := lge hi; simp only [zbg.r0, zbg.b0, zai, hx, obs, dct (show (i : Int) < (p.zA.length : Int) by omega), ctr, orB]; rw [w6e (n := (i : Int) + 1)]; cases (decide ((p.zA[i].Name.size : Int) > 100) || decide ((p.zA[i].Base.size : Int) > 100)) || decide ((p.zA[i].Value.S.size : Int) > 600) with
    | true => exact .inr ⟨_, rfl, trivial⟩
    | false => exact .inl ⟨_, rfl, rfl⟩)
   (fun t ht => by
    subst ht; simp only [zbg.r0, zbg.b0, dcf (show ¬ (p.zA.length : Int) < (p.zA.length : Int) by omega), cfa]; exact ⟨_, rfl, rfl⟩) (N := N) (by omega) (s := (0, p)) rfl
  rcases l1 with ⟨t, g1, g2⟩ | ⟨r, g1, _⟩
  · rw [g1, g2]; simp only [obs, zb5]; have l2 := zta (f := zbg.r2 N) (fun i t => t = ((i : Int), p)) (fun r => True) p.zG.length
     (fun i t hi ht => by
      subst ht; have hx := lge hi; simp only [zbg.r2, zbg.b2, zai, hx, obs, dct (show (i : Int) < (p.zG.length : Int) by omega), ctr]; rw [w6e (n := (i : Int) + 1)]; cases decide ((p.zG[i].Args.length : Int) > 6) with
      | true => exact .inr ⟨_, rfl, trivial⟩
      | false => exact .inl ⟨_, rfl, rfl⟩)
     (fun t ht => by
      subst ht; simp only [zbg.r2, zbg.b2, dcf (show ¬ (p.zG.length : Int) < (p.zG.length : Int) by omega), cfa]; exact ⟨_, rfl, rfl⟩) (N := N) (by omega) (s := (0, p)) rfl
    rcases l2 with ⟨t, g3, _⟩ | ⟨r, g3, _⟩
    · rw [g3]; exact ⟨_, rfl⟩
    · rw [g3]; exact ⟨_, rfl⟩
  · rw [g1]; exact ⟨_, rfl⟩
theorem zwm (N : Nat) (l : List ByteArray) (h : l.length < N) (hl : l.length < 1000000) : zbs N l l = some true := by
 unfold zbs
 simp only [bsf, cfa]
 have l1 := zbh (f := zbs.r0 N) (fun i => (l, l, (i : Int))) (fun _ => none) l.length
  (fun i hi => by
   have hx := lge hi; simp only [zbs.r0, zbs.b0, zai, hx, obs, dct (show (i : Int) < (l.length : Int) by omega), ctr, bst, bnt, cfa]; rw [w6e]; rfl)
  (by simp only [zbs.r0, zbs.b0, dcf (show ¬ (l.length : Int) < (l.length : Int) by omega), cfa]) h
 simp only [nc0] at l1
 rw [l1]
 have : ∀ l : List Nat, l.findSome? (fun _ => (none : Option Bool)) = none := fun l => by rw [List.findSome?_eq_none_iff]; intros; rfl
 rw [this]
 rfl
theorem z7i : zkm 2000000 = some true := by kernel_rfl
end
theorem zw7 (p : Nat → Bool) (n : Nat) {R : Type} (r : Nat → R) : (List.range n).any p = ((List.range n).findSome? fun i => if p i = true then some (r i) else none).isSome := by
 induction List.range n with
 | nil => rfl
 | cons a l ih =>
  rw [List.any_cons, List.findSome?_cons]; cases h : p a with
  | true => simp
  | false => simpa using ih
theorem zyg {σ : Type} {f : σ → Option (Round Int σ)} (S : Nat → σ) (p : Nat → Bool) (n : Nat) (h : ∀ i, i < n → f (S i) = some (if p i = true then .result (i : Int) else .again (S (i + 1)))) (hl : f (S n) = some (.leave (S n))) {N : Nat} (hN : n < N) :
 (((zj f N (S 0)).bind fun z2 => zb5 z2 (fun z => some z) (fun _ => some (-1))).bind fun r1 => some (decide (r1 ≥ 0))) = some ((List.range n).any p) := by
 have l1 := zbh (f := f) S (fun i => if p i = true then some (i : Int) else none) n (fun i hi => by rw [h i hi]; cases p i <;> rfl) hl hN
 rw [l1, zw7 p n (fun i => (i : Int))]
 cases h2 : (List.range n).findSome? (fun i => if p i = true then some (i : Int) else none) with
 | none => rfl
 | some r =>
  obtain ⟨i, _, hi⟩ := eof h2; split at hi
  · injection hi with hi; subst hi; simp only [obs, zb5, Option.isSome_some]; rw [dct (by omega)]
  · cases hi
theorem zxi {σ : Type} {R : Type} {f : σ → Option (Round R σ)} (S : Nat → σ) (p : Nat → Bool) (e : R) (n : Nat) (h : ∀ i, i < n → f (S i) = some (if p i = true then .result e else .again (S (i + 1)))) (hl : f (S n) = some (.leave (S n))) {N : Nat} (hN : n < N) (K : σ → Option R) :
 ((zj f N (S 0)).bind fun z => zb5 z (fun z => some z) K) = if (List.range n).any p = true then some e else K (S n) := by
 have l1 := zbh (f := f) S (fun i => if p i = true then some e else none) n (fun i hi => by rw [h i hi]; cases p i <;> rfl) hl hN
 rw [l1, zw7 p n (fun i => e)]
 cases h2 : (List.range n).findSome? (fun i => if p i = true then some e else none) with
 | none => rfl
 | some r =>
  obtain ⟨i, _, hi⟩ := eof h2; split at hi
  · injection hi with hi; subst hi; rfl
  · cases hi
def zdx (t : List Bool) : Nat → List Int
 | 0 => []
 | i + 1 => if t.getD i false = true then zdx t i ++ [(i : Int) * 16] else zdx t i
theorem znz (t : List Bool) : ∀ i, (zdx t i).length ≤ i
 | 0 => Nat.le_refl 0
 | i + 1 => by
  have := znz t i; unfold zdx; split
  · rw [lna, lns]; omega
  · omega
theorem zx1 (t : List Bool) (o : Int) : ∀ i, o ∈ zdx t i ↔ ∃ k : Nat, k < i ∧ t.getD k false = true ∧ o = (k : Int) * 16
 | 0 => by simp [zdx]
 | i + 1 => by
  have ih := zx1 t o i; unfold zdx; constructor
  · intro h; split at h
    · rename_i hi; rcases List.mem_append.1 h with h | h
      · obtain ⟨k, h1, h2⟩ := ih.1 h; exact ⟨k, by omega, h2⟩
      · rw [List.mem_singleton] at h; exact ⟨i, by omega, hi, h⟩
    · obtain ⟨k, h1, h2⟩ := ih.1 h; exact ⟨k, by omega, h2⟩
  · rintro ⟨k, h1, h2, h3⟩
    by_cases hk : k = i
    · subst hk; rw [ifp h2]; exact List.mem_append_right _ (by rw [h3]; exact List.mem_singleton_self _)
    · have := ih.2 ⟨k, by omega, h2, h3⟩; split
      · exact List.mem_append_left _ this
      · exact this
structure StoW (s : Storage) : Prop where
 le : s.Bytes.size ≤ 1024
 quad : s.Bytes.size % 16 = 0
 tags : s.Tags.length = s.Bytes.size / 16
 err : zk1 s = ((s.Tags.length : Int), 0)
 ptr : ∀ i, s.Tags[i]? = some true → (zjg (zh7 s i)).2 = 0
theorem zzl {s : Storage} (h : (zk1 s).2 = 0) : StoW s := by
 have h0 := h
 unfold zk1 at h0
 split at h0
 · cases h0
 split at h0
 · cases h0
 split at h0
 · cases h0
 rename_i a1 a2 a3
 have ht : s.Tags.length = s.Bytes.size / 16 := cbc a3
 cases hf : (List.range s.Tags.length).findSome? (gS s) with
 | some r =>
  rw [hf] at h0; obtain ⟨i, _, hi⟩ := eof hf; unfold gS at hi; cases hx : s.Tags[i]? with
  | none => rw [hx] at hi; cases hi
  | some b =>
   rw [hx] at hi; simp only [obs] at hi; split at hi
   · injection hi with hi; subst hi; cases h0
   · cases hi
 | none =>
  refine ⟨by omega, by omega, ht, ?_, fun i hi => ?_⟩
  · unfold zk1; rw [ifn a1, ifn a2, ifn a3, hf]
  · rw [List.findSome?_eq_none_iff] at hf; have hl := (gei hi).1; have := hf i (List.mem_range.2 hl); unfold gS at this; rw [hi] at this; simp only [obs] at this; split at this
    · cases this
    · rename_i h5; exact cbc fun h6 => h5 ⟨trivial, h6⟩
def zt4 (s : Storage) (o : Int) : Bool := (zjg (zh7 s (o / 16).toNat)).1.Kind != 0 || (zjg (zh7 s (o / 16).toNat)).1.Address.zR != 1
theorem zz7 (s : Storage) (k : Nat) : ((zjg (zh7 s k)).1.Kind != 0 || (zjg (zh7 s k)).1.Address.zR != 1) = zt4 s ((k : Int) * 16) := by
 unfold zt4
 rw [show ((k : Int) * 16 / 16).toNat = k by omega]
theorem zze (N : Nat) (s : Storage) (h : s.Tags.length ≤ 64) (hN : 2000 < N) : zbl N s = some (zdx s.Tags s.Tags.length) := by
 unfold zbl
 have l1 := za1 (f := zbl.r0 N) (fun i => (zdx s.Tags i, (i : Int), s)) s.Tags.length
  (fun i hi => by
   have hx := lge hi; have hg : s.Tags.getD i false = s.Tags[i] := by rw [gdd, hx]; rfl
   have := znz s.Tags i; have rm : Nat.ble (((zdx s.Tags i).length + ([(w6 ((i : Int) * 16))] : List Int).length) * 8) zbr = true := Nat.ble_eq_true_of_le (by unfold zbr; simp; omega); simp only [zbl.r0, zbl.b0, zai, hx, obs, dct (show (i : Int) < (s.Tags.length : Int) by omega), ctr, rm]; rw [w6e (n := (i : Int) + 1), w6e (n := (i : Int) * 16), zdx, hg]; cases s.Tags[i] <;> rfl)
  (by simp only [zbl.r0, zbl.b0, dcf (show ¬ (s.Tags.length : Int) < (s.Tags.length : Int) by omega), cfa]) (N := N) (by omega)
 simp only [nc0] at l1
 exact congrArg (fun z => z.bind fun y1 => some y1.1) l1
theorem zy5 (N : Nat) (s : Storage) (h : StoW s) (hN : 2000 < N) : zas N s = some (zdx s.Tags s.Tags.length, 0) := by
 have hle := h.le
 have htg := h.tags
 unfold zas
 rw [(zl6 N hN s).1, h.err]
 simp only [obs, bsf, cfa]
 have l1 := za1 (f := zas.r0 N) (fun i => (zdx s.Tags i, s.Tags, (s.Tags.length : Int), (i : Int))) s.Tags.length
  (fun i hi => by
   have hx := lge hi; have hg : s.Tags.getD i false = s.Tags[i] := by rw [gdd, hx]; rfl
   have := znz s.Tags i; have rm : Nat.ble (((zdx s.Tags i).length + ([(w6 ((i : Int) * 16))] : List Int).length) * 8) zbr = true := Nat.ble_eq_true_of_le (by unfold zbr; simp; omega); simp only [zas.r0, zas.b0, zai, hx, obs, dct (show (i : Int) < (s.Tags.length : Int) by omega), ctr, rm]; rw [w6e (n := (i : Int) + 1), w6e (n := (i : Int) * 16), zdx, hg]; cases s.Tags[i] <;> rfl)
  (by simp only [zas.r0, zas.b0, dcf (show ¬ (s.Tags.length : Int) < (s.Tags.length : Int) by omega), cfa]) (N := N) (by omega)
 simp only [nc0] at l1
 exact congrArg (fun z => z.bind fun y1 => some (y1.1, (0 : Int))) l1
theorem z3t (N : Nat) (hN : 2000 < N) {s : Storage} (h : StoW s) {k : Nat} (hk : s.Tags[k]? = some true) : zb9 N s ((k : Int) * 16) = some (zjg (zh7 s k)) := by
 have hl := h.le
 have hq := h.quad
 have ht := h.tags
 have hi := (gei hk).1
 unfold zb9 zgg
 rw [(zl6 N hN s).1, h.err]
 simp only [obs, bsf, cfa]
 rw [dcf (show ¬ (k : Int) * 16 < 0 by omega), dcf (show ¬ (k : Int) * 16 ≥ (s.Bytes.size : Int) by omega), tme, show ((k : Int) * 16) % 16 = 0 by omega]
 simp only [bsf, cfa, obs]
 rw [tde, show ((k : Int) * 16) / 16 = (k : Int) by omega, w6e (n := (k : Int)), zai, hk]
 simp only [obs, bnt, cfa]
 rw [w6e, ifp, ifp, show ((k : Int) * 16).toNat = 16 * k by omega, show ((k : Int) * 16 + 16).toNat = 16 * k + 16 by omega, zwz N (by omega) _ (by rw [zcv _ _ _ (by omega) (by omega)]; omega), zie]
 rfl
theorem z35 (N : Nat) (hN : 2000 < N) {s : Storage} (h : StoW s) {k : Nat} (hk : s.Tags[k]? = some true) : zgq N s ((k : Int) * 16) = some ((zjg (zh7 s k)).1, 0) := by
 have hl := h.le
 have hq := h.quad
 have ht := h.tags
 have hi := (gei hk).1
 unfold zgq zg8
 rw [zgl, w6e, tme, show ((k : Int) * 16) % 16 = 0 by omega, show inB ((k : Int) * 16) 0 ((s.Bytes.size : Int) - 16) = true by unfold inB; rw [dct (by omega), dct (by omega)]; rfl]
 simp only [obs, bst, ctr, bnt, cfa]
 rw [tde, show ((k : Int) * 16) / 16 = (k : Int) by omega, w6e (n := (k : Int)), zai, hk]
 simp only [obs, bnt, cfa]
 unfold zgp
 rw [w6e (n := (k : Int) * 16), w6e, ifp, ifp, show ((k : Int) * 16).toNat = 16 * k by omega, show ((k : Int) * 16 + 16).toNat = 16 * k + 16 by omega]
 simp only [obs]
 rw [zxf N (by omega) _ (by rw [zcv _ _ _ (by omega) (by omega)]; omega), zie]
 rfl
theorem zx0 {s : Storage} {i : Nat} (h : i < (zdx s.Tags s.Tags.length).length) : ∃ k : Nat, s.Tags[k]? = some true ∧ (zdx s.Tags s.Tags.length)[i] = (k : Int) * 16 := by
 obtain ⟨k, h1, h2, h3⟩ := (zx1 s.Tags _ _).1 (List.getElem_mem h)
 refine ⟨k, ?_, h3⟩
 rw [gdd, lge h1] at h2
 rw [lge h1]
 exact congrArg some h2
def z1o (s : Storage) : Bool := (List.range (zdx s.Tags s.Tags.length).length).any fun i => zt4 s ((zdx s.Tags s.Tags.length).getD i 0)
theorem z28 {α : Type} (d : α) {l : List α} {k : Int} (h : inB k 0 ((l.length : Int) - 1) = true) : idx l k = some (l.getD k.toNat d) := by
 unfold inB at h
 rw [Bool.and_eq_true, decide_eq_true_iff, decide_eq_true_iff] at h
 obtain ⟨j, rfl⟩ : ∃ j : Nat, k = (j : Int) := ⟨k.toNat, by omega⟩
 rw [zai, itn, gdd, lge (by omega)]
 rfl
def z1q (l : List ByteArray) : Bool := (List.range l.length).any fun i => decide (((l.getD i ⟨#[]⟩).size : Int) > 256)
theorem zsq {α : Type} (d : α) {l : List α} {i : Nat} (h : i < l.length) : l.getD i d = l[i] := by
 rw [gdd, lge h]; rfl
theorem zm2 (x : Int) (l : List Int) : zhe (x :: l) = if x = 0 then zhe l else x := rfl
theorem z19 (N : Nat) (l : List Int) (h : l.length < N) (hl : l.length < 1000000000) : zdw N l l = some true := by
 unfold zdw
 simp only [bsf, cfa]
 have l1 := zbh (f := zdw.r0 N) (fun i => (l, l, (i : Int))) (fun _ => none) l.length
  (fun i hi => by
   have hx := lge hi; simp only [zdw.r0, zdw.b0, zai, hx, obs, dct (show (i : Int) < (l.length : Int) by omega), ctr, bsf, cfa]; rw [w6e]; rfl)
  (by simp only [zdw.r0, zdw.b0, dcf (show ¬ (l.length : Int) < (l.length : Int) by omega), cfa]) h
 simp only [nc0] at l1
 rw [l1]
 have : ∀ l : List Nat, l.findSome? (fun _ => (none : Option Bool)) = none := fun l => by rw [List.findSome?_eq_none_iff]; intros; rfl
 rw [this]
 rfl
theorem z0n (N : Nat) (l : List Bool) (h : l.length < N) (hl : l.length < 1000000) : zc5 N l l = some true := by
 unfold zc5
 simp only [bsf, cfa]
 have l1 := zbh (f := zc5.r0 N) (fun i => (l, l, (i : Int))) (fun _ => none) l.length
  (fun i hi => by
   have hx := lge hi; simp only [zc5.r0, zc5.b0, zai, hx, obs, dct (show (i : Int) < (l.length : Int) by omega), ctr, bst, bnt, cfa]; rw [w6e]; rfl)
  (by simp only [zc5.r0, zc5.b0, dcf (show ¬ (l.length : Int) < (l.length : Int) by omega), cfa]) h
 simp only [nc0] at l1
 rw [l1]
 have : ∀ l : List Nat, l.findSome? (fun _ => (none : Option Bool)) = none := fun l => by rw [List.findSome?_eq_none_iff]; intros; rfl
 rw [this]
 rfl
theorem z3v (N : Nat) (s : Storage) (h : s.Tags.length < N) (hl : s.Tags.length < 1000000) : zf6 N s s = some true := by
 unfold zf6
 rw [bst, ctr, z0n N _ h hl]
 rfl
end
end Go.Proofs.YtmifhmfokbigiaaGreatDoor.M
