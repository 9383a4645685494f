/- The plain law of InterpretUnchanged: part 0. -/
import Derived.Test.YtmifhmfokbigiaaGreatDoorF1
import Derived.Test.YtmifhmfokbigiaaGreatDoorA4
import Derived.Lib.Strings
namespace Go.Proofs.YtmifhmfokbigiaaGreatDoor.M
open Go Go.Amx
set_option linter.unusedVariables false
set_option linter.unusedSimpArgs false
set_option maxRecDepth 100000
noncomputable section
theorem obs {α β : Type} (a : α) (f : α → Option β) : (some a).bind f = f a := rfl
theorem dct {p : Prop} [Decidable p] (h : p) : decide p = true := decide_eq_true h
theorem dcf {p : Prop} [Decidable p] (h : ¬ p) : decide p = false := decide_eq_false h
theorem lna {α : Type} {a b : List α} : (a ++ b).length = a.length + b.length := List.length_append
theorem lns {α : Type} {a : α} : [a].length = 1 := List.length_singleton
theorem lge {α : Type} {l : List α} {i : Nat} (h : i < l.length) : l[i]? = some l[i] := List.getElem?_eq_getElem h
theorem itn (n : Nat) : Int.toNat (n : Int) = n := Int.toNat_natCast n
theorem ctr {α : Sort _} (a b : α) : cond true a b = a := rfl
theorem cfa {α : Sort _} (a b : α) : cond false a b = b := rfl
theorem ifp {c : Prop} {h : Decidable c} (hc : c := by omega) {α : Sort _} {t e : α} : ite c t e = t := if_pos hc
theorem ifn {c : Prop} {h : Decidable c} (hc : ¬c := by omega) {α : Sort _} {t e : α} : ite c t e = e := if_neg hc
theorem bsf {α : Type _} [BEq α] [LawfulBEq α] (a : α) : (a != a) = false := bne_self_eq_false a
theorem tde {a b : Int} (h : 0 ≤ a := by omega) : a.tdiv b = a / b := Int.tdiv_eq_ediv_of_nonneg h
theorem tme {a b : Int} (h : 0 ≤ a := by omega) : a.tmod b = a % b := Int.tmod_eq_emod_of_nonneg h
theorem lnt {α : Type _} {i : Nat} {l : List α} : (l.take i).length = min i l.length := List.length_take
theorem lnr {α : Type _} {n : Nat} {a : α} : (List.replicate n a).length = n := List.length_replicate
theorem gdd {α : Type _} {l : List α} {i : Nat} {a : α} : l.getD i a = l[i]?.getD a := List.getD_eq_getElem?_getD
theorem cbc {p : Prop} (h : ¬p → False) : p := Classical.byContradiction h
theorem lnc {α : Type _} {a : α} {l : List α} : (a :: l).length = l.length + 1 := List.length_cons
theorem gei {α : Type _} {i : Nat} {a : α} {l : List α} (h : l[i]? = some a) : ∃ h : i < l.length, l[i] = a := List.getElem?_eq_some_iff.1 h
theorem eof {α β : Type _} {b : β} {f : α → Option β} {l : List α} (h : l.findSome? f = some b) : ∃ a, a ∈ l ∧ f a = some b := List.exists_of_findSome?_eq_some h
theorem ln0 {α : Type _} : ([] : List α).length = 0 := rfl
theorem lnm {α β : Type _} {l : List α} (f : α → β) : (l.map f).length = l.length := List.length_map f
theorem dr0 {α : Type _} {l : List α} : l.drop 0 = l := rfl
theorem bsa {a b : ByteArray} : (a ++ b).size = a.size + b.size := ByteArray.size_append
theorem bnt : (!true) = false := rfl
theorem mel {a b : Nat} (h : a < b) : a % b = a := Nat.mod_eq_of_lt h
theorem nc0 : ((0 : Nat) : Int) = 0 := Int.natCast_zero
theorem bst {α : Type _} [BEq α] [ReflBEq α] (a : α) : (a == a) = true := beq_self_eq_true a
theorem lmg {α : Type _} {l : List α} {i : Nat} {a : α} (h : l[i]? = some a) : a ∈ l := List.mem_of_getElem? h
theorem w6e {n : Int} (h1 : -9223372036854775808 ≤ n := by omega) (h2 : n ≤ 9223372036854775807 := by omega) : w6 n = n := z6n h1 h2
def zgn.b0 (N : Nat) (s0 : Int) (s1 : Int) (s5 : List Int) (s6 : Int) : Option (Stp (Int × Int × (List Int) × Int)) :=
 cond (decide (s6 < s1)) (cond (Nat.ble ((s5.length + ([s0] : List Int).length) * 1) zbr) (some (.again (s0, s1, (s5 ++ ([s0] : List Int)), (w6 (s6 + 1))))) none)
  (some (.leave (s0, s1, s5, s6)))
def zgn.r0 (N : Nat) (x : Int × Int × (List Int) × Int) := zgn.b0 N x.1 x.2.1 x.2.2.1 x.2.2.2
def zgn (N : Nat) (a0 : Int) (a1 : Int) : Option ByteArray :=
 (zl (zgn.r0 N) N (a0, a1, [], 0)).bind fun y1 => some (zd3 y1.2.2.1)
def zbo.b0 (N : Nat) (s0 : Int) (s1 : Int) (s5 : List Int) (s6 : Int) : Option (Stp (Int × Int × (List Int) × Int)) :=
 cond (decide (s6 < s1))
  (if 0 ≤ (w6 ((w6 (s1 - 1)) - s6)) then (if (w6 ((w6 (s1 - 1)) - s6)) < (s5.length : Int) then ((s5[(w6 ((w6 (s1 - 1)) - s6)).toNat]?).bind fun x1001 =>
  some (.again ((w6 (s0.tdiv 256)), s1, (s5.set ((w6 ((w6 (s1 - 1)) - s6)).toNat)
  (IntKind.wrap .u8 (s0.tmod 256))), (w6 (s6 + 1))))) else none) else none) (some (.leave (s0, s1, s5, s6)))
def zbo.r0 (N : Nat) (x : Int × Int × (List Int) × Int) := zbo.b0 N x.1 x.2.1 x.2.2.1 x.2.2.2
def zbo (N : Nat) (a0 : Int) (a1 : Int) : Option ByteArray :=
 if 0 ≤ a1 then (if a1 ≤ a1 then (cond (Nat.ble (a1.toNat * 1) zbr) ((zl (zbo.r0 N) N (a0, a1, (List.replicate a1.toNat (0 : Int)), 0)).bind fun y1 =>
  some (zd3 y1.2.2.1)) none) else none) else none
def zna (a0 : Int) : Option Int :=
 some (if (w6 (0 - a0)) > a0 then (w6 (0 - a0)) else a0)
def zfh.b0 (N : Nat) (s0 : Int) (s5 : List Int) (s6 : Int) : Option (Stp (Int × (List Int) × Int)) :=
 cond (decide (s6 ≥ 0)) (if 0 ≤ s6 then (if s6 < (s5.length : Int) then ((s5[s6.toNat]?).bind fun x1001 =>
  some (.again ((w6 (s0.tdiv 10)), (s5.set s6.toNat (s0.tmod 10)), (w6 (s6 - 1))))) else none) else none) (some (.leave (s0, s5, s6)))
def zfh.r0 (N : Nat) (x : Int × (List Int) × Int) := zfh.b0 N x.1 x.2.1 x.2.2
def zfh (N : Nat) (a0 : Int) (a1 : Int) : Option ((List Int)) :=
 if 0 ≤ a1 then (if a1 ≤ a1 then (cond (Nat.ble (a1.toNat * 8) zbr)
  ((zl (zfh.r0 N) N (a0, (List.replicate a1.toNat (0 : Int)), (w6 (a1 - 1)))).bind fun y1 => some y1.2.1) none) else none) else none
def zbe.b1 (N : Nat) (s6 : List Int) (s7 : List Int) (s8 : Int) (b2 : DataType) (b3 : Value) : Option (Stp ((List Int) × (List Int) × Int × DataType × Value)) :=
 cond (decide (s8 < b2.Length)) (if 0 ≤ s8 then (if s8 < (s6.length : Int) then ((s6[s8.toNat]?).bind fun x2001 =>
  if 0 ≤ s8 then (if s8 < (s7.length : Int) then ((s7[s8.toNat]?).bind fun x2002 =>
  some (.again (s6, (s7.set s8.toNat (IntKind.wrap .u8 (w6 (240 + x2001)))), (w6 (s8 + 1)), b2, b3))) else none) else none) else none) else none)
  (some (.leave (s6, s7, s8, b2, b3)))
def zbe.r1 (N : Nat) (x : (List Int) × (List Int) × Int × DataType × Value) := zbe.b1 N x.1 x.2.1 x.2.2.1 x.2.2.2.1 x.2.2.2.2
def zbe.b3 (N : Nat) (s6 : List Int) (s9 : List Int) (s10 : Int) : Option (Stp ((List Int) × (List Int) × Int)) :=
 cond (decide (s10 < (s9.length : Int)))
  (if 0 ≤ (w6 (2 * s10)) then (if (w6 (2 * s10)) < (s6.length : Int) then ((s6[(w6 (2 * s10)).toNat]?).bind fun x4001 =>
  if 0 ≤ (w6 ((w6 (2 * s10)) + 1)) then (if (w6 ((w6 (2 * s10)) + 1)) < (s6.length : Int) then ((s6[(w6 ((w6 (2 * s10)) + 1)).toNat]?).bind fun x4002 =>
  if 0 ≤ s10 then (if s10 < (s9.length : Int) then ((s9[s10.toNat]?).bind fun x4003 =>
  some (.again (s6, (s9.set s10.toNat (IntKind.wrap .u8 (w6 ((w6 (16 * x4001)) + x4002)))), (w6 (s10 + 1))))) else none) else none) else none) else none) else none) else none)
  (some (.leave (s6, s9, s10)))
def zbe.r3 (N : Nat) (x : (List Int) × (List Int) × Int) := zbe.b3 N x.1 x.2.1 x.2.2
def zbe (N : Nat) (a0 : DataType) (a1 : Value) : Option ByteArray :=
 cond (a0.Kind == 0) (some a1.S) (cond (a0.Kind == 3) (cond (decide (a1.N < 0)) ((zd6 a0).bind fun r1 =>
  if (w6 (8 * r1)) < 0 then none else (zd6 a0).bind fun r2 =>
  (zbo N (w6 (a1.N + (w6 (1 * 2 ^ (min (w6 (8 * r1)).toNat 64))))) r2).bind fun r3 => some r3) ((zd6 a0).bind fun r4 =>
  (zbo N a1.N r4).bind fun r5 => some r5)) ((zna a1.N).bind fun r6 => (zfh N r6 a0.Length).bind fun r7 => cond (a0.Kind == 2)
  (if 0 ≤ a0.Length then (if a0.Length ≤ a0.Length then (cond (Nat.ble (a0.Length.toNat * 1) zbr)
  ((zl (zbe.r1 N) N (r7, (List.replicate a0.Length.toNat (0 : Int)), 0, a0, a1)).bind fun y8 => cond (decide (y8.2.2.2.2.N < 0))
  (if 0 ≤ (w6 (y8.2.2.2.1.Length - 1)) then (if (w6 (y8.2.2.2.1.Length - 1)) < (y8.1.length : Int) then ((y8.1[(w6 (y8.2.2.2.1.Length - 1)).toNat]?).bind fun x9 =>
  if 0 ≤ (w6 (y8.2.2.2.1.Length - 1)) then (if (w6 (y8.2.2.2.1.Length - 1)) < (y8.2.1.length : Int) then ((y8.2.1[(w6 (y8.2.2.2.1.Length - 1)).toNat]?).bind fun x10 =>
  some (zd3 (y8.2.1.set ((w6 (y8.2.2.2.1.Length - 1)).toNat) (IntKind.wrap .u8 (w6 (208 + x9)))))) else none) else none) else none) else none)
  (some (zd3 y8.2.1))) none) else none) else none) (cond ((a0.Length.tmod 2) == 0) (cond (Nat.ble ((([0] : List Int).length + r7.length) * 8) zbr)
  ((zbg (decide (a1.N < 0))).bind fun r11 =>
  cond (Nat.ble (((([0] : List Int) ++ r7).length + ([(w6 (15 - (w6 (2 * r11))))] : List Int).length) * 8) zbr)
  (if 0 ≤ (w6 ((((([0] : List Int) ++ r7) ++ ([(w6 (15 - (w6 (2 * r11))))] : List Int)).length : Int).tdiv 2)) then (if (w6 ((((([0] : List Int) ++ r7) ++ ([(w6 (15 - (w6 (2 * r11))))] : List Int)).length : Int).tdiv 2)) ≤ (w6 ((((([0] : List Int) ++ r7) ++ ([(w6 (15 - (w6 (2 * r11))))] : List Int)).length : Int).tdiv 2)) then (cond (Nat.ble ((w6 ((((([0] : List Int) ++ r7) ++ ([(w6 (15 - (w6 (2 * r11))))] : List Int)).length : Int).tdiv 2)).toNat * 1) zbr)
  ((zl (zbe.r3 N) N (((([0] : List Int) ++ r7) ++ ([(w6 (15 - (w6 (2 * r11))))] : List Int)), (List.replicate (w6 ((((([0] : List Int) ++ r7) ++ ([(w6 (15 - (w6 (2 * r11))))] : List Int)).length : Int).tdiv 2)).toNat (0 : Int)), 0)).bind fun y12 =>
  some (zd3 y12.2.1)) none) else none) else none) none) none) ((zbg (decide (a1.N < 0))).bind fun r13 =>
  cond (Nat.ble ((r7.length + ([(w6 (15 - (w6 (2 * r13))))] : List Int).length) * 8) zbr)
  (if 0 ≤ (w6 (((r7 ++ ([(w6 (15 - (w6 (2 * r13))))] : List Int)).length : Int).tdiv 2)) then (if (w6 (((r7 ++ ([(w6 (15 - (w6 (2 * r13))))] : List Int)).length : Int).tdiv 2)) ≤ (w6 (((r7 ++ ([(w6 (15 - (w6 (2 * r13))))] : List Int)).length : Int).tdiv 2)) then (cond (Nat.ble ((w6 (((r7 ++ ([(w6 (15 - (w6 (2 * r13))))] : List Int)).length : Int).tdiv 2)).toNat * 1) zbr)
  ((zl (zbe.r3 N) N ((r7 ++ ([(w6 (15 - (w6 (2 * r13))))] : List Int)), (List.replicate (w6 (((r7 ++ ([(w6 (15 - (w6 (2 * r13))))] : List Int)).length : Int).tdiv 2)).toNat (0 : Int)), 0)).bind fun y14 =>
  some (zd3 y14.2.1)) none) else none) else none) none))))
def z1z (a0 : ByteArray) (a1 : Int) (a2 : ByteArray) : Option ByteArray :=
 if 0 ≤ a1 ∧ a1 ≤ (a0.size : Int) then (if 0 ≤ (0 : Int) ∧ (0 : Int) ≤ a1 then (if (((a0.extract (0 : Int).toNat a1.toNat).size + a2.size : Nat) : Int) > IntKind.i64.max then none else if 0 ≤ (w6 (a1 + (a2.size : Int))) ∧ (w6 (a1 + (a2.size : Int))) ≤ (a0.size : Int) then (if ((((a0.extract (0 : Int).toNat a1.toNat) ++ a2).size + (a0.extract (w6 (a1 + (a2.size : Int))).toNat a0.size).size : Nat) : Int) > IntKind.i64.max then none else some (((a0.extract (0 : Int).toNat a1.toNat) ++ a2) ++ (a0.extract (w6 (a1 + (a2.size : Int))).toNat a0.size))) else none) else none) else none
def zlw (a0 : zB) (a1 : Int) : Option Bool :=
 (idx a0.zA a1).bind fun x1 => (zc4 x1.zJ.Kind).bind fun r2 => some r2
def z0h (a0 : Storage) (a1 : Int) (a2 : Int) : Option Bool :=
 (zf a1 0 (a0.Bytes.size : Int)).bind fun r1 => (cond r1 ((zf a2 0 (w6 ((a0.Bytes.size : Int) - a1))).bind fun r2 => some r2)
  (some false)).bind fun g3 => some g3
def zdx (N : Nat) (a0 : zB) (a1 : zC) (a2 : Int) : Option (Int × Int) :=
 (idx a0.zA a2).bind fun x1 => (zw N a0).bind fun r2 => cond (x1.Kind != 2) ((idx r2.1 a2).bind fun x3 => some (x3, 0)) ((zea N a0 x1.Base).bind fun r4 =>
  (idx r2.1 r4).bind fun x5 => (zgq N a1.Storage x5).bind fun r6 => cond (r6.2 != 0) (some (0, 4)) ((zd6 x1.zJ).bind fun r7 =>
  (z0h a1.Storage (w6 (r6.1.Address.Offset + x1.Offset)) r7).bind fun r8 => cond (!r8) (some (0, 5))
  (some ((w6 (r6.1.Address.Offset + x1.Offset)), 0))))
def zju (N : Nat) (a0 : zB) (a1 : zC) (a2 : Int) : Option (ByteArray × Int) :=
 (idx a0.zA a2).bind fun x1 => cond (x1.Kind == 4) ((zbe N x1.zJ x1.Value).bind fun r2 => some (r2, 0)) ((zdx N a0 a1 a2).bind fun r3 => cond (r3.2 != 0)
  (some ((⟨#[]⟩ : ByteArray), r3.2)) ((zd6 x1.zJ).bind fun r4 =>
  if 0 ≤ (w6 (r3.1 + r4)) ∧ (w6 (r3.1 + r4)) ≤ (a1.Storage.Bytes.size : Int) then (if 0 ≤ r3.1 ∧ r3.1 ≤ (w6 (r3.1 + r4)) then (some ((a1.Storage.Bytes.extract r3.1.toNat (w6 (r3.1 + r4)).toNat), 0)) else none) else none))
def zjx (N : Nat) (a0 : ByteArray) (a1 : Int) : Option ByteArray :=
 cond (decide ((a0.size : Int) ≥ a1))
  (if 0 ≤ a1 ∧ a1 ≤ (a0.size : Int) then (if 0 ≤ (0 : Int) ∧ (0 : Int) ≤ a1 then (some (a0.extract (0 : Int).toNat a1.toNat)) else none) else none)
  ((zgn N 32 (w6 (a1 - (a0.size : Int)))).bind fun r1 => if ((a0.size + r1.size : Nat) : Int) > IntKind.i64.max then none else some (a0 ++ r1))
def zc9.b0 (N : Nat) (s1 : Int) (s2 : ByteArray) (s8 : Int) (b6 : Storage) (b7 : Storage) : Option (Stp (Int × ByteArray × Int × Storage × Storage)) :=
 cond (decide (s8 < (s2.size : Int)))
  (if 0 ≤ (w6 ((w6 (s1 + s8)).tdiv 16)) then (if (w6 ((w6 (s1 + s8)).tdiv 16)) < (b7.Tags.length : Int) then ((b7.Tags[(w6 ((w6 (s1 + s8)).tdiv 16)).toNat]?).bind fun x1001 =>
  some (.again (s1, s2, (w6 (s8 + 1)), b6, (⟨b7.Bytes, (b7.Tags.set ((w6 ((w6 (s1 + s8)).tdiv 16)).toNat) false)⟩ : Storage)))) else none) else none)
  (some (.leave (s1, s2, s8, b6, b7)))
def zc9.r0 (N : Nat) (x : Int × ByteArray × Int × Storage × Storage) := zc9.b0 N x.1 x.2.1 x.2.2.1 x.2.2.2.1 x.2.2.2.2
def zc9 (N : Nat) (a0 : Storage) (a1 : Int) (a2 : ByteArray) : Option Storage :=
 (zhn a0).bind fun r1 => (z1z a0.Bytes a1 a2).bind fun r2 =>
  (zl (zc9.r0 N) N (a1, a2, 0, (⟨(⟨#[]⟩ : ByteArray), []⟩ : Storage), (⟨r2, r1.Tags⟩ : Storage))).bind fun y3 => some y3.2.2.2.2
def zkx (a0 : Int) (a1 : Int) : Option (Int × Bool) :=
 (cond (a1 == 11) (some true) (some (a1 == 13))).bind fun g1 => cond g1 (some ((w6 (0 - a0)), (decide (a1 ≥ 10)))) (some (a0, (decide (a1 ≥ 10))))
def zcy.b0 (N : Nat) (s0 : ByteArray) (s5 : Int) (s6 : Int) (s7 : Int) (b2 : Value) : Option (Round (Value × Int × Int) (ByteArray × Int × Int × Int × Value)) :=
 cond (decide (s7 < (s0.size : Int))) (cond (s7 == (w6 ((s0.size : Int) - 1))) ((zhl s0 s7).bind fun x1001 =>
  (cond (decide ((w6 ((w6 (x1001.toNat : Int)).tdiv 16)) < 10)) (some true) ((zhl s0 s7).bind fun x1002 =>
  some (decide (((x1002.toNat : Int).tmod 16) > 9)))).bind fun g1003 => cond g1003 (some (.result ((⟨0, (⟨#[]⟩ : ByteArray)⟩ : Value), s7, 21))) ((zhl s0 s7).bind fun x1004 =>
  some (.again (s0, (w6 ((w6 (10 * s5)) + ((w6 (x1004.toNat : Int)).tmod 16))), (w6 ((w6 (x1001.toNat : Int)).tdiv 16)), (w6 (s7 + 1)), b2))))
  ((cond (decide (s6 < 10)) (some true) ((zhl s0 s7).bind fun x1005 => some (decide (((x1005.toNat : Int).tmod 16) > 9)))).bind fun g1006 =>
  cond g1006 (some (.result ((⟨0, (⟨#[]⟩ : ByteArray)⟩ : Value), s7, 21))) ((zhl s0 s7).bind fun x1007 =>
  some (.again (s0, (w6 ((w6 (10 * s5)) + ((w6 (x1007.toNat : Int)).tmod 16))), s6, (w6 (s7 + 1)), b2)))))
  (some (.leave (s0, s5, s6, s7, b2)))
def zcy.r0 (N : Nat) (x : ByteArray × Int × Int × Int × Value) := zcy.b0 N x.1 x.2.1 x.2.2.1 x.2.2.2.1 x.2.2.2.2
def zcy (N : Nat) (a0 : ByteArray) : Option (Value × Int × Int) :=
 (zj (zcy.r0 N) N (a0, 0, 15, 0, (⟨0, (⟨#[]⟩ : ByteArray)⟩ : Value))).bind fun z2 => zb5 z2 (fun z => some z) (fun y1 =>
  (zkx y1.2.1 y1.2.2.1).bind fun r3 => some ((⟨r3.1, (⟨#[]⟩ : ByteArray)⟩ : Value), 0, 0))
def zct.b0 (N : Nat) (s1 : ByteArray) (s7 : Int) (s8 : Int) (b2 : DataType) (b4 : Value) : Option (Round (Value × Int × Int) (ByteArray × Int × Int × DataType × Value)) :=
 cond (decide (s8 < (w6 (2 * (s1.size : Int))))) ((zhl s1 (w6 (s8.tdiv 2))).bind fun x1001 => cond ((s8.tmod 2) == 1)
  ((zhl s1 (w6 (s8.tdiv 2))).bind fun x1002 => cond (s8 == (w6 ((w6 (2 * (s1.size : Int))) - 1)))
  ((cond (decide (((w6 (x1002.toNat : Int)).tmod 16) < 10)) (some true) ((cond (s8 == 0) (some ((b2.Length.tmod 2) == 0)) (some false)).bind fun g1003 =>
  (cond g1003 (some (((w6 (x1002.toNat : Int)).tmod 16) != 0)) (some false)).bind fun g1004 => some g1004)).bind fun g1005 =>
  cond g1005 (some (.result ((⟨0, (⟨#[]⟩ : ByteArray)⟩ : Value), (w6 (s8.tdiv 2)), 21)))
  (cond (s8 == (w6 ((w6 (2 * (s1.size : Int))) - 1))) ((zkx s7 ((w6 (x1002.toNat : Int)).tmod 16)).bind fun r1006 =>
  some (.again (s1, r1006.1, (w6 (s8 + 1)), b2, b4)))
  (some (.again (s1, (w6 ((w6 (10 * s7)) + ((w6 (x1002.toNat : Int)).tmod 16))), (w6 (s8 + 1)), b2, b4)))))
  ((cond (decide (((w6 (x1002.toNat : Int)).tmod 16) > 9)) (some true) ((cond (s8 == 0) (some ((b2.Length.tmod 2) == 0)) (some false)).bind fun g1007 =>
  (cond g1007 (some (((w6 (x1002.toNat : Int)).tmod 16) != 0)) (some false)).bind fun g1008 => some g1008)).bind fun g1009 =>
  cond g1009 (some (.result ((⟨0, (⟨#[]⟩ : ByteArray)⟩ : Value), (w6 (s8.tdiv 2)), 21)))
  (cond (s8 == (w6 ((w6 (2 * (s1.size : Int))) - 1))) ((zkx s7 ((w6 (x1002.toNat : Int)).tmod 16)).bind fun r1010 =>
  some (.again (s1, r1010.1, (w6 (s8 + 1)), b2, b4)))
  (some (.again (s1, (w6 ((w6 (10 * s7)) + ((w6 (x1002.toNat : Int)).tmod 16))), (w6 (s8 + 1)), b2, b4))))))
  (cond (s8 == (w6 ((w6 (2 * (s1.size : Int))) - 1))) ((cond (decide ((w6 ((w6 (x1001.toNat : Int)).tdiv 16)) < 10))
  (some true) ((cond (s8 == 0) (some ((b2.Length.tmod 2) == 0)) (some false)).bind fun g1011 =>
  (cond g1011 (some ((w6 ((w6 (x1001.toNat : Int)).tdiv 16)) != 0)) (some false)).bind fun g1012 => some g1012)).bind fun g1013 =>
  cond g1013 (some (.result ((⟨0, (⟨#[]⟩ : ByteArray)⟩ : Value), (w6 (s8.tdiv 2)), 21)))
  (cond (s8 == (w6 ((w6 (2 * (s1.size : Int))) - 1)))
  ((zkx s7 (w6 ((w6 (x1001.toNat : Int)).tdiv 16))).bind fun r1014 => some (.again (s1, r1014.1, (w6 (s8 + 1)), b2, b4)))
  (some (.again (s1, (w6 ((w6 (10 * s7)) + (w6 ((w6 (x1001.toNat : Int)).tdiv 16)))), (w6 (s8 + 1)), b2, b4)))))
  ((cond (decide ((w6 ((w6 (x1001.toNat : Int)).tdiv 16)) > 9)) (some true) ((cond (s8 == 0) (some ((b2.Length.tmod 2) == 0))
  (some false)).bind fun g1015 => (cond g1015 (some ((w6 ((w6 (x1001.toNat : Int)).tdiv 16)) != 0)) (some false)).bind fun g1016 =>
  some g1016)).bind fun g1017 => cond g1017 (some (.result ((⟨0, (⟨#[]⟩ : ByteArray)⟩ : Value), (w6 (s8.tdiv 2)), 21)))
  (cond (s8 == (w6 ((w6 (2 * (s1.size : Int))) - 1)))
  ((zkx s7 (w6 ((w6 (x1001.toNat : Int)).tdiv 16))).bind fun r1018 => some (.again (s1, r1018.1, (w6 (s8 + 1)), b2, b4)))
  (some (.again (s1, (w6 ((w6 (10 * s7)) + (w6 ((w6 (x1001.toNat : Int)).tdiv 16)))), (w6 (s8 + 1)), b2, b4)))))))
  (some (.leave (s1, s7, s8, b2, b4)))
def zct.r0 (N : Nat) (x : ByteArray × Int × Int × DataType × Value) := zct.b0 N x.1 x.2.1 x.2.2.1 x.2.2.2.1 x.2.2.2.2
def zct (N : Nat) (a0 : DataType) (a1 : ByteArray) : Option (Value × Int × Int) :=
 (zj (zct.r0 N) N (a1, 0, 0, a0, (⟨0, (⟨#[]⟩ : ByteArray)⟩ : Value))).bind fun z2 => zb5 z2 (fun z => some z) (fun y1 =>
  some ((⟨y1.2.1, (⟨#[]⟩ : ByteArray)⟩ : Value), 0, 0))
def zwa (N : Nat) (a0 : DataType) (a1 : ByteArray) : Option (Value × Int × Int) :=
 (zgl a0).bind fun r1 => cond (r1 != 0) (some ((⟨0, (⟨#[]⟩ : ByteArray)⟩ : Value), 0, r1)) (cond (a0.Kind == 4) (some ((⟨0, (⟨#[]⟩ : ByteArray)⟩ : Value), 0, 17))
  ((zd6 a0).bind fun r2 => cond ((a1.size : Int) != r2) (some ((⟨0, (⟨#[]⟩ : ByteArray)⟩ : Value), 0, 18)) (cond (a0.Kind == 0) (some ((⟨0, a1⟩ : Value), 0, 0))
  (cond (a0.Kind == 3) ((zdr N a1 0 (a1.size : Int)).bind fun r3 => (zhl a1 0).bind fun x4 => cond (decide ((x4.toNat : Int) ≥ 128))
  (if (w6 (8 * (a1.size : Int))) < 0 then none else (ziu N a0).bind fun r5 => (ziu N a0).bind fun r6 =>
  (zf (w6 (r3 - (w6 (1 * 2 ^ (min (w6 (8 * (a1.size : Int))).toNat 64))))) (w6 (0 - r5)) r6).bind fun r7 =>
  cond (!r7) (some ((⟨0, (⟨#[]⟩ : ByteArray)⟩ : Value), 0, 19))
  (some ((⟨(w6 (r3 - (w6 (1 * 2 ^ (min (w6 (8 * (a1.size : Int))).toNat 64))))), (⟨#[]⟩ : ByteArray)⟩ : Value), 0, 0)))
  ((ziu N a0).bind fun r8 => (ziu N a0).bind fun r9 => (zf r3 (w6 (0 - r8)) r9).bind fun r10 => cond (!r10)
  (some ((⟨0, (⟨#[]⟩ : ByteArray)⟩ : Value), 0, 19)) (some ((⟨r3, (⟨#[]⟩ : ByteArray)⟩ : Value), 0, 0)))) (cond (a0.Kind == 2) ((zcy N a1).bind fun r11 =>
  some (r11.1, r11.2.1, r11.2.2)) ((zct N a0 a1).bind fun r12 => some (r12.1, r12.2.1, r12.2.2)))))))
def zdq (N : Nat) (a0 : zB) (a1 : zC) (a2 : Int) : Option (Number × Int) :=
 (zju N a0 a1 a2).bind fun r1 => cond (r1.2 != 0) (some ((⟨0, 0⟩ : Number), r1.2)) ((idx a0.zA a2).bind fun x2 => (zwa N x2.zJ r1.1).bind fun r3 =>
  cond (r3.2.2 != 0) (some ((⟨0, 0⟩ : Number), 1)) (some ((⟨r3.1.N, x2.zJ.Scale⟩ : Number), 0)))
def zly (a0 : Number) : Option Int :=
 (zf a0.N (-999999999999999) 999999999999999).bind fun r1 => (cond r1 ((zf a0.Scale 0 15).bind fun r2 => some r2) (some false)).bind fun g3 =>
  (zbg (!g3)).bind fun r4 => some (w6 (3 * r4))
def zn5 (a0 : DataType) : Option Int :=
 (zgl a0).bind fun r1 => cond (r1 != 0) (some r1) ((zc4 a0.Kind).bind fun r2 => (zbg (!r2)).bind fun r3 => some (w6 (17 * r3)))
def zem.b0 (N : Nat) (s0 : List Int) : Option (Stp (List Int)) :=
 (cond (decide ((s0.length : Int) > 0)) ((idx s0 (w6 ((s0.length : Int) - 1))).bind fun x1001 => some (x1001 == 0)) (some false)).bind fun g1002 =>
  cond g1002 (if 0 ≤ (w6 ((s0.length : Int) - 1)) ∧ (w6 ((s0.length : Int) - 1)) ≤ (s0.length : Int) then (if 0 ≤ (0 : Int) ∧ (0 : Int) ≤ (w6 ((s0.length : Int) - 1)) then (some (.again ((s0.take (w6 ((s0.length : Int) - 1)).toNat).drop (0 : Int).toNat))) else none) else none)
  (some (.leave s0))
def zem.r0 (N : Nat) (x : (List Int)) := zem.b0 N x
def zem (N : Nat) (a0 : List Int) : Option ((List Int)) :=
 (zl (zem.r0 N) N a0).bind fun y1 => some y1
def zfi.b0 (N : Nat) (s0 : Int) (s5 : List Int) (s6 : Int) (b4 : zK) : Option (Stp (Int × (List Int) × Int × zK)) :=
 cond (decide (s6 > 0)) (cond (Nat.ble ((s5.length + ([(s6.tmod 10)] : List Int).length) * 8) zbr)
  (some (.again (s0, (s5 ++ ([(s6.tmod 10)] : List Int)), (w6 (s6.tdiv 10)), b4))) none) (some (.leave (s0, s5, s6, b4)))
def zfi.r0 (N : Nat) (x : Int × (List Int) × Int × zK) := zfi.b0 N x.1 x.2.1 x.2.2.1 x.2.2.2
def zfi (N : Nat) (a0 : Int) (a1 : Int) : Option zK :=
 if 0 ≤ a1 then (if a1 ≤ a1 then (cond (Nat.ble (a1.toNat * 8) zbr) ((zna a0).bind fun r1 =>
  (zl (zfi.r0 N) N (a0, (List.replicate a1.toNat (0 : Int)), r1, (⟨false, []⟩ : zK))).bind fun y2 => (zem N y2.2.1).bind fun r3 =>
  some (⟨(decide (y2.1 < 0)), r3⟩ : zK)) none) else none) else none
def zmo (a0 : Int) : Option ((List Int)) :=
 if 0 ≤ a0 then (if a0 ≤ a0 then (cond (Nat.ble (a0.toNat * 8) zbr) (cond (Nat.ble (((List.replicate a0.toNat (0 : Int)).length + ([1] : List Int).length) * 8) zbr)
  (some ((List.replicate a0.toNat (0 : Int)) ++ ([1] : List Int))) none) none) else none) else none
def zv6 (N : Nat) (a0 : Number) : Option zP :=
 (zfi N a0.N 0).bind fun r1 => (zmo a0.Scale).bind fun r2 => some (⟨r1, r2⟩ : zP)
def zgh.b0 (N : Nat) (s0 : List Int) (s1 : List Int) (s5 : Int) : Option (Round Int ((List Int) × (List Int) × Int)) :=
 cond (decide (s5 ≥ 0)) ((idx s0 s5).bind fun x1001 => (idx s1 s5).bind fun x1002 => cond (x1001 != x1002) ((idx s0 s5).bind fun x1003 => (idx s1 s5).bind fun x1004 =>
  (zbg (decide (x1003 > x1004))).bind fun r1005 => some (.result (w6 ((w6 (2 * r1005)) - 1))))
  (some (.again (s0, s1, (w6 (s5 - 1)))))) (some (.leave (s0, s1, s5)))
def zgh.r0 (N : Nat) (x : (List Int) × (List Int) × Int) := zgh.b0 N x.1 x.2.1 x.2.2
def zgh (N : Nat) (a0 : List Int) (a1 : List Int) : Option Int :=
 cond ((a0.length : Int) != (a1.length : Int)) ((zbg (decide ((a0.length : Int) > (a1.length : Int)))).bind fun r1 =>
  some (w6 ((w6 (2 * r1)) - 1))) ((zj (zgh.r0 N) N (a0, a1, (w6 ((a0.length : Int) - 1)))).bind fun z3 => zb5 z3 (fun z =>
  some z) (fun y2 => some 0))
def zgj.b0 (N : Nat) (s0 : List Int) (s1 : List Int) (s5 : List Int) (s6 : Int) (s7 : Int) : Option (Stp ((List Int) × (List Int) × (List Int) × Int × Int)) :=
 cond (decide (s7 < (s0.length : Int))) ((idx s0 s7).bind fun x1001 => cond (decide (s7 < (s1.length : Int))) ((idx s1 s7).bind fun x1002 =>
  (zbg (decide ((w6 ((w6 (x1001 - s6)) - x1002)) < 0))).bind fun r1003 =>
  cond (Nat.ble ((s5.length + ([(w6 ((w6 ((w6 (x1001 - s6)) - x1002)) + (w6 (10 * r1003))))] : List Int).length) * 8) zbr)
  (some (.again (s0, s1, (s5 ++ ([(w6 ((w6 ((w6 (x1001 - s6)) - x1002)) + (w6 (10 * r1003))))] : List Int)), r1003, (w6 (s7 + 1))))) none)
  ((zbg (decide ((w6 (x1001 - s6)) < 0))).bind fun r1004 =>
  cond (Nat.ble ((s5.length + ([(w6 ((w6 (x1001 - s6)) + (w6 (10 * r1004))))] : List Int).length) * 8) zbr)
  (some (.again (s0, s1, (s5 ++ ([(w6 ((w6 (x1001 - s6)) + (w6 (10 * r1004))))] : List Int)), r1004, (w6 (s7 + 1))))) none))
  (some (.leave (s0, s1, s5, s6, s7)))
def zgj.r0 (N : Nat) (x : (List Int) × (List Int) × (List Int) × Int × Int) := zgj.b0 N x.1 x.2.1 x.2.2.1 x.2.2.2.1 x.2.2.2.2
def zgj (N : Nat) (a0 : List Int) (a1 : List Int) : Option ((List Int)) :=
 (zl (zgj.r0 N) N (a0, a1, [], 0, 0)).bind fun y1 => (zem N y1.2.2.1).bind fun r2 => some r2
def zb0.b2 (N : Nat) (s0 : List Int) (s1 : List Int) (s6 : List Int) (s7 : List Int) (s8 : Int) : Option (Stp ((List Int) × (List Int) × (List Int) × (List Int) × Int)) :=
 (zgh N s7 s1).bind fun r3001 => cond (decide (r3001 ≥ 0)) ((zgj N s7 s1).bind fun r3002 =>
  if 0 ≤ s8 then (if s8 < (s6.length : Int) then ((s6[s8.toNat]?).bind fun x3003 => if 0 ≤ s8 then (if s8 < (s6.length : Int) then ((s6[s8.toNat]?).bind fun x3004 =>
  some (.again (s0, s1, (s6.set s8.toNat (w6 (x3003 + 1))), r3002, s8))) else none) else none) else none) else none) (some (.leave (s0, s1, s6, s7, s8)))
def zb0.r2 (N : Nat) (x : (List Int) × (List Int) × (List Int) × (List Int) × Int) := zb0.b2 N x.1 x.2.1 x.2.2.1 x.2.2.2.1 x.2.2.2.2
def zb0.b0 (N : Nat) (s0 : List Int) (s1 : List Int) (s6 : List Int) (s7 : List Int) (s8 : Int) : Option (Stp ((List Int) × (List Int) × (List Int) × (List Int) × Int)) :=
 cond (decide (s8 ≥ 0)) ((idx s0 s8).bind fun x1001 => cond (Nat.ble ((([x1001] : List Int).length + s7.length) * 8) zbr)
  ((zem N (([x1001] : List Int) ++ s7)).bind fun r1002 => (zl (zb0.r2 N) N (s0, s1, s6, r1002, s8)).bind fun y1003 =>
  some (.again (y1003.1, y1003.2.1, y1003.2.2.1, y1003.2.2.2.1, (w6 (y1003.2.2.2.2 - 1))))) none) (some (.leave (s0, s1, s6, s7, s8)))
def zb0.r0 (N : Nat) (x : (List Int) × (List Int) × (List Int) × (List Int) × Int) := zb0.b0 N x.1 x.2.1 x.2.2.1 x.2.2.2.1 x.2.2.2.2
def zb0 (N : Nat) (a0 : List Int) (a1 : List Int) : Option ((List Int) × (List Int)) :=
 if 0 ≤ (a0.length : Int) then (if (a0.length : Int) ≤ (a0.length : Int) then (cond (Nat.ble ((a0.length : Int).toNat * 8) zbr)
  ((zl (zb0.r0 N) N (a0, a1, (List.replicate (a0.length : Int).toNat (0 : Int)), [], (w6 ((a0.length : Int) - 1)))).bind fun y1 =>
  (zem N y1.2.2.1).bind fun r2 => some (r2, y1.2.2.2.1)) none) else none) else none
def zf3.b0 (N : Nat) (s0 : List Int) (s1 : List Int) (s5 : List Int) (s6 : Int) (s7 : Int) : Option (Stp ((List Int) × (List Int) × (List Int) × Int × Int)) :=
 (cond (decide (s7 < (s0.length : Int))) (some true) (some (decide (s7 < (s1.length : Int))))).bind fun g1001 => (cond g1001 (some true) (some (decide (s6 > 0)))).bind fun g1002 =>
  cond g1002 (cond (decide (s7 < (s0.length : Int))) ((idx s0 s7).bind fun x1003 => cond (decide (s7 < (s1.length : Int))) ((idx s1 s7).bind fun x1004 =>
  cond (Nat.ble ((s5.length + ([((w6 ((w6 (s6 + x1003)) + x1004)).tmod 10)] : List Int).length) * 8) zbr)
  (some (.again (s0, s1, (s5 ++ ([((w6 ((w6 (s6 + x1003)) + x1004)).tmod 10)] : List Int)), (w6 ((w6 ((w6 (s6 + x1003)) + x1004)).tdiv 10)), (w6 (s7 + 1))))) none)
  (cond (Nat.ble ((s5.length + ([((w6 (s6 + x1003)).tmod 10)] : List Int).length) * 8) zbr)
  (some (.again (s0, s1, (s5 ++ ([((w6 (s6 + x1003)).tmod 10)] : List Int)), (w6 ((w6 (s6 + x1003)).tdiv 10)), (w6 (s7 + 1))))) none))
  (cond (decide (s7 < (s1.length : Int))) ((idx s1 s7).bind fun x1005 => cond (Nat.ble ((s5.length + ([((w6 (s6 + x1005)).tmod 10)] : List Int).length) * 8) zbr)
  (some (.again (s0, s1, (s5 ++ ([((w6 (s6 + x1005)).tmod 10)] : List Int)), (w6 ((w6 (s6 + x1005)).tdiv 10)), (w6 (s7 + 1))))) none)
  (cond (Nat.ble ((s5.length + ([(s6.tmod 10)] : List Int).length) * 8) zbr)
  (some (.again (s0, s1, (s5 ++ ([(s6.tmod 10)] : List Int)), (w6 (s6.tdiv 10)), (w6 (s7 + 1))))) none))) (some (.leave (s0, s1, s5, s6, s7)))
def zf3.r0 (N : Nat) (x : (List Int) × (List Int) × (List Int) × Int × Int) := zf3.b0 N x.1 x.2.1 x.2.2.1 x.2.2.2.1 x.2.2.2.2
def zf3 (N : Nat) (a0 : List Int) (a1 : List Int) : Option ((List Int)) :=
 (zl (zf3.r0 N) N (a0, a1, [], 0, 0)).bind fun y1 => some y1.2.2.1
def zt3 (N : Nat) (a0 : zP) (a1 : Int) (a2 : Bool) : Option zK :=
 if 0 ≤ a1 then (if a1 ≤ a1 then (cond (Nat.ble (a1.toNat * 8) zbr) (cond (Nat.ble (((List.replicate a1.toNat (0 : Int)).length + a0.Top.zQ.length) * 8) zbr)
  ((zem N ((List.replicate a1.toNat (0 : Int)) ++ a0.Top.zQ)).bind fun r1 => (zb0 N r1 a0.zW).bind fun r2 =>
  (cond a2 ((zf3 N r2.2 r2.2).bind fun r3 => (zgh N r3 a0.zW).bind fun r4 => some (decide (r4 ≥ 0))) (some false)).bind fun g5 =>
  cond g5 ((zf3 N r2.1 ([1] : List Int)).bind fun r6 => (cond a0.Top.Below (some (decide ((r6.length : Int) > 0))) (some false)).bind fun g7 => some (⟨g7, r6⟩ : zK))
  ((cond a0.Top.Below (some (decide ((r2.1.length : Int) > 0))) (some false)).bind fun g8 => some (⟨g8, r2.1⟩ : zK))) none) none) else none) else none
def zfm.b0 (N : Nat) (s3 : Int) (s4 : Int) (b1 : zK) : Option (Stp (Int × Int × zK)) :=
 cond (decide (s4 ≥ 0)) ((idx b1.zQ s4).bind fun x1001 => some (.again ((w6 ((w6 (10 * s3)) + x1001)), (w6 (s4 - 1)), b1)))
  (some (.leave (s3, s4, b1)))
def zfm.r0 (N : Nat) (x : Int × Int × zK) := zfm.b0 N x.1 x.2.1 x.2.2
def zfm (N : Nat) (a0 : zK) : Option Int :=
 (zl (zfm.r0 N) N (0, (w6 ((a0.zQ.length : Int) - 1)), a0)).bind fun y1 => cond y1.2.2.Below (some (w6 (0 - y1.1))) (some y1.1)
def zrc (N : Nat) (a0 : zP) (a1 : DataType) (a2 : Bool) : Option (Int × Int) :=
 (zt3 N a0 a1.Scale a2).bind fun r1 => cond (decide ((r1.zQ.length : Int) > a1.Length)) (some (0, 19)) ((zfm N r1).bind fun r2 => some (r2, 0))
def zr1 (N : Nat) (a0 : Number) (a1 : DataType) (a2 : Bool) : Option (Value × Int) :=
 (zly a0).bind fun r1 => cond (r1 != 0) (some ((⟨0, (⟨#[]⟩ : ByteArray)⟩ : Value), r1)) ((zn5 a1).bind fun r2 => cond (r2 != 0)
  (some ((⟨0, (⟨#[]⟩ : ByteArray)⟩ : Value), r2)) ((zv6 N a0).bind fun r3 => (zrc N r3 a1 a2).bind fun r4 => some ((⟨r4.1, (⟨#[]⟩ : ByteArray)⟩ : Value), r4.2)))
def zq3 (N : Nat) (a0 : zB) (a1 : zC) (a2 : Int) (a3 : Number) (a4 : Bool) : Option (Int × zC) :=
 (idx a0.zA a2).bind fun x1 => (zr1 N a3 x1.zJ a4).bind fun r2 => cond (r2.2 != 0) (some (2, a1)) ((zdx N a0 a1 a2).bind fun r3 => cond (r3.2 != 0)
  (some (r3.2, a1)) ((zbe N x1.zJ r2.1).bind fun r4 => (zc9 N a1.Storage r3.1 r4).bind fun r5 =>
  some (0, (⟨r5, a1.At, a1.Stack, a1.Lines, a1.Status, a1.Exception, a1.Steps⟩ : zC))))
def zqe (N : Nat) (a0 : Number) (a1 : Number) : Option (zK × zK × Int) :=
 (zfi N a0.N (w6 ((if a1.Scale > a0.Scale then a1.Scale else a0.Scale) - a0.Scale))).bind fun r1 =>
  (zfi N a1.N (w6 ((if a1.Scale > a0.Scale then a1.Scale else a0.Scale) - a1.Scale))).bind fun r2 =>
  some (r1, r2, (if a1.Scale > a0.Scale then a1.Scale else a0.Scale))
def zud (N : Nat) (a0 : zK) (a1 : zK) : Option zK :=
 cond (a0.Below == a1.Below) ((zf3 N a0.zQ a1.zQ).bind fun r1 => some (⟨a0.Below, r1⟩ : zK)) ((zgh N a0.zQ a1.zQ).bind fun r2 =>
  cond (decide (r2 < 0)) ((zgj N a1.zQ a0.zQ).bind fun r3 => (cond a1.Below (some (decide ((r3.length : Int) > 0))) (some false)).bind fun g4 =>
  some (⟨g4, r3⟩ : zK)) ((zgj N a0.zQ a1.zQ).bind fun r5 => (cond a0.Below (some (decide ((r5.length : Int) > 0))) (some false)).bind fun g6 =>
  some (⟨g6, r5⟩ : zK)))
def zcc.b2 (N : Nat) (s5 : List Int) (s6 : Int) (s7 : List Int) (s8 : Int) (s9 : Int) (b2 : zK) (b3 : zK) (b4 : zK) : Option (Stp ((List Int) × Int × (List Int) × Int × Int × zK × zK × zK)) :=
 (cond (decide (s9 < (b2.zQ.length : Int))) (some true) (some (decide (s8 > 0)))).bind fun g3001 => cond g3001 (cond (decide (s9 < (b2.zQ.length : Int)))
  ((idx b2.zQ s9).bind fun x3002 => (idx b3.zQ s6).bind fun x3003 =>
  cond (Nat.ble ((s7.length + ([((w6 (s8 + (w6 (x3002 * x3003)))).tmod 10)] : List Int).length) * 8) zbr)
  (some (.again (s5, s6, (s7 ++ ([((w6 (s8 + (w6 (x3002 * x3003)))).tmod 10)] : List Int)), (w6 ((w6 (s8 + (w6 (x3002 * x3003)))).tdiv 10)), (w6 (s9 + 1)), b2, b3, b4))) none)
  (cond (Nat.ble ((s7.length + ([(s8.tmod 10)] : List Int).length) * 8) zbr)
  (some (.again (s5, s6, (s7 ++ ([(s8.tmod 10)] : List Int)), (w6 (s8.tdiv 10)), (w6 (s9 + 1)), b2, b3, b4))) none))
  (some (.leave (s5, s6, s7, s8, s9, b2, b3, b4)))
def zcc.r2 (N : Nat) (x : (List Int) × Int × (List Int) × Int × Int × zK × zK × zK) := zcc.b2 N x.1 x.2.1 x.2.2.1 x.2.2.2.1 x.2.2.2.2.1 x.2.2.2.2.2.1 x.2.2.2.2.2.2.1 x.2.2.2.2.2.2.2
def zcc.b0 (N : Nat) (s5 : List Int) (s6 : Int) (b2 : zK) (b3 : zK) (b4 : zK) : Option (Stp ((List Int) × Int × zK × zK × zK)) :=
 cond (decide (s6 < (b3.zQ.length : Int))) (if 0 ≤ s6 then (if s6 ≤ s6 then (cond (Nat.ble (s6.toNat * 8) zbr)
  ((zl (zcc.r2 N) N (s5, s6, (List.replicate s6.toNat (0 : Int)), 0, 0, b2, b3, b4)).bind fun y1001 => (zf3 N y1001.1 y1001.2.2.1).bind fun r1002 =>
  some (.again (r1002, (w6 (y1001.2.1 + 1)), y1001.2.2.2.2.2.1, y1001.2.2.2.2.2.2.1, y1001.2.2.2.2.2.2.2))) none) else none) else none)
  (some (.leave (s5, s6, b2, b3, b4)))
def zcc.r0 (N : Nat) (x : (List Int) × Int × zK × zK × zK) := zcc.b0 N x.1 x.2.1 x.2.2.1 x.2.2.2.1 x.2.2.2.2
def zcc (N : Nat) (a0 : zK) (a1 : zK) : Option zK :=
 (zl (zcc.r0 N) N ([], 0, a0, a1, (⟨false, []⟩ : zK))).bind fun y1 => (zem N y1.1).bind fun r2 => (cond (!(y1.2.2.1.Below == y1.2.2.2.1.Below))
  (some (decide ((r2.length : Int) > 0))) (some false)).bind fun g3 => some (⟨g3, r2⟩ : zK)
def z05 (N : Nat) (a0 : Int) (a1 : Number) (a2 : Number) : Option (zP × Int) :=
 (zqe N a1 a2).bind fun r1 => (cond (a0 == 3) (some true) (some (a0 == 4))).bind fun g2 => (cond g2 (some ((r1.2.1.zQ.length : Int) == 0))
  (some false)).bind fun g3 => cond g3 (some ((⟨(⟨false, []⟩ : zK), []⟩ : zP), 20)) (cond (a0 == 1) ((cond (!r1.2.1.Below)
  (some (decide ((r1.2.1.zQ.length : Int) > 0))) (some false)).bind fun g4 => (zud N r1.1 (⟨g4, r1.2.1.zQ⟩ : zK)).bind fun r5 =>
  (zmo r1.2.2).bind fun r6 => some ((⟨r5, r6⟩ : zP), 0)) (cond (a0 == 2) ((zcc N r1.1 r1.2.1).bind fun r7 =>
  (zmo (w6 (2 * r1.2.2))).bind fun r8 => some ((⟨r7, r8⟩ : zP), 0)) (cond (a0 == 3)
  (some ((⟨(⟨(!(r1.1.Below == r1.2.1.Below)), r1.1.zQ⟩ : zK), r1.2.1.zQ⟩ : zP), 0)) (cond (a0 == 4)
  ((zb0 N r1.1.zQ r1.2.1.zQ).bind fun r9 => (zmo r1.2.2).bind fun r10 => some ((⟨(⟨r1.1.Below, r9.2⟩ : zK), r10⟩ : zP), 0))
  ((zud N r1.1 r1.2.1).bind fun r11 => (zmo r1.2.2).bind fun r12 => some ((⟨r11, r12⟩ : zP), 0))))))
def zkz (N : Nat) (a0 : zT) (a1 : Number) (a2 : Number) : Option (Value × Int) :=
 (zf a0.Op 0 4).bind fun r1 => cond (!r1) (some ((⟨0, (⟨#[]⟩ : ByteArray)⟩ : Value), 4)) ((zly a1).bind fun r2 => cond (r2 != 0)
  (some ((⟨0, (⟨#[]⟩ : ByteArray)⟩ : Value), r2)) ((zly a2).bind fun r3 => cond (r3 != 0) (some ((⟨0, (⟨#[]⟩ : ByteArray)⟩ : Value), r3))
  ((zn5 a0.zJ).bind fun r4 => cond (r4 != 0) (some ((⟨0, (⟨#[]⟩ : ByteArray)⟩ : Value), r4)) ((z05 N a0.Op a1 a2).bind fun r5 => cond (r5.2 != 0)
  (some ((⟨0, (⟨#[]⟩ : ByteArray)⟩ : Value), r5.2)) ((zrc N r5.1 a0.zJ a0.Half).bind fun r6 => some ((⟨r6.1, (⟨#[]⟩ : ByteArray)⟩ : Value), r6.2))))))
def zm6 (N : Nat) (a0 : zB) (a1 : zC) (a2 : zI) : Option (Int × zC) :=
 (idx a2.Args 0).bind fun x1 => (cond (a2.Op == 0) ((zlw a0 x1).bind fun r2 => some (!r2)) (some false)).bind fun g3 => cond g3 ((idx a2.Args 1).bind fun x4 =>
  (zju N a0 a1 x4).bind fun r5 => cond (r5.2 != 0) (some (r5.2, a1)) ((zdx N a0 a1 x1).bind fun r6 => cond (r6.2 != 0) (some (r6.2, a1))
  ((idx a0.zA x1).bind fun x7 => (zjx N r5.1 x7.zJ.Length).bind fun r8 => (zc9 N a1.Storage r6.1 r8).bind fun r9 =>
  some (0, (⟨r9, a1.At, a1.Stack, a1.Lines, a1.Status, a1.Exception, a1.Steps⟩ : zC))))) ((idx a2.Args 1).bind fun x10 => (zdq N a0 a1 x10).bind fun r11 =>
  cond (r11.2 != 0) (some (r11.2, a1)) ((cond (a2.Op == 0) (some true) (some (a2.Op == 1))).bind fun g12 => cond g12 ((zq3 N a0 a1 x1 r11.1 (a2.Op == 1)).bind fun r13 =>
  some (r13.1, r13.2)) ((idx a2.Args 2).bind fun x14 => (zdq N a0 a1 x14).bind fun r15 => cond (r15.2 != 0) (some (r15.2, a1))
  (if 0 ≤ (w6 (a2.Op - 2)) then (if (w6 (a2.Op - 2)) < (([0, 1, 2, 3, 4] : List Int).length : Int) then ((([0, 1, 2, 3, 4] : List Int)[(w6 (a2.Op - 2)).toNat]?).bind fun x16 =>
  (idx a0.zA x1).bind fun x17 => (zkz N (⟨x16, x17.zJ, false⟩ : zT) r11.1 r15.1).bind fun r18 => cond (r18.2 == 20) (some (3, a1))
  (cond (r18.2 != 0) (some (2, a1)) ((zdx N a0 a1 x1).bind fun r19 => cond (r19.2 != 0) (some (r19.2, a1)) ((zbe N x17.zJ r18.1).bind fun r20 =>
  (zc9 N a1.Storage r19.1 r20).bind fun r21 => some (0, (⟨r21, a1.At, a1.Stack, a1.Lines, a1.Status, a1.Exception, a1.Steps⟩ : zC)))))) else none) else none))))
def zxi (N : Nat) (a0 : Number) (a1 : Number) : Option Int :=
 (zqe N a0 a1).bind fun r1 => (zud N r1.1 (⟨(!r1.2.1.Below), r1.2.1.zQ⟩ : zK)).bind fun r2 => cond ((r2.zQ.length : Int) == 0) (some 0)
  ((zbg r2.Below).bind fun r3 => some (w6 (1 - (w6 (2 * r3)))))
def zm9 (N : Nat) (a0 : zB) (a1 : zC) (a2 : zI) : Option (Bool × Int) :=
 (idx a2.Args 0).bind fun x1 => (zlw a0 x1).bind fun r2 => cond r2 ((idx a2.Args 0).bind fun x3 => (zdq N a0 a1 x3).bind fun r4 => cond (r4.2 != 0)
  (some (false, r4.2)) ((idx a2.Args 1).bind fun x5 => (zdq N a0 a1 x5).bind fun r6 => cond (r6.2 != 0) (some (false, r6.2)) ((zxi N r4.1 r6.1).bind fun r7 =>
  cond (a2.Op == 7) (some ((r7 == 0), 0)) (some ((decide (r7 < 0)), 0))))) ((idx a2.Args 0).bind fun x8 => (zju N a0 a1 x8).bind fun r9 => cond (r9.2 != 0)
  (some (false, r9.2)) ((idx a2.Args 1).bind fun x10 => (zju N a0 a1 x10).bind fun r11 => cond (r11.2 != 0) (some (false, r11.2))
  ((zjx N r9.1 (if (r11.1.size : Int) > (r9.1.size : Int) then (r11.1.size : Int) else (r9.1.size : Int))).bind fun r12 =>
  (zjx N r11.1 (if (r11.1.size : Int) > (r9.1.size : Int) then (r11.1.size : Int) else (r9.1.size : Int))).bind fun r13 =>
  (zbg (!((Op.bytesLess r12.toList r13.toList) || (r12.toList == r13.toList)))).bind fun r14 => (zbg (Op.bytesLess r12.toList r13.toList)).bind fun r15 =>
  cond (a2.Op == 7) (some (((w6 (r14 - r15)) == 0), 0)) (some ((decide ((w6 (r14 - r15)) < 0)), 0)))))
def zxh (N : Nat) (a0 : Pointer) : Option ByteArray :=
 (zbo N a0.Kind 1).bind fun r1 => if ((r1.size + (⟨#[0]⟩ : ByteArray).size : Nat) : Int) > IntKind.i64.max then none else (zbo N a0.Authority 2).bind fun r2 =>
  if (((r1 ++ (⟨#[0]⟩ : ByteArray)).size + r2.size : Nat) : Int) > IntKind.i64.max then none else (zbo N a0.Address.zS 6).bind fun r3 =>
  if ((((r1 ++ (⟨#[0]⟩ : ByteArray)) ++ r2).size + r3.size : Nat) : Int) > IntKind.i64.max then none else (zbo N a0.Address.Offset 6).bind fun r4 =>
  if (((((r1 ++ (⟨#[0]⟩ : ByteArray)) ++ r2) ++ r3).size + r4.size : Nat) : Int) > IntKind.i64.max then none else some ((((r1 ++ (⟨#[0]⟩ : ByteArray)) ++ r2) ++ r3) ++ r4)
def zjv (N : Nat) (a0 : Storage) (a1 : Int) (a2 : Pointer) : Option Storage :=
 (zxh N a2).bind fun r1 => (zc9 N a0 a1 r1).bind fun r2 =>
  if 0 ≤ (w6 (a1.tdiv 16)) then (if (w6 (a1.tdiv 16)) < (r2.Tags.length : Int) then ((r2.Tags[(w6 (a1.tdiv 16)).toNat]?).bind fun x3 =>
  some (⟨r2.Bytes, (r2.Tags.set ((w6 (a1.tdiv 16)).toNat) true)⟩ : Storage)) else none) else none
def zoj (N : Nat) (a0 : Number) : Option Int :=
 (zd8 N a0.Scale).bind fun r1 => if r1 = 0 then none else some (w6 ((a0.N : Int).tdiv r1))
def zol : Nat → Int → Option ByteArray
 | 0, _ => none
 | N + 1, a0 =>
 cond (decide (a0 < (-9))) ((zol N (w6 (0 - (w6 (a0.tdiv 10))))).bind fun r1 =>
  if (((⟨#[45]⟩ : ByteArray).size + r1.size : Nat) : Int) > IntKind.i64.max then none else (zol N (w6 (0 - (a0.tmod 10)))).bind fun r2 =>
  if ((((⟨#[45]⟩ : ByteArray) ++ r1).size + r2.size : Nat) : Int) > IntKind.i64.max then none else some (((⟨#[45]⟩ : ByteArray) ++ r1) ++ r2)) (cond (decide (a0 < 0))
  ((zol N (w6 (0 - a0))).bind fun r3 =>
  if (((⟨#[45]⟩ : ByteArray).size + r3.size : Nat) : Int) > IntKind.i64.max then none else some ((⟨#[45]⟩ : ByteArray) ++ r3)) (cond (decide (a0 < 10))
  (some (zd3 ([(IntKind.wrap .u8 (w6 (48 + a0)))] : List Int))) ((zol N (w6 (a0.tdiv 10))).bind fun r4 =>
  if ((r4.size + (zd3 ([(IntKind.wrap .u8 (w6 (48 + (a0.tmod 10))))] : List Int)).size : Nat) : Int) > IntKind.i64.max then none else some (r4 ++ (zd3 ([(IntKind.wrap .u8 (w6 (48 + (a0.tmod 10))))] : List Int))))))
def zhs.b0 (N : Nat) (s3 : ByteArray) (b1 : Number) : Option (Stp (ByteArray × Number)) :=
 cond (decide ((s3.size : Int) ≤ b1.Scale))
  (if (((⟨#[48]⟩ : ByteArray).size + s3.size : Nat) : Int) > IntKind.i64.max then none else some (.again (((⟨#[48]⟩ : ByteArray) ++ s3), b1))) (some (.leave (s3, b1)))
def zhs.r0 (N : Nat) (x : ByteArray × Number) := zhs.b0 N x.1 x.2
def zhs (N : Nat) (a0 : Number) : Option ByteArray :=
 (zna a0.N).bind fun r1 => (zol N r1).bind fun r2 => (zl (zhs.r0 N) N (r2, a0)).bind fun y3 => cond (decide (y3.2.Scale > 0))
  (if 0 ≤ (w6 ((y3.1.size : Int) - y3.2.Scale)) ∧ (w6 ((y3.1.size : Int) - y3.2.Scale)) ≤ (y3.1.size : Int) then (if 0 ≤ (0 : Int) ∧ (0 : Int) ≤ (w6 ((y3.1.size : Int) - y3.2.Scale)) then (if (((y3.1.extract (0 : Int).toNat (w6 ((y3.1.size : Int) - y3.2.Scale)).toNat).size + (⟨#[46]⟩ : ByteArray).size : Nat) : Int) > IntKind.i64.max then none else if 0 ≤ (w6 ((y3.1.size : Int) - y3.2.Scale)) ∧ (w6 ((y3.1.size : Int) - y3.2.Scale)) ≤ (y3.1.size : Int) then (if ((((y3.1.extract (0 : Int).toNat (w6 ((y3.1.size : Int) - y3.2.Scale)).toNat) ++ (⟨#[46]⟩ : ByteArray)).size + (y3.1.extract (w6 ((y3.1.size : Int) - y3.2.Scale)).toNat y3.1.size).size : Nat) : Int) > IntKind.i64.max then none else cond (decide (y3.2.N < 0))
  (if (((⟨#[45]⟩ : ByteArray).size + (((y3.1.extract (0 : Int).toNat (w6 ((y3.1.size : Int) - y3.2.Scale)).toNat) ++ (⟨#[46]⟩ : ByteArray)) ++ (y3.1.extract (w6 ((y3.1.size : Int) - y3.2.Scale)).toNat y3.1.size)).size : Nat) : Int) > IntKind.i64.max then none else some ((⟨#[45]⟩ : ByteArray) ++ (((y3.1.extract (0 : Int).toNat (w6 ((y3.1.size : Int) - y3.2.Scale)).toNat) ++ (⟨#[46]⟩ : ByteArray)) ++ (y3.1.extract (w6 ((y3.1.size : Int) - y3.2.Scale)).toNat y3.1.size))))
  (some (((y3.1.extract (0 : Int).toNat (w6 ((y3.1.size : Int) - y3.2.Scale)).toNat) ++ (⟨#[46]⟩ : ByteArray)) ++ (y3.1.extract (w6 ((y3.1.size : Int) - y3.2.Scale)).toNat y3.1.size)))) else none) else none) else none)
  (cond (decide (y3.2.N < 0)) (if (((⟨#[45]⟩ : ByteArray).size + y3.1.size : Nat) : Int) > IntKind.i64.max then none else some ((⟨#[45]⟩ : ByteArray) ++ y3.1)) (some y3.1))
def zrz (N : Nat) (a0 : zB) (a1 : zC) (a2 : Int) : Option (ByteArray × Int) :=
 (zlw a0 a2).bind fun r1 => cond (!r1) ((zju N a0 a1 a2).bind fun r2 => some (r2.1, r2.2)) ((zdq N a0 a1 a2).bind fun r3 => cond (r3.2 != 0)
  (some ((⟨#[]⟩ : ByteArray), r3.2)) ((zhs N r3.1).bind fun r4 => some (r4, 0)))
def zae (N : Nat) (a0 : zB) (a1 : zC) : Option (Int × Int × zC) :=
 (idx a0.zF a1.At).bind fun x1 => (zw N a0).bind fun r2 => (cond (x1.Op == 0) (some (x1.Op == 0)) (cond (x1.Op == 1) (some (x1.Op == 1)) (cond (x1.Op == 2)
  (some (x1.Op == 2)) (cond (x1.Op == 3) (some (x1.Op == 3)) (cond (x1.Op == 4) (some (x1.Op == 4)) (cond (x1.Op == 5) (some (x1.Op == 5)) (some (x1.Op == 6)))))))).bind fun q3 =>
  cond q3 ((zm6 N a0 a1 x1).bind fun r4 => some ((w6 (a1.At + 1)), r4.1, r4.2)) ((cond (x1.Op == 7) (some (x1.Op == 7)) (some (x1.Op == 8))).bind fun q5 =>
  cond q5 ((zm9 N a0 a1 x1).bind fun r6 => cond (r6.2 != 0) (some (0, r6.2, a1)) (cond r6.1 ((idx x1.Args 2).bind fun x7 => (idx a0.zA x7).bind fun x8 =>
  some (x8.Target, 0, a1)) (some ((w6 (a1.At + 1)), 0, a1)))) (cond (x1.Op == 9) ((idx x1.Args 0).bind fun x9 => (idx a0.zA x9).bind fun x10 =>
  some (x10.Target, 0, a1)) (cond (x1.Op == 10) ((idx x1.Args 1).bind fun x11 => (zdx N a0 a1 x11).bind fun r12 => cond (r12.2 != 0) (some (0, r12.2, a1))
  ((idx x1.Args 0).bind fun x13 => (idx r2.1 x13).bind fun x14 => (zjv N a1.Storage x14 (⟨0, (⟨1, r12.1⟩ : Address), 0⟩ : Pointer)).bind fun r15 =>
  some ((w6 (a1.At + 1)), 0, (⟨r15, a1.At, a1.Stack, a1.Lines, a1.Status, a1.Exception, a1.Steps⟩ : zC)))) (cond (x1.Op == 11) ((idx x1.Args 1).bind fun x16 =>
  (idx r2.1 x16).bind fun x17 => (zgq N a1.Storage x17).bind fun r18 => cond (r18.2 != 0) (some (0, 4, a1)) ((idx x1.Args 0).bind fun x19 => (idx r2.1 x19).bind fun x20 =>
  (zjv N a1.Storage x20 r18.1).bind fun r21 => some ((w6 (a1.At + 1)), 0, (⟨r21, a1.At, a1.Stack, a1.Lines, a1.Status, a1.Exception, a1.Steps⟩ : zC))))
  (cond (x1.Op == 12) ((idx x1.Args 0).bind fun x22 => (idx r2.1 x22).bind fun x23 => (zgq N a1.Storage x23).bind fun r24 => cond (r24.2 != 0) (some (0, 4, a1))
  ((idx x1.Args 1).bind fun x25 => (zdq N a0 a1 x25).bind fun r26 => cond (r26.2 != 0) (some (0, r26.2, a1)) ((zoj N r26.1).bind fun r27 =>
  (zf (w6 (r24.1.Address.Offset + r27)) 0 16777215).bind fun r28 => cond (!r28) (some (0, 5, a1)) ((idx x1.Args 0).bind fun x29 =>
  (idx r2.1 x29).bind fun x30 =>
  (zjv N a1.Storage x30 (⟨r24.1.Kind, (⟨r24.1.Address.zS, (w6 (r24.1.Address.Offset + r27))⟩ : Address), r24.1.Authority⟩ : Pointer)).bind fun r31 =>
  some ((w6 (a1.At + 1)), 0, (⟨r31, a1.At, a1.Stack, a1.Lines, a1.Status, a1.Exception, a1.Steps⟩ : zC)))))) (cond (x1.Op == 13)
  (cond ((a1.Stack.length : Int) == 6) (some (0, 6, a1)) (cond (Nat.ble ((a1.Stack.length + ([a1.At] : List Int).length) * 8) zbr) ((idx x1.Args 0).bind fun x32 =>
  (idx a0.zA x32).bind fun x33 =>
  some (x33.Target, 0, (⟨a1.Storage, a1.At, (a1.Stack ++ ([a1.At] : List Int)), a1.Lines, a1.Status, a1.Exception, a1.Steps⟩ : zC))) none)) (cond (x1.Op == 14)
  (cond ((a1.Stack.length : Int) == 0) (some ((w6 (a1.At + 1)), 0, (⟨a1.Storage, a1.At, a1.Stack, a1.Lines, 1, a1.Exception, a1.Steps⟩ : zC)))
  (if 0 ≤ (w6 ((a1.Stack.length : Int) - 1)) then (if (w6 ((a1.Stack.length : Int) - 1)) < (a1.Stack.length : Int) then ((a1.Stack[(w6 ((a1.Stack.length : Int) - 1)).toNat]?).bind fun x34 =>
  if 0 ≤ (w6 ((a1.Stack.length : Int) - 1)) ∧ (w6 ((a1.Stack.length : Int) - 1)) ≤ (a1.Stack.length : Int) then (if 0 ≤ (0 : Int) ∧ (0 : Int) ≤ (w6 ((a1.Stack.length : Int) - 1)) then (some ((w6 (x34 + 1)), 0, (⟨a1.Storage, a1.At, ((a1.Stack.drop ((0 : Int).toNat)).take ((w6 ((a1.Stack.length : Int) - 1)).toNat - (0 : Int).toNat)), a1.Lines, a1.Status, a1.Exception, a1.Steps⟩ : zC))) else none) else none) else none) else none))
  (cond (x1.Op == 15) ((idx x1.Args 0).bind fun x35 => (zdq N a0 a1 x35).bind fun r36 => cond (r36.2 != 0) (some (0, r36.2, a1)) ((zoj N r36.1).bind fun r37 =>
  (zf r37 100 999).bind fun r38 => cond r38 (some (0, r37, a1)) (some (0, 2, a1)))) (cond (x1.Op == 16) ((idx x1.Args 0).bind fun x39 =>
  (zq3 N a0 a1 x39 (⟨a1.Exception, 0⟩ : Number) false).bind fun r40 => some ((w6 (a1.At + 1)), r40.1, r40.2)) (cond (x1.Op == 17)
  ((idx x1.Args 0).bind fun x41 => (zrz N a0 a1 x41).bind fun r42 => cond (r42.2 != 0) (some (0, r42.2, a1)) (cond ((a1.Lines.length : Int) == 40)
  (some ((w6 (a1.At + 1)), 0, (⟨a1.Storage, a1.At, a1.Stack, a1.Lines, 3, a1.Exception, a1.Steps⟩ : zC)))
  (cond (Nat.ble ((a1.Lines.length + ([r42.1] : List ByteArray).length) * 16) zbr)
  (some ((w6 (a1.At + 1)), 0, (⟨a1.Storage, a1.At, a1.Stack, (a1.Lines ++ ([r42.1] : List ByteArray)), a1.Status, a1.Exception, a1.Steps⟩ : zC))) none)))
  (cond (x1.Op == 18) (some ((w6 (a1.At + 1)), 0, (⟨a1.Storage, a1.At, a1.Stack, a1.Lines, 1, a1.Exception, a1.Steps⟩ : zC)))
  (some ((w6 (a1.At + 1)), 0, a1)))))))))))))
def zer.b0 (N : Nat) (s1 : Int) (s2 : Int) (s7 : Int) (b3 : zB) : Option (Round Int (Int × Int × Int × zB)) :=
 cond (decide (s7 < (b3.zL.length : Int))) ((idx b3.zL s7).bind fun x1001 => (cond (decide (x1001.From ≤ s1)) (some (decide (s1 < x1001.To)))
  (some false)).bind fun g1002 => (cond g1002 ((cond (x1001.Exception == 0) (some true) (some (x1001.Exception == s2))).bind fun g1003 => some g1003) (some false)).bind fun g1004 =>
  cond g1004 (some (.result x1001.Handler)) (some (.again (s1, s2, (w6 (s7 + 1)), b3)))) (some (.leave (s1, s2, s7, b3)))
def zer.r0 (N : Nat) (x : Int × Int × Int × zB) := zer.b0 N x.1 x.2.1 x.2.2.1 x.2.2.2
def zer (N : Nat) (a0 : zB) (a1 : Int) (a2 : Int) : Option Int :=
 (zj (zer.r0 N) N (a1, a2, 0, a0)).bind fun z2 => zb5 z2 (fun z => some z) (fun y1 => some (-1))
def zhp.b0 (N : Nat) (s2 : Int) (b3 : zB) (b4 : zC) (b6 : zC) : Option (Round zC (Int × zB × zC × zC)) :=
 (zer N b3 b4.At s2).bind fun r1001 => cond (r1001 != (-1)) (some (.result (⟨b4.Storage, r1001, b4.Stack, b4.Lines, b4.Status, b4.Exception, b4.Steps⟩ : zC)))
  (cond ((b4.Stack.length : Int) == 0) (some (.result (⟨b4.Storage, b4.At, b4.Stack, b4.Lines, 2, b4.Exception, b4.Steps⟩ : zC)))
  ((idx b4.Stack (w6 ((b4.Stack.length : Int) - 1))).bind fun x1002 =>
  if 0 ≤ (w6 ((b4.Stack.length : Int) - 1)) ∧ (w6 ((b4.Stack.length : Int) - 1)) ≤ (b4.Stack.length : Int) then (if 0 ≤ (0 : Int) ∧ (0 : Int) ≤ (w6 ((b4.Stack.length : Int) - 1)) then (some (.again (s2, b3, (⟨b4.Storage, x1002, ((b4.Stack.take (w6 ((b4.Stack.length : Int) - 1)).toNat).drop (0 : Int).toNat), b4.Lines, b4.Status, b4.Exception, b4.Steps⟩ : zC), b6))) else none) else none))
def zhp.r0 (N : Nat) (x : Int × zB × zC × zC) := zhp.b0 N x.1 x.2.1 x.2.2.1 x.2.2.2
def zhp (N : Nat) (a0 : zB) (a1 : zC) (a2 : Int) : Option zC :=
 (zj (zhp.r0 N) N (a2, a0, (⟨a1.Storage, a1.At, a1.Stack, a1.Lines, a1.Status, a2, a1.Steps⟩ : zC), (⟨(⟨(⟨#[]⟩ : ByteArray), []⟩ : Storage), 0, [], [], 0, 0, 0⟩ : zC))).bind fun z2 =>
  zb5 z2 (fun z => some z) (fun y1 => some y1.2.2.2)
def z4n (N : Nat) (a0 : zB) (a1 : zC) : Option zC :=
 (zkf a1).bind fun r1 => (zae N a0 (⟨r1.Storage, r1.At, r1.Stack, r1.Lines, r1.Status, r1.Exception, (w6 (r1.Steps + 1))⟩ : zC)).bind fun r2 =>
  cond (r2.2.1 != 0) ((zkf a1).bind fun r3 =>
  (zhp N a0 (⟨r3.Storage, r3.At, r3.Stack, r3.Lines, r3.Status, r3.Exception, (w6 (r3.Steps + 1))⟩ : zC) r2.2.1).bind fun r4 => (cond (r4.Status == 0)
  (some (r4.Steps == 300)) (some false)).bind fun g5 => cond g5 (some (⟨r4.Storage, r4.At, r4.Stack, r4.Lines, 3, r4.Exception, r4.Steps⟩ : zC)) (some r4))
  (cond (r2.2.2.Status == 0) (cond (r2.1 == (a0.zF.length : Int))
  (some (⟨r2.2.2.Storage, r2.2.2.At, r2.2.2.Stack, r2.2.2.Lines, 1, r2.2.2.Exception, r2.2.2.Steps⟩ : zC)) ((cond (r2.2.2.Status == 0) (some (r2.2.2.Steps == 300))
  (some false)).bind fun g6 => cond g6 (some (⟨r2.2.2.Storage, r2.1, r2.2.2.Stack, r2.2.2.Lines, 3, r2.2.2.Exception, r2.2.2.Steps⟩ : zC))
  (some (⟨r2.2.2.Storage, r2.1, r2.2.2.Stack, r2.2.2.Lines, r2.2.2.Status, r2.2.2.Exception, r2.2.2.Steps⟩ : zC)))) ((cond (r2.2.2.Status == 0) (some (r2.2.2.Steps == 300))
  (some false)).bind fun g7 => cond g7 (some (⟨r2.2.2.Storage, r2.2.2.At, r2.2.2.Stack, r2.2.2.Lines, 3, r2.2.2.Exception, r2.2.2.Steps⟩ : zC)) (some r2.2.2)))
theorem zqu (N : Nat) (l : List Int) (h : l.length < N) (hl : l.length < 1000000000) : zq N l = some (zhe l) := by
 unfold zq
 have := zbh (f := zq.r0 N) (fun i => (l, (l.length : Int), (i : Int))) (fun i => (l[i]?).bind fun x => if x = 0 then none else some x) l.length
  (fun i hi => by
   have hx := lge hi; simp only [zq.r0, zq.b0, zai, hx, obs, dct (show (i : Int) < (l.length : Int) by omega), ctr]
   by_cases h0 : l[i] = 0
   · simp only [h0, bsf, cfa, if_true]; rw [w6e]; rfl
   · simp only [h0, if_false]; rw [show (l[i] != 0) = true by simpa using h0]; rfl)
  (by simp only [zq.r0, zq.b0, dcf (show ¬ (l.length : Int) < (l.length : Int) by omega), cfa]) h
 simp only [nc0] at this
 rw [this, zmh, ← zot]
 simp only [obs]
 cases l.findSome? (fun x => if x = 0 then none else some x) <;> rfl
def inB (n lo hi : Int) : Bool := decide (lo ≤ n) && decide (n ≤ hi)
theorem z4t (n lo hi : Int) : zen n lo hi = some (inB n lo hi) := by
 unfold zen inB
 cases decide (lo ≤ n) <;> rfl
theorem zhk (n lo hi : Int) : zf n lo hi = some (inB n lo hi) := by
 unfold zf inB
 cases decide (lo ≤ n) <;> rfl
theorem zrg (b : Bool) (e : Int) : za3 b e = some (cond b e 0) := by cases b <;> rfl
theorem zis (b : Bool) : zbg b = some (cond b 1 0) := by cases b <;> rfl
def zfj (t : DataType) : Int :=
 if t.Kind = 0 then (if inB t.Length 1 256 then (if t.Scale = 0 then 0 else 3) else 18)
 else if t.Kind = 1 ∨ t.Kind = 2 then (if inB t.Length 1 15 then (if inB t.Scale 0 t.Length then 0 else 3) else 18)
 else if t.Kind = 3 then (if t.Length = 4 ∨ t.Length = 9 then (if inB t.Scale 0 t.Length then 0 else 3) else 18)
 else if t.Kind = 4 then (if t.Length = 0 then (if t.Scale = 0 then 0 else 3) else 18)
 else 4
theorem z1r (a b : Bool) (x y : Int) (hx : x ≠ 0) (hy : y ≠ 0) : zhe [cond a x 0, cond b y 0] = cond a x (cond b y 0) := by
 cases a <;> cases b <;> simp [zhe, hx, hy]
theorem zre (N : Nat) (hN : 10 < N) (t : DataType) : zbl N t = some (zfj t) := by
 have f2 : ∀ a b : Int, zq N [a, b] = some (zhe [a, b]) := fun a b => zqu N _ (by simp; omega) (by simp)
 unfold zbl zfj
 simp only [z4t, zrg, f2, obs, z1r _ _ 18 3 (by decide) (by decide)]
 by_cases h0 : t.Kind = 0
 · simp only [h0, bst, ctr, if_true]; cases inB t.Length 1 256 <;> by_cases hs : t.Scale = 0 <;> simp [zcn, hs]
 · simp only [beq_eq_false_iff_ne.2 h0, h0, cfa, if_false]
   by_cases h1 : t.Kind = 1
   · simp only [h1, bst, ctr, true_or, if_true, obs]; cases inB t.Length 1 15 <;> cases inB t.Scale 0 t.Length <;> simp
   · by_cases h2 : t.Kind = 2
     · simp only [h2, h1]; cases inB t.Length 1 15 <;> cases inB t.Scale 0 t.Length <;> simp
     · by_cases h3 : t.Kind = 3
       · simp only [h3]
         by_cases h4 : t.Length = 4 <;> by_cases h5 : t.Length = 9 <;> cases inB t.Scale 0 t.Length <;> simp [zcn, h4, h5]
       · by_cases h4 : t.Kind = 4
         · simp only [h4]
           by_cases h5 : t.Length = 0 <;> by_cases h6 : t.Scale = 0 <;> simp [zcn, h5, h6]
         · simp [zcn, h1, h2, h3, h4]
theorem zvf (k : Int) : zc4 k = some (inB k 1 3) := by simp only [zc4, zhk, obs]
theorem z14 (t : DataType) : zgl t = some (zfj t) := by
 have w0' : w6 0 = 0 := by decide
 have w1 : w6 3 = 3 := by decide
 have hz : inB t.Scale 0 0 = decide (t.Scale = 0) := by
  unfold inB
  by_cases h : t.Scale = 0
  · simp [h]
  · simp only [h, decide_false]
    by_cases h1 : 0 ≤ t.Scale
    · simp [h1, show ¬ t.Scale ≤ 0 by omega]
    · simp [h1]
 unfold zgl zfj
 simp only [zhk, zvf, zis, obs, hz]
 by_cases h0 : t.Kind = 0
 · have e : inB (0 : Int) 0 4 = true := by decide
   have e' : inB (0 : Int) 1 3 = false := by decide
   simp only [h0, e, e']; cases inB t.Length 1 256 <;> by_cases hs : t.Scale = 0 <;> simp [zcn, hs, w0', w1]
 · by_cases h1 : t.Kind = 1
   · have e : inB (1 : Int) 0 4 = true := by decide
     have e' : inB (1 : Int) 1 3 = true := by decide
     simp only [h1, e, e']; cases inB t.Length 1 15 <;> cases inB t.Scale 0 t.Length <;> simp [w0', w1]
   · by_cases h2 : t.Kind = 2
     · have e : inB (2 : Int) 0 4 = true := by decide
       have e' : inB (2 : Int) 1 3 = true := by decide
       simp only [h2, e, e']; cases inB t.Length 1 15 <;> cases inB t.Scale 0 t.Length <;> simp [w0', w1]
     · by_cases h3 : t.Kind = 3
       · have e : inB (3 : Int) 0 4 = true := by decide
         have e' : inB (3 : Int) 1 3 = true := by decide
         simp only [h3, e, e']
         by_cases h4 : t.Length = 4 <;> by_cases h5 : t.Length = 9 <;> cases inB t.Scale 0 t.Length <;> simp [zcn, h4, h5, w0', w1]
       · by_cases h4 : t.Kind = 4
         · have e : inB (4 : Int) 0 4 = true := by decide
           have e' : inB (4 : Int) 1 3 = false := by decide
           simp only [h4, e, e']
           by_cases h5 : t.Length = 0 <;> by_cases h6 : t.Scale = 0 <;> simp [zcn, h5, h6, w0', w1]
         · have e : inB t.Kind 0 4 = false := by
            unfold inB
            by_cases hh : 0 ≤ t.Kind
            · simp only [hh, decide_true, Bool.true_and, decide_eq_false_iff_not]; omega
            · simp [hh]
           simp [zcn, h0, h1, h2, h3, h4, e]
theorem zbf {n lo hi : Int} : inB n lo hi = true ↔ lo ≤ n ∧ n ≤ hi := by simp [inB]
theorem zpj {t : DataType} (h : zfj t = 0) : (t.Kind = 0 ∧ 1 ≤ t.Length ∧ t.Length ≤ 256) ∨ ((t.Kind = 1 ∨ t.Kind = 2) ∧ 1 ≤ t.Length ∧ t.Length ≤ 15) ∨ (t.Kind = 3 ∧ (t.Length = 4 ∨ t.Length = 9)) ∨ (t.Kind = 4 ∧ t.Length = 0) := by
 unfold zfj at h
 split at h
 · rename_i h0; split at h
   · rename_i h1; exact .inl ⟨h0, (zbf.1 h1).1, (zbf.1 h1).2⟩
   · cases h
 · split at h
   · rename_i h0; split at h
     · rename_i h1; exact .inr (.inl ⟨h0, (zbf.1 h1).1, (zbf.1 h1).2⟩)
     · cases h
   · split at h
     · rename_i h0; split at h
       · rename_i h1; exact .inr (.inr (.inl ⟨h0, h1⟩))
       · cases h
     · split at h
       · rename_i h0; split at h
         · rename_i h1; exact .inr (.inr (.inr ⟨h0, h1⟩))
         · cases h
       · cases h
def szE (t : DataType) : Int := if t.Kind = 1 then t.Length / 2 + 1 else if t.Kind = 3 then (if t.Length = 9 then 4 else 2) else if t.Kind = 4 then 16 else t.Length
theorem zfl {t : DataType} (h : zfj t = 0) : 0 < szE t ∧ szE t ≤ 256 := by
 unfold szE
 rcases zpj h with ⟨h0, h1, h2⟩ | ⟨h0 | h0, h1, h2⟩ | ⟨h0, h1 | h1⟩ | ⟨h0, h1⟩ <;> simp only [h0] <;> simp <;> omega
theorem zs6 {t : DataType} (h : zfj t = 0) : zd6 t = some (szE t) := by
 unfold zd6 szE
 rcases zpj h with ⟨h0, h1, h2⟩ | ⟨h0 | h0, h1, h2⟩ | ⟨h0, h1 | h1⟩ | ⟨h0, h1⟩ <;> simp only [h0, h1, zcn, zis] <;> simp
 · rw [tde, w6e (n := t.Length / 2), w6e]
 · decide
 · decide
theorem z2j {t : DataType} (h : zfj t = 0) : zhr t = some (szE t) := by
 unfold zhr szE
 rcases zpj h with ⟨h0, h1, h2⟩ | ⟨h0 | h0, h1, h2⟩ | ⟨h0, h1 | h1⟩ | ⟨h0, h1⟩ <;> simp only [h0, h1, zcn] <;> simp
 · rw [tde, w6e (n := t.Length / 2), w6e]
 · decide
 · decide
structure StoOk (s : Storage) : Prop where
 le : s.Bytes.size ≤ 1024
 quad : s.Bytes.size % 16 = 0
def zt5 (s : Storage) (a : Int) : Bool := decide (0 ≤ a) && (decide (a % 16 = 0) && decide (a < (s.Bytes.size : Int)))
theorem zaer {s : Storage} (ok : StoOk s) (a : Int) : zku s a = some (zt5 s a) := by
 have h1 := ok.le
 have h2 := ok.quad
 unfold zku zt5
 rw [w6e, zhk]
 simp only [obs]
 by_cases h : 0 ≤ a
 · rw [tme h]; simp only [inB, h, decide_true, Bool.true_and, zcn]
   by_cases h3 : a % 16 = 0
   · have e : decide (a ≤ (s.Bytes.size : Int) - 16) = decide (a < (s.Bytes.size : Int)) := by
      by_cases h4 : a < (s.Bytes.size : Int)
      · rw [dct h4]; exact dct (by omega)
      · rw [dcf h4]; exact dcf (by omega)
     simp only [h3, decide_true, Bool.true_and, e]; cases decide (a < (s.Bytes.size : Int)) <;> rfl
   · simp only [h3, decide_false, Bool.false_and]; cases decide (a ≤ (s.Bytes.size : Int) - 16) <;> rfl
 · simp [inB, h]
def z52 (n : Number) : Int := cond (inB n.N (-999999999999999) 999999999999999 && inB n.Scale 0 15) 0 3
theorem zrf (n : Number) : zbp n = some (z52 n) := by
 unfold zbp z52
 simp only [z4t, zrg, obs]
 cases inB n.N (-999999999999999) 999999999999999 <;> cases inB n.Scale 0 15 <;> rfl
theorem z00 (n : Number) : zly n = some (z52 n) := by
 have w0 : w6 (3 * 0) = 0 := by decide
 have w1 : w6 (3 * 1) = 3 := by decide
 unfold zly z52
 simp only [zhk, zis, obs]
 cases inB n.N (-999999999999999) 999999999999999 <;> cases inB n.Scale 0 15 <;> simp [w0, w1, zis] <;> decide
theorem orB (a b : Bool) : (cond a (some true) (some b)) = some (a || b) := by cases a <;> rfl
theorem zxs (a b : Bool) : (cond a (some b) (some false)) = some (a && b) := by cases a <;> rfl
theorem bbeq (a b : ByteArray) : (a == b) = decide (a = b) := by
 cases a with | mk x =>
 cases b with | mk y =>
 show ByteArray.beq _ _ = _
 unfold ByteArray.beq
 by_cases h : x = y
 · simp [h]
 · simp [h]
theorem eD (t : DataType) : (⟨t.Kind, t.Length, t.Scale⟩ : DataType) = t := rfl
theorem eS (t : Storage) : (⟨t.Bytes, t.Tags⟩ : Storage) = t := rfl
theorem eN (t : Number) : (⟨t.N, t.Scale⟩ : Number) = t := rfl
theorem zagx (n lo hi : Int) : zfg n lo hi = some (inB n lo hi) := by
 unfold zfg inB
 cases decide (lo ≤ n) <;> rfl
theorem zc2 (b : ByteArray) (i j : Nat) (h : j ≤ b.size) (hij : i ≤ j) : (b.extract i j).size = j - i := by
 rw [ByteArray.size_extract]
 omega
theorem zns {α : Type} {f : α → Option (Stp α)} (I : α → Prop) (m : α → Nat) (Q : α → Prop) (h : ∀ s, I s → (∃ s', f s = some (.again s') ∧ I s' ∧ m s' < m s) ∨ ∃ s', f s = some (.leave s') ∧ Q s') : ∀ {N : Nat} {s : α}, I s → m s < N → ∃ s', zl f N s = some s' ∧ Q s' := by
 intro N
 induction N with
 | zero => intro s _ h0; omega
 | succ N ih =>
  intro s hs hN; rcases h s hs with ⟨s1, h1, h2, h3⟩ | ⟨s', h1, h2⟩
  · obtain ⟨s', h4, h5⟩ := ih h2 (show m s1 < N by omega); exact ⟨s', by simp only [zl, h1, obs]; exact h4, h5⟩
  · exact ⟨s', by simp only [zl, h1, obs], h2⟩
theorem zach {R α : Type} {f : α → Option (Round R α)} (I : α → Prop) (m : α → Nat) (J : R → Prop) (Q : α → Prop) (h : ∀ s, I s → (∃ s', f s = some (.again s') ∧ I s' ∧ m s' < m s) ∨ (∃ s', f s = some (.leave s') ∧ Q s') ∨ ∃ r, f s = some (.result r) ∧ J r) : ∀ {N : Nat} {s : α}, I s → m s < N → (∃ s', zj f N s = some (.inr s') ∧ Q s') ∨ ∃ r, zj f N s = some (.inl r) ∧ J r := by
 intro N
 induction N with
 | zero => intro s _ h0; omega
 | succ N ih =>
  intro s hs hN; rcases h s hs with ⟨s1, h1, h2, h3⟩ | ⟨s', h1, h2⟩ | ⟨r, h1, h2⟩
  · rcases ih h2 (show m s1 < N by omega) with ⟨s', h4, h5⟩ | ⟨r, h4, h5⟩
    · exact .inl ⟨s', by simp only [zj, h1, obs]; exact h4, h5⟩
    · exact .inr ⟨r, by simp only [zj, h1, obs]; exact h4, h5⟩
  · exact .inl ⟨s', by simp only [zj, h1, obs], h2⟩
  · exact .inr ⟨r, by simp only [zj, h1, obs], h2⟩
theorem zad9 {n : Int} (h1 : 0 ≤ n) (h2 : n < 18446744073709551616) : IntKind.wrap .u64 n = n := by
 have e : (2 : Int) ^ (IntKind.u64.bits) = 18446744073709551616 := by decide
 unfold IntKind.wrap
 simp only [e, show IntKind.u64.signed = false from rfl, Bool.false_and]
 simp only [Bool.false_eq_true, if_false]
 omega
theorem zob {n : Int} (h1 : 0 ≤ n) (h2 : n < 256) : IntKind.wrap .u8 n = n := by
 have e : (2 : Int) ^ (IntKind.u8.bits) = 256 := by decide
 unfold IntKind.wrap
 simp only [e, show IntKind.u8.signed = false from rfl, Bool.false_and]
 simp only [Bool.false_eq_true, if_false]
 omega
theorem orU (x y : Nat) (hx : x < 2 ^ 64) (hy : y < 2 ^ 64) : orI .u64 (x : Int) (y : Int) = ((x ||| y : Nat) : Int) := by
 have h := Nat.or_lt_two_pow hx hy
 unfold orI
 have e : (BitVec.ofInt IntKind.u64.bits (x : Int) ||| BitVec.ofInt IntKind.u64.bits (y : Int)).toNat = (x ||| y) := by
  show (BitVec.ofInt 64 (x : Int) ||| BitVec.ofInt 64 (y : Int)).toNat = _; rw [BitVec.toNat_or, BitVec.ofInt_natCast, BitVec.ofInt_natCast, BitVec.toNat_ofNat, BitVec.toNat_ofNat, mel hx, mel hy]
 rw [e]
 exact zad9 (by omega) (by omega)
theorem andU (x y : Nat) (hx : x < 2 ^ 64) (hy : y < 2 ^ 64) : zf7 .u64 (x : Int) (y : Int) = ((x &&& y : Nat) : Int) := by
 have h := Nat.and_lt_two_pow x hy
 unfold zf7
 have e : (BitVec.ofInt IntKind.u64.bits (x : Int) &&& BitVec.ofInt IntKind.u64.bits (y : Int)).toNat = (x &&& y) := by
  show (BitVec.ofInt 64 (x : Int) &&& BitVec.ofInt 64 (y : Int)).toNat = _; rw [BitVec.toNat_and, BitVec.ofInt_natCast, BitVec.ofInt_natCast, BitVec.toNat_ofNat, BitVec.toNat_ofNat, mel hx, mel hy]
 rw [e]
 exact zad9 (by omega) (by omega)
def wn (n : Nat) : zH := ⟨(n % 18446744073709551616 : Nat), (n / 18446744073709551616 % 18446744073709551616 : Nat), (n / 18446744073709551616 / 18446744073709551616 % 18446744073709551616 : Nat), (n / 18446744073709551616 / 18446744073709551616 / 18446744073709551616 % 18446744073709551616 : Nat)⟩
def zmx : Nat := 115792089237316195423570985008687907853269984665640564039457584007913129639936
theorem zabn {x y : zH} (h0 : x.e0 = y.e0) (h1 : x.e1 = y.e1) (h2 : x.e2 = y.e2) (h3 : x.e3 = y.e3) : x = y := by
 cases x; cases y; simp_all
theorem z61 {n : Nat} (h : n < 18446744073709551616) : zbt (n : Int) = some (wn n) := by
 unfold zbt wn
 congr 2 <;> omega
theorem zahh (N : Nat) (a b w o : zH) : zy.r0 N (0, 0, a, b, w, o) = some (.again (((a.e0.toNat + b.e0.toNat + 0) / 2 ^ 64 : Nat), 1, a, b, w, ⟨((a.e0.toNat + b.e0.toNat + 0) % 2 ^ 64 : Nat), o.e1, o.e2, o.e3⟩)) := by kernel_rfl
theorem zahg (N c : Nat) (hc : ¬ c > 1) (a b w o : zH) : zy.r0 N (c, 1, a, b, w, o) = some (.again (((a.e1.toNat + b.e1.toNat + c) / 2 ^ 64 : Nat), 2, a, b, w, ⟨o.e0, ((a.e1.toNat + b.e1.toNat + c) % 2 ^ 64 : Nat), o.e2, o.e3⟩)) := by
 have : zy.r0 N (c, 1, a, b, w, o) = if c > 1 then none else some (.again (((a.e1.toNat + b.e1.toNat + c) / 2 ^ 64 : Nat), 2, a, b, w, ⟨o.e0, ((a.e1.toNat + b.e1.toNat + c) % 2 ^ 64 : Nat), o.e2, o.e3⟩)) := by kernel_rfl
 rw [this, ifn hc]
theorem zahf (N c : Nat) (hc : ¬ c > 1) (a b w o : zH) : zy.r0 N (c, 2, a, b, w, o) = some (.again (((a.e2.toNat + b.e2.toNat + c) / 2 ^ 64 : Nat), 3, a, b, w, ⟨o.e0, o.e1, ((a.e2.toNat + b.e2.toNat + c) % 2 ^ 64 : Nat), o.e3⟩)) := by
 have : zy.r0 N (c, 2, a, b, w, o) = if c > 1 then none else some (.again (((a.e2.toNat + b.e2.toNat + c) / 2 ^ 64 : Nat), 3, a, b, w, ⟨o.e0, o.e1, ((a.e2.toNat + b.e2.toNat + c) % 2 ^ 64 : Nat), o.e3⟩)) := by kernel_rfl
 rw [this, ifn hc]
theorem zahe (N c : Nat) (hc : ¬ c > 1) (a b w o : zH) : zy.r0 N (c, 3, a, b, w, o) = some (.again (((a.e3.toNat + b.e3.toNat + c) / 2 ^ 64 : Nat), 4, a, b, w, ⟨o.e0, o.e1, o.e2, ((a.e3.toNat + b.e3.toNat + c) % 2 ^ 64 : Nat)⟩)) := by
 have : zy.r0 N (c, 3, a, b, w, o) = if c > 1 then none else some (.again (((a.e3.toNat + b.e3.toNat + c) / 2 ^ 64 : Nat), 4, a, b, w, ⟨o.e0, o.e1, o.e2, ((a.e3.toNat + b.e3.toNat + c) % 2 ^ 64 : Nat)⟩)) := by kernel_rfl
 rw [this, ifn hc]
theorem zahd (N : Nat) (c : Int) (a b w o : zH) : zy.r0 N (c, 4, a, b, w, o) = some (.leave (c, 4, a, b, w, o)) := by kernel_rfl
theorem addc (x y c : Nat) : (x % 18446744073709551616 + y % 18446744073709551616 + c) % 2 ^ 64 = (x + y + c) % 18446744073709551616 ∧ x / 18446744073709551616 + y / 18446744073709551616 + (x % 18446744073709551616 + y % 18446744073709551616 + c) / 2 ^ 64 = (x + y + c) / 18446744073709551616 ∧ (c ≤ 1 → ¬ (x % 18446744073709551616 + y % 18446744073709551616 + c) / 2 ^ 64 > 1) := by omega
theorem z2k (N : Nat) (hN : 10 < N) (a b : Nat) : zy N (wn a) (wn b) = some (wn (a + b)) := by
 obtain ⟨n, rfl⟩ : ∃ n, N = n + 5 := ⟨N - 5, by omega⟩
 obtain ⟨l0, m0, c0⟩ := addc a b 0
 have c0' := c0 (by omega)
 obtain ⟨l1, m1, c1⟩ := addc (a / 18446744073709551616) (b / 18446744073709551616) ((a % 18446744073709551616 + b % 18446744073709551616 + 0) / 2 ^ 64)
 have c1' := c1 (by omega)
 rw [m0] at l1 m1
 obtain ⟨l2, m2, c2⟩ := addc (a / 18446744073709551616 / 18446744073709551616) (b / 18446744073709551616 / 18446744073709551616) ((a / 18446744073709551616 % 18446744073709551616 + b / 18446744073709551616 % 18446744073709551616 + (a % 18446744073709551616 + b % 18446744073709551616 + 0) / 2 ^ 64) / 2 ^ 64)
 have c2' := c2 (by omega)
 rw [m1] at l2 m2
 obtain ⟨l3, _, _⟩ := addc (a / 18446744073709551616 / 18446744073709551616 / 18446744073709551616) (b / 18446744073709551616 / 18446744073709551616 / 18446744073709551616) ((a / 18446744073709551616 / 18446744073709551616 % 18446744073709551616 + b / 18446744073709551616 / 18446744073709551616 % 18446744073709551616 + (a / 18446744073709551616 % 18446744073709551616 + b / 18446744073709551616 % 18446744073709551616 + (a % 18446744073709551616 + b % 18446744073709551616 + 0) / 2 ^ 64) / 2 ^ 64) / 2 ^ 64)
 rw [m2] at l3
 unfold zy
 simp only [zl, zahh, obs]
 simp only [wn, itn]
 rw [zahg _ _ c0']
 simp only [obs, itn]
 rw [zahf _ _ c1']
 simp only [obs, itn]
 rw [zahe _ _ c2']
 simp only [obs, itn]
 rw [zahd, l0, l1, l2, l3]
 rfl
theorem zage (N : Nat) (a b w o : zH) : zx.r0 N (0, 0, a, b, w, o) = some (.again (((if a.e0.toNat < b.e0.toNat + 0 then 1 else 0 : Nat) : Int), 1, a, b, w, ⟨((a.e0.toNat + 2 ^ 64 - b.e0.toNat - 0) % 2 ^ 64 : Nat), o.e1, o.e2, o.e3⟩)) := by kernel_rfl
theorem zagd (N c : Nat) (hc : ¬ c > 1) (a b w o : zH) : zx.r0 N (c, 1, a, b, w, o) = some (.again (((if a.e1.toNat < b.e1.toNat + c then 1 else 0 : Nat) : Int), 2, a, b, w, ⟨o.e0, ((a.e1.toNat + 2 ^ 64 - b.e1.toNat - c) % 2 ^ 64 : Nat), o.e2, o.e3⟩)) := by
 have : zx.r0 N (c, 1, a, b, w, o) = if c > 1 then none else some (.again (((if a.e1.toNat < b.e1.toNat + c then 1 else 0 : Nat) : Int), 2, a, b, w, ⟨o.e0, ((a.e1.toNat + 2 ^ 64 - b.e1.toNat - c) % 2 ^ 64 : Nat), o.e2, o.e3⟩)) := by kernel_rfl
 rw [this, ifn hc]
theorem zagc (N c : Nat) (hc : ¬ c > 1) (a b w o : zH) : zx.r0 N (c, 2, a, b, w, o) = some (.again (((if a.e2.toNat < b.e2.toNat + c then 1 else 0 : Nat) : Int), 3, a, b, w, ⟨o.e0, o.e1, ((a.e2.toNat + 2 ^ 64 - b.e2.toNat - c) % 2 ^ 64 : Nat), o.e3⟩)) := by
 have : zx.r0 N (c, 2, a, b, w, o) = if c > 1 then none else some (.again (((if a.e2.toNat < b.e2.toNat + c then 1 else 0 : Nat) : Int), 3, a, b, w, ⟨o.e0, o.e1, ((a.e2.toNat + 2 ^ 64 - b.e2.toNat - c) % 2 ^ 64 : Nat), o.e3⟩)) := by kernel_rfl
 rw [this, ifn hc]
theorem zagb (N c : Nat) (hc : ¬ c > 1) (a b w o : zH) : zx.r0 N (c, 3, a, b, w, o) = some (.again (((if a.e3.toNat < b.e3.toNat + c then 1 else 0 : Nat) : Int), 4, a, b, w, ⟨o.e0, o.e1, o.e2, ((a.e3.toNat + 2 ^ 64 - b.e3.toNat - c) % 2 ^ 64 : Nat)⟩)) := by
 have : zx.r0 N (c, 3, a, b, w, o) = if c > 1 then none else some (.again (((if a.e3.toNat < b.e3.toNat + c then 1 else 0 : Nat) : Int), 4, a, b, w, ⟨o.e0, o.e1, o.e2, ((a.e3.toNat + 2 ^ 64 - b.e3.toNat - c) % 2 ^ 64 : Nat)⟩)) := by kernel_rfl
 rw [this, ifn hc]
theorem zaga (N : Nat) (c : Int) (a b w o : zH) : zx.r0 N (c, 4, a, b, w, o) = some (.leave (c, 4, a, b, w, o)) := by kernel_rfl
theorem z44 (p : Prop) [Decidable p] : (if p then 1 else 0 : Nat) ≤ 1 := by split <;> omega
theorem subc (x y c k : Nat) (hk : k = c) (hc : c ≤ 1) : ((x + y + c) % 18446744073709551616 + 2 ^ 64 - y % 18446744073709551616 - k) % 2 ^ 64 = x % 18446744073709551616 ∧ (if (x + y + c) % 18446744073709551616 < y % 18446744073709551616 + k then 1 else 0 : Nat) = (x % 18446744073709551616 + y % 18446744073709551616 + c) / 2 ^ 64 ∧ (x % 18446744073709551616 + y % 18446744073709551616 + c) / 2 ^ 64 ≤ 1 ∧ (x + y + c) / 18446744073709551616 = x / 18446744073709551616 + y / 18446744073709551616 + (x % 18446744073709551616 + y % 18446744073709551616 + c) / 2 ^ 64 := by
 subst hk
 refine ⟨by omega, ?_, by omega, by omega⟩
 split <;> omega
theorem z1p (N : Nat) (hN : 10 < N) (a b : Nat) : ∃ r, zx N (wn a) (wn b) = some r ∧ (b ≤ a → r = wn (a - b)) := by
 obtain ⟨n, rfl⟩ : ∃ n, N = n + 5 := ⟨N - 5, by omega⟩
 unfold zx
 simp only [zl, zage, obs]
 have t1 : ¬ (if (wn a).e0.toNat < (wn b).e0.toNat + 0 then 1 else 0 : Nat) > 1 := by have := z44 ((wn a).e0.toNat < (wn b).e0.toNat + 0); omega
 rw [zagd _ _ t1]
 simp only [obs]
 have t2 := z44 ((wn a).e1.toNat < (wn b).e1.toNat + (if (wn a).e0.toNat < (wn b).e0.toNat + 0 then 1 else 0 : Nat))
 rw [zagc _ _ (by omega)]
 simp only [obs]
 have t3 := z44 ((wn a).e2.toNat < (wn b).e2.toNat + (if (wn a).e1.toNat < (wn b).e1.toNat + (if (wn a).e0.toNat < (wn b).e0.toNat + 0 then 1 else 0 : Nat) then 1 else 0 : Nat))
 rw [zagb _ _ (by omega)]
 simp only [obs]
 rw [zaga]
 refine ⟨_, rfl, fun hb => ?_⟩
 obtain ⟨d, rfl⟩ : ∃ d, a = d + b := ⟨a - b, by omega⟩
 clear t1 t2 t3
 rw [Nat.add_sub_cancel]
 obtain ⟨s0, u0, v0, w0⟩ := subc d b 0 0 rfl (by omega)
 rw [Nat.add_zero (d + b)] at s0 u0 w0
 obtain ⟨s1, u1, v1, w1⟩ := subc (d / 18446744073709551616) (b / 18446744073709551616) _ _ u0 v0
 rw [← w0] at s1 u1 w1
 obtain ⟨s2, u2, v2, w2⟩ := subc (d / 18446744073709551616 / 18446744073709551616) (b / 18446744073709551616 / 18446744073709551616) _ _ u1 v1
 rw [← w1] at s2 u2 w2
 obtain ⟨s3, u3, v3, w3⟩ := subc (d / 18446744073709551616 / 18446744073709551616 / 18446744073709551616) (b / 18446744073709551616 / 18446744073709551616 / 18446744073709551616) _ _ u2 v2
 rw [← w2] at s3
 refine zabn ?_ ?_ ?_ ?_
 · exact congrArg Int.ofNat s0
 · exact congrArg Int.ofNat s1
 · exact congrArg Int.ofNat s2
 · exact congrArg Int.ofNat s3
theorem z32 (N : Nat) (hN : 10 < N) {a b : Nat} (h : b ≤ a) : zx N (wn a) (wn b) = some (wn (a - b)) := by
 obtain ⟨r, h1, h2⟩ := z1p N hN a b
 rw [h1, h2 h]
def zj2 (a b : Nat) : Int := if a < b then -1 else if b < a then 1 else 0
theorem cmp3 (N : Nat) (a b : zH) : zk.r0 N (3, a, b) = cond (decide (a.e3 < b.e3)) (some (.result (-1))) (cond (decide (a.e3 > b.e3)) (some (.result 1)) (some (.again (2, a, b)))) := by kernel_rfl
theorem cmp2 (N : Nat) (a b : zH) : zk.r0 N (2, a, b) = cond (decide (a.e2 < b.e2)) (some (.result (-1))) (cond (decide (a.e2 > b.e2)) (some (.result 1)) (some (.again (1, a, b)))) := by kernel_rfl
theorem cmp1 (N : Nat) (a b : zH) : zk.r0 N (1, a, b) = cond (decide (a.e1 < b.e1)) (some (.result (-1))) (cond (decide (a.e1 > b.e1)) (some (.result 1)) (some (.again (0, a, b)))) := by kernel_rfl
theorem cmp0 (N : Nat) (a b : zH) : zk.r0 N (0, a, b) = cond (decide (a.e0 < b.e0)) (some (.result (-1))) (cond (decide (a.e0 > b.e0)) (some (.result 1)) (some (.again ((-1), a, b)))) := by kernel_rfl
theorem cmpE (N : Nat) (a b : zH) : zk.r0 N ((-1), a, b) = some (.leave ((-1), a, b)) := by kernel_rfl
def zti (x y R : Int) : Int := if x < y then -1 else if y < x then 1 else R
theorem zacr (n : Nat) (a b : zH) : zk (n + 5) a b = some (zti a.e3 b.e3 (zti a.e2 b.e2 (zti a.e1 b.e1 (zti a.e0 b.e0 0)))) := by
 unfold zk zti
 simp only [zj, cmp3]
 by_cases h3 : a.e3 < b.e3
 · rw [ifp h3, dct h3]; rfl
 · rw [ifn h3, dcf h3]
   by_cases g3 : b.e3 < a.e3
   · rw [ifp g3, dct g3]; rfl
   · rw [ifn g3, dcf g3]; simp only [cfa, obs, cmp2]
     by_cases h2 : a.e2 < b.e2
     · rw [ifp h2, dct h2]; rfl
     · rw [ifn h2, dcf h2]
       by_cases g2 : b.e2 < a.e2
       · rw [ifp g2, dct g2]; rfl
       · rw [ifn g2, dcf g2]; simp only [cfa, obs, cmp1]
         by_cases h1 : a.e1 < b.e1
         · rw [ifp h1, dct h1]; rfl
         · rw [ifn h1, dcf h1]
           by_cases g1 : b.e1 < a.e1
           · rw [ifp g1, dct g1]; rfl
           · rw [ifn g1, dcf g1]; simp only [cfa, obs, cmp0]
             by_cases h0 : a.e0 < b.e0
             · rw [ifp h0, dct h0]; rfl
             · rw [ifn h0, dcf h0]
               by_cases g0 : b.e0 < a.e0
               · rw [ifp g0, dct g0]; rfl
               · rw [ifn g0, dcf g0]; simp only [cfa, obs, cmpE]; rfl
theorem zpr (N : Nat) (hN : 10 < N) {a b : Nat} (ha : a < zmx) (hb : b < zmx) : zk N (wn a) (wn b) = some (zj2 a b) := by
 obtain ⟨n, rfl⟩ : ∃ n, N = n + 5 := ⟨N - 5, by omega⟩
 unfold zmx at ha hb
 rw [zacr]
 have k0 : ∀ x y : Nat, zti (x : Int) (y : Int) 0 = zj2 x y := fun x y => by
  unfold zti zj2
  repeat' split
  all_goals first | rfl | (exfalso; omega)
 have top : a / 18446744073709551616 / 18446744073709551616 / 18446744073709551616 < 18446744073709551616 := by omega
 have top2 : b / 18446744073709551616 / 18446744073709551616 / 18446744073709551616 < 18446744073709551616 := by omega
 have s1 : ∀ (x y : Nat) (R : Int), zti ((x : Nat) : Int) ((y : Nat) : Int) R = if zj2 x y = 0 then R else zj2 x y := fun x y R => by
  unfold zti zj2
  repeat' split
  all_goals first | rfl | (exfalso; omega) | contradiction
 have s2 : ∀ x y : Nat, zj2 x y = if zj2 (x / 18446744073709551616) (y / 18446744073709551616) = 0 then zj2 (x % 18446744073709551616) (y % 18446744073709551616) else zj2 (x / 18446744073709551616) (y / 18446744073709551616) := fun x y => by
  unfold zj2
  repeat' split
  all_goals first | rfl | (exfalso; omega) | contradiction
 show some (zti (((a / 18446744073709551616 / 18446744073709551616 / 18446744073709551616 % 18446744073709551616 : Nat) : Int)) (((b / 18446744073709551616 / 18446744073709551616 / 18446744073709551616 % 18446744073709551616 : Nat) : Int)) (zti (((a / 18446744073709551616 / 18446744073709551616 % 18446744073709551616 : Nat) : Int)) (((b / 18446744073709551616 / 18446744073709551616 % 18446744073709551616 : Nat) : Int)) (zti (((a / 18446744073709551616 % 18446744073709551616 : Nat) : Int)) (((b / 18446744073709551616 % 18446744073709551616 : Nat) : Int)) (zti (((a % 18446744073709551616 : Nat) : Int)) (((b % 18446744073709551616 : Nat) : Int)) 0)))) = _
 rw [mel top, mel top2, s1, s1, s1, s1]
 have r3 := s2 (a / 18446744073709551616 / 18446744073709551616) (b / 18446744073709551616 / 18446744073709551616)
 have r2 := s2 (a / 18446744073709551616) (b / 18446744073709551616)
 have r1 := s2 a b
 clear s1 s2 top top2 ha hb k0
 generalize zj2 (a / 18446744073709551616 / 18446744073709551616 / 18446744073709551616) (b / 18446744073709551616 / 18446744073709551616 / 18446744073709551616) = o3 at *
 generalize zj2 (a / 18446744073709551616 / 18446744073709551616 % 18446744073709551616) (b / 18446744073709551616 / 18446744073709551616 % 18446744073709551616) = m2 at *
 generalize zj2 (a / 18446744073709551616 % 18446744073709551616) (b / 18446744073709551616 % 18446744073709551616) = m1 at *
 generalize zj2 (a % 18446744073709551616) (b % 18446744073709551616) = m0 at *
 rw [r1, r2, r3]
 congr 1
 by_cases h3 : o3 = 0
 · by_cases h2 : m2 = 0
   · by_cases h1 : m1 = 0
     · by_cases h0 : m0 = 0
       · simp only [h3, h2, h1, h0, if_true]
       · simp only [h3, h2, h1, h0, if_true, if_false]
     · simp only [h3, h2, h1, if_true, if_false]
   · simp only [h3, h2, if_true, if_false]
 · simp only [h3, if_true, if_false]
theorem zxt (m : Nat) : IntKind.wrap .u64 (m : Int) = ((m % 18446744073709551616 : Nat) : Int) := by
 have e : (2 : Int) ^ (IntKind.u64.bits) = 18446744073709551616 := by decide
 unfold IntKind.wrap
 simp only [e, show IntKind.u64.signed = false from rfl, Bool.false_and]
 simp only [Bool.false_eq_true, if_false]
 omega
theorem zzv (p q : Nat) : (p : Int).fdiv (q : Int) = ((p / q : Nat) : Int) := by
 rw [Int.fdiv_eq_ediv_of_nonneg _ (by omega)]
 exact (Int.natCast_ediv p q).symm
theorem z9g (p : Nat) : (p : Int).fdiv (2 ^ (min (32 : Int).toNat 64)) = ((p / 4294967296 : Nat) : Int) := zzv p 4294967296
theorem zabk (p : Nat) (h : p < 18446744073709551616) : zf7 .u64 (p : Int) 4294967295 = ((p % 4294967296 : Nat) : Int) := by
 rw [show (4294967295 : Int) = ((4294967295 : Nat) : Int) from rfl, andU p 4294967295 h (by decide)]
 rw [show (4294967295 : Nat) = 2 ^ 32 - 1 from rfl, Nat.and_two_pow_sub_one_eq_mod]
theorem z40 (p q : Nat) (hp : p < 18446744073709551616) (hq : q < 18446744073709551616) : zdn (p : Int) (q : Int) = some (((p * q / 18446744073709551616 : Nat) : Int), ((p * q % 18446744073709551616 : Nat) : Int)) := by
 unfold zdn
 simp only [z9g, zabk p hp, zabk q hq, ← Int.natCast_mul, zxt, ← Int.natCast_add, z9g]
 rw [zabk _ (Nat.mod_lt _ (by decide))]
 simp only [z9g, ← Int.natCast_mul, zxt, ← Int.natCast_add]
 have e1 := Nat.div_add_mod p 4294967296
 have e2 := Nat.div_add_mod q 4294967296
 have b1 : p / 4294967296 ≤ 4294967295 := by omega
 have b2 : q / 4294967296 ≤ 4294967295 := by omega
 have b3 : p % 4294967296 ≤ 4294967295 := by omega
 have b4 : q % 4294967296 ≤ 4294967295 := by omega
 have m : p * q = 18446744073709551616 * ((p / 4294967296) * (q / 4294967296)) + 4294967296 * ((p / 4294967296) * (q % 4294967296)) + (4294967296 * ((p % 4294967296) * (q / 4294967296)) + (p % 4294967296) * (q % 4294967296)) := by
  conv => lhs; rw [← e1, ← e2]
  rw [Nat.add_mul, Nat.mul_add, Nat.mul_add, Nat.mul_mul_mul_comm, Nat.mul_assoc 4294967296 (p / 4294967296) (q % 4294967296), Nat.mul_left_comm (p % 4294967296) 4294967296 (q / 4294967296)]
 have c1 := Nat.mul_le_mul b1 b2
 have c2 := Nat.mul_le_mul b1 b4
 have c3 := Nat.mul_le_mul b3 b2
 have c4 := Nat.mul_le_mul b3 b4
 rw [m]
 clear m e1 e2 b1 b2 b3 b4
 generalize (p / 4294967296) * (q / 4294967296) = A at *
 generalize (p / 4294967296) * (q % 4294967296) = B at *
 generalize (p % 4294967296) * (q / 4294967296) = C at *
 generalize (p % 4294967296) * (q % 4294967296) = D at *
 simp only [Option.some.injEq, Prod.mk.injEq, Int.natCast_inj]
 refine ⟨?_, trivial⟩
 omega
theorem zafr (N : Nat) (n c : Int) (a w o : zH) : za4.r0 N (n, c, 0, a, w, o) = (zdn a.e0 n).bind fun r => some (.again (n, (IntKind.wrap .u64 (r.1 + (((r.2.toNat + c.toNat + 0) / 2 ^ 64 : Nat) : Int))), 1, a, w, ⟨((r.2.toNat + c.toNat + 0) % 2 ^ 64 : Nat), o.e1, o.e2, o.e3⟩)) := by kernel_rfl
theorem zafq (N : Nat) (n c : Int) (a w o : zH) : za4.r0 N (n, c, 1, a, w, o) = (zdn a.e1 n).bind fun r => some (.again (n, (IntKind.wrap .u64 (r.1 + (((r.2.toNat + c.toNat + 0) / 2 ^ 64 : Nat) : Int))), 2, a, w, ⟨o.e0, ((r.2.toNat + c.toNat + 0) % 2 ^ 64 : Nat), o.e2, o.e3⟩)) := by kernel_rfl
theorem zafp (N : Nat) (n c : Int) (a w o : zH) : za4.r0 N (n, c, 2, a, w, o) = (zdn a.e2 n).bind fun r => some (.again (n, (IntKind.wrap .u64 (r.1 + (((r.2.toNat + c.toNat + 0) / 2 ^ 64 : Nat) : Int))), 3, a, w, ⟨o.e0, o.e1, ((r.2.toNat + c.toNat + 0) % 2 ^ 64 : Nat), o.e3⟩)) := by kernel_rfl
theorem zafo (N : Nat) (n c : Int) (a w o : zH) : za4.r0 N (n, c, 3, a, w, o) = (zdn a.e3 n).bind fun r => some (.again (n, (IntKind.wrap .u64 (r.1 + (((r.2.toNat + c.toNat + 0) / 2 ^ 64 : Nat) : Int))), 4, a, w, ⟨o.e0, o.e1, o.e2, ((r.2.toNat + c.toNat + 0) % 2 ^ 64 : Nat)⟩)) := by kernel_rfl
theorem zafn (N : Nat) (n c : Int) (a w o : zH) : za4.r0 N (n, c, 4, a, w, o) = some (.leave (n, c, 4, a, w, o)) := by kernel_rfl
theorem word (x c n : Nat) (hn : n < 18446744073709551616) (hc : c ≤ n) : IntKind.wrap .u64 ((((x % 18446744073709551616) * n / 18446744073709551616 : Nat) : Int) + ((((x % 18446744073709551616) * n % 18446744073709551616 + c + 0) / 2 ^ 64 : Nat) : Int)) = ((((x % 18446744073709551616) * n + c) / 18446744073709551616 : Nat) : Int) ∧ ((x % 18446744073709551616) * n % 18446744073709551616 + c + 0) % 2 ^ 64 = (x * n + c) % 18446744073709551616 ∧ ((x % 18446744073709551616) * n + c) / 18446744073709551616 ≤ n ∧ x / 18446744073709551616 * n + ((x % 18446744073709551616) * n + c) / 18446744073709551616 = (x * n + c) / 18446744073709551616 := by
 have hp : (x % 18446744073709551616) * n ≤ 18446744073709551615 * n := Nat.mul_le_mul_right n (by omega)
 have e : x * n = (x % 18446744073709551616) * n + 18446744073709551616 * (x / 18446744073709551616 * n) := by
  have := Nat.mod_add_div x 18446744073709551616
  conv => lhs; rw [← this]
  rw [Nat.add_mul, Nat.mul_assoc]
 rw [e]
 generalize (x % 18446744073709551616) * n = p at *
 generalize x / 18446744073709551616 * n = q at *
 refine ⟨?_, by omega, by omega, by omega⟩
 rw [← Int.natCast_add, zxt]
 omega
theorem z81 (N : Nat) (hN : 10 < N) (a n : Nat) (hn : n < 18446744073709551616) : za4 N (wn a) (n : Int) = some (wn (a * n)) := by
 obtain ⟨k, rfl⟩ : ∃ k, N = k + 5 := ⟨N - 5, by omega⟩
 have hB : ∀ x : Nat, x % 18446744073709551616 < 18446744073709551616 := fun x => Nat.mod_lt _ (by decide)
 obtain ⟨w1, w2, w3, w4⟩ := word a 0 n hn (Nat.zero_le _)
 rw [Nat.add_zero (a * n)] at w2 w4
 obtain ⟨x1, x2, x3, x4⟩ := word (a / 18446744073709551616) _ n hn w3
 rw [w4] at x2 x4
 obtain ⟨y1, y2, y3, y4⟩ := word (a / 18446744073709551616 / 18446744073709551616) _ n hn x3
 rw [x4] at y2 y4
 obtain ⟨z1, z2, z3, z4⟩ := word (a / 18446744073709551616 / 18446744073709551616 / 18446744073709551616) _ n hn y3
 rw [y4] at z2
 unfold za4
 simp only [zl, zafr]
 rw [show (wn a).e0 = ((a % 18446744073709551616 : Nat) : Int) from rfl, z40 _ _ (hB _) hn]
 simp only [obs, itn, zafq]
 rw [show (wn a).e1 = ((a / 18446744073709551616 % 18446744073709551616 : Nat) : Int) from rfl, z40 _ _ (hB _) hn]
 simp only [obs, itn, zafp]
 rw [show (wn a).e2 = ((a / 18446744073709551616 / 18446744073709551616 % 18446744073709551616 : Nat) : Int) from rfl, z40 _ _ (hB _) hn]
 simp only [obs, itn, zafo]
 rw [show (wn a).e3 = ((a / 18446744073709551616 / 18446744073709551616 / 18446744073709551616 % 18446744073709551616 : Nat) : Int) from rfl, z40 _ _ (hB _) hn]
 simp only [obs, itn, zafn]
 rw [show Int.toNat 0 = 0 from rfl, w1, itn, x1, itn, y1, itn, w2, x2, y2, z2]
 rfl
theorem zy5 (N : Nat) (hN : 100 < N) (a k : Nat) (hk : k < 100) : zh N (wn a) (k : Int) = some (wn (a * 10 ^ k)) := by
 unfold zh
 have := za1 (f := zh.r0 N) (fun i => ((k : Int), (i : Int), wn (a * 10 ^ i), (⟨0, 0, 0, 0⟩ : zH))) k
  (fun i hi => by
   simp only [zh.r0, zh.b0, dct (show (i : Int) < (k : Int) by omega), ctr]; rw [show (10 : Int) = ((10 : Nat) : Int) from rfl, z81 N (by omega) _ 10 (by decide), w6e]; simp only [obs, Nat.mul_assoc, ← Nat.pow_succ, Int.natCast_add, Int.natCast_one])
  (by simp only [zh.r0, zh.b0, dcf (show ¬ (k : Int) < (k : Int) by omega), cfa]) (N := N) (by omega)
 simp only [Nat.pow_zero, Nat.mul_one, nc0] at this
 rw [this]
 rfl
theorem z94 (a j r : Nat) (hr : r < 64) : (a / 2 ^ (64 * j) % 2 ^ 64 / 2 ^ r) &&& 1 = a / 2 ^ (64 * j + r) % 2 := by
 rw [Nat.and_one_is_mod]
 have h : (a / 2 ^ (64 * j) % 2 ^ 64 / 2 ^ r).testBit 0 = (a / 2 ^ (64 * j) % 2 ^ 64).testBit (r + 0) := by rw [Nat.testBit_div_two_pow, Nat.add_comm]
 have h1 : Nat.testBit (a / 2 ^ (64 * j) % 2 ^ 64) (r + 0) = Nat.testBit (a / 2 ^ (64 * j + r)) 0 := by
  rw [Nat.testBit_mod_two_pow, Nat.testBit_div_two_pow, Nat.testBit_div_two_pow]; simp [hr, Nat.add_comm, Nat.add_left_comm]
 rw [Nat.testBit_zero] at h
 rw [h1, Nat.testBit_zero] at h
 have := Nat.mod_two_eq_zero_or_one (a / 2 ^ (64 * j) % 2 ^ 64 / 2 ^ r)
 have := Nat.mod_two_eq_zero_or_one (a / 2 ^ (64 * j + r))
 simp only [decide_eq_decide] at h
 omega
theorem zaek (Q i j : Nat) (h : Q % 2 ^ (i + 1) = 0) : (Q + 2 ^ i) / 2 ^ (64 * j) % 2 ^ 64 = if i / 64 = j then (Q / 2 ^ (64 * j) % 2 ^ 64) ||| 2 ^ (i % 64) else Q / 2 ^ (64 * j) % 2 ^ 64 := by
 have e : Q + 2 ^ i = Q ||| 2 ^ i := by
  have := Nat.two_pow_add_eq_or_of_lt (i := i + 1) (b := 2 ^ i) (Nat.pow_lt_pow_right (by decide) (by omega)) (Q / 2 ^ (i + 1)); have e2 : 2 ^ (i + 1) * (Q / 2 ^ (i + 1)) = Q := by
   have := Nat.div_add_mod Q (2 ^ (i + 1)); omega
  rw [e2] at this; exact this
 rw [e]
 refine Nat.eq_of_testBit_eq fun k => ?_
 split
 · rename_i hj; simp only [Nat.testBit_mod_two_pow, Nat.testBit_div_two_pow, Nat.testBit_or, Nat.testBit_two_pow]
   by_cases hk : k < 64
   · simp only [hk, decide_true, Bool.true_and]
     congr 1
     simp only [decide_eq_decide]; omega
   · simp only [hk, decide_false, Bool.false_and, Bool.false_or]; rw [dcf (by omega)]
 · rename_i hj; simp only [Nat.testBit_mod_two_pow, Nat.testBit_div_two_pow, Nat.testBit_or, Nat.testBit_two_pow]
   by_cases hk : k < 64
   · simp only [hk, decide_true, Bool.true_and]; rw [dcf (by omega), Bool.or_false]
   · simp only [hk, decide_false, Bool.false_and]
def z9o (a : zH) (s : Int) : Int := zf7 .u64 (((zaq [a.e0, a.e1, a.e2, a.e3] ((w6 (s.tdiv 64)).toNat)) : Int).fdiv (2 ^ (min (s.tmod 64).toNat 64))) 1
def dsh (x : zH) (t : Int) : zH := ⟨orI .u64 x.e0 t, x.e1, x.e2, x.e3⟩
def dset (q : zH) (j : Nat) (v : Int) : zH := ⟨if j = 0 then v else q.e0, if j = 1 then v else q.e1, if j = 2 then v else q.e2, if j = 3 then v else q.e3⟩
theorem z7j (N : Nat) (s : Int) (a b q r : zH) : za7.r0 N (s, a, b, q, r) =
 cond (decide (s ≥ 0)) ((zy N r r).bind fun x => if 0 ≤ w6 (s.tdiv 64) then (if w6 (s.tdiv 64) < 4 then (if (s.tmod 64) < 0 then none else (zk N (dsh x (z9o a s)) b).bind fun c =>
  cond (decide (c ≥ 0)) ((zx N (dsh x (z9o a s)) b).bind fun y => if 0 ≤ w6 (s.tdiv 64) then (if w6 (s.tdiv 64) < 4 then (if (s.tmod 64) < 0 then none else if 0 ≤ w6 (s.tdiv 64) then (if w6 (s.tdiv 64) < 4 then
   (some (.again (w6 (s - 1), a, b, dset q (w6 (s.tdiv 64)).toNat (orI .u64 (zaq [q.e0, q.e1, q.e2, q.e3] ((w6 (s.tdiv 64)).toNat)) (IntKind.wrap .u64 (1 * 2 ^ (min (s.tmod 64).toNat 64)))), y))) else none) else none) else none) else none)
   (some (.again (w6 (s - 1), a, b, q, dsh x (z9o a s))))) else none) else none)
  (some (.leave (s, a, b, q, r))) := by kernel_rfl
theorem div2 (a : Nat) : a / 18446744073709551616 / 18446744073709551616 = a / 340282366920938463463374607431768211456 := Nat.div_div_eq_div_mul _ _ _
theorem div3 (a : Nat) : a / 18446744073709551616 / 18446744073709551616 / 18446744073709551616 = a / 6277101735386680763835789423207666416102355444464034512896 := by rw [div2]; exact Nat.div_div_eq_div_mul _ _ _
theorem limb (a j : Nat) (hj : j < 4) : zaq [(wn a).e0, (wn a).e1, (wn a).e2, (wn a).e3] j = ((a / 2 ^ (64 * j) % 2 ^ 64 : Nat) : Int) := by
 match j, hj with
 | 0, _ => show ((a % 18446744073709551616 : Nat) : Int) = ((a / 1 % 18446744073709551616 : Nat) : Int); rw [Nat.div_one]
 | 1, _ => rfl
 | 2, _ => show ((a / 18446744073709551616 / 18446744073709551616 % 18446744073709551616 : Nat) : Int) = ((a / 340282366920938463463374607431768211456 % 18446744073709551616 : Nat) : Int); rw [div2]
 | 3, _ => show ((a / 18446744073709551616 / 18446744073709551616 / 18446744073709551616 % 18446744073709551616 : Nat) : Int) = ((a / 6277101735386680763835789423207666416102355444464034512896 % 18446744073709551616 : Nat) : Int); rw [div3]
theorem zae7 (a i : Nat) (hi : i < 256) : z9o (wn a) (i : Int) = ((a / 2 ^ i % 2 : Nat) : Int) := by
 unfold z9o
 have e1 : w6 ((i : Int).tdiv 64) = ((i / 64 : Nat) : Int) := by
  rw [tde, w6e]; omega
 have e2 : ((i : Int).tmod 64) = ((i % 64 : Nat) : Int) := by
  rw [tme]; omega
 rw [e1, e2, itn, itn, limb a _ (by omega), Nat.min_eq_left (by omega)]
 rw [show (2 : Int) ^ (i % 64) = ((2 ^ (i % 64) : Nat) : Int) by rw [Int.natCast_pow]; rfl, zzv]
 have hb : a / 2 ^ (64 * (i / 64)) % 2 ^ 64 / 2 ^ (i % 64) < 2 ^ 64 := Nat.lt_of_le_of_lt (Nat.div_le_self _ _) (Nat.mod_lt _ (by decide))
 rw [show (1 : Int) = ((1 : Nat) : Int) from rfl, andU _ 1 hb (by decide), z94 a _ _ (by omega), show 64 * (i / 64) + i % 64 = i by omega]
theorem zagk (x t : Nat) (ht : t < 2) : dsh (wn (x + x)) (t : Int) = wn (2 * x + t) := by
 have h0 : (x + x) % 18446744073709551616 ||| t = (2 * x + t) % 18446744073709551616 := by
  have := Nat.two_pow_add_eq_or_of_lt (i := 1) (b := t) (by omega) ((x + x) % 18446744073709551616 / 2); have e : 2 ^ 1 * ((x + x) % 18446744073709551616 / 2) = (x + x) % 18446744073709551616 := by omega
  rw [e] at this; rw [← this]; omega
 unfold dsh
 simp only [wn]
 have h1 : (x + x) / 18446744073709551616 = (2 * x + t) / 18446744073709551616 := by omega
 rw [orU _ t (Nat.mod_lt _ (by decide)) (by omega), h0, h1]
theorem zae6 (Q i : Nat) (hi : i < 256) (h : Q % 2 ^ (i + 1) = 0) :
 dset (wn Q) (w6 ((i : Int).tdiv 64)).toNat (orI .u64 (zaq [(wn Q).e0, (wn Q).e1, (wn Q).e2, (wn Q).e3] ((w6 ((i : Int).tdiv 64)).toNat)) (IntKind.wrap .u64 (1 * 2 ^ (min ((i : Int).tmod 64).toNat 64)))) = wn (Q + 2 ^ i) := by
 have e1 : w6 ((i : Int).tdiv 64) = ((i / 64 : Nat) : Int) := by
  rw [tde, w6e]; omega
 have e2 : ((i : Int).tmod 64) = ((i % 64 : Nat) : Int) := by
  rw [tme]; omega
 have e3 : IntKind.wrap .u64 (1 * 2 ^ (i % 64)) = ((2 ^ (i % 64) : Nat) : Int) := by
  rw [Int.one_mul, show (2 : Int) ^ (i % 64) = ((2 ^ (i % 64) : Nat) : Int) by rw [Int.natCast_pow]; rfl, zxt, mel]; exact Nat.pow_lt_pow_right (a := 2) (n := 64) (m := i % 64) (by decide) (by omega)
 rw [e1, e2, itn, itn, limb Q _ (by omega), Nat.min_eq_left (by omega), e3]
 rw [orU (Q / 2 ^ (64 * (i / 64)) % 2 ^ 64) (2 ^ (i % 64)) (Nat.mod_lt _ (by decide)) (Nat.pow_lt_pow_right (a := 2) (n := 64) (m := i % 64) (by decide) (by omega))]
 have w := fun j => zaek Q i j h
 have w0 := w 0
 rw [show 2 ^ (64 * 0) = 1 from rfl, Nat.div_one, Nat.div_one] at w0
 have w1 := w 1
 have w2 := w 2
 have w3 := w 3
 have k1 : (2 : Nat) ^ (64 * 1) = 18446744073709551616 := by decide
 have k2 : (2 : Nat) ^ (64 * 2) = 340282366920938463463374607431768211456 := by decide
 have k3 : (2 : Nat) ^ (64 * 3) = 6277101735386680763835789423207666416102355444464034512896 := by decide
 have k0 : (2 : Nat) ^ 64 = 18446744073709551616 := by decide
 simp only [k1, k0] at w1
 simp only [k2, k0] at w2
 simp only [k3, k0] at w3
 simp only [k0] at w0
 unfold dset
 refine zabn ?_ ?_ ?_ ?_
 · simp only [wn]; rw [w0]
   by_cases hj : i / 64 = 0
   · rw [ifp hj, ifp hj, hj, show 64 * 0 = 0 from rfl, Nat.pow_zero, Nat.div_one, k0]
   · rw [ifn hj, ifn hj]
 · simp only [wn]; rw [w1]
   by_cases hj : i / 64 = 1
   · rw [ifp hj, ifp hj, hj]
   · rw [ifn hj, ifn hj]
 · simp only [wn, div2]; rw [w2]
   by_cases hj : i / 64 = 2
   · rw [ifp hj, ifp hj, hj]
   · rw [ifn hj, ifn hj]
 · simp only [wn, div3]; rw [w3]
   by_cases hj : i / 64 = 3
   · rw [ifp hj, ifp hj, hj]
   · rw [ifn hj, ifn hj]
theorem zx1 (a b : Nat) : decide (zj2 a b ≥ 0) = decide (b ≤ a) := by
 unfold zj2
 by_cases h : a < b
 · rw [ifp h, dcf (show ¬ b ≤ a by omega)]; rfl
 · rw [ifn h, dct (show b ≤ a by omega)]
   by_cases h2 : b < a
   · rw [ifp h2]; rfl
   · rw [ifn h2]; rfl
theorem zacp (N : Nat) (hN : 10 < N) (i : Nat) (hi : i < 256) (a d : Nat) (hd : 0 < d) (hd2 : d ≤ 57896044618658097711785492504343953926634992332820282019728792003956564819968) :
 za7.r0 N ((i : Int), wn a, wn d, wn (a / 2 ^ (i + 1) / d * 2 ^ (i + 1)), wn (a / 2 ^ (i + 1) % d)) = some (.again ((i : Int) - 1, wn a, wn d, wn (a / 2 ^ i / d * 2 ^ i), wn (a / 2 ^ i % d))) := by
 have e1 : w6 ((i : Int).tdiv 64) = ((i / 64 : Nat) : Int) := by
  rw [tde, w6e]; omega
 have e2 : ((i : Int).tmod 64) = ((i % 64 : Nat) : Int) := by
  rw [tme]; omega
 have c1 : 0 ≤ w6 ((i : Int).tdiv 64) := by rw [e1]; omega
 have c2 : w6 ((i : Int).tdiv 64) < 4 := by rw [e1]; omega
 have c3 : ¬ (i : Int).tmod 64 < 0 := by rw [e2]; omega
 have hp : a / 2 ^ i = 2 * (a / 2 ^ (i + 1)) + a / 2 ^ i % 2 := by
  rw [Nat.pow_succ, ← Nat.div_div_eq_div_mul]; omega
 have hbit : a / 2 ^ i % 2 < 2 := Nat.mod_lt _ (by decide)
 have hdm := Nat.div_add_mod (a / 2 ^ (i + 1)) d
 have hr := Nat.mod_lt (a / 2 ^ (i + 1)) hd
 rw [z7j, dct (show (i : Int) ≥ 0 by omega), ctr, z2k N hN, obs, ifp c1, ifp c2, ifn c3, zae7 a i hi, zagk _ _ hbit]
 rw [zpr N hN (by unfold zmx; omega) (by unfold zmx; omega), obs, zx1]
 rw [w6e (n := (i : Int) - 1)]
 generalize hq : a / 2 ^ (i + 1) / d = q at *
 generalize hs : a / 2 ^ (i + 1) % d = r at *
 generalize hb : a / 2 ^ i % 2 = t at *
 have hp2 : a / 2 ^ i = d * (2 * q) + (2 * r + t) := by
  rw [hp, ← hdm, Nat.mul_left_comm]; omega
 by_cases h : d ≤ 2 * r + t
 · rw [dct h, ctr, z32 N hN h, obs, ifp c1, ifp c2, ifn c3, ifp c1, ifp c2]; rw [zae6 _ i hi (Nat.mul_mod_left _ _)]; have hp3 : a / 2 ^ i = d * (2 * q + 1) + (2 * r + t - d) := by rw [hp2, Nat.mul_add d]; omega
   rw [hp3, Nat.mul_add_div hd, Nat.mul_add_mod, Nat.div_eq_of_lt (show 2 * r + t - d < d by omega), mel (show 2 * r + t - d < d by omega)]; have : q * 2 ^ (i + 1) + 2 ^ i = (2 * q + 1 + 0) * 2 ^ i := by
    rw [Nat.pow_succ, Nat.add_zero, Nat.add_mul, Nat.one_mul, Nat.mul_comm (2 ^ i) 2, ← Nat.mul_assoc, Nat.mul_comm q 2]
   rw [this]
 · rw [dcf h, cfa]; rw [hp2, Nat.mul_add_div hd, Nat.mul_add_mod, Nat.div_eq_of_lt (show 2 * r + t < d by omega), mel (show 2 * r + t < d by omega)]; have : q * 2 ^ (i + 1) = (2 * q + 0) * 2 ^ i := by
    rw [Nat.pow_succ, Nat.add_zero, Nat.mul_comm (2 ^ i) 2, ← Nat.mul_assoc, Nat.mul_comm q 2]
   rw [this]
theorem z4u (N : Nat) (hN : 300 < N) (a d : Nat) (ha : a < zmx) (hd : 0 < d) (hd2 : d ≤ 57896044618658097711785492504343953926634992332820282019728792003956564819968) :
 za7 N (wn a) (wn d) = some (wn (a / d), wn (a % d)) := by
 unfold za7
 have := za1 (f := za7.r0 N) (fun k => ((255 : Int) - (k : Int), wn a, wn d, wn (a / 2 ^ (256 - k) / d * 2 ^ (256 - k)), wn (a / 2 ^ (256 - k) % d))) 256
  (fun k hk => by
   have e := zacp N (by omega) (255 - k) (by omega) a d hd hd2; rw [show 255 - k + 1 = 256 - k by omega, show ((255 - k : Nat) : Int) = (255 : Int) - (k : Int) by omega] at e; rw [e, show 256 - (k + 1) = 255 - k by omega, show (255 : Int) - (k : Int) - 1 = (255 : Int) - ((k + 1 : Nat) : Int) by omega])
  (by rw [z7j]; rfl) (N := N) (by omega)
 have z : a / 2 ^ (256 - 0) = 0 := Nat.div_eq_of_lt (by unfold zmx at ha; exact Nat.lt_of_lt_of_le ha (by decide))
 simp only [z, Nat.zero_div, Nat.zero_mul, Nat.zero_mod] at this
 have z2 : a / 2 ^ (256 - 256) = a := Nat.div_one a
 simp only [z2] at this
 rw [show ((255 : Int) - ((0 : Nat) : Int)) = 255 from rfl, show wn 0 = (⟨0, 0, 0, 0⟩ : zH) from rfl] at this
 rw [this, obs, show a / d * 2 ^ (256 - 256) = a / d from Nat.mul_one _]
def zdl (x : Number) : Prop := (-999999999999999 ≤ x.N ∧ x.N ≤ 999999999999999) ∧ 0 ≤ x.Scale ∧ x.Scale ≤ 15
theorem zpq {x : Number} : z52 x = 0 ↔ zdl x := by
 unfold z52 zdl
 cases h : (inB x.N (-999999999999999) 999999999999999 && inB x.Scale 0 15) with
 | true =>
  rw [Bool.and_eq_true, zbf, zbf] at h; simp [h]
 | false =>
  simp only [cfa]; constructor
  · intro h2; cases h2
  · intro h2; rw [show (inB x.N (-999999999999999) 999999999999999) = true from zbf.2 h2.1, show inB x.Scale 0 15 = true from zbf.2 h2.2] at h; cases h
def zj9 (t : DataType) : Prop := zfj t = 0 ∧ 1 ≤ t.Kind ∧ t.Kind ≤ 3
theorem zf6 {t : DataType} (h : zj9 t) : (1 ≤ t.Length ∧ t.Length ≤ 15) ∧ 0 ≤ t.Scale ∧ t.Scale ≤ t.Length := by
 obtain ⟨h0, h1, h2⟩ := h
 unfold zfj at h0
 rw [ifn] at h0
 by_cases hk : t.Kind = 3
 · rw [ifn, ifp hk] at h0; split at h0
   · split at h0
     · rename_i h3 h4; have := zbf.1 h4; omega
     · cases h0
   · cases h0
 · rw [ifp] at h0; split at h0
   · split at h0
     · rename_i h3 h4; have := zbf.1 h4; have := zbf.1 h3; omega
     · cases h0
   · cases h0
theorem zcj {k m : Nat} (h : k ≤ m) : 10 ^ k ≤ 10 ^ m := Nat.pow_le_pow_right (by decide) h
theorem zcu (k : Nat) : 0 < 10 ^ k := Nat.pow_pos (by decide)
theorem zuw (N : Nat) (hN : 300 < N) {x : Number} (hx : zdl x) (k : Nat) (hk : k < 100) : zc5 N x (k : Int) = some (wn (x.N.natAbs * 10 ^ k)) := by
 obtain ⟨⟨h1, h2⟩, _⟩ := hx
 unfold zc5
 have e : (if w6 (0 - x.N) > x.N then w6 (0 - x.N) else x.N) = ((x.N.natAbs : Nat) : Int) := by
  rw [w6e]; split <;> omega
 rw [e, zxt, mel (by omega), z61 (by omega), obs, zy5 N (by omega) _ k hk]
 rfl
theorem z4x (N : Nat) (hN : 300 < N) {x : Number} (hx : zdl x) : zc5 N x 0 = some (wn x.N.natAbs) := by
 have := zuw N hN hx 0 (by decide)
 rw [Nat.pow_zero, Nat.mul_one] at this
 exact this
theorem zwf : zbt 1 = some (wn 1) := z61 (n := 1) (by decide)
theorem z1o (N : Nat) (hN : 300 < N) {k : Int} (h0 : 0 ≤ k) (h1 : k < 100) : zh N (wn 1) k = some (wn (10 ^ k.toNat)) := by
 have := zy5 N (by omega) 1 k.toNat (by omega)
 rw [Nat.one_mul, Int.toNat_of_nonneg h0] at this
 exact this
def zjg (b : Bool) (p q : Nat) (t : DataType) (half : Bool) : Value × Int :=
 if 10 ^ t.Length.toNat ≤ p * 10 ^ t.Scale.toNat / q + cond (half && decide (q ≤ p * 10 ^ t.Scale.toNat % q + p * 10 ^ t.Scale.toNat % q)) 1 0 then (⟨0, ⟨#[]⟩⟩, 19)
 else (⟨cond b (-((p * 10 ^ t.Scale.toNat / q + cond (half && decide (q ≤ p * 10 ^ t.Scale.toNat % q + p * 10 ^ t.Scale.toNat % q)) 1 0 : Nat) : Int)) ((p * 10 ^ t.Scale.toNat / q + cond (half && decide (q ≤ p * 10 ^ t.Scale.toNat % q + p * 10 ^ t.Scale.toNat % q)) 1 0 : Nat) : Int), ⟨#[]⟩⟩, 0)
theorem eW (a : zH) : (⟨a.e0, a.e1, a.e2, a.e3⟩ : zH) = a := rfl
theorem zaaa (N : Nat) (hN : 300 < N) (b : Bool) (Q : Nat) (hQ : Q < zmx) {t : DataType} (ht : zj9 t) :
 ((zbt 1).bind fun r11 => (zh N r11 t.Length).bind fun r12 => (zk N (wn Q) r12).bind fun r13 => cond (decide (r13 ≥ 0)) (some ((⟨0, (⟨#[]⟩ : ByteArray)⟩ : Value), (19 : Int)))
 (cond b (some ((⟨(w6 (0 - (w6 (zaq [(wn Q).e0, (wn Q).e1, (wn Q).e2, (wn Q).e3] 0)))), (⟨#[]⟩ : ByteArray)⟩ : Value), (0 : Int)))
 (some ((⟨(w6 (zaq [(wn Q).e0, (wn Q).e1, (wn Q).e2, (wn Q).e3] 0)), (⟨#[]⟩ : ByteArray)⟩ : Value), (0 : Int))))) =
 some (if 10 ^ t.Length.toNat ≤ Q then (⟨0, ⟨#[]⟩⟩, 19) else (⟨cond b (-(Q : Int)) (Q : Int), ⟨#[]⟩⟩, 0)) := by
 obtain ⟨⟨l1, l2⟩, l3, l4⟩ := zf6 ht
 have hp : 10 ^ t.Length.toNat ≤ 10 ^ 15 := zcj (by omega)
 rw [zwf, obs, z1o N hN (by omega) (by omega), obs, zpr N (by omega) hQ (by unfold zmx; omega), obs, zx1]
 by_cases h : 10 ^ t.Length.toNat ≤ Q
 · rw [dct h, ifp h]; rfl
 · rw [dcf h, ifn h, cfa]; have e : zaq [(wn Q).e0, (wn Q).e1, (wn Q).e2, (wn Q).e3] 0 = (Q : Int) := by
    show ((Q % 18446744073709551616 : Nat) : Int) = Q; rw [mel (by omega)]
   rw [e, w6e (n := (Q : Int)), w6e]; cases b
   · rfl
   · simp only [ctr, Int.zero_sub]
theorem zx2 (N : Nat) (hN : 300 < N) (b : Bool) (p q : Nat) (hp : p ≤ 10 ^ 46) (hq : 0 < q) (hq2 : q ≤ 10 ^ 46) {t : DataType} (ht : zj9 t) (half : Bool) : zd2 N ⟨b, wn p, wn q⟩ t half = some (zjg b p q t half) := by
 obtain ⟨⟨l1, l2⟩, l3, l4⟩ := zf6 ht
 have hs : p * 10 ^ t.Scale.toNat ≤ 10 ^ 46 * 10 ^ 15 := Nat.mul_le_mul hp (zcj (by omega))
 have hd : p * 10 ^ t.Scale.toNat / q ≤ 10 ^ 46 * 10 ^ 15 := Nat.le_trans (Nat.div_le_self _ _) hs
 have hm : p * 10 ^ t.Scale.toNat % q < q := Nat.mod_lt _ hq
 unfold zd2 zjg
 try simp only [eW]
 have e1 := zy5 N (by omega) p t.Scale.toNat (by omega)
 rw [Int.toNat_of_nonneg l3] at e1
 rw [e1, obs, z4u N hN _ q (by unfold zmx; omega) hq (by omega)]
 simp only [obs]
 rw [z2k N (by omega), obs, zpr N (by omega) (by unfold zmx; omega) (by unfold zmx; omega)]
 simp only [obs, zx1]
 have k : (cond half (some (decide (q ≤ p * 10 ^ t.Scale.toNat % q + p * 10 ^ t.Scale.toNat % q))) (some false)) = some (half && decide (q ≤ p * 10 ^ t.Scale.toNat % q + p * 10 ^ t.Scale.toNat % q)) := by cases half <;> rfl
 rw [k, obs]
 cases hc : (half && decide (q ≤ p * 10 ^ t.Scale.toNat % q + p * 10 ^ t.Scale.toNat % q)) with
 | true =>
  simp only [ctr]; rw [zwf, obs, z2k N (by omega), obs, ← zwf]; exact zaaa N hN b _ (by unfold zmx; omega) ht
 | false =>
  simp only [cfa, Nat.add_zero]; exact zaaa N hN b _ (by unfold zmx; omega) ht
theorem z4p (b : Bool) (p q k : Nat) (hk : 0 < k) (hq : 0 < q) (t : DataType) (half : Bool) : zjg b (p * k) (q * k) t half = zjg b p q t half := by
 have e : p * k * 10 ^ t.Scale.toNat = p * 10 ^ t.Scale.toNat * k := Nat.mul_right_comm _ _ _
 have e2 : p * k * 10 ^ t.Scale.toNat / (q * k) = p * 10 ^ t.Scale.toNat / q := by rw [e, Nat.mul_div_mul_right _ _ hk]
 have e3 : decide (q * k ≤ p * k * 10 ^ t.Scale.toNat % (q * k) + p * k * 10 ^ t.Scale.toNat % (q * k)) = decide (q ≤ p * 10 ^ t.Scale.toNat % q + p * 10 ^ t.Scale.toNat % q) := by
  rw [e, Nat.mul_mod_mul_right, ← Nat.add_mul]; simp only [decide_eq_decide]; exact ⟨fun h => Nat.le_of_mul_le_mul_right h hk, fun h => Nat.mul_le_mul_right k h⟩
 unfold zjg
 rw [e2, e3]
theorem z6r (b b' : Bool) (p q : Nat) (hq : 0 < q) (t : DataType) (half : Bool) (h : p ≠ 0 → b = b') : zjg b p q t half = zjg b' p q t half := by
 by_cases hp : p = 0
 · subst hp; unfold zjg; simp only [Nat.zero_mul, Nat.zero_div, Nat.zero_mod, Nat.zero_add, dcf (show ¬ q ≤ 0 by omega), Bool.and_false, cfa]; cases b <;> cases b' <;> rfl
 · rw [h hp]
def z1b (p : Int) (q : Nat) (t : DataType) (half : Bool) : Value × Int := zjg (decide (p < 0)) p.natAbs q t half
theorem z8q (b : Bool) (p q : Nat) (hq : 0 < q) (t : DataType) (half : Bool) : zjg b p q t half = z1b (cond b (-(p : Int)) p) q t half := by
 unfold z1b
 have : (cond b (-(p : Int)) (p : Int)).natAbs = p := by cases b <;> simp
 rw [this]
 refine z6r _ _ _ _ hq _ _ fun h => ?_
 cases b
 · symm; simp
 · symm; simp; omega
theorem zacb {t : DataType} (ht : zj9 t) : zf1 t = some true := by
 obtain ⟨_, h1, h2⟩ := ht
 unfold zf1
 rcases (by omega : t.Kind = 1 ∨ t.Kind = 2 ∨ t.Kind = 3) with h | h | h <;> rw [h] <;> rfl
def zoa (x : Number) (t : DataType) (half : Bool) : Value × Int := z1b x.N (10 ^ x.Scale.toNat) t half
theorem zaaf (N : Nat) (hN : 300 < N) {x : Number} (hx : zdl x) {t : DataType} (ht : zj9 t) (half : Bool) : zdv N x t half = some (zoa x t half) := by
 have f3 : ∀ a b c : Int, zq N [a, b, c] = some (zhe [a, b, c]) := fun a b c => zqu N _ (by simp; omega) (by simp)
 have hx' := hx
 obtain ⟨⟨h1, h2⟩, h3, h4⟩ := hx'
 have hp : 10 ^ x.Scale.toNat ≤ 10 ^ 15 := zcj (by omega)
 unfold zdv zr8
 try simp only [eN, eD, eW]
 rw [zrf, zpq.2 hx]
 simp only [obs]
 rw [zre N (by omega), ht.1]
 simp only [obs]
 rw [zacb ht]
 simp only [obs, zrg, f3]
 rw [z4x N hN hx, zwf]
 simp only [obs]
 rw [z1o N hN h3 (by omega)]
 simp only [obs]
 rw [show zhe [0, 0, cond (!true) 17 0] = 0 from rfl]
 simp only [bsf, cfa]
 rw [zx2 N hN _ _ _ (by omega) (zcu _) (by omega) ht]
 simp only [obs]
 rfl
def zak (x : Number) (s : Int) : Int := x.N * 10 ^ (s - x.Scale).toNat
def zg (a b : Number) : Int := if b.Scale > a.Scale then b.Scale else a.Scale
theorem zkb (x : Number) (s : Int) : (zak x s).natAbs = x.N.natAbs * 10 ^ (s - x.Scale).toNat := by
 unfold zak
 rw [Int.natAbs_mul, Int.natAbs_pow]
 rfl
theorem z4q (k : Nat) : (0 : Int) < 10 ^ k := Int.pow_pos (by decide)
theorem zrw (x : Number) (s : Int) : (zak x s < 0) ↔ x.N < 0 := by
 unfold zak
 have := z4q (s - x.Scale).toNat
 constructor
 · intro h; refine cbc fun h2 => ?_; have := Int.mul_nonneg (show 0 ≤ x.N by omega) (Int.le_of_lt this); omega
 · intro h; exact Int.mul_neg_of_neg_of_pos h this
theorem z2w (x : Number) (s : Int) : zak x s = 0 ↔ x.N = 0 := by
 unfold zak
 have := z4q (s - x.Scale).toNat
 constructor
 · intro h; rcases Int.mul_eq_zero.1 h with h | h
   · exact h
   · omega
 · intro h; rw [h, Int.zero_mul]
theorem zy6 (N : Nat) (hN : 300 < N) {a b : Number} (ha : zdl a) (hb : zdl b) : zez N a b = some (wn (zak a (zg a b)).natAbs, wn (zak b (zg a b)).natAbs, zg a b) := by
 have ha' := ha
 have hb' := hb
 obtain ⟨_, a3, a4⟩ := ha'
 obtain ⟨_, b3, b4⟩ := hb'
 unfold zez
 have hs : (if b.Scale > a.Scale then b.Scale else a.Scale) = zg a b := rfl
 have h1 : a.Scale ≤ zg a b ∧ b.Scale ≤ zg a b ∧ zg a b ≤ 15 := by unfold zg; split <;> omega
 rw [hs, w6e, w6e]
 have e1 := zuw N hN ha (zg a b - a.Scale).toNat (by omega)
 have e2 := zuw N hN hb (zg a b - b.Scale).toNat (by omega)
 rw [Int.toNat_of_nonneg (by omega)] at e1 e2
 rw [e1, obs, e2, obs, zkb, zkb]
theorem zke {x : Number} (hx : zdl x) {s : Int} (hs : s ≤ 15) : (zak x s).natAbs ≤ 10 ^ 30 := by
 obtain ⟨⟨h1, h2⟩, h3, h4⟩ := hx
 rw [zkb]
 have := Nat.mul_le_mul (show x.N.natAbs ≤ 10 ^ 15 by omega) (zcj (k := (s - x.Scale).toNat) (m := 15) (by omega))
 exact Nat.le_trans this (by decide)
theorem zpl {a b : Number} (ha : zdl a) (hb : zdl b) : a.Scale ≤ zg a b ∧ b.Scale ≤ zg a b ∧ 0 ≤ zg a b ∧ zg a b ≤ 15 := by
 obtain ⟨_, a3, a4⟩ := ha
 obtain ⟨_, b3, b4⟩ := hb
 unfold zg; split <;> omega
def z8x (a b : Int) : Int := if a < b then -1 else if b < a then 1 else 0
theorem zxq (N : Nat) (hN : 300 < N) {a b : Number} (ha : zdl a) (hb : zdl b) : zjj N a b = some (z8x (zak a (zg a b)) (zak b (zg a b)), 0) := by
 have f2 : ∀ a b : Int, zq N [a, b] = some (zhe [a, b]) := fun a b => zqu N _ (by simp; omega) (by simp)
 obtain ⟨s1, s2, s3, s4⟩ := zpl ha hb
 have la := zke ha s4
 have lb := zke hb s4
 have na := zrw a (zg a b)
 have nb := zrw b (zg a b)
 unfold zjj
 rw [zrf, zrf, zpq.2 ha, zpq.2 hb]
 simp only [obs, f2]
 rw [zy6 N hN ha hb]
 simp only [show zhe [0, 0] = 0 from rfl, bsf, cfa, obs]
 rw [zpr N (by omega) (by unfold zmx; omega) (by unfold zmx; omega), zpr N (by omega) (by unfold zmx; omega) (by unfold zmx; omega)]
 generalize zak a (zg a b) = A at *
 generalize zak b (zg a b) = B at *
 have k : ∀ x y, (cond (decide (a.N < 0)) x y : Option (Int × Int)) = if A < 0 then x else y := fun x y => by
  by_cases h : A < 0
  · rw [ifp h, dct (na.1 h), ctr]
  · rw [ifn h, dcf (fun h2 => h (na.2 h2)), cfa]
 have k2 : ∀ x y, (cond (decide (b.N < 0)) x y : Option (Int × Int)) = if B < 0 then x else y := fun x y => by
  by_cases h : B < 0
  · rw [ifp h, dct (nb.1 h), ctr]
  · rw [ifn h, dcf (fun h2 => h (nb.2 h2)), cfa]
 rw [show (cond (decide (a.N < 0)) (some (decide (b.N < 0))) (some false)) = some (decide (A < 0 ∧ B < 0)) by
  by_cases h : A < 0
  · rw [dct (na.1 h), ctr]
    by_cases h2 : B < 0
    · rw [dct (nb.1 h2), dct ⟨h, h2⟩]
    · rw [dcf (fun h3 => h2 (nb.2 h3)), dcf (fun h3 => h2 h3.2)]
  · rw [dcf (fun h2 => h (na.2 h2)), cfa, dcf (fun h3 => h h3.1)]]
 simp only [obs, k, k2]
 unfold zj2 z8x
 by_cases h1 : A < 0 ∧ B < 0
 · rw [dct h1]; simp only [ctr, Option.some.injEq, Prod.mk.injEq, and_true]
   repeat' split
   all_goals first | rfl | omega
 · rw [dcf h1]; simp only [cfa]
   repeat' split
   all_goals first | rfl | (exfalso; omega)
theorem zab9 (N : Nat) (hN : 300 < N) {a b : Number} (ha : zdl a) (hb : zdl b) : ∃ s p, zmq N a b = some ⟨s, wn p, wn (10 ^ (zg a b).toNat)⟩ ∧ p ≤ 10 ^ 31 ∧ cond s (-(p : Int)) p = zak a (zg a b) + zak b (zg a b) := by
 obtain ⟨s1, s2, s3, s4⟩ := zpl ha hb
 have la := zke ha s4
 have lb := zke hb s4
 have na := zrw a (zg a b)
 have nb := zrw b (zg a b)
 unfold zmq
 rw [zy6 N hN ha hb]
 simp only [obs]
 rw [z2k N (by omega), zwf]
 simp only [obs]
 rw [z1o N hN s3 (by omega)]
 simp only [obs]
 obtain ⟨r, hr1, hr2⟩ := z1p N (by omega) (zak a (zg a b)).natAbs (zak b (zg a b)).natAbs
 rw [hr1]
 simp only [obs]
 rw [zpr N (by omega) (by unfold zmx; omega) (by unfold zmx; omega)]
 simp only [obs]
 generalize zak a (zg a b) = A at *
 generalize zak b (zg a b) = B at *
 rw [show decide (a.N < 0) = decide (A < 0) by simp only [decide_eq_decide]; exact na.symm, show decide (b.N < 0) = decide (B < 0) by simp only [decide_eq_decide]; exact nb.symm]
 by_cases hA : A < 0
 · by_cases hB : B < 0
   · rw [dct hA, dct hB]; refine ⟨true, _, rfl, by omega, ?_⟩; simp only [ctr]; omega
   · rw [dct hA, dcf hB]; unfold zj2
     by_cases h : A.natAbs < B.natAbs
     · rw [ifp h, z32 N (by omega) (Nat.le_of_lt h)]; refine ⟨false, _, rfl, by omega, ?_⟩; simp only [cfa]; omega
     · rw [ifn h, hr2 (by omega)]; refine ⟨true, A.natAbs - B.natAbs, ?_, by omega, ?_⟩
       · split <;> rfl
       · simp only [ctr]; omega
 · by_cases hB : B < 0
   · rw [dcf hA, dct hB]; unfold zj2
     by_cases h : A.natAbs < B.natAbs
     · rw [ifp h, z32 N (by omega) (Nat.le_of_lt h)]; refine ⟨true, _, rfl, by omega, ?_⟩; simp only [ctr]; omega
     · rw [ifn h, hr2 (by omega)]; refine ⟨false, A.natAbs - B.natAbs, ?_, by omega, ?_⟩
       · split <;> rfl
       · simp only [cfa]; omega
   · rw [dcf hA, dcf hB]; refine ⟨false, _, rfl, by omega, ?_⟩; simp only [cfa]; omega
def zln (op : Int) (a b : Number) (t : DataType) (half : Bool) : Value × Int :=
 if (op = 3 ∨ op = 4) ∧ b.N = 0 then (⟨0, ⟨#[]⟩⟩, 20)
 else if op = 0 then z1b (zak a (zg a b) + zak b (zg a b)) (10 ^ (zg a b).toNat) t half
 else if op = 1 then z1b (zak a (zg a b) - zak b (zg a b)) (10 ^ (zg a b).toNat) t half
 else if op = 2 then zjg (decide (a.N < 0) != decide (b.N < 0)) (a.N.natAbs * b.N.natAbs) (10 ^ (a.Scale + b.Scale).toNat) t half
 else if op = 3 then zjg (decide (a.N < 0) != decide (b.N < 0)) (a.N.natAbs * 10 ^ b.Scale.toNat) (b.N.natAbs * 10 ^ a.Scale.toNat) t half
 else zjg (decide (a.N < 0)) ((zak a (zg a b)).natAbs % (zak b (zg a b)).natAbs) (10 ^ (zg a b).toNat) t half
theorem zae1 (N : Nat) (hN : 300 < N) {op : Int} (hop : 0 ≤ op ∧ op ≤ 4) {a b : Number} (ha : zdl a) (hb : zdl b) {t : DataType} (ht : zj9 t) (half : Bool) : zgd N op a b t half = some (zln op a b t half) := by
 have f5 : ∀ a b c d e : Int, zq N [a, b, c, d, e] = some (zhe [a, b, c, d, e]) := fun a b c d e => zqu N _ (by simp; omega) (by simp)
 obtain ⟨s1, s2, s3, s4⟩ := zpl ha hb
 have ha' := ha
 have hb' := hb
 obtain ⟨⟨a1, a2⟩, a3, a4⟩ := ha'
 obtain ⟨⟨b1, b2⟩, b3, b4⟩ := hb'
 have p15 : ∀ k : Int, k ≤ 15 → 10 ^ k.toNat ≤ 10 ^ 15 := fun k hk => zcj (by omega)
 have q1 := p15 _ s4
 have q2 := p15 _ a4
 have q3 := p15 _ b4
 unfold zgd zo5 zj3 zl6
 simp only [z4t, zrg, obs]
 rw [zrf, zrf, zpq.2 ha, zpq.2 hb, show inB op 0 4 = true from zbf.2 hop]
 simp only [obs]
 rw [zre N (by omega), ht.1]
 simp only [obs]
 rw [zacb ht]
 simp only [obs, f5, show zhe [cond (!true) 4 0, 0, 0, 0, cond (!true) 17 0] = 0 from rfl, bsf, cfa]
 have g : ((cond (op == 3) (some true) (some (op == 4))).bind fun g1 => some g1) = some (decide (op = 3 ∨ op = 4)) := by
  rw [zcn, zcn]
  by_cases h : op = 3
  · rw [dct h, dct (Or.inl h)]; rfl
  · rw [dcf h]
    by_cases h2 : op = 4
    · rw [dct h2, dct (Or.inr h2)]; rfl
    · rw [dcf h2, dcf (by omega)]; rfl
 rw [g]
 simp only [obs]
 rw [show (cond (decide (op = 3 ∨ op = 4)) (some (b.N == 0)) (some false)) = some (decide ((op = 3 ∨ op = 4) ∧ b.N = 0)) by
  rw [zcn]
  by_cases h : op = 3 ∨ op = 4
  · rw [dct h, ctr]; congr 1; simp [h]
  · rw [dcf h, cfa]; congr 1; simp [h]]
 simp only [obs]
 unfold zln
 by_cases hz : (op = 3 ∨ op = 4) ∧ b.N = 0
 · rw [dct hz, ifp hz]; rfl
 · rw [dcf hz, ifn hz, cfa]; unfold znf
   by_cases o0 : op = 0
   · obtain ⟨s, p, h1, h2, h3⟩ := zab9 N hN ha hb; rw [ifp o0, o0, h1]; simp only [bst, ctr, obs]; rw [zx2 N hN _ _ _ (by omega) (zcu _) (by omega) ht, ← h3, z8q _ _ _ (zcu _)]; rfl
   · rw [ifn o0, zcn, dcf o0, cfa]
     by_cases o1 : op = 1
     · have hb2 : zdl ⟨-b.N, b.Scale⟩ := ⟨⟨by show -999999999999999 ≤ -b.N; omega, by show -b.N ≤ 999999999999999; omega⟩, b3, b4⟩; obtain ⟨s, p, h1, h2, h3⟩ := zab9 N hN ha hb2; rw [ifp o1, zcn, dct o1, ctr, w6e, Int.zero_sub, h1]; simp only [obs]; have e1 : zg a ⟨-b.N, b.Scale⟩ = zg a b := rfl; have e2 : zak ⟨-b.N, b.Scale⟩ (zg a b) = -zak b (zg a b) := by unfold zak; exact Int.neg_mul _ _
       rw [e1] at h3 ⊢; rw [e2] at h3; rw [zx2 N hN _ _ _ (by omega) (zcu _) (by omega) ht, Int.sub_eq_add_neg, ← h3, z8q _ _ _ (zcu _)]; rfl
     · rw [ifn o1, zcn, dcf o1, cfa]
       by_cases o2 : op = 2
       · rw [ifp o2, zcn, dct o2, ctr, z4x N hN ha, obs]; have e : (if w6 (0 - b.N) > b.N then w6 (0 - b.N) else b.N) = ((b.N.natAbs : Nat) : Int) := by
          rw [w6e]; split <;> omega
         rw [e, zxt, mel (by omega), z81 N (by omega) _ _ (by omega), obs, zwf, obs, w6e, z1o N hN (by omega) (by omega)]; simp only [obs]; have hm : a.N.natAbs * b.N.natAbs ≤ 10 ^ 15 * 10 ^ 15 := Nat.mul_le_mul (by omega) (by omega); have hm2 : 10 ^ (a.Scale + b.Scale).toNat ≤ 10 ^ 30 := zcj (by omega); rw [zx2 N hN _ _ _ (by omega) (zcu _) (by omega) ht]; rfl
       · rw [ifn o2, zcn, dcf o2, cfa]
         by_cases o3 : op = 3
         · have hb0 : b.N ≠ 0 := fun h => hz ⟨.inl o3, h⟩; have e1 := zuw N hN ha b.Scale.toNat (by omega); have e2 := zuw N hN hb a.Scale.toNat (by omega); rw [Int.toNat_of_nonneg (by omega)] at e1 e2; have hm : a.N.natAbs * 10 ^ b.Scale.toNat ≤ 10 ^ 15 * 10 ^ 15 := Nat.mul_le_mul (by omega) (by omega); have hm2 : b.N.natAbs * 10 ^ a.Scale.toNat ≤ 10 ^ 15 * 10 ^ 15 := Nat.mul_le_mul (by omega) (by omega); rw [ifp o3, zcn, dct o3, ctr, e1, obs, e2, obs, obs]; rw [zx2 N hN _ _ _ (by omega) (Nat.mul_pos (by omega) (zcu _)) (by omega) ht]; rfl
         · have hb0 : b.N ≠ 0 := fun h => hz ⟨by omega, h⟩; have la := zke ha s4; have lb := zke hb s4; have hb1 : (zak b (zg a b)).natAbs ≠ 0 := fun h => hb0 ((z2w b (zg a b)).1 (Int.natAbs_eq_zero.1 h)); have hm := Nat.mod_lt (zak a (zg a b)).natAbs (show 0 < (zak b (zg a b)).natAbs by omega); rw [ifn o3, zcn, dcf o3, cfa, zy6 N hN ha hb, obs]; simp only []; rw [z4u N hN _ _ (by unfold zmx; omega) (by omega) (by omega), obs, zwf, obs]; rw [z1o N hN s3 (by omega)]; simp only [obs]; rw [zx2 N hN _ _ _ (by omega) (zcu _) (by omega) ht]; rfl
def dv : List Int → Nat
 | [] => 0
 | d :: l => d.toNat + 10 * dv l
def dok (l : List Int) : Prop := ∀ d ∈ l, 0 ≤ d ∧ d < 10
def zqx (l : List Int) : Prop := l.getLast? ≠ some 0
def dg (n : Nat) : List Int := if n = 0 then [] else ((n % 10 : Nat) : Int) :: dg (n / 10)
termination_by n
decreasing_by omega
theorem zng : dg 0 = [] := by rw [dg]; rfl
theorem zsq {n : Nat} (h : n ≠ 0) : dg n = ((n % 10 : Nat) : Int) :: dg (n / 10) := by rw [dg, ifn h]
theorem z39 (n : Nat) : dv (dg n) = n ∧ dok (dg n) ∧ zqx (dg n) ∧ (dg n = [] ↔ n = 0) := by
 induction n using Nat.strongRecOn with
 | _ n ih =>
  by_cases h : n = 0
  · subst h; rw [zng]; exact ⟨rfl, fun d hd => (List.not_mem_nil hd).elim, by unfold zqx; simp, by simp⟩
  · obtain ⟨h1, h2, h3, h4⟩ := ih (n / 10) (by omega); rw [zsq h]; refine ⟨?_, ?_, ?_, by simp [h]⟩
    · simp only [dv, h1, itn]; omega
    · intro d hd; rcases List.mem_cons.1 hd with rfl | hd
      · omega
      · exact h2 d hd
    · unfold zqx at h3 ⊢; cases hl : dg (n / 10) with
      | nil =>
       have := h4.1 hl; simp only [List.getLast?_singleton, ne_eq, Option.some.injEq]; omega
      | cons x l =>
       rw [hl] at h3; rw [List.getLast?_cons_cons]; exact h3
theorem zm4 (n : Nat) : dv (dg n) = n := (z39 n).1
theorem zmc (n : Nat) : dok (dg n) := (z39 n).2.1
theorem zaao (n : Nat) : zqx (dg n) := (z39 n).2.2.1
theorem z5c : ∀ {l : List Int}, dok l → zqx l → dg (dv l) = l
 | [], _, _ => zng
 | d :: l, h, hc => by
  have hl : dok l := fun x hx => h x (List.mem_cons_of_mem _ hx); obtain ⟨h0, h1⟩ := h d List.mem_cons_self; cases l with
  | nil =>
   unfold zqx at hc; simp only [List.getLast?_singleton, ne_eq, Option.some.injEq] at hc; have e : dv [d] = d.toNat := by simp [dv]
   rw [e, zsq (by omega), show d.toNat / 10 = 0 by omega, zng, show ((d.toNat % 10 : Nat) : Int) = d by omega]
  | cons x l =>
   have hcl : zqx (x :: l) := by
    unfold zqx at hc ⊢; rw [List.getLast?_cons_cons] at hc; exact hc
   have ih := z5c hl hcl; have hn : dv (x :: l) ≠ 0 := fun h => by rw [h, zng] at ih; cases ih
   have e : dv (d :: x :: l) = d.toNat + 10 * dv (x :: l) := rfl; rw [e, zsq (by omega), show (d.toNat + 10 * dv (x :: l)) / 10 = dv (x :: l) by omega, ih, show (((d.toNat + 10 * dv (x :: l)) % 10 : Nat) : Int) = d by omega]
theorem zw3 : ∀ (a b : List Int), dv (a ++ b) = dv a + 10 ^ a.length * dv b
 | [], b => by simp [dv]
 | d :: a, b => by
  simp only [List.cons_append, dv, zw3 a b, lnc, Nat.pow_succ]; rw [Nat.mul_add, Nat.add_assoc, Nat.mul_comm (10 ^ a.length) 10, Nat.mul_assoc]
theorem zwm : ∀ k : Nat, dv (List.replicate k (0 : Int)) = 0
 | 0 => rfl
 | k + 1 => by simp only [List.replicate_succ, dv, zwm k]; rfl
theorem zu6 (k : Nat) : dok (List.replicate k (0 : Int)) := fun d hd => by
 obtain ⟨_, rfl⟩ := List.mem_replicate.1 hd
 omega
theorem zz2 {a b : List Int} (ha : dok a) (hb : dok b) : dok (a ++ b) := fun d hd => (List.mem_append.1 hd).elim (ha d) (hb d)
theorem z5a : ∀ {l : List Int}, dok l → dv l < 10 ^ l.length
 | [], _ => by simp [dv]
 | d :: l, h => by
  have ih := z5a (l := l) fun x hx => h x (List.mem_cons_of_mem _ hx); obtain ⟨h0, h1⟩ := h d List.mem_cons_self; simp only [dv, lnc, Nat.pow_succ]; omega
theorem zi0 (n k : Nat) : (dg n).length ≤ k ↔ n < 10 ^ k := by
 induction k generalizing n with
 | zero =>
  by_cases h : n = 0
  · rw [h, zng]; simp
  · rw [zsq h]; simp; omega
 | succ k ih =>
  by_cases h : n = 0
  · rw [h, zng]; simp [zcu]
  · rw [zsq h, lnc, Nat.add_le_add_iff_right, ih (n / 10), Nat.pow_succ]; omega
theorem z9n (l : List Int) (i : Nat) (hi : i < l.length) : dv l = dv (l.take i) + 10 ^ i * (l[i].toNat + 10 * dv (l.drop (i + 1))) := by
 have h := List.take_append_drop i l
 have e : l.drop i = l[i] :: l.drop (i + 1) := List.drop_eq_getElem_cons hi
 conv => lhs; rw [← h, zw3, e]
 simp only [dv, lnt, Nat.min_eq_left (Nat.le_of_lt hi)]
theorem z35 {l : List Int} (h : dok l) (i : Nat) : dok (l.take i) := fun d hd => h d (List.mem_of_mem_take hd)
theorem zad3 {l : List Int} (h : dok l) (i : Nat) : dok (l.drop i) := fun d hd => h d (List.mem_of_mem_drop hd)
theorem zaco {a b : List Int} (ha : dok a) (hb : dok b) (i : Nat) (hi : i < a.length) (hj : i < b.length) (h : a.drop (i + 1) = b.drop (i + 1)) (hlt : a[i] < b[i]) : dv a < dv b := by
 rw [z9n a i hi, z9n b i hj, h]
 have l1 := z5a (z35 ha i)
 rw [lnt, Nat.min_eq_left (Nat.le_of_lt hi)] at l1
 obtain ⟨x0, _⟩ := ha a[i] (List.getElem_mem hi)
 have : 10 ^ i * (a[i].toNat + 10 * dv (b.drop (i + 1))) + 10 ^ i ≤ 10 ^ i * (b[i].toNat + 10 * dv (b.drop (i + 1))) := by
  rw [← Nat.mul_succ]; exact Nat.mul_le_mul_left _ (by omega)
 omega
theorem z5b {a b : Nat} (h : (dg a).length < (dg b).length) : a < b := by
 have h1 := (zi0 a (dg a).length).1 (Nat.le_refl _)
 refine Nat.lt_of_lt_of_le h1 (cbc fun h2 => ?_)
 have := (zi0 b (dg a).length).2 (by omega)
 omega
def bl (b : ByteArray) : List UInt8 := b.data.toList
theorem zas (b : ByteArray) : (bl b).length = b.size := rfl
theorem zix {a b : ByteArray} (h : bl a = bl b) : a = b := by
 cases a; cases b
 unfold bl at h
 simp only at h
 congr 1
 exact Array.toList_inj.1 h
theorem zjr (b : ByteArray) (i : Nat) : zhl b (i : Int) = (bl b)[i]? := by
 unfold zhl bl
 rw [ifp]
 show b[i]? = _
 by_cases h : i < b.size
 · rw [getElem?_pos b i h, lge (by simpa using h)]
   congr 1
 · rw [getElem?_neg b i h, List.getElem?_eq_none (by simpa using h)]
theorem zfe (b : ByteArray) (i j : Nat) : bl (b.extract i j) = ((bl b).take j).drop i := by
 unfold bl
 rw [ByteArray.data_extract, Array.toList_extract, List.extract_eq_drop_take', List.drop_take]
theorem zdj (a b : ByteArray) : bl (a ++ b) = bl a ++ bl b := by
 unfold bl
 rw [ByteArray.data_append, Array.toList_append]
theorem zaeg (l : List UInt8) : bl ⟨l.toArray⟩ = l := rfl
def beV (l : List UInt8) : Nat := l.foldl (fun n c => n * 256 + c.toNat) 0
theorem zwr (l : List UInt8) (x : UInt8) : beV (l ++ [x]) = beV l * 256 + x.toNat := by
 unfold beV; rw [List.foldl_append]; rfl
theorem z5g (l : List UInt8) : beV l < 256 ^ l.length := by
 have key : ∀ (l r : List UInt8), l = r.reverse → beV l < 256 ^ l.length := by
  intro l r
  induction r generalizing l with
  | nil => intro h; subst h; decide
  | cons x r ih =>
   intro h; rw [List.reverse_cons] at h; subst h; have := ih _ rfl; rw [zwr, lna, lns, Nat.pow_succ]; have := x.toNat_lt; omega
 exact key l l.reverse (by simp)
theorem zeg {α : Type} (l : List α) (i : Nat) {x : α} (h : l[i]? = some x) : l.take (i + 1) = l.take i ++ [x] := by
 obtain ⟨h1, h2⟩ := gei h
 rw [List.take_succ_eq_append_getElem h1, h2]
theorem zfc {α : Type} {l : List α} {i : Nat} (h : i < l.length) : ∃ x, l[i]? = some x := ⟨_, lge h⟩
theorem or8 (n : Int) (c : Nat) (h1 : -36028797018963968 ≤ n) (h2 : n < 36028797018963968) (hc : c < 256) : orI .i64 (n * 256) (c : Int) = n * 256 + c := by
 unfold orI
 have e : (BitVec.ofInt IntKind.i64.bits (n * 256) ||| BitVec.ofInt IntKind.i64.bits (c : Int)).toNat = ((n * 256) % 18446744073709551616).toNat + c := by
  show (BitVec.ofInt 64 (n * 256) ||| BitVec.ofInt 64 (c : Int)).toNat = _; rw [BitVec.toNat_or, BitVec.ofInt_natCast, BitVec.toNat_ofNat, BitVec.toNat_ofInt, mel (by omega)]; show ((n * 256) % 18446744073709551616).toNat ||| c = _; have := Nat.two_pow_add_eq_or_of_lt (i := 8) (b := c) hc (((n * 256) % 18446744073709551616).toNat / 256); rw [show 2 ^ 8 * (((n * 256) % 18446744073709551616).toNat / 256) = ((n * 256) % 18446744073709551616).toNat by omega] at this; exact this.symm
 rw [e]
 have k : (2 : Int) ^ (IntKind.i64.bits) = 18446744073709551616 := by decide
 have k' : (2 : Int) ^ (IntKind.i64.bits - 1) = 9223372036854775808 := by decide
 unfold IntKind.wrap
 simp only [k, k', show IntKind.i64.signed = true from rfl, Bool.true_and, decide_eq_true_eq, ge_iff_le]
 split <;> omega
theorem z77 (N : Nat) (hN : 20 < N) (b : ByteArray) (hb : b.size ≤ 6) : zb9 N b = some (beV (bl b) : Int) := by
 unfold zb9
 have := za1 (f := zb9.r0 N) (fun i => (b, ((beV ((bl b).take i) : Nat) : Int), (b.size : Int), (i : Int))) b.size
  (fun i hi => by
   obtain ⟨x, hx⟩ : ∃ x, (bl b)[i]? = some x := zfc (by rw [zas]; exact hi); have hl := z5g ((bl b).take i); have hl2 : 256 ^ ((bl b).take i).length ≤ 256 ^ 6 := Nat.pow_le_pow_right (by decide) (by rw [lnt, zas]; omega); have hc := x.toNat_lt; simp only [zb9.r0, zb9.b0, dct (show (i : Int) < (b.size : Int) by omega), ctr, zjr, hx, obs]; rw [show (2 : Int) ^ (min (8 : Int).toNat 64) = 256 from rfl, w6e (n := ((beV ((bl b).take i) : Nat) : Int) * 256), w6e (n := (x.toNat : Int)), w6e (n := (i : Int) + 1), or8 _ _ (by omega) (by omega) hc, zeg _ _ hx, zwr]; simp only [Int.natCast_add, Int.natCast_mul, Int.natCast_one]; rfl)
  (by simp only [zb9.r0, zb9.b0, dcf (show ¬ (b.size : Int) < (b.size : Int) by omega), cfa]) (N := N) (by omega)
 simp only [List.take_zero, nc0] at this
 rw [show ((beV [] : Nat) : Int) = 0 from rfl] at this
 rw [this, ← zas, List.take_length]
 rfl
theorem z16 (N : Nat) (hN : 20 < N) (b : ByteArray) (k n : Nat) (hn : n ≤ 6) (hk : k + n ≤ b.size) (hb : b.size < 1000000) : zdr N b (k : Int) (n : Int) = some (beV (((bl b).drop k).take n) : Int) := by
 unfold zdr
 have := za1 (f := zdr.r0 N) (fun i => (b, (k : Int), (n : Int), ((beV (((bl b).drop k).take i) : Nat) : Int), (i : Int))) n
  (fun i hi => by
   have hlen : i < ((bl b).drop k).length := by rw [List.length_drop, zas]; omega
   obtain ⟨x, hy⟩ : ∃ x, ((bl b).drop k)[i]? = some x := zfc hlen; have hx : (bl b)[k + i]? = some x := by rw [← List.getElem?_drop]; exact hy
   have hl := z5g (((bl b).drop k).take i); have hl2 : 256 ^ (((bl b).drop k).take i).length ≤ 256 ^ 6 := Nat.pow_le_pow_right (by decide) (by rw [lnt]; omega); have hc := x.toNat_lt; simp only [zdr.r0, zdr.b0, dct (show (i : Int) < (n : Int) by omega), ctr]; rw [w6e (n := (k : Int) + (i : Int)), ← Int.natCast_add, zjr, hx]; simp only [obs]; rw [w6e (n := ((beV (((bl b).drop k).take i) : Nat) : Int) * 256), w6e (n := (x.toNat : Int)), w6e (n := (i : Int) + 1), w6e, zeg _ _ hy, zwr]; simp only [Int.natCast_add, Int.natCast_mul, Int.natCast_one]; rfl)
  (by simp only [zdr.r0, zdr.b0, dcf (show ¬ (n : Int) < (n : Int) by omega), cfa]) (N := N) (by omega)
 simp only [List.take_zero, nc0] at this
 rw [show ((beV [] : Nat) : Int) = 0 from rfl] at this
 rw [this]
 rfl
def zbm (v k : Nat) : List Int := (List.range k).map fun j => ((v / 256 ^ (k - 1 - j) % 256 : Nat) : Int)
theorem z4a (v k : Nat) : (zbm v k).length = k := by simp [zbm]
def zio (f : Nat → Int) (k i : Nat) : List Int := (List.range k).map fun j => if k - i ≤ j then f (k - 1 - j) else 0
theorem zwb (f : Nat → Int) (k i : Nat) : (zio f k i).length = k := by simp [zio]
theorem zun (f : Nat → Int) (k : Nat) : zio f k 0 = List.replicate k (0 : Int) := by
 unfold zio
 refine List.ext_getElem? fun j => ?_
 rw [List.getElem?_map, List.getElem?_replicate]
 by_cases h : j < k
 · rw [lge (by simpa using h), ifp h]; simp only [List.getElem_range, Option.map_some]; rw [ifn]
 · rw [List.getElem?_eq_none (by simpa using h), ifn h]; rfl
theorem zus (f : Nat → Int) (k : Nat) : zio f k k = (List.range k).map fun j => f (k - 1 - j) := by
 unfold zio
 refine List.map_congr_left fun j _ => ?_
 rw [ifp]
theorem zuo (f : Nat → Int) (k i : Nat) (h : i < k) : (zio f k i).set (k - 1 - i) (f i) = zio f k (i + 1) := by
 refine List.ext_getElem? fun j => ?_
 rw [List.getElem?_set]
 unfold zio
 simp only [lnm, List.length_range, List.getElem?_map]
 by_cases hj : j < k
 · rw [lge (by simpa using hj)]; simp only [List.getElem_range, Option.map_some]
   by_cases he : k - 1 - i = j
   · rw [ifp he, ifp, ifp, show k - 1 - j = i by omega]
   · rw [ifn he]
     congr 1
     by_cases h2 : k - i ≤ j
     · rw [ifp h2, ifp]
     · rw [ifn h2, ifn]
 · rw [List.getElem?_eq_none (by simpa using hj)]
   by_cases he : k - 1 - i = j
   · omega
   · rw [ifn he]; rfl
def z6f (v k i : Nat) : List Int := zio (fun e => ((v / 256 ^ e % 256 : Nat) : Int)) k i
theorem zacw (v k : Nat) : z6f v k 0 = List.replicate k (0 : Int) := zun _ k
theorem zacy (v k : Nat) : z6f v k k = zbm v k := zus _ k
theorem zacx (v k i : Nat) (h : i < k) : (z6f v k i).set (k - 1 - i) ((v / 256 ^ i % 256 : Nat) : Int) = z6f v k (i + 1) := zuo _ k i h
theorem zaej (m : Nat) : IntKind.wrap .u8 (m : Int) = ((m % 256 : Nat) : Int) := by
 have e : (2 : Int) ^ (IntKind.u8.bits) = 256 := by decide
 unfold IntKind.wrap
 simp only [e, show IntKind.u8.signed = false from rfl, Bool.false_and]
 simp only [Bool.false_eq_true, if_false]
 omega
theorem zafs (N : Nat) (hN : 20 < N) (v k : Nat) (hk : k ≤ 8) : zb8 N (v : Int) (k : Int) = some (zbm v k) := by
 unfold zb8
 have := za1 (f := zb8.r0 N) (fun i => ((v : Int), (k : Int), z6f v k i, (k : Int), (i : Int))) k
  (fun i hi => by
   have hl : (z6f v k i).length = k := zwb _ _ _; simp only [zb8.r0, zb8.b0, dct (show (i : Int) < (k : Int) by omega), ctr, hl]; rw [w6e (n := 8 * (i : Int)), w6e (n := (k : Int) - 1), w6e (n := (k : Int) - 1 - (i : Int)), ifn, ifp, ifp]; have e0 : ((k : Int) - 1 - (i : Int)).toNat = k - 1 - i := by omega
   rw [e0, lge (by omega), obs, w6e (n := (i : Int) + 1)]; have e1 : ((v : Int).fdiv (2 ^ (min (8 * (i : Int)).toNat 64))) = ((v / 256 ^ i : Nat) : Int) := by
    rw [show (8 * (i : Int)).toNat = 8 * i by omega, Nat.min_eq_left (by omega), show (2 : Int) ^ (8 * i) = ((256 ^ i : Nat) : Int) by
     rw [show (256 : Nat) = 2 ^ 8 from rfl, ← Nat.pow_mul, Int.natCast_pow]; rfl, zzv]
   rw [e1, zaej, zacx v k i hi]; rfl)
  (by simp only [zb8.r0, zb8.b0, dcf (show ¬ (k : Int) < (k : Int) by omega), cfa]) (N := N) (by omega)
 rw [ifp, ifp]
 have hr : Nat.ble ((k : Int).toNat * 1) zbr = true := by
  rw [Nat.ble_eq]; unfold zbr; omega
 rw [hr, ctr, itn, lnr]
 simp only [zacw, nc0] at this
 rw [this, obs, zacy]
def z4f : Pointer := ⟨0, ⟨0, 0⟩, 0⟩
def zji (off : Int) : Pointer := ⟨0, ⟨1, off⟩, 0⟩
def zqz (p : Pointer) : Int := cond (!inB p.Kind 0 2) 4 (cond (!inB p.Address.zS 0 1099511627775 || (!inB p.Address.Offset 0 16777215 || !inB p.Authority 0 1023)) 3 (cond (p.Authority != 0 && p.Kind != 1) 5 0))
theorem z6l (p : Pointer) : zeh p = some (zqz p) := by
 unfold zeh zqz
 simp only [zagx, obs, zxs]
 generalize inB p.Kind 0 2 = a
 generalize inB p.Address.zS 0 1099511627775 = b
 generalize inB p.Address.Offset 0 16777215 = c
 generalize inB p.Authority 0 1023 = d
 generalize (p.Authority != 0 && p.Kind != 1) = e
 cases a <;> cases b <;> cases c <;> cases d <;> cases e <;> rfl
theorem zab3 (p : Pointer) : zi7 p = some (zqz p) := by
 unfold zi7 zqz
 rw [Bool.and_comm (p.Authority != 0) (p.Kind != 1)]
 simp only [zhk, obs, zxs, orB]
 generalize inB p.Kind 0 2 = a
 generalize inB p.Address.zS 0 1099511627775 = b
 generalize inB p.Address.Offset 0 16777215 = c
 generalize inB p.Authority 0 1023 = d
 generalize (p.Kind != 1 && p.Authority != 0) = e
 cases a <;> cases b <;> cases c <;> cases d <;> cases e <;> rfl
def zwd (l : List UInt8) : Pointer := ⟨((l.getD 0 0).toNat : Nat), ⟨(beV ((l.drop 4).take 6) : Nat), (beV ((l.drop 10).take 6) : Nat)⟩, (beV ((l.drop 2).take 2) : Nat)⟩
def zk7 (l : List UInt8) : Pointer × Int := if (l.getD 1 0).toNat ≠ 0 then (z4f, 5) else if zqz (zwd l) ≠ 0 then (z4f, zqz (zwd l)) else (zwd l, 0)
theorem zv2 {l : List UInt8} {i : Nat} (h : i < l.length) : l[i]? = some (l.getD i 0) := by
 rw [gdd, lge h]; rfl
theorem z74 (N : Nat) (hN : 20 < N) (b : ByteArray) (hb : b.size = 16) : zgc N b = some (zk7 (bl b)) := by
 have hl : (bl b).length = 16 := hb
 have i1 : zhl b 1 = some ((bl b).getD 1 0) := by rw [show (1 : Int) = ((1 : Nat) : Int) from rfl, zjr, zv2 (by omega)]
 have i0 : zhl b 0 = some ((bl b).getD 0 0) := by rw [show (0 : Int) = ((0 : Nat) : Int) from rfl, zjr, zv2 (by omega)]
 have z1 : (b.extract (2 : Int).toNat (4 : Int).toNat).size = 2 := zc2 b 2 4 (by omega) (by omega)
 have z2 : (b.extract (4 : Int).toNat (10 : Int).toNat).size = 6 := zc2 b 4 10 (by omega) (by omega)
 have z3 : (b.extract (10 : Int).toNat b.size).size = 6 := (zc2 b 10 b.size (by omega) (by omega)).trans (by omega)
 have e1 := z77 N hN (b.extract (2 : Int).toNat (4 : Int).toNat) (by omega)
 have e2 := z77 N hN (b.extract (4 : Int).toNat (10 : Int).toNat) (by omega)
 have e3 := z77 N hN (b.extract (10 : Int).toNat b.size) (by omega)
 rw [zfe, show (2 : Int).toNat = 2 from rfl, show (4 : Int).toNat = 4 from rfl, List.drop_take] at e1
 rw [zfe, show (4 : Int).toNat = 4 from rfl, show (10 : Int).toNat = 10 from rfl, List.drop_take] at e2
 rw [zfe, show (10 : Int).toNat = 10 from rfl, List.drop_take, hb] at e3
 unfold zgc
 rw [show ((b.size : Int) != 16) = false by rw [hb]; rfl]
 simp only [cfa, i1, i0, obs]
 by_cases h : ((bl b).getD 1 0).toNat = 0
 · rw [h, show ((((0 : Nat) : Int)) != 0) = false from rfl, cfa]; rw [ifp, ifp, show (2 : Int).toNat = 2 from rfl, show (4 : Int).toNat = 4 from rfl, e1]; simp only [obs]; rw [ifp, ifp, show (10 : Int).toNat = 10 from rfl, e2]; simp only [obs]; rw [ifp, hb, e3]; simp only [obs]; have hx := ((bl b).getD 0 0).toNat_lt; rw [w6e]; rw [show (⟨(((bl b).getD 0 0).toNat : Int), ⟨(beV (((bl b).drop 4).take (10 - 4)) : Int), (beV (((bl b).drop 10).take (16 - 10)) : Int)⟩, (beV (((bl b).drop 2).take (4 - 2)) : Int)⟩ : Pointer) = zwd (bl b) from rfl, z6l]; simp only [obs]; unfold zk7; rw [ifn]
   by_cases h2 : zqz (zwd (bl b)) = 0
   · rw [h2]; rfl
   · rw [ifp h2, zd1, dct h2]; rfl
 · unfold zk7; rw [ifp h, zd1, dct (by omega)]; rfl
theorem z8f (N : Nat) (hN : 20 < N) (b : ByteArray) (hb : b.size = 16) : zov N b = some (zk7 (bl b)) := by
 have hl : (bl b).length = 16 := hb
 have i1 : zhl b 1 = some ((bl b).getD 1 0) := by rw [show (1 : Int) = ((1 : Nat) : Int) from rfl, zjr, zv2 (by omega)]
 have i0 : zhl b 0 = some ((bl b).getD 0 0) := by rw [show (0 : Int) = ((0 : Nat) : Int) from rfl, zjr, zv2 (by omega)]
 have e1 : zdr N b 2 2 = _ := z16 N hN b 2 2 (by omega) (by omega) (by omega)
 have e2 : zdr N b 4 6 = _ := z16 N hN b 4 6 (by omega) (by omega) (by omega)
 have e3 : zdr N b 10 6 = _ := z16 N hN b 10 6 (by omega) (by omega) (by omega)
 unfold zov
 rw [show ((b.size : Int) != 16) = false by rw [hb]; rfl]
 simp only [cfa, i1, i0, obs]
 by_cases h : ((bl b).getD 1 0).toNat = 0
 · rw [h, show ((((0 : Nat) : Int)) != 0) = false from rfl, cfa]; rw [e1, e2, e3]; simp only [obs]; have hx := ((bl b).getD 0 0).toNat_lt; rw [w6e]; rw [show (⟨(((bl b).getD 0 0).toNat : Int), ⟨(beV (((bl b).drop 4).take 6) : Int), (beV (((bl b).drop 10).take 6) : Int)⟩, (beV (((bl b).drop 2).take 2) : Int)⟩ : Pointer) = zwd (bl b) from rfl, zab3]; simp only [obs]; unfold zk7; rw [ifn]
   by_cases h2 : zqz (zwd (bl b)) = 0
   · rw [h2]; rfl
   · rw [ifp h2, zd1, dct h2]; rfl
 · unfold zk7; rw [ifp h, zd1, dct (by omega)]; rfl
def zlg (s : Storage) (i : Nat) : List UInt8 := ((bl s.Bytes).drop (16 * i)).take 16
def gS (s : Storage) (i : Nat) : Option (Int × Int) := (s.Tags[i]?).bind fun t => if t = true ∧ (zk7 (zlg s i)).2 ≠ 0 then some ((i : Int), 22) else none
def zqn (s : Storage) : Int × Int :=
 if s.Bytes.size > 1024 then (0, 2) else if s.Bytes.size % 16 ≠ 0 then (0, 18) else if s.Tags.length ≠ s.Bytes.size / 16 then (0, 6)
 else match (List.range s.Tags.length).findSome? (gS s) with | some r => r | none => ((s.Tags.length : Int), 0)
theorem znd (s : Storage) (i : Nat) : bl (s.Bytes.extract (16 * i) (16 * i + 16)) = zlg s i := by
 rw [zfe, List.drop_take, zlg, show 16 * i + 16 - 16 * i = 16 by omega]
theorem zqm (N : Nat) (hN : 2000 < N) (s : Storage) : zaa N s = some (zqn s) ∧ zdu N s = some (zqn s) := by
 unfold zaa zdu zqn
 by_cases h1 : (s.Bytes.size : Int) > 1024
 · rw [dct h1, ifp]; exact ⟨rfl, rfl⟩
 · rw [dcf h1, ifn]; have hm : (s.Bytes.size : Int).tmod 16 = (s.Bytes.size : Int) % 16 := tme; have hd : (s.Bytes.size : Int).tdiv 16 = (s.Bytes.size : Int) / 16 := tde
   by_cases h2 : (s.Bytes.size : Int) % 16 = 0
   · rw [hm, hd, w6e, ifn]
     by_cases h3 : (s.Tags.length : Int) = (s.Bytes.size : Int) / 16
     · rw [show (((s.Bytes.size : Int) % 16) != 0) = false by rw [h2]; rfl, show ((s.Tags.length : Int) != (s.Bytes.size : Int) / 16) = false by rw [← h3]; exact bsf _, ifn]; simp only [cfa]; have hw : ∀ i : Nat, i < s.Tags.length → w6 ((i : Int) * 16) = (i : Int) * 16 ∧ w6 ((i : Int) * 16 + 16) = (i : Int) * 16 + 16 := fun i hi => ⟨w6e, w6e⟩; have hx : ∀ i : Nat, i < s.Tags.length → s.Bytes.extract ((i : Int) * 16).toNat ((i : Int) * 16 + 16).toNat = s.Bytes.extract (16 * i) (16 * i + 16) := fun i hi => by
        rw [show ((i : Int) * 16).toNat = 16 * i by omega, show ((i : Int) * 16 + 16).toNat = 16 * i + 16 by omega]
       have hz : ∀ i : Nat, i < s.Tags.length → (s.Bytes.extract (16 * i) (16 * i + 16)).size = 16 := fun i hi => by
        rw [zc2 _ _ _ (by omega) (by omega)]; omega
       constructor
       · have l1 := zbh (f := zaa.r1 N) (fun i => (s.Tags, (s.Tags.length : Int), (i : Int), s)) (gS s) s.Tags.length
          (fun i hi => by
           obtain ⟨w1, w2⟩ := hw i hi; have hx1 := lge hi; simp only [zaa.r1, zaa.b1, zai, hx1, obs, dct (show (i : Int) < (s.Tags.length : Int) by omega), ctr, gS]; rw [w6e (n := (i : Int) + 1)]; cases hb : s.Tags[i] with
           | false => simp
           | true =>
            simp only [bnt, cfa, w1, w2]; rw [ifp, ifp, hx i hi, z74 N (by omega) _ (hz i hi), znd]; simp only [obs]
            by_cases hq : (zk7 (zlg s i)).2 = 0
            · rw [hq]; simp
            · rw [zd1, dct hq, ifp ⟨trivial, hq⟩]; rfl)
          (by simp only [zaa.r1, zaa.b1, dcf (show ¬ (s.Tags.length : Int) < (s.Tags.length : Int) by omega), cfa]) (N := N) (by omega)
         simp only [nc0] at l1; rw [l1]; simp only [obs]; cases (List.range s.Tags.length).findSome? (gS s) <;> rfl
       · have l1 := zbh (f := zdu.r0 N) (fun i => ((s.Bytes.size : Int) / 16, (i : Int), s)) (gS s) s.Tags.length
          (fun i hi => by
           obtain ⟨w1, w2⟩ := hw i hi; have hx1 := lge hi; simp only [zdu.r0, zdu.b0, zai, hx1, obs, dct (show (i : Int) < (s.Bytes.size : Int) / 16 by omega), ctr, gS]; rw [w6e (n := (i : Int) + 1)]; cases hb : s.Tags[i] with
           | false => simp
           | true =>
            simp only [ctr, zkc, w1, w2]; rw [ifp, ifp]; simp only [obs]; rw [hx i hi, z8f N (by omega) _ (hz i hi), znd]; simp only [obs]
            by_cases hq : (zk7 (zlg s i)).2 = 0
            · rw [hq]; simp
            · rw [zd1, dct hq, ifp ⟨trivial, hq⟩]; rfl)
          (by simp only [zdu.r0, zdu.b0, dcf (show ¬ (s.Tags.length : Int) < (s.Bytes.size : Int) / 16 by omega), cfa]) (N := N) (by omega)
         simp only [nc0] at l1; rw [l1]; simp only [obs]; cases (List.range s.Tags.length).findSome? (gS s) with
         | some r => rfl
         | none => simp only [zb5, ← h3]
     · rw [show (((s.Bytes.size : Int) % 16) != 0) = false by rw [h2]; rfl, show ((s.Tags.length : Int) != (s.Bytes.size : Int) / 16) = true by rw [zd1]; exact dct h3, ifp]; exact ⟨rfl, rfl⟩
   · rw [hm, show (((s.Bytes.size : Int) % 16) != 0) = true by rw [zd1]; exact dct h2, ifp]; exact ⟨rfl, rfl⟩
structure zpi (s : Storage) : Prop where
 le : s.Bytes.size ≤ 1024
 quad : s.Bytes.size % 16 = 0
 tags : s.Tags.length = s.Bytes.size / 16
 ptr : ∀ i, s.Tags[i]? = some true → ∃ off : Int, (0 ≤ off ∧ off ≤ 16777215) ∧ zk7 (zlg s i) = (zji off, 0)
theorem zpi.err {s : Storage} (h : zpi s) : zqn s = ((s.Tags.length : Int), 0) := by
 obtain ⟨h1, h2, h3, h4⟩ := h
 unfold zqn
 rw [ifn, ifn, ifn]
 have : (List.range s.Tags.length).findSome? (gS s) = none := by
  rw [List.findSome?_eq_none_iff]; intro i _; unfold gS; cases ht : s.Tags[i]? with
  | none => rfl
  | some t =>
   rw [obs]; split
   · rename_i h5; rw [h5.1] at ht; obtain ⟨off, _, h6⟩ := h4 i ht; rw [h6] at h5; exact absurd rfl h5.2
   · rfl
 rw [this]
theorem zpi.ok {s : Storage} (h : zpi s) : StoOk s := ⟨h.le, h.quad⟩
def ldV (s : Storage) (at_ : Int) : Option Int := if s.Tags[(at_ / 16).toNat]? = some true then some (zk7 (zlg s (at_ / 16).toNat)).1.Address.Offset else none
theorem z1q {s : Storage} (h : zpi s) {at_ o : Int} (hl : ldV s at_ = some o) : 0 ≤ o ∧ o ≤ 16777215 := by
 unfold ldV at hl
 split at hl
 · rename_i ht; obtain ⟨off, h1, h2⟩ := h.ptr _ ht; rw [h2] at hl; cases hl; exact h1
 · cases hl
theorem zt4 {s : Storage} {a : Int} (h : zt5 s a = true) : 0 ≤ a ∧ a % 16 = 0 ∧ a < (s.Bytes.size : Int) := by
 unfold zt5 at h
 simpa using h
theorem zaem (N : Nat) (hN : 2000 < N) {s : Storage} (h : zpi s) {a : Int} (ha : zt5 s a = true) :
 zdh N s a = some (match ldV s a with | some o => (zji o, 0) | none => (z4f, 22)) := by
 obtain ⟨a1, a2, a3⟩ := zt4 ha
 have hl := h.le
 have hq := h.quad
 have ht := h.tags
 unfold zdh zir
 rw [(zqm N hN s).1, h.err]
 simp only [obs, bsf, cfa]
 rw [dcf (show ¬ a < 0 by omega), dcf (show ¬ a ≥ (s.Bytes.size : Int) by omega), tme a1, a2]
 simp only [bsf, cfa, obs]
 have ed : w6 (a.tdiv 16) = (((a / 16).toNat : Nat) : Int) := by
  rw [tde a1, w6e]; omega
 have hi : (a / 16).toNat < s.Tags.length := by omega
 rw [ed, zai, lge hi]
 simp only [obs]
 unfold ldV
 rw [lge hi]
 cases hb : s.Tags[(a / 16).toNat] with
 | false => rfl
 | true =>
  simp only [bnt, cfa, if_true]; rw [w6e, ifp, ifp]; have e : s.Bytes.extract a.toNat (a + 16).toNat = s.Bytes.extract (16 * (a / 16).toNat) (16 * (a / 16).toNat + 16) := by
   rw [show a.toNat = 16 * (a / 16).toNat by omega, show (a + 16).toNat = 16 * (a / 16).toNat + 16 by omega]
  rw [e, z74 N (by omega) _ (by rw [zc2 _ _ _ (by omega) (by omega)]; omega), znd]; obtain ⟨off, _, h2⟩ := h.ptr (a / 16).toNat (by rw [lge hi, hb]); rw [h2]; rfl
theorem za0 {n : Nat} (h : n ≤ 1000000) : Nat.ble n zbr = true := by
 rw [Nat.ble_eq]; unfold zbr; omega
def spl (l : List UInt8) (a : Nat) (d : List UInt8) : List UInt8 := l.take a ++ d ++ l.drop (a + d.length)
theorem zaen {l : List UInt8} {a : Nat} {d : List UInt8} (h : a + d.length ≤ l.length) : (spl l a d).length = l.length := by
 unfold spl
 simp only [lna, lnt, List.length_drop]
 omega
def clr (t : List Bool) (a n : Nat) : List Bool := (List.range t.length).map fun k => if 16 * k < a + n ∧ a < 16 * k + 16 then false else t.getD k false
theorem z2o (t : List Bool) (a n : Nat) : (clr t a n).length = t.length := by simp [clr]
theorem z2p (t : List Bool) (a n k : Nat) : (clr t a n)[k]? = if 16 * k < a + n ∧ a < 16 * k + 16 then (if k < t.length then some false else none) else t[k]? := by
 unfold clr
 rw [List.getElem?_map]
 by_cases h : k < t.length
 · rw [lge (by simpa using h)]; simp only [List.getElem_range, Option.map_some]; split
   · simp [h]
   · rw [lge h, gdd, lge h]; rfl
 · rw [List.getElem?_eq_none (by simpa using h), List.getElem?_eq_none (by simpa using h)]; simp [h]
def wrV (s : Storage) (a : Nat) (d : ByteArray) : Storage := ⟨⟨(spl (bl s.Bytes) a (bl d)).toArray⟩, clr s.Tags a d.size⟩
theorem z26 {s : Storage} {a : Nat} {d : ByteArray} (h : a + d.size ≤ s.Bytes.size) : (wrV s a d).Bytes.size = s.Bytes.size := zaen (l := bl s.Bytes) (d := bl d) h
theorem zad2 {l : List UInt8} {a : Nat} {d : List UInt8} (h : a + d.length ≤ l.length) (i n : Nat) (hi : i + n ≤ a ∨ a + d.length ≤ i) : ((spl l a d).drop i).take n = (l.drop i).take n := by
 refine List.ext_getElem? fun k => ?_
 rw [List.getElem?_take, List.getElem?_take]
 by_cases hk : k < n
 · rw [ifp hk, ifp hk, List.getElem?_drop, List.getElem?_drop]; unfold spl; rcases hi with hi | hi
   · rw [List.append_assoc, List.getElem?_append_left (by rw [lnt]; omega), List.getElem?_take, ifp]
   · rw [List.getElem?_append_right (by rw [lna, lnt]; omega), lna, lnt, List.getElem?_drop]
     congr 1
     omega
 · rw [ifn hk, ifn hk]
theorem zafw {l : List UInt8} {a : Nat} {d : List UInt8} (h : a + d.length ≤ l.length) : ((spl l a d).drop a).take d.length = d := by
 unfold spl
 rw [List.append_assoc, List.drop_append_of_le_length (by rw [lnt]; omega), List.drop_of_length_le (by rw [lnt]; omega), List.nil_append, List.take_append_of_le_length (Nat.le_refl _), List.take_length]
theorem zabm {s : Storage} (h : zpi s) {a : Nat} {d : ByteArray} (hd : a + d.size ≤ s.Bytes.size) (hd0 : 0 < d.size) : zpi (wrV s a d) := by
 have hs := z26 hd
 refine ⟨by rw [hs]; exact h.le, by rw [hs]; exact h.quad, by rw [hs]; exact (z2o _ _ _).trans h.tags, fun i hi => ?_⟩
 have hi' : (clr s.Tags a d.size)[i]? = some true := hi
 rw [z2p] at hi'
 split at hi'
 · split at hi' <;> cases hi'
 · rename_i hn; obtain ⟨off, h1, h2⟩ := h.ptr i hi'; refine ⟨off, h1, ?_⟩; have : zlg (wrV s a d) i = zlg s i := zad2 (l := bl s.Bytes) (d := bl d) hd _ _ (by rw [zas]; omega); rw [this]; exact h2
theorem znp (b : ByteArray) : b.toList = bl b := ByteArray.toList_eq b
theorem zabo {s : Storage} (h : zpi s) {a : Nat} {d : ByteArray} (hd : a + d.size ≤ s.Bytes.size) (hd0 : 0 < d.size) : zlu s (a : Int) d = some (wrV s a d) := by
 have hl := h.le
 have hq := h.quad
 have ht := h.tags
 have hmax : IntKind.i64.max = 9223372036854775807 := by decide
 unfold zlu
 rw [hmax]
 have z1 : (s.Bytes.extract (0 : Int).toNat (a : Int).toNat).size = a := by rw [zc2 _ _ _ (by omega) (by omega)]; omega
 rw [ifp, ifp, ifn (by rw [z1]; omega), w6e (n := (a : Int) + (d.size : Int)), ifp]
 have z2 : (s.Bytes.extract ((a : Int) + (d.size : Int)).toNat s.Bytes.size).size = s.Bytes.size - (a + d.size) := by rw [zc2 _ _ _ (by omega) (by omega)]; omega
 rw [ifn (by rw [z2, bsa, z1]; omega)]
 have hc : zki 1 s.Tags = some s.Tags := by unfold zki; rw [za0 (by omega)]; rfl
 rw [hc]
 simp only [obs]
 have hne : (d.toList == (⟨#[]⟩ : ByteArray).toList) = false := by
  rw [znp, znp]; refine beq_eq_false_iff_ne.2 fun h => ?_; have := congrArg List.length h; rw [zas, zas] at this; have : d.size = 0 := this; omega
 rw [hne]
 simp only [Bool.not_false, ctr]
 have e1 : w6 ((w6 ((w6 ((a : Int) + (d.size : Int) - 1)).tdiv 16)) + 1) = (((a + d.size - 1) / 16 + 1 : Nat) : Int) := by
  rw [w6e (n := (a : Int) + (d.size : Int) - 1), tde, w6e (n := ((a : Int) + (d.size : Int) - 1) / 16), w6e]; omega
 have e2 : w6 ((a : Int).tdiv 16) = ((a / 16 : Nat) : Int) := by
  rw [tde, w6e]; omega
 rw [e1, e2, ifp, ifp]
 simp only [itn]
 have f1 : ((s.Bytes.extract (0 : Int).toNat a) ++ d) ++ (s.Bytes.extract ((a : Int) + (d.size : Int)).toNat s.Bytes.size) = (wrV s a d).Bytes := by
  refine zix ?_; rw [zdj, zdj, zfe, zfe, show (0 : Int).toNat = 0 from rfl, dr0, show ((a : Int) + (d.size : Int)).toNat = a + d.size by omega, ← zas s.Bytes, List.take_length]; rfl
 have f2 : s.Tags.take (a / 16) ++ List.replicate ((a + d.size - 1) / 16 + 1 - a / 16) false ++ s.Tags.drop (a / 16 + ((a + d.size - 1) / 16 + 1 - a / 16)) = (wrV s a d).Tags := by
  refine List.ext_getElem? fun k => ?_; show _ = (clr s.Tags a d.size)[k]?; rw [z2p]
  by_cases h1 : k < a / 16
  · rw [List.append_assoc, List.getElem?_append_left (by rw [lnt]; omega), List.getElem?_take, ifp h1, ifn]
  · by_cases h2 : k < (a + d.size - 1) / 16 + 1
    · rw [List.append_assoc, List.getElem?_append_right (by rw [lnt]; omega), List.getElem?_append_left (by rw [lnt, lnr]; omega), List.getElem?_replicate, ifp (by rw [lnt]; omega), ifp, ifp]
    · rw [List.getElem?_append_right (by rw [lna, lnt, lnr]; omega), lna, lnt, lnr, List.getElem?_drop, ifn]
      congr 1
      omega
 rw [f1, f2]
theorem zac1 (N : Nat) (hN : 2000 < N) {s : Storage} (h : zpi s) {a : Nat} {d : ByteArray} (hd : a + d.size ≤ s.Bytes.size) (hd0 : 0 < d.size) : zfx N s (a : Int) d = some (wrV s a d, 0) := by
 have hl := h.le
 unfold zfx zoh
 rw [(zqm N hN s).1, h.err]
 simp only [obs, bsf, cfa]
 rw [dcf (show ¬ (a : Int) < 0 by omega), dcf (show ¬ (d.size : Int) < 0 by omega), dcf (show ¬ (a : Int) > (s.Bytes.size : Int) by omega), w6e, dcf (show ¬ (d.size : Int) > (s.Bytes.size : Int) - (a : Int) by omega)]
 simp only [cfa, obs, bsf]
 rw [zabo h hd hd0]
 rfl
def pbV (off : Nat) : ByteArray := zd3 (zbm 0 1 ++ zbm 0 1 ++ zbm 0 2 ++ zbm 1 6 ++ zbm off 6)
theorem zht (l : List Int) : bl (zd3 l) = l.map fun n => UInt8.ofNat n.toNat := rfl
theorem zn6 (off : Nat) : (pbV off).size = 16 := by
 show (bl (pbV off)).length = 16
 unfold pbV
 rw [zht]
 simp only [lnm, lna, z4a]
theorem z9t (v k : Nat) : beV ((zbm v k).map fun n => UInt8.ofNat n.toNat) = v % 256 ^ k := by
 induction k generalizing v with
 | zero => rw [Nat.pow_zero, Nat.mod_one]; rfl
 | succ k ih =>
  have e : zbm v (k + 1) = zbm (v / 256) k ++ [((v % 256 : Nat) : Int)] := by
   unfold zbm; rw [List.range_succ, List.map_append]
   congr 1
   · refine List.map_congr_left fun j hj => ?_; have := List.mem_range.1 hj; rw [Nat.div_div_eq_div_mul, ← Nat.pow_succ', show k + 1 - 1 - j = k - 1 - j + 1 by omega]
   · simp
  rw [e, List.map_append, List.map_singleton, zwr, ih, itn, UInt8.toNat_ofNat', show 256 ^ (k + 1) = 256 * 256 ^ k from Nat.pow_succ', Nat.mod_mul]; omega
theorem zaev (off : Nat) (h : off ≤ 16777215) : zk7 (bl (pbV off)) = (zji off, 0) := by
 have e : bl (pbV off) = (zbm 0 1).map (fun n => UInt8.ofNat n.toNat) ++ ((zbm 0 1).map (fun n => UInt8.ofNat n.toNat) ++ ((zbm 0 2).map (fun n => UInt8.ofNat n.toNat) ++ ((zbm 1 6).map (fun n => UInt8.ofNat n.toNat) ++ (zbm off 6).map (fun n => UInt8.ofNat n.toNat)))) := by
  unfold pbV; rw [zht]; simp only [List.map_append, List.append_assoc]
 have l6 : ∀ v, ((zbm v 6).map (fun n => UInt8.ofNat n.toNat)).length = 6 := fun v => by simp [z4a]
 have e2 : bl (pbV off) = 0 :: 0 :: 0 :: 0 :: ((zbm 1 6).map (fun n => UInt8.ofNat n.toNat) ++ (zbm off 6).map (fun n => UInt8.ofNat n.toNat)) := e
 have hp : zwd (bl (pbV off)) = zji off := by
  unfold zwd zji; rw [e2]; simp only [List.drop_succ_cons, dr0, List.take_succ_cons, List.take_zero, List.getD_cons_zero]; rw [List.take_append_of_le_length (by rw [l6]; omega), List.take_of_length_le (by rw [l6]; omega), z9t, List.drop_append_of_le_length (by rw [l6]; omega), List.drop_of_length_le (by rw [l6]; omega), List.nil_append, List.take_of_length_le (by rw [l6]; omega), z9t, mel (show off < 256 ^ 6 by omega)]; rfl
 have h1 : ((bl (pbV off)).getD 1 0).toNat = 0 := by rw [e2]; rfl
 have hc : zqz (zji off) = 0 := by
  unfold zqz zji; rw [show inB (off : Int) 0 16777215 = true from zbf.2 ⟨by omega, by omega⟩]; rfl
 unfold zk7
 rw [ifn (by rw [h1]; exact fun h => h rfl), hp, hc]
 rfl
def stV (s : Storage) (a : Nat) (off : Nat) : Storage := ⟨(wrV s a (pbV off)).Bytes, (wrV s a (pbV off)).Tags.set (a / 16) true⟩
theorem zac6 {s : Storage} {a off : Nat} (h : a + 16 ≤ s.Bytes.size) : (stV s a off).Bytes.size = s.Bytes.size := z26 (d := pbV off) (by rw [zn6]; exact h)
theorem zafv {s : Storage} (h : zpi s) {a off : Nat} (ha : a + 16 ≤ s.Bytes.size) (hq : a % 16 = 0) (ho : off ≤ 16777215) : zpi (stV s a off) := by
 have hw := zabm h (a := a) (d := pbV off) (by rw [zn6]; exact ha) (by rw [zn6]; omega)
 refine ⟨hw.le, hw.quad, ?_, fun i hi => ?_⟩
 · show ((wrV s a (pbV off)).Tags.set (a / 16) true).length = _; rw [List.length_set]; exact hw.tags
 · have hi' : ((wrV s a (pbV off)).Tags.set (a / 16) true)[i]? = some true := hi; rw [List.getElem?_set] at hi'; split at hi'
   · rename_i he; refine ⟨off, ⟨by omega, by omega⟩, ?_⟩; have : zlg (stV s a off) i = bl (pbV off) := by
      have := zafw (l := bl s.Bytes) (a := a) (d := bl (pbV off)) (by rw [zas, zas, zn6]; exact ha); rw [zas, zn6] at this; unfold zlg; rw [← he, show 16 * (a / 16) = a by omega]; exact this
     rw [this]; exact zaev off ho
   · obtain ⟨o, h1, h2⟩ := hw.ptr i hi'; exact ⟨o, h1, h2⟩
theorem zaat (N : Nat) (hN : 100 < N) (off : Nat) (h : off ≤ 16777215) : zkh N (zji off) = some (pbV off) := by
 unfold zkh zji
 have b := fun v k hk => zafs N (by omega) v k hk
 rw [show zb8 N 0 1 = _ from b 0 1 (by decide), show zb8 N 0 2 = _ from b 0 2 (by decide), show zb8 N 1 6 = _ from b 1 6 (by decide), show zb8 N (off : Int) 6 = _ from b off 6 (by decide)]
 simp only [obs]
 unfold zba
 obtain ⟨n, rfl⟩ : ∃ n, N = n + 10 := ⟨N - 10, by omega⟩
 have c1 : zl (zba.r0 (n + 10)) (n + 10) ([zbm 0 1, zbm 0 1, zbm 0 2, zbm 1 6, zbm off 6], 0, [zbm 0 1, zbm 0 1, zbm 0 2, zbm 1 6, zbm off 6], (([zbm 0 1, zbm 0 1, zbm 0 2, zbm 1 6, zbm off 6] : List (List Int)).length : Int), 0) = some ([zbm 0 1, zbm 0 1, zbm 0 2, zbm 1 6, zbm off 6], 16, [zbm 0 1, zbm 0 1, zbm 0 2, zbm 1 6, zbm off 6], 5, 5) := by rfl
 rw [c1]
 simp only [obs]
 have c2 : zkt () 16 = some [] := by rfl
 rw [c2]
 simp only [obs]
 have c3 : zl (zba.r2 (n + 10)) (n + 10) ([], [zbm 0 1, zbm 0 1, zbm 0 2, zbm 1 6, zbm off 6], (([zbm 0 1, zbm 0 1, zbm 0 2, zbm 1 6, zbm off 6] : List (List Int)).length : Int), 0) = some ((((([] ++ zbm 0 1) ++ zbm 0 1) ++ zbm 0 2) ++ zbm 1 6) ++ zbm off 6, [zbm 0 1, zbm 0 1, zbm 0 2, zbm 1 6, zbm off 6], 5, 5) := by rfl
 rw [c3]
 rfl
theorem zae8 (off : Nat) (h : off ≤ 16777215) : zqz (zji off) = 0 := by
 unfold zqz zji
 rw [show inB (off : Int) 0 16777215 = true from zbf.2 ⟨by omega, by omega⟩]
 rfl
theorem zac2 (N : Nat) (hN : 2000 < N) {s : Storage} (h : zpi s) {a : Int} (ha : zt5 s a = true) (off : Nat) (ho : off ≤ 16777215) : zcw N s a (zji off) = some (stV s a.toNat off, 0) := by
 obtain ⟨a1, a2, a3⟩ := zt4 ha
 have hl := h.le
 have hq := h.quad
 have ht := h.tags
 have hA : a = ((a.toNat : Nat) : Int) := by omega
 have hw : a.toNat + (pbV off).size ≤ s.Bytes.size := by rw [zn6]; omega
 unfold zcw zir
 rw [(zqm N hN s).1, h.err]
 simp only [obs, bsf, cfa]
 rw [dcf (show ¬ a < 0 by omega), dcf (show ¬ a ≥ (s.Bytes.size : Int) by omega), tme a1, a2]
 simp only [bsf, cfa, obs]
 rw [z6l, zae8 off ho]
 simp only [obs, bsf, cfa]
 rw [zaat N (by omega) off ho]
 simp only [obs, eS]
 have hp := zabo h hw (by rw [zn6]; omega)
 rw [← hA] at hp
 rw [hp]
 simp only [obs]
 have ed : w6 (a.tdiv 16) = ((a.toNat / 16 : Nat) : Int) := by
  rw [tde a1, w6e]; omega
 have hlen : (wrV s a.toNat (pbV off)).Tags.length = s.Tags.length := z2o _ _ _
 rw [ed, ifp, ifp (by rw [hlen]; omega), itn, lge (by rw [hlen]; omega)]
 rfl
def zga (l : List Int) : Int := l.foldl (fun n d => n * 10 + d) 0
theorem zsm (l : List Int) (x : Int) : zga (l ++ [x]) = zga l * 10 + x := by
 unfold zga; rw [List.foldl_append]; rfl
theorem zqb : ∀ (l r : List Int), l = r.reverse → (∀ d ∈ l, 0 ≤ d ∧ d ≤ 15) → 0 ≤ zga l ∧ zga l ≤ 2 * (10 ^ l.length : Nat) - 2 := by
 intro l r
 induction r generalizing l with
 | nil => intro h _; subst h; decide
 | cons x r ih =>
  intro h hd; rw [List.reverse_cons] at h; subst h; have h1 := ih _ rfl fun d hd' => hd d (List.mem_append_left _ hd'); have h2 := hd x (List.mem_append_right _ List.mem_cons_self); rw [zsm, lna, lns, Nat.pow_succ]; omega
def zj6 (l : List UInt8) : List Int := l.flatMap fun b => [((b.toNat / 16 : Nat) : Int), ((b.toNat % 16 : Nat) : Int)]
def zge (l : List UInt8) : List Int := l.map fun b => ((b.toNat % 16 : Nat) : Int)
def zee (l : List UInt8) : List Int := zge l ++ [(((l.getD (l.length - 1) 0).toNat / 16 : Nat) : Int)]
def zkd (l : List Int) (len : Int) (i : Nat) : Bool := decide (l.getD i 0 > 9) || (decide (l.getD i 0 > 0) && decide ((i : Int) < (l.length : Int) - 1 - len))
def zm5 (l : List Int) : Int := l.getD (l.length - 1) 0
def z1w (l : List Int) (len : Int) : Option Int :=
 if (List.range (l.length - 1)).any (zkd l len) = true ∨ zm5 l < 10 then none
 else some (if zm5 l = 11 ∨ zm5 l = 13 then -zga (l.take (l.length - 1)) else zga (l.take (l.length - 1)))
def zom (l : List UInt8) : Int := if 128 ≤ (l.getD 0 0).toNat then (beV l : Int) - (256 ^ l.length : Nat) else (beV l : Int)
def zo6 (t : DataType) (b : ByteArray) : Option Int :=
 if t.Kind = 3 then (if -((10 ^ t.Length.toNat : Nat) : Int) < zom (bl b) ∧ zom (bl b) < ((10 ^ t.Length.toNat : Nat) : Int) then some (zom (bl b)) else none)
 else z1w (if t.Kind = 1 then zj6 (bl b) else zee (bl b)) t.Length
theorem ztj (l : List UInt8) : (zj6 l).length = 2 * l.length := by
 unfold zj6
 induction l with
 | nil => rfl
 | cons x l ih => simp only [List.flatMap_cons, lna, lnc, ln0, ih]; omega
theorem zu0 {l : List UInt8} : (∀ d ∈ zj6 l, 0 ≤ d ∧ d ≤ 15) ∧ (∀ d ∈ zee l, 0 ≤ d ∧ d ≤ 15) := by
 constructor
 · intro d hd; obtain ⟨b, _, hb⟩ := List.mem_flatMap.1 hd; have := b.toNat_lt; rcases List.mem_cons.1 hb with rfl | hb
   · omega
   · rcases List.mem_cons.1 hb with rfl | hb
     · omega
     · cases hb
 · intro d hd; rcases List.mem_append.1 hd with hd | hd
   · obtain ⟨b, _, rfl⟩ := List.mem_map.1 hd; omega
   · rcases List.mem_cons.1 hd with rfl | hd
     · have := (l.getD (l.length - 1) 0).toNat_lt; omega
     · cases hd
theorem zaeh (x : UInt8) : zf7 .u8 (x.toNat : Int) 15 = ((x.toNat % 16 : Nat) : Int) := by
 have hx := x.toNat_lt
 unfold zf7
 have e : (BitVec.ofInt IntKind.u8.bits (x.toNat : Int) &&& BitVec.ofInt IntKind.u8.bits 15).toNat = x.toNat % 16 := by
  show (BitVec.ofInt 8 (x.toNat : Int) &&& BitVec.ofInt 8 ((15 : Nat) : Int)).toNat = _; rw [BitVec.toNat_and, BitVec.ofInt_natCast, BitVec.ofInt_natCast, BitVec.toNat_ofNat, BitVec.toNat_ofNat, mel (by omega), mel (by omega)]; exact Nat.and_two_pow_sub_one_eq_mod _ 4
 rw [e]
 exact zob (by omega) (by omega)
theorem zacl (x : UInt8) : ((x.toNat : Int).fdiv (2 ^ (min (4 : Int).toNat 8))) = ((x.toNat / 16 : Nat) : Int) := zzv x.toNat 16
def z1f (n : Nat) : List Int := (List.range n).flatMap fun (i : Nat) => [(i : Int), (i : Int)]
def zys (n : Nat) : List Int := (List.range n).map fun (i : Nat) => (i : Int)
theorem z8s (n : Nat) : (z1f n).length = 2 * n := by
 unfold z1f
 induction n with
 | zero => rfl
 | succ n ih => rw [List.range_succ, List.flatMap_append, lna, ih]; simp; omega
theorem zacc (N : Nat) (hN : 2000 < N) (t : DataType) (hk : t.Kind = 1 ∨ t.Kind = 2) (b : ByteArray) (hb : 0 < b.size) (hb2 : b.size ≤ 1000) :
 ∃ pl, zbi N t b = some (if t.Kind = 1 then zj6 (bl b) else zee (bl b), pl) ∧ pl.length = (if t.Kind = 1 then zj6 (bl b) else zee (bl b)).length := by
 unfold zbi
 rcases hk with hk | hk
 · have := za1 (f := zbi.r0 N) (fun i => (b, zj6 ((bl b).take i), z1f i, (b.size : Int), (i : Int), t)) b.size
    (fun i hi => by
     obtain ⟨x, hx⟩ : ∃ x, (bl b)[i]? = some x := zfc (by rw [zas]; exact hi); simp only [zbi.r0, zbi.b0, dct (show (i : Int) < (b.size : Int) by omega), ctr, zjr, hx, obs, hk, bst, zacl, zaeh]; have hl := ztj ((bl b).take i); rw [lnt, zas] at hl; rw [za0 (by rw [hl]; simp only [lnc, ln0]; omega), za0 (by rw [z8s]; simp only [lnc, ln0]; omega)]; simp only [ctr]; rw [w6e, zeg _ _ hx]; have e1 : zj6 ((bl b).take i ++ [x]) = zj6 ((bl b).take i) ++ [((x.toNat / 16 : Nat) : Int), ((x.toNat % 16 : Nat) : Int)] := by
      unfold zj6; rw [List.flatMap_append]; rfl
     have e2 : z1f (i + 1) = z1f i ++ [(i : Int), (i : Int)] := by
      unfold z1f; rw [List.range_succ, List.flatMap_append]; rfl
     rw [e1, e2]; rfl)
    (by simp only [zbi.r0, zbi.b0, dcf (show ¬ (b.size : Int) < (b.size : Int) by omega), cfa]) (N := N) (by omega)
   simp only [List.take_zero, nc0] at this; rw [show zj6 [] = [] from rfl, show z1f 0 = [] from rfl] at this; rw [this]; simp only [obs, hk, if_true]; refine ⟨z1f b.size, ?_, by rw [z8s, ztj, zas]⟩; rw [show ((1 : Int) == 2) = false from rfl, cfa, ← zas, List.take_length]
 · have := za1 (f := zbi.r0 N) (fun i => (b, zge ((bl b).take i), zys i, (b.size : Int), (i : Int), t)) b.size
    (fun i hi => by
     obtain ⟨x, hx⟩ : ∃ x, (bl b)[i]? = some x := zfc (by rw [zas]; exact hi); simp only [zbi.r0, zbi.b0, dct (show (i : Int) < (b.size : Int) by omega), ctr, zjr, hx, obs, hk, show ((2 : Int) == 1) = false from rfl, cfa, zaeh]; have hl : (zge ((bl b).take i)).length = i := by unfold zge; rw [lnm, lnt, zas]; omega
     have hl2 : (zys i).length = i := by simp [zys]
     rw [za0 (by rw [hl]; simp only [lnc, ln0]; omega), za0 (by rw [hl2]; simp only [lnc, ln0]; omega)]; simp only [ctr]; rw [w6e, zeg _ _ hx]; have e1 : zge ((bl b).take i ++ [x]) = zge ((bl b).take i) ++ [((x.toNat % 16 : Nat) : Int)] := by
      unfold zge; rw [List.map_append]; rfl
     have e2 : zys (i + 1) = zys i ++ [(i : Int)] := by
      unfold zys; rw [List.range_succ, List.map_append]; rfl
     rw [e1, e2]; rfl)
    (by simp only [zbi.r0, zbi.b0, dcf (show ¬ (b.size : Int) < (b.size : Int) by omega), cfa]) (N := N) (by omega)
   simp only [List.take_zero, nc0] at this; rw [show zge [] = [] from rfl, show zys 0 = [] from rfl] at this; rw [this]; have hx : (bl b)[b.size - 1]? = some ((bl b).getD (b.size - 1) 0) := zv2 (by rw [zas]; omega); have hl : (zge (bl b)).length = b.size := by unfold zge; rw [lnm, zas]
   have hl2 : (zys b.size).length = b.size := by simp [zys]
   simp only [obs, hk, bst, ctr]; rw [← zas, List.take_length, zas, w6e, show (b.size : Int) - 1 = ((b.size - 1 : Nat) : Int) by omega, zjr, hx]; simp only [obs, zacl]; rw [za0 (by rw [hl]; simp only [lnc, ln0]; omega), za0 (by rw [hl2]; simp only [lnc, ln0]; omega)]; simp only [ctr]; rw [ifn]; refine ⟨_, rfl, ?_⟩; unfold zee; rw [lna, lna, hl, hl2]; rfl
theorem zaa5 (N : Nat) (hN : 2000 < N) (t : DataType) (hk : t.Kind = 1 ∨ t.Kind = 2) (b : ByteArray) (hb : 0 < b.size) (hb2 : (if t.Kind = 1 then zj6 (bl b) else zee (bl b)).length ≤ 17) (hb3 : b.size ≤ 16) (hlen : 0 ≤ t.Length ∧ t.Length ≤ 15) :
 ∃ n a e, zbx N t b = some (n, a, e) ∧ (match zo6 t b with | some v => n = v ∧ e = 0 | none => e ≠ 0) := by
 obtain ⟨pl, h1, h2⟩ := zacc N hN t hk b hb (by omega)
 have hr : ∀ d ∈ (if t.Kind = 1 then zj6 (bl b) else zee (bl b)), 0 ≤ d ∧ d ≤ 15 := by
  split
  · exact zu0.1
  · exact zu0.2
 have hpos : 0 < (if t.Kind = 1 then zj6 (bl b) else zee (bl b)).length := by
  split
  · rw [ztj, zas]; omega
  · unfold zee; rw [lna, lns]; omega
 have hd : zo6 t b = z1w (if t.Kind = 1 then zj6 (bl b) else zee (bl b)) t.Length := by
  unfold zo6; rw [ifn]
 rw [hd]
 unfold zbx
 rw [h1]
 simp only [obs]
 generalize (if t.Kind = 1 then zj6 (bl b) else zee (bl b)) = l at *
 have hi2 : w6 ((l.length : Int) - 1) = ((l.length - 1 : Nat) : Int) := by rw [w6e]; omega
 rw [hi2, ifp, ifp]
 rw [show (0 : Int).toNat = 0 from rfl, dr0, itn]
 have hlt : (l.take (l.length - 1)).length = l.length - 1 := by rw [lnt]; omega
 have lp := zbh (f := zbx.r0 N) (fun i => (l, pl, ((l.length - 1 : Nat) : Int), zga (l.take i), l.take (l.length - 1), ((l.length - 1 : Nat) : Int), (i : Int), t))
  (fun i => if zkd l t.Length i = true then some ((0 : Int), pl.getD i 0, (21 : Int)) else none) (l.length - 1)
  (fun i hi => by
   have hx : l[i]? = some (l.getD i 0) := by rw [gdd, lge (by omega)]; rfl
   have hx2 : (l.take (l.length - 1))[i]? = some (l.getD i 0) := by rw [List.getElem?_take, ifp hi, hx]
   have hp : pl[i]? = some (pl.getD i 0) := by rw [gdd, lge (by omega)]; rfl
   have hxr := hr (l.getD i 0) (lmg hx); have hf := zqb (l.take i) _ (List.reverse_reverse _).symm fun d hd => hr d (List.mem_of_mem_take hd); have hpow : 10 ^ (l.take i).length ≤ 10 ^ 16 := zcj (by rw [lnt]; omega); simp only [zbx.r0, zbx.b0, dct (show (i : Int) < ((l.length - 1 : Nat) : Int) by omega), ctr, zai, hx2, hp, obs]; rw [w6e (n := ((l.length - 1 : Nat) : Int) - t.Length), w6e (n := (i : Int) + 1), w6e (n := l.getD i 0), w6e (n := zga (l.take i) * 10), w6e]; have e : (cond (decide (l.getD i 0 > 9)) (some true) ((cond (decide (l.getD i 0 > 0)) (some (decide ((i : Int) < ((l.length - 1 : Nat) : Int) - t.Length))) (some false)).bind fun g1002 => some g1002)) = some (zkd l t.Length i) := by
    unfold zkd; rw [show ((l.length - 1 : Nat) : Int) = (l.length : Int) - 1 by omega]; cases decide (l.getD i 0 > 9) <;> cases decide (l.getD i 0 > 0) <;> rfl
   rw [e]; simp only [obs]; rw [zeg l i hx, zsm]; cases zkd l t.Length i with
   | true => rfl
   | false => simp)
  (by simp only [zbx.r0, zbx.b0, dcf (show ¬ ((l.length - 1 : Nat) : Int) < ((l.length - 1 : Nat) : Int) by omega), cfa]) (N := N) (by omega)
 simp only [List.take_zero, nc0] at lp
 rw [show zga [] = 0 from rfl] at lp
 rw [hlt, lp]
 simp only [obs]
 have hany : (List.range (l.length - 1)).any (zkd l t.Length) = ((List.range (l.length - 1)).findSome? (fun i => if zkd l t.Length i = true then some ((0 : Int), pl.getD i 0, (21 : Int)) else none)).isSome := by
  rw [Bool.eq_iff_iff, List.any_eq_true, List.findSome?_isSome_iff]; constructor
  · rintro ⟨x, hx, hb⟩
    exact ⟨x, hx, by rw [ifp hb]; rfl⟩
  · rintro ⟨x, hx, hb⟩
    refine ⟨x, hx, ?_⟩; split at hb
    · assumption
    · cases hb
 unfold z1w
 rw [hany]
 cases hf : (List.range (l.length - 1)).findSome? (fun i => if zkd l t.Length i = true then some ((0 : Int), pl.getD i 0, (21 : Int)) else none) with
 | some r =>
  obtain ⟨i, _, hi⟩ := eof hf; split at hi
  · cases hi; exact ⟨_, _, _, rfl, by simp⟩
  · cases hi
 | none =>
  have hx : l[l.length - 1]? = some (zm5 l) := by unfold zm5; rw [gdd, lge (by omega)]; rfl
  have hp : pl[l.length - 1]? = some (pl.getD (l.length - 1) 0) := by rw [gdd, lge (by omega)]; rfl
  have hb := zqb (l.take (l.length - 1)) _ (List.reverse_reverse _).symm fun d hd => hr d (List.mem_of_mem_take hd); have hpow : 10 ^ (l.take (l.length - 1)).length ≤ 10 ^ 16 := zcj (by omega); simp only [zb5, zai, hx, hp, obs, Option.isSome_none, Bool.false_eq_true, false_or]
  by_cases hs : zm5 l < 10
  · rw [dct hs, ifp hs]; exact ⟨_, _, _, rfl, by decide⟩
  · rw [dcf hs, ifn hs, cfa, w6e, zcn, zcn]
    by_cases h11 : zm5 l = 11
    · rw [dct h11, ifp (.inl h11)]; exact ⟨_, _, _, rfl, by omega, rfl⟩
    · rw [dcf h11]
      by_cases h13 : zm5 l = 13
      · rw [dct h13, ifp (.inr h13)]; exact ⟨_, _, _, rfl, by omega, rfl⟩
      · rw [dcf h13, ifn]; exact ⟨_, _, _, rfl, rfl, rfl⟩
theorem z82 (N : Nat) (hN : 100 < N) (k : Nat) (hk : k ≤ 18) : zcz N (k : Int) = some ((10 ^ k : Nat) : Int) := by
 unfold zcz
 have := za1 (f := zcz.r0 N) (fun i => (((10 ^ i : Nat) : Int), (k : Int), (i : Int))) k
  (fun i hi => by
   have : 10 ^ (i + 1) ≤ 10 ^ 18 := zcj (by omega); rw [Nat.pow_succ] at this; simp only [zcz.r0, zcz.b0, dct (show (i : Int) < (k : Int) by omega), ctr]; rw [w6e (n := ((10 ^ i : Nat) : Int) * 10), w6e, Nat.pow_succ]; simp only [Int.natCast_add, Int.natCast_mul, Int.natCast_one]; rfl)
  (by simp only [zcz.r0, zcz.b0, dcf (show ¬ (k : Int) < (k : Int) by omega), cfa]) (N := N) (by omega)
 simp only [Nat.pow_zero, nc0] at this
 rw [ifn, show (1 : Int) = ((1 : Nat) : Int) from rfl, this]
 rfl
theorem z0j (N : Nat) (hN : 100 < N) {t : DataType} (ht : zj9 t) (n : Int) : zby N t ⟨n, ⟨#[]⟩⟩ = some (if -((10 ^ t.Length.toNat : Nat) : Int) < n ∧ n < ((10 ^ t.Length.toNat : Nat) : Int) then 0 else 19) := by
 have f2 : ∀ a b : Int, zq N [a, b] = some (zhe [a, b]) := fun a b => zqu N _ (by simp; omega) (by simp)
 obtain ⟨⟨l1, l2⟩, l3, l4⟩ := zf6 ht
 have hp := z82 N hN t.Length.toNat (by omega)
 rw [Int.toNat_of_nonneg (by omega)] at hp
 have hp2 : 10 ^ t.Length.toNat ≤ 10 ^ 15 := zcj (by omega)
 have hp3 := zcu t.Length.toNat
 obtain ⟨h0, h1, h2⟩ := ht
 unfold zby
 rw [zre N (by omega), h0, zcn, zcn, dcf (show ¬ t.Kind = 4 by omega), dcf (show ¬ t.Kind = 0 by omega)]
 simp only [zrg, cfa, obs, f2, show zhe [0, 0] = 0 from rfl, bsf]
 rw [hp]
 simp only [obs, bst, bnt, cfa, z4t, zrg]
 generalize 10 ^ t.Length.toNat = P at *
 rw [w6e (n := (P : Int) - 1), w6e]
 by_cases h : -(P : Int) < n ∧ n < (P : Int)
 · rw [ifp h, show inB n (0 - ((P : Int) - 1)) ((P : Int) - 1) = true from zbf.2 ⟨by omega, by omega⟩]; rfl
 · rw [ifn h, show inB n (0 - ((P : Int) - 1)) ((P : Int) - 1) = false by
    cases hb : inB n (0 - ((P : Int) - 1)) ((P : Int) - 1) with
    | false => rfl
    | true => have := zbf.1 hb; omega]
   rfl
theorem zacv {l : List UInt8} (h : l ≠ []) (x : UInt8) : zom (l ++ [x]) = zom l * 256 + x.toNat := by
 cases l with
 | nil => exact absurd rfl h
 | cons y l =>
  unfold zom; rw [List.cons_append, List.getD_cons_zero, List.getD_cons_zero, ← List.cons_append, zwr, lna, lns, Nat.pow_succ]; split
  · simp only [Int.natCast_add, Int.natCast_mul]; omega
  · simp only [Int.natCast_add, Int.natCast_mul]; omega
theorem zabh {l : List UInt8} (h : l.length ≤ 4) : -4294967296 ≤ zom l ∧ zom l < 4294967296 := by
 have h1 := z5g l
 have h2 : 256 ^ l.length ≤ 256 ^ 4 := Nat.pow_le_pow_right (by decide) h
 unfold zom
 split <;> omega
theorem zacf (N : Nat) (hN : 100 < N) (b : ByteArray) (h0 : 0 < b.size) (h4 : b.size ≤ 4) : zb6 N b = some (zom (bl b)) := by
 obtain ⟨x0, hx0⟩ : ∃ x, (bl b)[0]? = some x := zfc (by rw [zas]; exact h0)
 have i0 : zhl b 0 = some x0 := by rw [show (0 : Int) = ((0 : Nat) : Int) from rfl, zjr, hx0]
 have hL : zex (b.extract (1 : Int).toNat b.size) = ((bl b).drop 1).map fun x => (x.toNat : Int) := by
  unfold zex; have := zfe b 1 b.size; unfold bl at this ⊢; rw [show (1 : Int).toNat = 1 from rfl, this]
  congr 2
  exact List.take_of_length_le (Nat.le_of_eq rfl)
 have hlen : (((bl b).drop 1).map fun x => (x.toNat : Int)).length = b.size - 1 := by rw [lnm, List.length_drop, zas]
 have hx00 := x0.toNat_lt
 unfold zb6
 rw [i0]
 simp only [obs]
 rw [ifp, hL, hlen]
 have hw : w6 (IntKind.wrap .i8 (x0.toNat : Int)) = zom ((bl b).take 1) := by
  have e : (bl b).take 1 = [x0] := by rw [zeg _ _ hx0]; rfl
  have e8 : (2 : Int) ^ (IntKind.i8.bits) = 256 := by decide
  have e8' : (2 : Int) ^ (IntKind.i8.bits - 1) = 128 := by decide
  have : IntKind.wrap .i8 (x0.toNat : Int) = if 128 ≤ x0.toNat then (x0.toNat : Int) - 256 else x0.toNat := by
   unfold IntKind.wrap; simp only [e8, e8', show IntKind.i8.signed = true from rfl, Bool.true_and, decide_eq_true_eq, ge_iff_le]
   repeat' split
   all_goals omega
  rw [this, e, w6e (by split <;> omega) (by split <;> omega)]; unfold zom; rw [List.getD_cons_zero, show beV [x0] = x0.toNat by unfold beV; simp]; rfl
 rw [hw]
 have := za1 (f := zb6.r0 N) (fun i => (zom ((bl b).take (i + 1)), ((bl b).drop 1).map (fun x => (x.toNat : Int)), ((b.size - 1 : Nat) : Int), (i : Int))) (b.size - 1)
  (fun i hi => by
   obtain ⟨x, hx⟩ : ∃ x, (bl b)[i + 1]? = some x := zfc (by rw [zas]; omega); have hm : (((bl b).drop 1).map (fun x => (x.toNat : Int)))[i]? = some (x.toNat : Int) := by
    rw [List.getElem?_map, List.getElem?_drop, Nat.add_comm 1 i, hx]; rfl
   have hb := zabh (l := (bl b).take (i + 1)) (by rw [lnt]; omega); have hxl := x.toNat_lt; simp only [zb6.r0, zb6.b0, dct (show (i : Int) < ((b.size - 1 : Nat) : Int) by omega), ctr, hlen]; rw [ifp, ifp, itn, hm]; simp only [obs]; rw [show (2 : Int) ^ (min (8 : Int).toNat 64) = 256 from rfl, w6e (n := zom ((bl b).take (i + 1)) * 256), w6e (n := (x.toNat : Int)), w6e (n := (i : Int) + 1), or8 _ _ (by omega) (by omega) hxl, zeg _ _ hx, zacv]
   · rfl
   · intro h; have := congrArg List.length h; rw [lnt, zas] at this; simp only [ln0] at this; omega)
  (by simp only [zb6.r0, zb6.b0, dcf (show ¬ ((b.size - 1 : Nat) : Int) < ((b.size - 1 : Nat) : Int) by omega), cfa]) (N := N) (by omega)
 simp only [Nat.zero_add, nc0] at this
 rw [this, show b.size - 1 + 1 = (bl b).length by rw [zas]; omega, List.take_length]
 rfl
theorem zvn {t : DataType} (ht : zj9 t) : szE t = (if t.Kind = 1 then t.Length / 2 + 1 else if t.Kind = 3 then (if t.Length = 9 then 4 else 2) else t.Length) := by
 obtain ⟨_, h1, h2⟩ := ht
 unfold szE
 split
 · rfl
 · split
   · rfl
   · rw [ifn]
theorem zace (N : Nat) (hN : 2000 < N) {t : DataType} (ht : zj9 t) {b : ByteArray} (hb : (b.size : Int) = szE t) :
 ∃ v a e, zkl N t b = some (v, a, e) ∧ (match zo6 t b with | some n => v.N = n ∧ e = 0 | none => e ≠ 0) := by
 have f2 : ∀ a b : Int, zq N [a, b] = some (zhe [a, b]) := fun a b => zqu N _ (by simp; omega) (by simp)
 obtain ⟨⟨l1, l2⟩, l3, l4⟩ := zf6 ht
 have hsz := zvn ht
 have ht' := ht
 obtain ⟨h0, h1, h2⟩ := ht'
 unfold zkl
 rw [zre N (by omega), h0, zcn, zcn, zcn, dcf (show ¬ t.Kind = 4 by omega), dcf (show ¬ t.Kind = 0 by omega)]
 simp only [zrg, cfa, obs, f2, show zhe [0, 0] = 0 from rfl, bst, ctr]
 rw [z2j h0]
 simp only [obs]
 rw [hb]
 simp only [bsf, cfa, eD]
 by_cases hk : t.Kind = 3
 · rw [dct hk, ctr]; have hs4 : b.size ≤ 4 ∧ 0 < b.size := by
    rw [hsz, ifn, ifp hk] at hb; split at hb <;> omega
   rw [zacf N (by omega) b hs4.2 hs4.1]; simp only [obs]; rw [z0j N (by omega) ht]; simp only [obs]; unfold zo6; rw [ifp hk]
   by_cases hr : -((10 ^ t.Length.toNat : Nat) : Int) < zom (bl b) ∧ zom (bl b) < ((10 ^ t.Length.toNat : Nat) : Int)
   · rw [ifp hr, ifp hr]; exact ⟨_, _, _, rfl, rfl, rfl⟩
   · rw [ifn hr, ifn hr]; exact ⟨_, _, _, rfl, by decide⟩
 · rw [dcf hk, cfa]; have hs : 0 < b.size ∧ b.size ≤ 15 ∧ (t.Kind = 1 → b.size ≤ 8) := by
    rw [hsz] at hb
    by_cases h1 : t.Kind = 1
    · rw [ifp h1] at hb; omega
    · rw [ifn h1, ifn hk] at hb; omega
   have hn : (if t.Kind = 1 then zj6 (bl b) else zee (bl b)).length ≤ 17 := by
    split
    · rename_i hk1; have := hs.2.2 hk1; rw [ztj, zas]; omega
    · unfold zee zge; rw [lna, lnm, lns, zas]; omega
   obtain ⟨n, a, e, g1, g2⟩ := zaa5 N hN t (by omega) b hs.1 hn (by omega) ⟨by omega, l2⟩; rw [g1]; exact ⟨_, _, _, rfl, g2⟩
def zwo (n len : Nat) : List Int := (List.range len).map fun j => ((n / 10 ^ (len - 1 - j) % 10 : Nat) : Int)
theorem zz6 (n len : Nat) : (zwo n len).length = len := by simp [zwo]
theorem zz4 {n len : Nat} : ∀ d ∈ zwo n len, 0 ≤ d ∧ d ≤ 9 := by
 intro d hd
 obtain ⟨j, _, rfl⟩ := List.mem_map.1 hd
 omega
def z73 (l : List Int) (neg : Bool) : List Int := (l.take (l.length - 1)).map (· + 240) ++ [l.getD (l.length - 1) 0 + cond neg 208 240]
def zl5 : List Int → List Int
 | a :: b :: l => (16 * a + b) :: zl5 l
 | _ => []
def encB (n : Int) (k : Nat) : List Int := (List.range k).map fun j => n / 256 ^ (k - 1 - j) % 256
def zxn (t : DataType) (n : Int) : List Int := (if t.Length % 2 = 0 then [0] else []) ++ zwo n.natAbs t.Length.toNat ++ [if n < 0 then 13 else 15]
def zz1 (t : DataType) (n : Int) : ByteArray :=
 zd3 (if t.Kind = 3 then encB n (szE t).toNat else if t.Kind = 2 then z73 (zwo n.natAbs t.Length.toNat) (decide (n < 0)) else zl5 (zxn t n))
theorem zacd (N : Nat) (hN : 100 < N) (n len : Nat) (hn : n ≤ 1000000000000000000) (hl : len ≤ 20) : za8 N (n : Int) (len : Int) = some (zwo n len) := by
 unfold za8
 have := za1 (f := za8.r0 N) (fun i => (((n / 10 ^ i : Nat) : Int), zio (fun e => ((n / 10 ^ e % 10 : Nat) : Int)) len i, (len : Int) - 1 - (i : Int))) len
  (fun i hi => by
   have hl2 : n / 10 ^ i ≤ n := Nat.div_le_self _ _; have hl : (zio (fun e => ((n / 10 ^ e % 10 : Nat) : Int)) len i).length = len := zwb _ _ _; have e1 : n / 10 ^ (i + 1) = n / 10 ^ i / 10 := by rw [Nat.pow_succ, ← Nat.div_div_eq_div_mul]
   have e2 : (zio (fun e => ((n / 10 ^ e % 10 : Nat) : Int)) len i).set (len - 1 - i) ((n / 10 ^ i % 10 : Nat) : Int) = zio (fun e => ((n / 10 ^ e % 10 : Nat) : Int)) len (i + 1) := zuo _ len i hi; rw [e1, ← e2]; generalize (zio (fun e => ((n / 10 ^ e % 10 : Nat) : Int)) len i) = P at *; generalize n / 10 ^ i = q at *; simp only [za8.r0, za8.b0, dct (show (len : Int) - 1 - (i : Int) ≥ 0 by omega), ctr, hl]; rw [ifp, ifp]; obtain ⟨x, hx⟩ : ∃ x, P[((len : Int) - 1 - (i : Int)).toNat]? = some x := zfc (by omega); rw [hx]; simp only [obs]
   rw [tde, tme, w6e (n := (q : Int) / 10), w6e (n := (len : Int) - 1 - (i : Int) - 1), zob (by omega) (by omega), show ((len : Int) - 1 - (i : Int)).toNat = len - 1 - i by omega, show (q : Int) % 10 = ((q % 10 : Nat) : Int) by omega, show (q : Int) / 10 = ((q / 10 : Nat) : Int) by omega, show (len : Int) - 1 - (i : Int) - 1 = (len : Int) - 1 - ((i + 1 : Nat) : Int) by omega])
  (by simp only [za8.r0, za8.b0, dcf (show ¬ (len : Int) - 1 - (len : Int) ≥ 0 by omega), cfa]) (N := N) (by omega)
 rw [ifp, ifp, za0 (by omega), ctr, itn, w6e]
 simp only [Nat.pow_zero, Nat.div_one, zun, nc0, Int.sub_zero, zus] at this
 rw [this]
 rfl
theorem or4 (x y : Nat) (hx : x < 16) (hy : y < 16) : orI .u8 (IntKind.wrap .u8 ((x : Int) * 2 ^ (min (4 : Int).toNat 8))) (y : Int) = ((16 * x + y : Nat) : Int) := by
 rw [show (2 : Int) ^ (min (4 : Int).toNat 8) = 16 from rfl, zob (by omega) (by omega)]
 unfold orI
 have e : (BitVec.ofInt IntKind.u8.bits ((x : Int) * 16) ||| BitVec.ofInt IntKind.u8.bits (y : Int)).toNat = 16 * x + y := by
  show (BitVec.ofInt 8 ((x : Int) * 16) ||| BitVec.ofInt 8 (y : Int)).toNat = _; rw [show (x : Int) * 16 = ((16 * x : Nat) : Int) by omega, BitVec.toNat_or, BitVec.ofInt_natCast, BitVec.ofInt_natCast, BitVec.toNat_ofNat, BitVec.toNat_ofNat, mel (by omega), mel (by omega)]; exact (Nat.two_pow_add_eq_or_of_lt (i := 4) (b := y) hy x).symm
 rw [e]
 exact zob (by omega) (by omega)
theorem zyv : ∀ (n : Nat) (l : List Int) (x y : Int), l.length = 2 * n → zl5 (l ++ [x, y]) = zl5 l ++ [16 * x + y]
 | 0, l, x, y, h => by
  obtain rfl := List.length_eq_zero_iff.1 (by omega : l.length = 0); rfl
 | n + 1, [], x, y, h => by simp at h
 | n + 1, [a], x, y, h => by simp at h; omega
 | n + 1, a :: b :: l, x, y, h => by
  simp only [List.cons_append, zl5]; rw [zyv n l x y (by simp only [lnc] at h; omega)]
theorem zuu : ∀ (n : Nat) (l : List Int), l.length = 2 * n → (zl5 l).length = n
 | 0, l, h => by
  obtain rfl := List.length_eq_zero_iff.1 (by omega : l.length = 0); rfl
 | n + 1, [], h => by simp at h
 | n + 1, [a], h => by simp at h; omega
 | n + 1, a :: b :: l, h => by
  simp only [zl5, lnc]; rw [zuu n l (by simp only [lnc] at h; omega)]
theorem zaca (N : Nat) (hN : 100 < N) (l : List Int) (n : Nat) (hl : l.length = 2 * n) (hn : n ≤ 20) (hd : ∀ d ∈ l, 0 ≤ d ∧ d < 16) : zbv N l = some (zd3 (zl5 l)) := by
 unfold zbv
 have := za1 (f := zbv.r0 N) (fun i => (l, zl5 (l.take (2 * i)), 2 * (i : Int))) n
  (fun i hi => by
   obtain ⟨x, hx⟩ : ∃ x, l[2 * i]? = some x := zfc (by omega); obtain ⟨y, hy⟩ : ∃ y, l[2 * i + 1]? = some y := zfc (by omega); obtain ⟨x1, x2⟩ := hd x (lmg hx); obtain ⟨y1, y2⟩ := hd y (lmg hy); have hlt : (l.take (2 * i)).length = 2 * i := by rw [lnt]; omega
   simp only [zbv.r0, zbv.b0, dct (show 2 * (i : Int) < (l.length : Int) by omega), ctr]; rw [w6e (n := 2 * (i : Int) + 1), w6e (n := 2 * (i : Int) + 2), show 2 * (i : Int) = ((2 * i : Nat) : Int) by omega, show ((2 * i : Nat) : Int) + 1 = ((2 * i + 1 : Nat) : Int) by omega, zai, zai, hx, hy]; simp only [obs]; obtain ⟨u, rfl⟩ : ∃ u : Nat, x = (u : Int) := ⟨x.toNat, by omega⟩; obtain ⟨v, rfl⟩ : ∃ v : Nat, y = (v : Int) := ⟨y.toNat, by omega⟩; rw [or4 u v (by omega) (by omega), za0 (by rw [zuu i _ hlt]; simp only [lnc, ln0]; omega), ctr]; rw [show 2 * (i + 1) = 2 * i + 1 + 1 by omega, zeg _ _ hy, zeg _ _ hx, List.append_assoc, show ([(u : Int)] ++ [(v : Int)] : List Int) = [(u : Int), (v : Int)] from rfl, zyv i _ _ _ hlt]
   congr 4)
  (by simp only [zbv.r0, zbv.b0, dcf (show ¬ 2 * (n : Int) < (l.length : Int) by omega), cfa]) (N := N) (by omega)
 simp only [Nat.mul_zero, List.take_zero, nc0, Int.mul_zero] at this
 rw [show zl5 [] = [] from rfl] at this
 rw [this, obs, ← hl, List.take_length]
theorem zaeo (f : Int → Int) (l : List Int) (i : Nat) {x : Int} (hx : l[i]? = some x) : ((l.take i).map f ++ l.drop i)[i]? = some x ∧ ((l.take i).map f ++ l.drop i).set i (f x) = (l.take (i + 1)).map f ++ l.drop (i + 1) := by
 obtain ⟨h1, h2⟩ := gei hx
 have hl : ((l.take i).map f).length = i := by rw [lnm, lnt]; omega
 have hd : l.drop i = x :: l.drop (i + 1) := by rw [List.drop_eq_getElem_cons h1, h2]
 constructor
 · rw [List.getElem?_append_right (by omega), hl, Nat.sub_self, hd]; rfl
 · rw [List.set_append_right _ _ (by omega), hl, Nat.sub_self, hd, zeg l i hx, List.map_append, List.append_assoc]; rfl
theorem zaa9 {l : List Int} (h : 0 < l.length) : l = l.take (l.length - 1) ++ [l.getD (l.length - 1) 0] := by
 have hx : l[l.length - 1]? = some (l.getD (l.length - 1) 0) := by rw [gdd, lge (by omega)]; rfl
 have := zeg l (l.length - 1) hx
 rw [show l.length - 1 + 1 = l.length by omega, List.take_length] at this
 exact this
theorem zaei (z : Int) : IntKind.wrap .u8 z = z % 256 := by
 have e : (2 : Int) ^ (IntKind.u8.bits) = 256 := by decide
 unfold IntKind.wrap
 simp only [e, show IntKind.u8.signed = false from rfl, Bool.false_and]
 simp only [Bool.false_eq_true, if_false]
theorem zvd {l : List Int} (h : 0 < l.length) : l.map (· + 240) = z73 l false := by
 conv => lhs; rw [zaa9 h]
 rw [List.map_append]
 rfl
theorem zsr {n : Int} (h1 : -9223372036854775807 ≤ n) (h2 : n ≤ 9223372036854775807) : (if w6 (0 - n) > n then w6 (0 - n) else n) = ((n.natAbs : Nat) : Int) := by
 rw [w6e]
 split <;> omega
theorem zyz {t : DataType} (h1 : 1 ≤ t.Length) (n : Int) : (zxn t n).length = 2 * (t.Length.toNat / 2 + 1) ∧ ∀ d ∈ zxn t n, 0 ≤ d ∧ d < 16 := by
 unfold zxn
 constructor
 · rw [lna, lna, zz6, lns]; split
   · rw [lns]; omega
   · rw [ln0]; omega
 · intro d hd; rcases List.mem_append.1 hd with hd | hd
   · rcases List.mem_append.1 hd with hd | hd
     · split at hd
       · rcases List.mem_cons.1 hd with rfl | hd
         · omega
         · cases hd
       · cases hd
     · have := zz4 d hd; omega
   · rcases List.mem_cons.1 hd with rfl | hd
     · split <;> omega
     · cases hd
theorem zaa4 (N : Nat) (hN : 100 < N) {t : DataType} (ht : zj9 t) (n : Int) (hn : -((10 ^ t.Length.toNat : Nat) : Int) < n ∧ n < ((10 ^ t.Length.toNat : Nat) : Int)) : zac N t ⟨n, ⟨#[]⟩⟩ = some (zz1 t n) := by
 obtain ⟨⟨l1, l2⟩, l3, l4⟩ := zf6 ht
 have hp2 : 10 ^ t.Length.toNat ≤ 10 ^ 15 := zcj (by omega)
 have hsz := zvn ht
 have ht' := ht
 obtain ⟨h0, h1, h2⟩ := ht'
 have hd := zacd N hN n.natAbs t.Length.toNat (by omega) (by omega)
 rw [Int.toNat_of_nonneg (by omega)] at hd
 unfold zac zz1
 try simp only [eD]
 rw [zsr (by omega) (by omega), hd]
 simp only [obs]
 have hlen := zz6 n.natAbs t.Length.toNat
 have hrange := zz4 (n := n.natAbs) (len := t.Length.toNat)
 have hpac := zyz (t := t) l1 n
 have epac : zxn t n = (if t.Length % 2 = 0 then [0] else []) ++ zwo n.natAbs t.Length.toNat ++ [if n < 0 then 13 else 15] := rfl
 generalize zwo n.natAbs t.Length.toNat = d at *
 simp only [zcn]
 by_cases k2 : t.Kind = 2
 · rw [dct k2, ctr, ifn, ifp k2]; have lp := za1 (f := zac.r1 N) (fun i => ((d.take i).map (· + 240) ++ d.drop i, (d.length : Int), (i : Int), (⟨n, ⟨#[]⟩⟩ : Value))) d.length
    (fun i hi => by
     obtain ⟨x, hx⟩ : ∃ x, d[i]? = some x := zfc hi; obtain ⟨e1, e2⟩ := zaeo (· + 240) d i hx; have hxr := hrange x (lmg hx); have hl : ((d.take i).map (· + 240) ++ d.drop i).length = d.length := by rw [lna, lnm, lnt, List.length_drop]; omega
     simp only [zac.r1, zac.b1, dct (show (i : Int) < (d.length : Int) by omega), ctr, hl]; rw [ifp, ifp, itn, e1]; simp only [obs]; rw [ifp, ifp, zob (by omega) (by omega), w6e, e2]; rfl)
    (by simp only [zac.r1, zac.b1, dcf (show ¬ (d.length : Int) < (d.length : Int) by omega), cfa]) (N := N) (by omega)
   simp only [List.take_zero, nc0, dr0, List.map_nil, List.nil_append, List.take_length, List.drop_length, List.append_nil] at lp; rw [lp]; simp only [obs, lnm]
   by_cases hneg : n < 0
   · rw [dct hneg, ctr, w6e, ifp, ifp]; have hi : (d.length : Int) - 1 = ((d.length - 1 : Nat) : Int) := by omega
     have hx : d[d.length - 1]? = some (d.getD (d.length - 1) 0) := by rw [gdd, lge (by omega)]; rfl
     have hxr := hrange _ (lmg hx); rw [hi, itn, List.getElem?_map, hx]; simp only [Option.map_some, obs]; rw [ifp, ifp, zob (by omega) (by omega)]
     congr 2
     conv => lhs; rw [show d.map (· + 240) = (d.take (d.length - 1)).map (· + 240) ++ [d.getD (d.length - 1) 0 + 240] from zvd (by omega)]
     have hl : ((d.take (d.length - 1)).map (· + 240)).length = d.length - 1 := by rw [lnm, lnt]; omega
     rw [List.set_append_right _ _ (by omega), hl, Nat.sub_self]; unfold z73
     congr 1
     show [_] = [_]
     congr 1
     simp only [ctr]; omega
   · rw [dcf hneg, cfa, zvd (by omega)]
 · rw [dcf k2, cfa, ifn (c := t.Kind = 2) k2]
   by_cases k1 : t.Kind = 1
   · rw [dct k1, ctr, ifn]; have pk := zaca N hN (zxn t n) _ hpac.1 (by omega) hpac.2; have ev : decide ((d.length : Int).tmod 2 = 0) = decide (t.Length % 2 = 0) := by
      rw [tme]; simp only [decide_eq_decide]; omega
     rw [ev]; rw [epac] at pk ⊢
     by_cases hneg : n < 0
     · rw [dct hneg, ctr]; rw [ifp hneg] at pk ⊢
       by_cases he : t.Length % 2 = 0
       · rw [dct he, ctr]; rw [ifp he] at pk ⊢; rw [za0 (by simp only [lnc, ln0]; omega), ctr, za0 (by simp only [lna, lnc, ln0]; omega), ctr, pk]; rfl
       · rw [dcf he, cfa]; rw [ifn he, List.nil_append] at pk ⊢; rw [za0 (by simp only [lnc, ln0]; omega), ctr, pk]; rfl
     · rw [dcf hneg, cfa]; rw [ifn hneg] at pk ⊢
       by_cases he : t.Length % 2 = 0
       · rw [dct he, ctr]; rw [ifp he] at pk ⊢; rw [za0 (by simp only [lnc, ln0]; omega), ctr, za0 (by simp only [lna, lnc, ln0]; omega), ctr, pk]; rfl
       · rw [dcf he, cfa]; rw [ifn he, List.nil_append] at pk ⊢; rw [za0 (by simp only [lnc, ln0]; omega), ctr, pk]; rfl
   · have k3 : t.Kind = 3 := by omega
     rw [dcf k1, cfa, dct k3, ctr, ifp k3, z2j h0]; have hs : (szE t).toNat ≤ 4 ∧ 0 < (szE t).toNat ∧ szE t = ((szE t).toNat : Int) := by
      rw [hsz, ifn k1, ifp k3]; split <;> decide
     obtain ⟨s1, s2, s3⟩ := hs; generalize (szE t).toNat = k at *; rw [s3]; simp only [obs]; rw [ifp, ifp, za0 (by omega), ctr, itn, lnr, w6e]; have lp := za1 (f := zac.r3 N) (fun i => (zio (fun e => n / 256 ^ e % 256) k i, (k : Int) - 1 - (i : Int), n / 256 ^ i)) k
      (fun i hi => by
       have e2 : (zio (fun e => n / 256 ^ e % 256) k i).set (k - 1 - i) (n / 256 ^ i % 256) = zio (fun e => n / 256 ^ e % 256) k (i + 1) := zuo _ k i hi; have hl : (zio (fun e => n / 256 ^ e % 256) k i).length = k := zwb _ _ _; have e1 : n / 256 ^ (i + 1) = n / 256 ^ i / 256 := by rw [Int.pow_succ, Int.ediv_ediv_of_nonneg (Int.le_of_lt (Int.pow_pos (by decide)))]
       rw [e1, ← e2]; generalize zio (fun e => n / 256 ^ e % 256) k i = P at *; simp only [zac.r3, zac.b3, dct (show (k : Int) - 1 - (i : Int) ≥ 0 by omega), ctr, hl]; rw [ifp, ifp]; obtain ⟨x, hx⟩ : ∃ x, P[((k : Int) - 1 - (i : Int)).toNat]? = some x := zfc (by omega); rw [hx]; simp only [obs]; rw [zaei, w6e, show (2 : Int) ^ (min (8 : Int).toNat 64) = 256 from rfl, Int.fdiv_eq_ediv_of_nonneg _ (by decide), show ((k : Int) - 1 - (i : Int)).toNat = k - 1 - i by omega, show (k : Int) - 1 - (i : Int) - 1 = (k : Int) - 1 - ((i + 1 : Nat) : Int) by omega])
      (by simp only [zac.r3, zac.b3, dcf (show ¬ (k : Int) - 1 - (k : Int) ≥ 0 by omega), cfa]) (N := N) (by omega)
     simp only [Int.pow_zero, Int.ediv_one, zun, nc0, Int.sub_zero, zus] at lp; rw [lp]; rfl
theorem z64 (N : Nat) (hN : 100 < N) {t : DataType} (ht : zj9 t) (n : Int) (hn : -((10 ^ t.Length.toNat : Nat) : Int) < n ∧ n < ((10 ^ t.Length.toNat : Nat) : Int)) : zc8 N t ⟨n, ⟨#[]⟩⟩ = some (zz1 t n, 0) := by
 unfold zc8
 rw [z0j N hN ht, ifp hn]
 simp only [obs, bsf, cfa, eD]
 rw [zaa4 N hN ht n hn]
 rfl
theorem z7g {t : DataType} (ht : zj9 t) (n : Int) : ((zz1 t n).size : Int) = szE t := by
 obtain ⟨⟨l1, l2⟩, l3, l4⟩ := zf6 ht
 have hsz := zvn ht
 obtain ⟨h0, h1, h2⟩ := ht
 rw [← zas]
 unfold zz1
 rw [zht, lnm]
 by_cases k3 : t.Kind = 3
 · rw [ifp k3]; unfold encB; rw [lnm, List.length_range]; rw [hsz, ifn, ifp k3]; split <;> rfl
 · rw [ifn k3]
   by_cases k2 : t.Kind = 2
   · rw [ifp k2]; unfold z73; rw [lna, lnm, lnt, zz6, lns, hsz, ifn, ifn k3]; omega
   · rw [ifn k2, zuu _ _ (zyz l1 n).1, hsz, ifp]; omega
theorem z3i (N : Nat) (hN : 100 < N) (k : Nat) (hk : k ≤ 18) : zd8 N (k : Int) = some ((10 ^ k : Nat) : Int) := by
 unfold zd8
 have := za1 (f := zd8.r0 N) (fun i => ((k : Int), ((10 ^ i : Nat) : Int), (i : Int))) k
  (fun i hi => by
   have : 10 ^ (i + 1) ≤ 10 ^ 18 := zcj (by omega); rw [Nat.pow_succ] at this; simp only [zd8.r0, zd8.b0, dct (show (i : Int) < (k : Int) by omega), ctr]; rw [w6e (n := ((10 ^ i : Nat) : Int) * 10), w6e, Nat.pow_succ]; simp only [Int.natCast_add, Int.natCast_mul, Int.natCast_one]; rfl)
  (by simp only [zd8.r0, zd8.b0, dcf (show ¬ (k : Int) < (k : Int) by omega), cfa]) (N := N) (by omega)
 simp only [Nat.pow_zero, nc0] at this
 rw [show (1 : Int) = ((1 : Nat) : Int) from rfl, this]
 rfl
theorem zab1 (N : Nat) (hN : 100 < N) (n len : Nat) (hn : n ≤ 1000000000000000000) (hl : len ≤ 20) : zfh N (n : Int) (len : Int) = some (zwo n len) := by
 unfold zfh
 have := za1 (f := zfh.r0 N) (fun i => (((n / 10 ^ i : Nat) : Int), zio (fun e => ((n / 10 ^ e % 10 : Nat) : Int)) len i, (len : Int) - 1 - (i : Int))) len
  (fun i hi => by
   have hl2 : n / 10 ^ i ≤ n := Nat.div_le_self _ _; have hl : (zio (fun e => ((n / 10 ^ e % 10 : Nat) : Int)) len i).length = len := zwb _ _ _; have e1 : n / 10 ^ (i + 1) = n / 10 ^ i / 10 := by rw [Nat.pow_succ, ← Nat.div_div_eq_div_mul]
   have e2 : (zio (fun e => ((n / 10 ^ e % 10 : Nat) : Int)) len i).set (len - 1 - i) ((n / 10 ^ i % 10 : Nat) : Int) = zio (fun e => ((n / 10 ^ e % 10 : Nat) : Int)) len (i + 1) := zuo _ len i hi; rw [e1, ← e2]; generalize (zio (fun e => ((n / 10 ^ e % 10 : Nat) : Int)) len i) = P at *; generalize n / 10 ^ i = q at *; simp only [zfh.r0, zfh.b0, dct (show (len : Int) - 1 - (i : Int) ≥ 0 by omega), ctr, hl]; rw [ifp, ifp]; obtain ⟨x, hx⟩ : ∃ x, P[((len : Int) - 1 - (i : Int)).toNat]? = some x := zfc (by omega); rw [hx]; simp only [obs]; rw [tde, tme, w6e (n := (q : Int) / 10), w6e (n := (len : Int) - 1 - (i : Int) - 1), show ((len : Int) - 1 - (i : Int)).toNat = len - 1 - i by omega, show (q : Int) % 10 = ((q % 10 : Nat) : Int) by omega, show (q : Int) / 10 = ((q / 10 : Nat) : Int) by omega, show (len : Int) - 1 - (i : Int) - 1 = (len : Int) - 1 - ((i + 1 : Nat) : Int) by omega])
  (by simp only [zfh.r0, zfh.b0, dcf (show ¬ (len : Int) - 1 - (len : Int) ≥ 0 by omega), cfa]) (N := N) (by omega)
 rw [ifp, ifp, za0 (by omega), ctr, itn, w6e]
 simp only [Nat.pow_zero, Nat.div_one, zun, nc0, Int.sub_zero, zus] at this
 rw [this]
 rfl
theorem zxf (N : Nat) (hN : 100 < N) (v k : Nat) (hv : v < 9223372036854775807) (hk : k ≤ 8) : zbo N (v : Int) (k : Int) = some (zd3 (zbm v k)) := by
 unfold zbo
 have := za1 (f := zbo.r0 N) (fun i => (((v / 256 ^ i : Nat) : Int), (k : Int), zio (fun e => ((v / 256 ^ e % 256 : Nat) : Int)) k i, (i : Int))) k
  (fun i hi => by
   have hl2 : v / 256 ^ i ≤ v := Nat.div_le_self _ _; have hl : (zio (fun e => ((v / 256 ^ e % 256 : Nat) : Int)) k i).length = k := zwb _ _ _; have e1 : v / 256 ^ (i + 1) = v / 256 ^ i / 256 := by rw [Nat.pow_succ, ← Nat.div_div_eq_div_mul]
   have e2 : (zio (fun e => ((v / 256 ^ e % 256 : Nat) : Int)) k i).set (k - 1 - i) ((v / 256 ^ i % 256 : Nat) : Int) = zio (fun e => ((v / 256 ^ e % 256 : Nat) : Int)) k (i + 1) := zuo _ k i hi; rw [e1, ← e2]; generalize (zio (fun e => ((v / 256 ^ e % 256 : Nat) : Int)) k i) = P at *; generalize v / 256 ^ i = q at *; simp only [zbo.r0, zbo.b0, dct (show (i : Int) < (k : Int) by omega), ctr, hl]; rw [w6e (n := (k : Int) - 1), w6e (n := (k : Int) - 1 - (i : Int)), ifp, ifp]; obtain ⟨x, hx⟩ : ∃ x, P[((k : Int) - 1 - (i : Int)).toNat]? = some x := zfc (by omega); rw [hx]; simp only [obs]; rw [tde, tme, w6e (n := (q : Int) / 256), w6e (n := (i : Int) + 1), zob (by omega) (by omega), show ((k : Int) - 1 - (i : Int)).toNat = k - 1 - i by omega, show (q : Int) % 256 = ((q % 256 : Nat) : Int) by omega, show (q : Int) / 256 = ((q / 256 : Nat) : Int) by omega]; rfl)
  (by simp only [zbo.r0, zbo.b0, dcf (show ¬ (k : Int) < (k : Int) by omega), cfa]) (N := N) (by omega)
 rw [ifp, ifp, za0 (by omega), ctr, itn]
 simp only [Nat.pow_zero, Nat.div_one, zun, nc0] at this
 rw [this, obs, zus]
 rfl
theorem zac7 (f : Int → Int) (l : List Int) (m i : Nat) {x : Int} (hx : l[i]? = some x) (hm : i < m) : ((l.take i).map f ++ List.replicate (m - i) 0)[i]? = some 0 ∧ ((l.take i).map f ++ List.replicate (m - i) 0).set i (f x) = (l.take (i + 1)).map f ++ List.replicate (m - (i + 1)) 0 := by
 obtain ⟨h1, h2⟩ := gei hx
 have hl : ((l.take i).map f).length = i := by rw [lnm, lnt]; omega
 have hd : List.replicate (m - i) (0 : Int) = 0 :: List.replicate (m - (i + 1)) 0 := by rw [show m - i = m - (i + 1) + 1 by omega, List.replicate_succ]
 constructor
 · rw [List.getElem?_append_right (by omega), hl, Nat.sub_self, hd]; rfl
 · rw [List.set_append_right _ _ (by omega), hl, Nat.sub_self, hd, zeg l i hx, List.map_append, List.append_assoc]; rfl
theorem z9h (n : Int) (k : Nat) (m : Nat) (h : (m : Int) = n ∨ (m : Int) = n + (256 ^ k : Nat)) : zbm m k = encB n k := by
 unfold zbm encB
 refine List.map_congr_left fun j hj => ?_
 have hjk := List.mem_range.1 hj
 have hc : (256 : Int) ^ (k - 1 - j) = ((256 ^ (k - 1 - j) : Nat) : Int) := by rw [Int.natCast_pow]; rfl
 rw [hc]
 rcases h with h | h
 · rw [← h]; rfl
 · have hk : (256 ^ k : Nat) = 256 ^ (k - 1 - j) * (256 * 256 ^ j) := by
    rw [← Nat.pow_succ', ← Nat.pow_add]; congr 1; omega
   have hp : ((256 ^ (k - 1 - j) : Nat) : Int) ≠ 0 := by
    have : 0 < 256 ^ (k - 1 - j) := Nat.pow_pos (by decide); omega
   have e : ((m / 256 ^ (k - 1 - j) % 256 : Nat) : Int) = (m : Int) / ((256 ^ (k - 1 - j) : Nat) : Int) % 256 := rfl; rw [e, h, hk, Int.natCast_mul, Int.add_mul_ediv_left _ _ hp, Int.natCast_mul]; exact Int.add_mul_emod_self_left _ _ _
theorem z8i (N : Nat) (hN : 100 < N) {t : DataType} (ht : zj9 t) (n : Int) (hn : -((10 ^ t.Length.toNat : Nat) : Int) < n ∧ n < ((10 ^ t.Length.toNat : Nat) : Int)) : zbe N t ⟨n, ⟨#[]⟩⟩ = some (zz1 t n) := by
 obtain ⟨⟨l1, l2⟩, l3, l4⟩ := zf6 ht
 have hp2 : 10 ^ t.Length.toNat ≤ 10 ^ 15 := zcj (by omega)
 have hsz := zvn ht
 have ht' := ht
 obtain ⟨h0, h1, h2⟩ := ht'
 have hd := zab1 N hN n.natAbs t.Length.toNat (by omega) (by omega)
 rw [Int.toNat_of_nonneg (by omega)] at hd
 unfold zbe zz1 zna
 simp only [eD, zcn]
 rw [dcf (show ¬ t.Kind = 0 by omega), cfa]
 by_cases k3 : t.Kind = 3
 · rw [dct k3, ctr, ifp k3, zs6 h0]; have hs : (szE t).toNat ≤ 4 ∧ 0 < (szE t).toNat ∧ szE t = ((szE t).toNat : Int) ∧ ((szE t).toNat = 2 ∨ (szE t).toNat = 4) ∧ ((szE t).toNat = 2 → t.Length = 4) := by
    have h9 := h0; unfold zfj at h9; rw [ifn, ifn, ifp k3] at h9; rw [hsz, ifn, ifp k3]; split at h9
    · split
      · exact ⟨by decide, by decide, by decide, by decide, fun h => by cases h⟩
      · exact ⟨by decide, by decide, by decide, by decide, fun _ => by omega⟩
    · cases h9
   obtain ⟨s1, s2, s3, s4, s5⟩ := hs; generalize (szE t).toNat = k at *; rw [s3]; simp only [obs]
   by_cases hneg : n < 0
   · rw [dct hneg, ctr, w6e (n := 8 * (k : Int)), ifn]; have hpow : (1 : Int) * 2 ^ (min (8 * (k : Int)).toNat 64) = ((256 ^ k : Nat) : Int) := by
      rcases s4 with rfl | rfl <;> decide
     have hlow : -((256 ^ k : Nat) : Int) ≤ n := by
      rcases s4 with rfl | rfl
      · have := s5 rfl; rw [this] at hn; have : (10 ^ (4 : Int).toNat : Nat) = 10000 := by decide
        rw [this] at hn; have : (256 ^ 2 : Nat) = 65536 := by decide
        omega
      · have hl9 : 10 ^ t.Length.toNat ≤ 10 ^ 9 := by
         refine zcj ?_; unfold zfj at h0; rw [ifn, ifn, ifp k3] at h0; split at h0
         · omega
         · cases h0
        have : (256 ^ 4 : Nat) = 4294967296 := by decide
        omega
     have hup : 256 ^ k ≤ 4294967296 := by rcases s4 with rfl | rfl <;> decide
     rw [hpow, w6e (n := ((256 ^ k : Nat) : Int)), w6e]; obtain ⟨m, hm⟩ : ∃ m : Nat, (m : Int) = n + (256 ^ k : Nat) := ⟨(n + (256 ^ k : Nat)).toNat, by omega⟩; rw [← hm, zxf N hN m k (by omega) (by omega), z9h n k m (.inr hm)]; rfl
   · rw [dcf hneg, cfa]; obtain ⟨m, hm⟩ : ∃ m : Nat, (m : Int) = n := ⟨n.toNat, by omega⟩; rw [← hm, zxf N hN m k (by omega) (by omega), z9h (m : Int) k m (.inl rfl)]; rfl
 · rw [dcf k3, cfa, ifn k3, zsr (by omega) (by omega)]; simp only [obs]; rw [hd]; simp only [obs]; have hlen := zz6 n.natAbs t.Length.toNat; have hrange := zz4 (n := n.natAbs) (len := t.Length.toNat); have hpac := zyz (t := t) l1 n; have epac : zxn t n = (if t.Length % 2 = 0 then [0] else []) ++ zwo n.natAbs t.Length.toNat ++ [if n < 0 then 13 else 15] := rfl; generalize zwo n.natAbs t.Length.toNat = d at *
   by_cases k2 : t.Kind = 2
   · rw [dct k2, ctr, ifp k2, ifp, ifp, za0 (by omega), ctr]; have lp := za1 (f := zbe.r1 N) (fun i => (d, (d.take i).map (· + 240) ++ List.replicate (d.length - i) 0, (i : Int), t, (⟨n, ⟨#[]⟩⟩ : Value))) d.length
      (fun i hi => by
       obtain ⟨x, hx⟩ : ∃ x, d[i]? = some x := zfc hi; obtain ⟨e1, e2⟩ := zac7 (· + 240) d d.length i hx hi; have hxr := hrange x (lmg hx); have hl : ((d.take i).map (· + 240) ++ List.replicate (d.length - i) 0).length = d.length := by rw [lna, lnm, lnt, lnr]; omega
       simp only [zbe.r1, zbe.b1, dct (show (i : Int) < t.Length by omega), ctr, hl]; rw [ifp, ifp, itn, hx]; simp only [obs]; rw [ifp, ifp, e1]; simp only [obs]; rw [w6e (n := 240 + x), zob (by omega) (by omega), w6e, Int.add_comm 240 x, e2]; rfl)
      (by simp only [zbe.r1, zbe.b1, dcf (show ¬ (d.length : Int) < t.Length by omega), cfa]) (N := N) (by omega)
     simp only [List.take_zero, nc0, List.map_nil, List.nil_append, List.take_length, Nat.sub_self, Nat.sub_zero, List.replicate_zero, List.append_nil] at lp; rw [← hlen, lp]; simp only [obs, lnm]
     by_cases hneg : n < 0
     · rw [dct hneg, ctr, w6e (n := t.Length - 1), ifp, ifp]; have hi : t.Length - 1 = ((d.length - 1 : Nat) : Int) := by omega
       have hx : d[d.length - 1]? = some (d.getD (d.length - 1) 0) := by rw [gdd, lge (by omega)]; rfl
       have hxr := hrange _ (lmg hx); rw [hi, itn, hx]; simp only [obs]; rw [ifp, ifp, List.getElem?_map, hx]; simp only [Option.map_some, obs]; rw [w6e, zob (by omega) (by omega)]
       congr 2
       conv => lhs; rw [show d.map (· + 240) = (d.take (d.length - 1)).map (· + 240) ++ [d.getD (d.length - 1) 0 + 240] from zvd (by omega)]
       have hl : ((d.take (d.length - 1)).map (· + 240)).length = d.length - 1 := by rw [lnm, lnt]; omega
       rw [List.set_append_right _ _ (by omega), hl, Nat.sub_self]; unfold z73
       congr 1
       show [_] = [_]
       congr 1
       simp only [ctr]; omega
     · rw [dcf hneg, cfa, zvd (by omega)]
   · rw [dcf k2, cfa, ifn k2]; have lp : ∀ (l : List Int) (m : Nat), l.length = 2 * m → m ≤ 20 → (∀ d ∈ l, 0 ≤ d ∧ d < 16) → zl (zbe.r3 N) N (l, List.replicate m 0, 0) = some (l, zl5 l, (m : Int)) := fun l m hl hm hr => by
      have := za1 (f := zbe.r3 N) (fun i => (l, zl5 (l.take (2 * i)) ++ List.replicate (m - i) 0, (i : Int))) m
       (fun i hi => by
        obtain ⟨x, hx⟩ : ∃ x, l[2 * i]? = some x := zfc (by omega); obtain ⟨y, hy⟩ : ∃ y, l[2 * i + 1]? = some y := zfc (by omega); obtain ⟨x1, x2⟩ := hr x (lmg hx); obtain ⟨y1, y2⟩ := hr y (lmg hy); have hlt : (l.take (2 * i)).length = 2 * i := by rw [lnt]; omega
        have hpl := zuu i _ hlt; have hl2 : (zl5 (l.take (2 * i)) ++ List.replicate (m - i) 0).length = m := by rw [lna, hpl, lnr]; omega
        have hd : List.replicate (m - i) (0 : Int) = 0 :: List.replicate (m - (i + 1)) 0 := by rw [show m - i = m - (i + 1) + 1 by omega, List.replicate_succ]
        have e1 : (zl5 (l.take (2 * i)) ++ List.replicate (m - i) 0)[i]? = some 0 := by rw [List.getElem?_append_right (by omega), hpl, Nat.sub_self, hd]; rfl
        have e2 : (zl5 (l.take (2 * i)) ++ List.replicate (m - i) 0).set i (16 * x + y) = zl5 (l.take (2 * (i + 1))) ++ List.replicate (m - (i + 1)) 0 := by
         rw [List.set_append_right _ _ (by omega), hpl, Nat.sub_self, hd, show 2 * (i + 1) = 2 * i + 1 + 1 by omega, zeg _ _ hy, zeg _ _ hx, List.append_assoc, show ([x] ++ [y] : List Int) = [x, y] from rfl, zyv i _ _ _ hlt, List.append_assoc]; rfl
        simp only [zbe.r3, zbe.b3, hl2, dct (show (i : Int) < (m : Int) by omega), ctr]; rw [w6e (n := 2 * (i : Int)), w6e (n := 2 * (i : Int) + 1), ifp, ifp, show (2 * (i : Int)).toNat = 2 * i by omega, hx]; simp only [obs]; rw [ifp, ifp, show (2 * (i : Int) + 1).toNat = 2 * i + 1 by omega, hy]; simp only [obs]; rw [ifp, ifp, itn, e1]; simp only [obs]; rw [w6e (n := 16 * x), w6e (n := 16 * x + y), zob (by omega) (by omega), w6e, e2]; rfl)
       (by simp only [zbe.r3, zbe.b3]; rw [lna, zuu m _ (by rw [lnt]; omega), Nat.sub_self, lnr, Nat.add_zero, dcf (show ¬ (m : Int) < (m : Int) by omega), cfa]) (N := N) (by omega)
      simp only [Nat.mul_zero, List.take_zero, nc0, Nat.sub_zero, Nat.sub_self, List.replicate_zero, List.append_nil] at this; rw [show zl5 [] = [] from rfl, List.nil_append, ← hl, List.take_length] at this; exact this
     have lpp := lp (zxn t n) _ hpac.1 (by omega) hpac.2; have hpl := hpac.1; rw [zis, show decide (t.Length.tmod 2 = 0) = decide (t.Length % 2 = 0) by rw [tme]]; simp only [obs]; have hsg : w6 (15 - w6 (2 * cond (decide (n < 0)) 1 0)) = if n < 0 then 13 else 15 := by
      by_cases hneg : n < 0
      · rw [dct hneg, ifp hneg]; decide
      · rw [dcf hneg, ifn hneg]; decide
     rw [hsg]
     by_cases he : t.Length % 2 = 0
     · rw [ifp he] at epac; rw [dct he, ctr, za0 (by simp only [lnc, ln0]; omega), ctr, ← epac, za0 (by simp only [lna, lnc, ln0]; omega), ctr, tde, w6e, ifp, ifp, za0 (by omega), ctr, show ((zxn t n).length : Int) / 2 = ((t.Length.toNat / 2 + 1 : Nat) : Int) by omega, itn, lpp]; rfl
     · rw [ifn he, List.nil_append] at epac; rw [dcf he, cfa, za0 (by simp only [lnc, ln0]; omega), ctr, ← epac, tde, w6e, ifp, ifp, za0 (by omega), ctr, show ((zxn t n).length : Int) / 2 = ((t.Length.toNat / 2 + 1 : Nat) : Int) by omega, itn, lpp]; rfl
theorem z85 : ∀ (l : List UInt8) (i : Nat) (x : UInt8), l[i / 2]? = some x → (zj6 l)[i]? = some (((if i % 2 = 1 then x.toNat % 16 else x.toNat / 16 : Nat) : Nat) : Int)
 | [], i, x, h => by simp at h
 | y :: l, 0, x, h => by
  simp only [Nat.zero_div, List.getElem?_cons_zero, Option.some.injEq] at h; subst h; rfl
 | y :: l, 1, x, h => by
  simp only [show 1 / 2 = 0 from rfl, List.getElem?_cons_zero, Option.some.injEq] at h; subst h; rfl
 | y :: l, i + 2, x, h => by
  rw [show (i + 2) / 2 = i / 2 + 1 by omega, List.getElem?_cons_succ] at h; have := z85 l i x h; have e : zj6 (y :: l) = ((y.toNat / 16 : Nat) : Int) :: ((y.toNat % 16 : Nat) : Int) :: zj6 l := rfl; rw [e, List.getElem?_cons_succ, List.getElem?_cons_succ, this]
  congr 3
  rw [show (i + 2) % 2 = i % 2 by omega]
theorem z6p (n h : Int) (hn : -9223372036854775807 ≤ n ∧ n ≤ 9223372036854775807) : zkx n h = some (if h = 11 ∨ h = 13 then -n else n, decide (h ≥ 10)) := by
 unfold zkx
 rw [w6e, zcn, zcn]
 by_cases h1 : h = 11
 · rw [dct h1, ifp (.inl h1), Int.zero_sub]; rfl
 · rw [dcf h1]
   by_cases h2 : h = 13
   · rw [dct h2, ifp (.inr h2), Int.zero_sub]; rfl
   · rw [dcf h2, ifn]; rfl
theorem z9v (n : Nat) (bad : Nat → Bool) (f : Nat → Value × Int × Int) : (List.range n).any bad = ((List.range n).findSome? (fun i => if bad i = true then some (f i) else none)).isSome := by
 rw [Bool.eq_iff_iff, List.any_eq_true, List.findSome?_isSome_iff]
 constructor
 · rintro ⟨x, hx, hb⟩
   exact ⟨x, hx, by rw [ifp hb]; rfl⟩
 · rintro ⟨x, hx, hb⟩
   refine ⟨x, hx, ?_⟩; split at hb
   · assumption
   · cases hb
def ztw : Value := ⟨0, ⟨#[]⟩⟩
theorem zac9 (N : Nat) (hN : 2000 < N) (t : DataType) (hk : t.Kind = 2) (b : ByteArray) (hb : 0 < b.size) (hb3 : b.size ≤ 15) (hl : (b.size : Int) = t.Length) :
 ∃ v a e, zcy N b = some (v, a, e) ∧ (match zo6 t b with | some n => v.N = n ∧ e = 0 | none => e ≠ 0) := by
 have hd : zo6 t b = z1w (zee (bl b)) t.Length := by unfold zo6; rw [ifn, ifn]
 have hzl : (zee (bl b)).length = b.size + 1 := by unfold zee zge; rw [lna, lnm, lns, zas]
 have hzs : zm5 (zee (bl b)) = (((bl b).getD (b.size - 1) 0).toNat / 16 : Nat) := by
  unfold zm5; rw [hzl, Nat.add_sub_cancel]; unfold zee; have hl2 : (zge (bl b)).length = b.size := by unfold zge; rw [lnm, zas]
  rw [gdd, List.getElem?_append_right (by omega), hl2, Nat.sub_self]; rfl
 have hzd : ∀ i, i < b.size → ∀ x, (bl b)[i]? = some x → (zee (bl b)).getD i 0 = ((x.toNat % 16 : Nat) : Int) := fun i hi x hx => by
  have hl2 : (zge (bl b)).length = b.size := by unfold zge; rw [lnm, zas]
  unfold zee; rw [gdd, List.getElem?_append_left (by omega)]; unfold zge; rw [List.getElem?_map, hx]; rfl
 have hzt : (zee (bl b)).take b.size = zge (bl b) := by
  have hl2 : (zge (bl b)).length = b.size := by unfold zge; rw [lnm, zas]
  unfold zee; rw [List.take_append_of_le_length (by omega), List.take_of_length_le (by omega)]
 have hx1 : (bl b)[b.size - 1]? = some ((bl b).getD (b.size - 1) 0) := zv2 (by rw [zas]; omega)
 have hlb := ((bl b).getD (b.size - 1) 0).toNat_lt
 generalize hS : ((bl b).getD (b.size - 1) 0).toNat / 16 = S at *
 have hS16 : S < 16 := by omega
 rw [hd]
 unfold zcy
 have lp := zbh (f := zcy.r0 N) (fun i => (b, zga ((zge (bl b)).take i), (if i = b.size then (S : Int) else 15), (i : Int), ztw))
  (fun i => if (decide ((zee (bl b)).getD i 0 > 9) || (decide (i = b.size - 1) && decide ((S : Int) < 10))) = true then some (ztw, (i : Int), (21 : Int)) else none) b.size
  (fun i hi => by
   obtain ⟨x, hx⟩ : ∃ x, (bl b)[i]? = some x := zfc (by rw [zas]; exact hi); have hxl := x.toNat_lt; have hnx : (zge (bl b))[i]? = some ((x.toNat % 16 : Nat) : Int) := by unfold zge; rw [List.getElem?_map, hx]; rfl
   have hf := zqb ((zge (bl b)).take i) _ (List.reverse_reverse _).symm fun d hd => by
    obtain ⟨y, _, rfl⟩ := List.mem_map.1 (List.mem_of_mem_take hd); omega
   have hpow : 10 ^ ((zge (bl b)).take i).length ≤ 10 ^ 15 := zcj (by rw [lnt]; omega); have hm : (w6 (x.toNat : Int)).tmod 16 = ((x.toNat % 16 : Nat) : Int) := by rw [w6e, tme]; omega
   have hm2 : ((x.toNat : Int).tmod 16) = ((x.toNat % 16 : Nat) : Int) := by rw [tme]; omega
   have hdv : w6 ((w6 (x.toNat : Int)).tdiv 16) = ((x.toNat / 16 : Nat) : Int) := by rw [w6e (n := (x.toNat : Int)), tde, w6e]; omega
   have hnext : zga ((zge (bl b)).take (i + 1)) = 10 * zga ((zge (bl b)).take i) + ((x.toNat % 16 : Nat) : Int) := by rw [zeg _ _ hnx, zsm]; omega
   rw [hnext]; generalize zga ((zge (bl b)).take i) = F at *; rw [hzd i hi x hx]; simp only [zcy.r0, zcy.b0, dct (show (i : Int) < (b.size : Int) by omega), ctr, zjr, hx, obs, hm, hm2, hdv]; rw [w6e (n := (b.size : Int) - 1), w6e (n := (i : Int) + 1), w6e (n := 10 * F), w6e (n := 10 * F + ((x.toNat % 16 : Nat) : Int)), zcn]
   by_cases hi1 : i = b.size - 1
   · have hxe : x = (bl b).getD (b.size - 1) 0 := by rw [hi1] at hx; rw [hx1] at hx; exact (Option.some.inj hx).symm
     have hxS : x.toNat / 16 = S := by rw [hxe]; exact hS
     rw [dct (show (i : Int) = (b.size : Int) - 1 by omega), dct hi1, hxS, ifn (show ¬ i = b.size by omega), ifp (show i + 1 = b.size by omega)]; simp only [ctr, Bool.true_and]; cases h1 : decide ((S : Int) < 10) <;> cases h2 : decide (((x.toNat % 16 : Nat) : Int) > 9) <;> rfl
   · rw [dcf (show ¬ (i : Int) = (b.size : Int) - 1 by omega), dcf hi1, ifn (show ¬ i = b.size by omega), ifn (show ¬ i + 1 = b.size by omega)]; simp only [cfa, Bool.false_and, Bool.or_false]; cases h2 : decide (((x.toNat % 16 : Nat) : Int) > 9) <;> rfl)
  (by simp only [zcy.r0, zcy.b0, dcf (show ¬ (b.size : Int) < (b.size : Int) by omega), cfa]) (N := N) (by omega)
 simp only [List.take_zero, nc0] at lp
 rw [show zga [] = 0 from rfl, ifn (show ¬ 0 = b.size by omega)] at lp
 rw [show (⟨0, (⟨#[]⟩ : ByteArray)⟩ : Value) = ztw from rfl, lp]
 simp only [obs]
 have ha := z9v b.size (fun i => decide ((zee (bl b)).getD i 0 > 9) || (decide (i = b.size - 1) && decide ((S : Int) < 10))) (fun i => (ztw, (i : Int), (21 : Int)))
 have hc : (List.range b.size).any (fun i => decide ((zee (bl b)).getD i 0 > 9) || (decide (i = b.size - 1) && decide ((S : Int) < 10))) = ((List.range ((zee (bl b)).length - 1)).any (zkd (zee (bl b)) t.Length) || decide (zm5 (zee (bl b)) < 10)) := by
  rw [hzl, Nat.add_sub_cancel, hzs, Bool.eq_iff_iff, Bool.or_eq_true, List.any_eq_true, List.any_eq_true]; constructor
  · rintro ⟨i, hi, hb⟩
    rw [Bool.or_eq_true, Bool.and_eq_true] at hb; rcases hb with hb | ⟨_, hb⟩
    · exact .inl ⟨i, hi, by unfold zkd; rw [hb, Bool.true_or]⟩
    · exact .inr hb
  · rintro (⟨i, hi, hb⟩ | hb)
    · refine ⟨i, hi, ?_⟩; unfold zkd at hb; rw [Bool.or_eq_true] at hb; rcases hb with hb | hb
      · rw [hb, Bool.true_or]
      · rw [Bool.and_eq_true] at hb; have h2 := of_decide_eq_true hb.2; rw [hzl] at h2; omega
    · exact ⟨b.size - 1, by rw [List.mem_range]; omega, by rw [hb]; simp⟩
 rw [ha] at hc
 unfold z1w
 cases hf : (List.range b.size).findSome? (fun i => if (decide ((zee (bl b)).getD i 0 > 9) || (decide (i = b.size - 1) && decide ((S : Int) < 10))) = true then some (ztw, (i : Int), (21 : Int)) else none) with
 | some r =>
  obtain ⟨i, _, hi⟩ := eof hf; split at hi
  · cases hi; rw [hf] at hc; have hc' : ((List.range ((zee (bl b)).length - 1)).any (zkd (zee (bl b)) t.Length) || decide (zm5 (zee (bl b)) < 10)) = true := hc.symm; rw [Bool.or_eq_true, decide_eq_true_eq] at hc'; rw [ifp hc']; exact ⟨_, _, _, rfl, by decide⟩
  · cases hi
 | none =>
  rw [hf] at hc; have hc' : ((List.range ((zee (bl b)).length - 1)).any (zkd (zee (bl b)) t.Length) || decide (zm5 (zee (bl b)) < 10)) = false := hc.symm; rw [Bool.or_eq_false_iff, decide_eq_false_iff_not] at hc'; have hf := zqb (zge (bl b)) _ (List.reverse_reverse _).symm fun d hd => by
   obtain ⟨y, _, rfl⟩ := List.mem_map.1 hd; omega
  have hpow : 10 ^ (zge (bl b)).length ≤ 10 ^ 15 := zcj (by unfold zge; rw [lnm, zas]; omega); have hnc : ¬ ((List.range ((zee (bl b)).length - 1)).any (zkd (zee (bl b)) t.Length) = true ∨ zm5 (zee (bl b)) < 10) := by rw [hc'.1]; simpa using hc'.2
  rw [ifn hnc, hzl, Nat.add_sub_cancel, hzt, hzs]; simp only [zb5, if_true]; rw [show (zge (bl b)).take b.size = zge (bl b) from List.take_of_length_le (by unfold zge; rw [lnm, zas]; omega), z6p _ _ ⟨by omega, by omega⟩]; refine ⟨_, _, _, rfl, ?_, rfl⟩
  by_cases h1 : (S : Int) = 11 ∨ (S : Int) = 13
  · rw [ifp h1]
  · rw [ifn h1]
theorem zaby (N : Nat) (hN : 2000 < N) (t : DataType) (hk : t.Kind = 1) (b : ByteArray) (hl1 : 1 ≤ t.Length ∧ t.Length ≤ 15) (hl : (b.size : Int) = t.Length / 2 + 1) :
 ∃ v a e, zct N t b = some (v, a, e) ∧ (match zo6 t b with | some n => v.N = n ∧ e = 0 | none => e ≠ 0) := by
 have hd : zo6 t b = z1w (zj6 (bl b)) t.Length := by unfold zo6; rw [ifn, ifp hk]
 have hzl : (zj6 (bl b)).length = 2 * b.size := by rw [ztj, zas]
 have hr := (zu0 (l := bl b)).1
 rw [hd]
 have zc := z85 (bl b)
 generalize zj6 (bl b) = l at *
 have hS : zm5 l = l.getD (2 * b.size - 1) 0 := by unfold zm5; rw [hzl]
 generalize zm5 l = S at *
 unfold zct
 have lp := zbh (f := zct.r0 N) (fun i => (b, (if i = 2 * b.size then (if S = 11 ∨ S = 13 then -zga (l.take (2 * b.size - 1)) else zga (l.take (2 * b.size - 1))) else zga (l.take i)), (i : Int), t, ztw))
  (fun i => if (if i = 2 * b.size - 1 then decide (S < 10) else (decide (l.getD i 0 > 9) || (decide (i = 0) && (decide (t.Length % 2 = 0) && decide (l.getD i 0 ≠ 0))))) = true then some (ztw, ((i / 2 : Nat) : Int), (21 : Int)) else none) (2 * b.size)
  (fun i hi => by
   obtain ⟨x, hx⟩ : ∃ x, (bl b)[i / 2]? = some x := zfc (by rw [zas]; omega); have hxl := x.toNat_lt; have hxi := zc i x hx; have hxd : l.getD i 0 = ((if i % 2 = 1 then x.toNat % 16 else x.toNat / 16 : Nat) : Int) := by rw [gdd, hxi]; rfl
   have hf := zqb (l.take i) _ (List.reverse_reverse _).symm fun d hd => hr d (List.mem_of_mem_take hd); have hpow : 10 ^ (l.take i).length ≤ 10 ^ 16 := zcj (by rw [lnt]; omega); have hm : ((w6 (x.toNat : Int)).tmod 16) = ((x.toNat % 16 : Nat) : Int) := by rw [w6e, tme]; omega
   have hdv : w6 ((w6 (x.toNat : Int)).tdiv 16) = ((x.toNat / 16 : Nat) : Int) := by rw [w6e (n := (x.toNat : Int)), tde, w6e]; omega
   have hnext : zga (l.take (i + 1)) = 10 * zga (l.take i) + l.getD i 0 := by rw [zeg _ _ hxi, zsm, hxd]; omega
   have hidx : w6 ((i : Int).tdiv 2) = ((i / 2 : Nat) : Int) := by rw [tde, w6e]; omega
   have hpar : ((i : Int).tmod 2 == 1) = decide (i % 2 = 1) := by rw [tme, zcn]; simp only [decide_eq_decide]; omega
   have hev : (t.Length.tmod 2 == 0) = decide (t.Length % 2 = 0) := by rw [tme, zcn]
   have hw1 : w6 (2 * (b.size : Int)) = ((2 * b.size : Nat) : Int) := by rw [w6e]; omega
   have hw2 : w6 (((2 * b.size : Nat) : Int) - 1) = ((2 * b.size - 1 : Nat) : Int) := by rw [w6e]; omega
   have hi0 : ((i : Int) == 0) = decide (i = 0) := by rw [zcn]; simp only [decide_eq_decide]; omega
   have hil : ((i : Int) == ((2 * b.size - 1 : Nat) : Int)) = decide (i = 2 * b.size - 1) := by rw [zcn]; simp only [decide_eq_decide]; omega
   have sg := z6p (zga (l.take i)) (l.getD i 0) ⟨by omega, by omega⟩; rw [hxd] at hnext sg ⊢; simp only [zct.r0, zct.b0, hw1, hw2, dct (show (i : Int) < ((2 * b.size : Nat) : Int) by omega), ctr, hidx, zjr, hx, obs, hm, hdv, hpar, hev, hi0, hil]; rw [w6e (n := (i : Int) + 1), ifn (show ¬ i = 2 * b.size by omega)]
   by_cases hp : i % 2 = 1
   · rw [ifp hp] at hnext sg; rw [dct hp, ctr]; simp only [ifp hp]; have hH : x.toNat % 16 < 16 := by omega
     by_cases hl : i = 2 * b.size - 1
     · have hSx : S = ((x.toNat % 16 : Nat) : Int) := by rw [hS, ← hl, hxd, ifp hp]
       rw [dct hl, ifp hl, ifp (show i + 1 = 2 * b.size by omega), ← hl, hSx, sg, dcf (show ¬ i = 0 by omega)]; simp only [ctr, cfa, obs]; cases h1 : decide (((x.toNat % 16 : Nat) : Int) < 10) <;> rfl
     · rw [dcf hl, ifn hl, ifn (show ¬ i + 1 = 2 * b.size by omega), hnext, dcf (show ¬ i = 0 by omega)]; generalize x.toNat % 16 = h at *; generalize zga (l.take i) = F at *; simp only [ctr, cfa, obs, Bool.false_and, Bool.or_false]; rw [w6e (n := 10 * F), w6e (n := 10 * F + (h : Int))]; cases h1 : decide ((h : Int) > 9) <;> rfl
   · rw [ifn hp] at hnext sg; rw [dcf hp, cfa]; simp only [ifn hp]; have hl : ¬ i = 2 * b.size - 1 := by omega
     have hH : x.toNat / 16 < 16 := by omega
     rw [dcf hl, ifn hl, ifn (show ¬ i + 1 = 2 * b.size by omega), hnext]; generalize x.toNat / 16 = h at *; generalize zga (l.take i) = F at *; simp only [ctr, cfa, obs]; rw [w6e (n := 10 * F), w6e (n := 10 * F + (h : Int)), zd1]; cases h1 : decide ((h : Int) > 9) <;> cases h2 : decide (i = 0) <;> cases h3 : decide (t.Length % 2 = 0) <;> cases h4 : decide ((h : Int) ≠ 0) <;> rfl)
  (by
   have hw1 : w6 (2 * (b.size : Int)) = ((2 * b.size : Nat) : Int) := by rw [w6e]; omega
   simp only [zct.r0, zct.b0, hw1, dcf (show ¬ ((2 * b.size : Nat) : Int) < ((2 * b.size : Nat) : Int) by omega), cfa]) (N := N) (by omega)
 simp only [List.take_zero, nc0, if_true] at lp
 rw [show zga [] = 0 from rfl, ifn (show ¬ 0 = 2 * b.size by omega)] at lp
 rw [show (⟨0, (⟨#[]⟩ : ByteArray)⟩ : Value) = ztw from rfl, lp]
 simp only [obs]
 have ha := z9v (2 * b.size) (fun i => (if i = 2 * b.size - 1 then decide (S < 10) else (decide (l.getD i 0 > 9) || (decide (i = 0) && (decide (t.Length % 2 = 0) && decide (l.getD i 0 ≠ 0)))))) (fun i => (ztw, ((i / 2 : Nat) : Int), (21 : Int)))
 have hc : (List.range (2 * b.size)).any (fun i => (if i = 2 * b.size - 1 then decide (S < 10) else (decide (l.getD i 0 > 9) || (decide (i = 0) && (decide (t.Length % 2 = 0) && decide (l.getD i 0 ≠ 0)))))) = ((List.range (l.length - 1)).any (zkd l t.Length) || decide (S < 10)) := by
  rw [hzl, Bool.eq_iff_iff, Bool.or_eq_true, List.any_eq_true, List.any_eq_true]; have key : ∀ i, i < 2 * b.size - 1 → (decide (l.getD i 0 > 9) || (decide (i = 0) && (decide (t.Length % 2 = 0) && decide (l.getD i 0 ≠ 0)))) = zkd l t.Length i := by
   intro i hi; unfold zkd; have hxi : l[i]? = some (l.getD i 0) := by rw [gdd, lge (by omega)]; rfl
   have := hr _ (lmg hxi); rw [hzl]; rw [Bool.eq_iff_iff]; simp only [Bool.or_eq_true, Bool.and_eq_true, decide_eq_true_eq]; omega
  constructor
  · rintro ⟨i, hi, hb⟩
    have hi' := List.mem_range.1 hi; split at hb
    · exact .inr hb
    · rw [key i (by omega)] at hb; exact .inl ⟨i, List.mem_range.2 (by omega), hb⟩
  · rintro (⟨i, hi, hb⟩ | hb)
    · have hi' := List.mem_range.1 hi; refine ⟨i, List.mem_range.2 (by omega), ?_⟩; rw [ifn, key i hi']; exact hb
    · exact ⟨2 * b.size - 1, List.mem_range.2 (by omega), by rw [ifp rfl]; exact hb⟩
 rw [ha] at hc
 unfold z1w
 rw [show zm5 l = S by unfold zm5; rw [hzl]; exact hS.symm]
 cases hf : (List.range (2 * b.size)).findSome? (fun i => if (if i = 2 * b.size - 1 then decide (S < 10) else (decide (l.getD i 0 > 9) || (decide (i = 0) && (decide (t.Length % 2 = 0) && decide (l.getD i 0 ≠ 0))))) = true then some (ztw, ((i / 2 : Nat) : Int), (21 : Int)) else none) with
 | some r =>
  obtain ⟨i, _, hi⟩ := eof hf
  by_cases hq : (if i = 2 * b.size - 1 then decide (S < 10) else (decide (l.getD i 0 > 9) || (decide (i = 0) && (decide (t.Length % 2 = 0) && decide (l.getD i 0 ≠ 0))))) = true
  · rw [ifp hq] at hi; cases hi; rw [hf] at hc; have hc' : ((List.range (l.length - 1)).any (zkd l t.Length) || decide (S < 10)) = true := hc.symm; rw [Bool.or_eq_true, decide_eq_true_eq] at hc'; rw [ifp hc']; exact ⟨_, _, _, rfl, by decide⟩
  · rw [ifn hq] at hi; cases hi
 | none =>
  rw [hf] at hc; have hc' : ((List.range (l.length - 1)).any (zkd l t.Length) || decide (S < 10)) = false := hc.symm; rw [Bool.or_eq_false_iff, decide_eq_false_iff_not] at hc'; have hnc : ¬ ((List.range (l.length - 1)).any (zkd l t.Length) = true ∨ S < 10) := by rw [hc'.1]; simpa using hc'.2
  rw [ifn hnc, hzl]; exact ⟨_, _, _, rfl, rfl, rfl⟩
theorem zab2 (N : Nat) (hN : 2000 < N) {t : DataType} (ht : zj9 t) {b : ByteArray} (hb : (b.size : Int) = szE t) :
 ∃ v a e, zwa N t b = some (v, a, e) ∧ (match zo6 t b with | some n => v.N = n ∧ e = 0 | none => e ≠ 0) := by
 obtain ⟨⟨l1, l2⟩, l3, l4⟩ := zf6 ht
 have hsz := zvn ht
 have ht' := ht
 obtain ⟨h0, h1, h2⟩ := ht'
 unfold zwa
 rw [z14, h0]
 simp only [obs, bsf, cfa, zcn]
 rw [dcf (show ¬ t.Kind = 4 by omega), dcf (show ¬ t.Kind = 0 by omega), zs6 h0]
 simp only [obs, cfa]
 rw [hb]
 simp only [bsf, cfa]
 by_cases hk : t.Kind = 3
 · rw [dct hk, ctr]; have hs4 : b.size ≤ 4 ∧ 0 < b.size := by
    rw [hsz, ifn, ifp hk] at hb; split at hb <;> omega
   have hbig : zdr N b 0 (szE t) = some ((beV (bl b) : Nat) : Int) := by
    have := z16 N (by omega) b 0 b.size (by omega) (by omega) (by omega); rw [dr0, ← zas, List.take_length, zas, hb] at this; exact this
   obtain ⟨x0, hx0⟩ : ∃ x, (bl b)[0]? = some x := zfc (by rw [zas]; omega); have i0 : zhl b 0 = some x0 := by rw [show (0 : Int) = ((0 : Nat) : Int) from rfl, zjr, hx0]
   have hx00 : (bl b).getD 0 0 = x0 := by rw [gdd, hx0]; rfl
   have hp := z3i N (by omega) t.Length.toNat (by omega); rw [Int.toNat_of_nonneg (by omega)] at hp; have hp2 : 10 ^ t.Length.toNat ≤ 10 ^ 15 := zcj (by omega); have hp3 := zcu t.Length.toNat; have hv := z5g (bl b); have hv2 : 256 ^ (bl b).length ≤ 256 ^ 4 := Nat.pow_le_pow_right (by decide) (by rw [zas]; omega); rw [hbig, i0]; simp only [obs, ziu, hp]; have hbd : zom (bl b) = if 128 ≤ x0.toNat then (beV (bl b) : Int) - (256 ^ (bl b).length : Nat) else (beV (bl b) : Int) := by unfold zom; rw [hx00]
   unfold zo6; rw [ifp hk, hbd]; have hsz8 : w6 (8 * szE t) = ((8 * b.size : Nat) : Int) := by rw [← hb, w6e]; omega
   rw [hsz8]; have hpow : (1 : Int) * 2 ^ (min (((8 * b.size : Nat) : Int)).toNat 64) = ((256 ^ (bl b).length : Nat) : Int) := by
    rw [itn, Nat.min_eq_left (by omega), Int.one_mul, zas, show (256 : Nat) = 2 ^ 8 from rfl, ← Nat.pow_mul, Int.natCast_pow]; rfl
   rw [hpow]; generalize 256 ^ (bl b).length = P at *; generalize 10 ^ t.Length.toNat = T at *; rw [w6e (n := (T : Int) - 1), w6e (n := 0 - ((T : Int) - 1)), w6e (n := (P : Int))]
   by_cases hx : 128 ≤ x0.toNat
   · rw [dct (show (x0.toNat : Int) ≥ 128 by omega), ctr, ifn, ifp hx, w6e, zhk]; simp only [obs]
     by_cases hr : -(T : Int) < (beV (bl b) : Int) - (P : Int) ∧ (beV (bl b) : Int) - (P : Int) < (T : Int)
     · rw [ifp hr, zbf.2 ⟨by omega, by omega⟩]; exact ⟨_, _, _, rfl, rfl, rfl⟩
     · rw [ifn hr, show inB ((beV (bl b) : Int) - (P : Int)) (0 - ((T : Int) - 1)) ((T : Int) - 1) = false by
        cases hb : inB ((beV (bl b) : Int) - (P : Int)) (0 - ((T : Int) - 1)) ((T : Int) - 1) with
        | false => rfl
        | true => have := zbf.1 hb; omega]
       exact ⟨_, _, _, rfl, by decide⟩
   · rw [dcf (show ¬ (x0.toNat : Int) ≥ 128 by omega), cfa, ifn hx, zhk]; simp only [obs]
     by_cases hr : -(T : Int) < (beV (bl b) : Int) ∧ (beV (bl b) : Int) < (T : Int)
     · rw [ifp hr, zbf.2 ⟨by omega, by omega⟩]; exact ⟨_, _, _, rfl, rfl, rfl⟩
     · rw [ifn hr, show inB ((beV (bl b) : Int)) (0 - ((T : Int) - 1)) ((T : Int) - 1) = false by
        cases hb : inB ((beV (bl b) : Int)) (0 - ((T : Int) - 1)) ((T : Int) - 1) with
        | false => rfl
        | true => have := zbf.1 hb; omega]
       exact ⟨_, _, _, rfl, by decide⟩
 · rw [dcf hk, cfa]
   by_cases hk2 : t.Kind = 2
   · rw [dct hk2, ctr]; have hl : (b.size : Int) = t.Length := by rw [hb, hsz, ifn, ifn hk]
     obtain ⟨v, a, e, g1, g2⟩ := zac9 N hN t hk2 b (by omega) (by omega) hl; rw [g1]; exact ⟨_, _, _, rfl, g2⟩
   · rw [dcf hk2, cfa]; have hk1 : t.Kind = 1 := by omega
     obtain ⟨v, a, e, g1, g2⟩ := zaby N hN t hk1 b ⟨l1, l2⟩ (by rw [hb, hsz, ifp hk1]); rw [g1]; exact ⟨_, _, _, rfl, g2⟩
end
end Go.Proofs.YtmifhmfokbigiaaGreatDoor.M
