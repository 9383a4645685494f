/- InterpretHandlers: the law answers true for every input of bulk at most 1048576, and its arguments read as they did; by the seat's second form, tied to the program's text. -/
import Derived.Test.YtmifhmfokbigiaaGreatDoorF1
import Derived.Test.YtmifhmfokbigiaaGreatDoorA3
import Derived.Test.YtmifhmfokbigiaaGreatDoorWInterpretHandlers
import Derived.Lib.Strings
namespace Go.Proofs.YtmifhmfokbigiaaGreatDoor.M
open Go Go.Amx
set_option linter.unusedVariables false
set_option linter.unusedSimpArgs false
set_option maxRecDepth 100000
noncomputable section
theorem obs {α β : Type} (a : α) (f : α → Option β) : (some a).bind f = f a := rfl
theorem dct {p : Prop} [Decidable p] (h : p) : decide p = true := decide_eq_true h
theorem dcf {p : Prop} [Decidable p] (h : ¬ p) : decide p = false := decide_eq_false h
theorem lna {α : Type} {a b : List α} : (a ++ b).length = a.length + b.length := List.length_append
theorem lns {α : Type} {a : α} : [a].length = 1 := List.length_singleton
theorem lge {α : Type} {l : List α} {i : Nat} (h : i < l.length) : l[i]? = some l[i] := List.getElem?_eq_getElem h
theorem itn (n : Nat) : Int.toNat (n : Int) = n := Int.toNat_natCast n
theorem ctr {α : Sort _} (a b : α) : cond true a b = a := rfl
theorem cfa {α : Sort _} (a b : α) : cond false a b = b := rfl
theorem ifp {c : Prop} {h : Decidable c} (hc : c := by omega) {α : Sort _} {t e : α} : ite c t e = t := if_pos hc
theorem ifn {c : Prop} {h : Decidable c} (hc : ¬c := by omega) {α : Sort _} {t e : α} : ite c t e = e := if_neg hc
theorem bsf {α : Type _} [BEq α] [LawfulBEq α] (a : α) : (a != a) = false := bne_self_eq_false a
theorem tde {a b : Int} (h : 0 ≤ a := by omega) : a.tdiv b = a / b := Int.tdiv_eq_ediv_of_nonneg h
theorem tme {a b : Int} (h : 0 ≤ a := by omega) : a.tmod b = a % b := Int.tmod_eq_emod_of_nonneg h
theorem lnt {α : Type _} {i : Nat} {l : List α} : (l.take i).length = min i l.length := List.length_take
theorem lnr {α : Type _} {n : Nat} {a : α} : (List.replicate n a).length = n := List.length_replicate
theorem gdd {α : Type _} {l : List α} {i : Nat} {a : α} : l.getD i a = l[i]?.getD a := List.getD_eq_getElem?_getD
theorem cbc {p : Prop} (h : ¬p → False) : p := Classical.byContradiction h
theorem lnc {α : Type _} {a : α} {l : List α} : (a :: l).length = l.length + 1 := List.length_cons
theorem gei {α : Type _} {i : Nat} {a : α} {l : List α} (h : l[i]? = some a) : ∃ h : i < l.length, l[i] = a := List.getElem?_eq_some_iff.1 h
theorem eof {α β : Type _} {b : β} {f : α → Option β} {l : List α} (h : l.findSome? f = some b) : ∃ a, a ∈ l ∧ f a = some b := List.exists_of_findSome?_eq_some h
theorem ln0 {α : Type _} : ([] : List α).length = 0 := rfl
theorem lnm {α β : Type _} {l : List α} (f : α → β) : (l.map f).length = l.length := List.length_map f
theorem dr0 {α : Type _} {l : List α} : l.drop 0 = l := rfl
theorem bsa {a b : ByteArray} : (a ++ b).size = a.size + b.size := ByteArray.size_append
theorem bnt : (!true) = false := rfl
theorem mel {a b : Nat} (h : a < b) : a % b = a := Nat.mod_eq_of_lt h
theorem nc0 : ((0 : Nat) : Int) = 0 := Int.natCast_zero
theorem bst {α : Type _} [BEq α] [ReflBEq α] (a : α) : (a == a) = true := beq_self_eq_true a
theorem lmg {α : Type _} {l : List α} {i : Nat} {a : α} (h : l[i]? = some a) : a ∈ l := List.mem_of_getElem? h
theorem w6e {n : Int} (h1 : -9223372036854775808 ≤ n := by omega) (h2 : n ≤ 9223372036854775807 := by omega) : w6 n = n := z3s h1 h2
def zb4.b0 (N : Nat) (s0 : Int) (s1 : Int) (s5 : List Int) (s6 : Int) : Option (Stp (Int × Int × (List Int) × Int)) :=
 cond (decide (s6 < s1))
  (if 0 ≤ (w6 ((w6 (s1 - 1)) - s6)) then (if (w6 ((w6 (s1 - 1)) - s6)) < (s5.length : Int) then ((s5[(w6 ((w6 (s1 - 1)) - s6)).toNat]?).bind fun x1001 =>
  some (.again ((w6 (s0.tdiv 256)), s1, (s5.set ((w6 ((w6 (s1 - 1)) - s6)).toNat)
  (IntKind.wrap .u8 (s0.tmod 256))), (w6 (s6 + 1))))) else none) else none) (some (.leave (s0, s1, s5, s6)))
def zb4.r0 (N : Nat) (x : Int × Int × (List Int) × Int) := zb4.b0 N x.1 x.2.1 x.2.2.1 x.2.2.2
def zb4 (N : Nat) (a0 : Int) (a1 : Int) : Option ByteArray :=
 if 0 ≤ a1 then (if a1 ≤ a1 then (cond (Nat.ble (a1.toNat * 1) zbr) ((zt (zb4.r0 N) N (a0, a1, (List.replicate a1.toNat (0 : Int)), 0)).bind fun y1 =>
  some (zds y1.2.2.1)) none) else none) else none
def zqi (a0 : Int) : Option Int :=
 some (if (w6 (0 - a0)) > a0 then (w6 (0 - a0)) else a0)
def zcu.b0 (N : Nat) (s0 : Int) (s5 : List Int) (s6 : Int) : Option (Stp (Int × (List Int) × Int)) :=
 cond (decide (s6 ≥ 0)) (if 0 ≤ s6 then (if s6 < (s5.length : Int) then ((s5[s6.toNat]?).bind fun x1001 =>
  some (.again ((w6 (s0.tdiv 10)), (s5.set s6.toNat (s0.tmod 10)), (w6 (s6 - 1))))) else none) else none) (some (.leave (s0, s5, s6)))
def zcu.r0 (N : Nat) (x : Int × (List Int) × Int) := zcu.b0 N x.1 x.2.1 x.2.2
def zcu (N : Nat) (a0 : Int) (a1 : Int) : Option ((List Int)) :=
 if 0 ≤ a1 then (if a1 ≤ a1 then (cond (Nat.ble (a1.toNat * 8) zbr)
  ((zt (zcu.r0 N) N (a0, (List.replicate a1.toNat (0 : Int)), (w6 (a1 - 1)))).bind fun y1 => some y1.2.1) none) else none) else none
def zat.b1 (N : Nat) (s6 : List Int) (s7 : List Int) (s8 : Int) (b2 : DataType) (b3 : Value) : Option (Stp ((List Int) × (List Int) × Int × DataType × Value)) :=
 cond (decide (s8 < b2.Length)) (if 0 ≤ s8 then (if s8 < (s6.length : Int) then ((s6[s8.toNat]?).bind fun x2001 =>
  if 0 ≤ s8 then (if s8 < (s7.length : Int) then ((s7[s8.toNat]?).bind fun x2002 =>
  some (.again (s6, (s7.set s8.toNat (IntKind.wrap .u8 (w6 (240 + x2001)))), (w6 (s8 + 1)), b2, b3))) else none) else none) else none) else none)
  (some (.leave (s6, s7, s8, b2, b3)))
def zat.r1 (N : Nat) (x : (List Int) × (List Int) × Int × DataType × Value) := zat.b1 N x.1 x.2.1 x.2.2.1 x.2.2.2.1 x.2.2.2.2
def zat.b3 (N : Nat) (s6 : List Int) (s9 : List Int) (s10 : Int) : Option (Stp ((List Int) × (List Int) × Int)) :=
 cond (decide (s10 < (s9.length : Int)))
  (if 0 ≤ (w6 (2 * s10)) then (if (w6 (2 * s10)) < (s6.length : Int) then ((s6[(w6 (2 * s10)).toNat]?).bind fun x4001 =>
  if 0 ≤ (w6 ((w6 (2 * s10)) + 1)) then (if (w6 ((w6 (2 * s10)) + 1)) < (s6.length : Int) then ((s6[(w6 ((w6 (2 * s10)) + 1)).toNat]?).bind fun x4002 =>
  if 0 ≤ s10 then (if s10 < (s9.length : Int) then ((s9[s10.toNat]?).bind fun x4003 =>
  some (.again (s6, (s9.set s10.toNat (IntKind.wrap .u8 (w6 ((w6 (16 * x4001)) + x4002)))), (w6 (s10 + 1))))) else none) else none) else none) else none) else none) else none)
  (some (.leave (s6, s9, s10)))
def zat.r3 (N : Nat) (x : (List Int) × (List Int) × Int) := zat.b3 N x.1 x.2.1 x.2.2
def zat (N : Nat) (a0 : DataType) (a1 : Value) : Option ByteArray :=
 cond (a0.Kind == 0) (some a1.S) (cond (a0.Kind == 3) (cond (decide (a1.N < 0)) ((zco a0).bind fun r1 =>
  if (w6 (8 * r1)) < 0 then none else (zco a0).bind fun r2 =>
  (zb4 N (w6 (a1.N + (w6 (1 * 2 ^ (min (w6 (8 * r1)).toNat 64))))) r2).bind fun r3 => some r3) ((zco a0).bind fun r4 =>
  (zb4 N a1.N r4).bind fun r5 => some r5)) ((zqi a1.N).bind fun r6 => (zcu N r6 a0.Length).bind fun r7 => cond (a0.Kind == 2)
  (if 0 ≤ a0.Length then (if a0.Length ≤ a0.Length then (cond (Nat.ble (a0.Length.toNat * 1) zbr)
  ((zt (zat.r1 N) N (r7, (List.replicate a0.Length.toNat (0 : Int)), 0, a0, a1)).bind fun y8 => cond (decide (y8.2.2.2.2.N < 0))
  (if 0 ≤ (w6 (y8.2.2.2.1.Length - 1)) then (if (w6 (y8.2.2.2.1.Length - 1)) < (y8.1.length : Int) then ((y8.1[(w6 (y8.2.2.2.1.Length - 1)).toNat]?).bind fun x9 =>
  if 0 ≤ (w6 (y8.2.2.2.1.Length - 1)) then (if (w6 (y8.2.2.2.1.Length - 1)) < (y8.2.1.length : Int) then ((y8.2.1[(w6 (y8.2.2.2.1.Length - 1)).toNat]?).bind fun x10 =>
  some (zds (y8.2.1.set ((w6 (y8.2.2.2.1.Length - 1)).toNat) (IntKind.wrap .u8 (w6 (208 + x9)))))) else none) else none) else none) else none)
  (some (zds y8.2.1))) none) else none) else none) (cond ((a0.Length.tmod 2) == 0) (cond (Nat.ble ((([0] : List Int).length + r7.length) * 8) zbr)
  ((zbo (decide (a1.N < 0))).bind fun r11 =>
  cond (Nat.ble (((([0] : List Int) ++ r7).length + ([(w6 (15 - (w6 (2 * r11))))] : List Int).length) * 8) zbr)
  (if 0 ≤ (w6 ((((([0] : List Int) ++ r7) ++ ([(w6 (15 - (w6 (2 * r11))))] : List Int)).length : Int).tdiv 2)) then (if (w6 ((((([0] : List Int) ++ r7) ++ ([(w6 (15 - (w6 (2 * r11))))] : List Int)).length : Int).tdiv 2)) ≤ (w6 ((((([0] : List Int) ++ r7) ++ ([(w6 (15 - (w6 (2 * r11))))] : List Int)).length : Int).tdiv 2)) then (cond (Nat.ble ((w6 ((((([0] : List Int) ++ r7) ++ ([(w6 (15 - (w6 (2 * r11))))] : List Int)).length : Int).tdiv 2)).toNat * 1) zbr)
  ((zt (zat.r3 N) N (((([0] : List Int) ++ r7) ++ ([(w6 (15 - (w6 (2 * r11))))] : List Int)), (List.replicate (w6 ((((([0] : List Int) ++ r7) ++ ([(w6 (15 - (w6 (2 * r11))))] : List Int)).length : Int).tdiv 2)).toNat (0 : Int)), 0)).bind fun y12 =>
  some (zds y12.2.1)) none) else none) else none) none) none) ((zbo (decide (a1.N < 0))).bind fun r13 =>
  cond (Nat.ble ((r7.length + ([(w6 (15 - (w6 (2 * r13))))] : List Int).length) * 8) zbr)
  (if 0 ≤ (w6 (((r7 ++ ([(w6 (15 - (w6 (2 * r13))))] : List Int)).length : Int).tdiv 2)) then (if (w6 (((r7 ++ ([(w6 (15 - (w6 (2 * r13))))] : List Int)).length : Int).tdiv 2)) ≤ (w6 (((r7 ++ ([(w6 (15 - (w6 (2 * r13))))] : List Int)).length : Int).tdiv 2)) then (cond (Nat.ble ((w6 (((r7 ++ ([(w6 (15 - (w6 (2 * r13))))] : List Int)).length : Int).tdiv 2)).toNat * 1) zbr)
  ((zt (zat.r3 N) N ((r7 ++ ([(w6 (15 - (w6 (2 * r13))))] : List Int)), (List.replicate (w6 (((r7 ++ ([(w6 (15 - (w6 (2 * r13))))] : List Int)).length : Int).tdiv 2)).toNat (0 : Int)), 0)).bind fun y14 =>
  some (zds y14.2.1)) none) else none) else none) none))))
def zq2 (a0 : ByteArray) (a1 : Int) (a2 : ByteArray) : Option ByteArray :=
 if 0 ≤ a1 ∧ a1 ≤ (a0.size : Int) then (if 0 ≤ (0 : Int) ∧ (0 : Int) ≤ a1 then (if (((a0.extract (0 : Int).toNat a1.toNat).size + a2.size : Nat) : Int) > IntKind.i64.max then none else if 0 ≤ (w6 (a1 + (a2.size : Int))) ∧ (w6 (a1 + (a2.size : Int))) ≤ (a0.size : Int) then (if ((((a0.extract (0 : Int).toNat a1.toNat) ++ a2).size + (a0.extract (w6 (a1 + (a2.size : Int))).toNat a0.size).size : Nat) : Int) > IntKind.i64.max then none else some (((a0.extract (0 : Int).toNat a1.toNat) ++ a2) ++ (a0.extract (w6 (a1 + (a2.size : Int))).toNat a0.size))) else none) else none) else none
def zol (a0 : List Bool) : Option ((List Bool)) :=
 cond (Nat.ble (a0.length * 1) zbr) (some a0) none
def zkl (a0 : Storage) : Option Storage :=
 (zol a0.Tags).bind fun r1 => some (⟨a0.Bytes, r1⟩ : Storage)
def zml (a0 : Storage) (a1 : Int) : Option Bool :=
 (zh a1 0 (w6 ((a0.Bytes.size : Int) - 16))).bind fun r1 => (cond r1 (some ((a1.tmod 16) == 0)) (some false)).bind fun g2 => some g2
def zlz (a0 : Storage) (a1 : Int) : Option ByteArray :=
 if 0 ≤ (w6 ((w6 (a1 * 16)) + 16)) ∧ (w6 ((w6 (a1 * 16)) + 16)) ≤ (a0.Bytes.size : Int) then (if 0 ≤ (w6 (a1 * 16)) ∧ (w6 (a1 * 16)) ≤ (w6 ((w6 (a1 * 16)) + 16)) then (some (a0.Bytes.extract (w6 (a1 * 16)).toNat (w6 ((w6 (a1 * 16)) + 16)).toNat)) else none) else none
def zdh.b0 (N : Nat) (s0 : ByteArray) (s1 : Int) (s2 : Int) (s7 : Int) (s8 : Int) : Option (Stp (ByteArray × Int × Int × Int × Int)) :=
 cond (decide (s8 < s2)) ((zgd s0 (w6 (s1 + s8))).bind fun x1001 =>
  some (.again (s0, s1, s2, (w6 ((w6 (s7 * 256)) + (w6 (x1001.toNat : Int)))), (w6 (s8 + 1)))))
  (some (.leave (s0, s1, s2, s7, s8)))
def zdh.r0 (N : Nat) (x : ByteArray × Int × Int × Int × Int) := zdh.b0 N x.1 x.2.1 x.2.2.1 x.2.2.2.1 x.2.2.2.2
def zdh (N : Nat) (a0 : ByteArray) (a1 : Int) (a2 : Int) : Option Int :=
 (zt (zdh.r0 N) N (a0, a1, a2, 0, 0)).bind fun y1 => some y1.2.2.2.1
def zjj (a0 : Pointer) : Option Int :=
 (zh a0.Kind 0 2).bind fun r1 => cond (!r1) (some 4) ((zh a0.Address.zU 0 1099511627775).bind fun r2 => (cond (!r2) (some true)
  ((zh a0.Address.Offset 0 16777215).bind fun r3 => some (!r3))).bind fun g4 => (cond g4 (some true) ((zh a0.Authority 0 1023).bind fun r5 =>
  some (!r5))).bind fun g6 => cond g6 (some 3) ((cond (a0.Kind != 1) (some (a0.Authority != 0)) (some false)).bind fun g7 => cond g7 (some 5) (some 0)))
def zox (N : Nat) (a0 : ByteArray) : Option (Pointer × Int) :=
 cond ((a0.size : Int) != 16) (some ((⟨0, (⟨0, 0⟩ : Address), 0⟩ : Pointer), 18)) ((zgd a0 1).bind fun x1 => cond ((x1.toNat : Int) != 0)
  (some ((⟨0, (⟨0, 0⟩ : Address), 0⟩ : Pointer), 5)) ((zgd a0 0).bind fun x2 => (zdh N a0 2 2).bind fun r3 => (zdh N a0 4 6).bind fun r4 =>
  (zdh N a0 10 6).bind fun r5 => (zjj (⟨(w6 (x2.toNat : Int)), (⟨r4, r5⟩ : Address), r3⟩ : Pointer)).bind fun r6 => cond (r6 != 0)
  (some ((⟨0, (⟨0, 0⟩ : Address), 0⟩ : Pointer), r6)) (some ((⟨(w6 (x2.toNat : Int)), (⟨r4, r5⟩ : Address), r3⟩ : Pointer), 0))))
def zow (N : Nat) (a0 : Storage) (a1 : Int) : Option (Pointer × Int) :=
 (zml a0 a1).bind fun r1 => cond (!r1) (some ((⟨0, (⟨0, 0⟩ : Address), 0⟩ : Pointer), 3)) ((idx a0.Tags (w6 (a1.tdiv 16))).bind fun x2 => cond (!x2)
  (some ((⟨0, (⟨0, 0⟩ : Address), 0⟩ : Pointer), 22)) ((zlz a0 (w6 (a1.tdiv 16))).bind fun r3 => (zox N r3).bind fun r4 => some (r4.1, 0)))
def zpy (a0 : Storage) (a1 : Int) (a2 : Int) : Option Bool :=
 (zh a1 0 (a0.Bytes.size : Int)).bind fun r1 => (cond r1 ((zh a2 0 (w6 ((a0.Bytes.size : Int) - a1))).bind fun r2 => some r2)
  (some false)).bind fun g3 => some g3
def zge (N : Nat) (a0 : zB) (a1 : zD) (a2 : Int) : Option (Int × Int) :=
 (idx a0.zA a2).bind fun x1 => (zj N a0).bind fun r2 => cond (x1.Kind != 2) ((idx r2.1 a2).bind fun x3 => some (x3, 0)) ((zcb N a0 x1.Base).bind fun r4 =>
  (idx r2.1 r4).bind fun x5 => (zow N a1.Storage x5).bind fun r6 => cond (r6.2 != 0) (some (0, 4)) ((zco x1.zJ).bind fun r7 =>
  (zpy a1.Storage (w6 (r6.1.Address.Offset + x1.Offset)) r7).bind fun r8 => cond (!r8) (some (0, 5))
  (some ((w6 (r6.1.Address.Offset + x1.Offset)), 0))))
def zcy.b0 (N : Nat) (s1 : Int) (s2 : ByteArray) (s8 : Int) (b6 : Storage) (b7 : Storage) : Option (Stp (Int × ByteArray × Int × Storage × Storage)) :=
 cond (decide (s8 < (s2.size : Int)))
  (if 0 ≤ (w6 ((w6 (s1 + s8)).tdiv 16)) then (if (w6 ((w6 (s1 + s8)).tdiv 16)) < (b7.Tags.length : Int) then ((b7.Tags[(w6 ((w6 (s1 + s8)).tdiv 16)).toNat]?).bind fun x1001 =>
  some (.again (s1, s2, (w6 (s8 + 1)), b6, (⟨b7.Bytes, (b7.Tags.set ((w6 ((w6 (s1 + s8)).tdiv 16)).toNat) false)⟩ : Storage)))) else none) else none)
  (some (.leave (s1, s2, s8, b6, b7)))
def zcy.r0 (N : Nat) (x : Int × ByteArray × Int × Storage × Storage) := zcy.b0 N x.1 x.2.1 x.2.2.1 x.2.2.2.1 x.2.2.2.2
def zcy (N : Nat) (a0 : Storage) (a1 : Int) (a2 : ByteArray) : Option Storage :=
 (zkl a0).bind fun r1 => (zq2 a0.Bytes a1 a2).bind fun r2 =>
  (zt (zcy.r0 N) N (a1, a2, 0, (⟨(⟨#[]⟩ : ByteArray), []⟩ : Storage), (⟨r2, r1.Tags⟩ : Storage))).bind fun y3 => some y3.2.2.2.2
def zd4.b0 (N : Nat) (s4 : Int) (s5 : Int) (b1 : Storage) : Option (Round (Int × Int) (Int × Int × Storage)) :=
 cond (decide (s5 < s4)) ((idx b1.Tags s5).bind fun x1001 => cond x1001 ((zlz b1 s5).bind fun r1002 => (zox N r1002).bind fun r1003 => cond (r1003.2 != 0)
  (some (.result (s5, 22))) (some (.again (s4, (w6 (s5 + 1)), b1)))) (some (.again (s4, (w6 (s5 + 1)), b1)))) (some (.leave (s4, s5, b1)))
def zd4.r0 (N : Nat) (x : Int × Int × Storage) := zd4.b0 N x.1 x.2.1 x.2.2
def zd4 (N : Nat) (a0 : Storage) : Option (Int × Int) :=
 cond (decide ((a0.Bytes.size : Int) > 1024)) (some (0, 2)) (cond (((a0.Bytes.size : Int).tmod 16) != 0) (some (0, 18))
  (cond ((a0.Tags.length : Int) != (w6 ((a0.Bytes.size : Int).tdiv 16))) (some (0, 6))
  ((zr (zd4.r0 N) N ((w6 ((a0.Bytes.size : Int).tdiv 16)), 0, a0)).bind fun z2 => zda z2 (fun z => some z) (fun y1 => some (y1.1, 0)))))
theorem zsm (N : Nat) (l : List Int) (h : l.length < N) (hl : l.length < 1000000000) : zk N l = some (zg2 l) := by
 unfold zk
 have := zby (f := zk.r0 N) (fun i => (l, (l.length : Int), (i : Int))) (fun i => (l[i]?).bind fun x => if x = 0 then none else some x) l.length
  (fun i hi => by
   have hx := lge hi; simp only [zk.r0, zk.b0, zaw, hx, obs, dct (show (i : Int) < (l.length : Int) by omega), ctr]
   by_cases h0 : l[i] = 0
   · simp only [h0, bsf, cfa, if_true]; rw [w6e]; rfl
   · simp only [h0, if_false]; rw [show (l[i] != 0) = true by simpa using h0]; rfl)
  (by simp only [zk.r0, zk.b0, dcf (show ¬ (l.length : Int) < (l.length : Int) by omega), cfa]) h
 simp only [nc0] at this
 rw [this, zk0, ← zng]
 simp only [obs]
 cases l.findSome? (fun x => if x = 0 then none else some x) <;> rfl
def inB (n lo hi : Int) : Bool := decide (lo ≤ n) && decide (n ≤ hi)
theorem zys (n lo hi : Int) : zcf n lo hi = some (inB n lo hi) := by
 unfold zcf inB
 cases decide (lo ≤ n) <;> rfl
theorem zgi (n lo hi : Int) : zh n lo hi = some (inB n lo hi) := by
 unfold zh inB
 cases decide (lo ≤ n) <;> rfl
theorem zre (b : Bool) (e : Int) : z8 b e = some (cond b e 0) := by cases b <;> rfl
theorem zmj (b : Bool) : zbo b = some (cond b 1 0) := by cases b <;> rfl
def zc7 (t : DataType) : Int :=
 if t.Kind = 0 then (if inB t.Length 1 256 then (if t.Scale = 0 then 0 else 3) else 18)
 else if t.Kind = 1 ∨ t.Kind = 2 then (if inB t.Length 1 15 then (if inB t.Scale 0 t.Length then 0 else 3) else 18)
 else if t.Kind = 3 then (if t.Length = 4 ∨ t.Length = 9 then (if inB t.Scale 0 t.Length then 0 else 3) else 18)
 else if t.Kind = 4 then (if t.Length = 0 then (if t.Scale = 0 then 0 else 3) else 18)
 else 4
theorem zqt (a b : Bool) (x y : Int) (hx : x ≠ 0) (hy : y ≠ 0) : zg2 [cond a x 0, cond b y 0] = cond a x (cond b y 0) := by
 cases a <;> cases b <;> simp [zg2, hx, hy]
theorem zod (N : Nat) (hN : 10 < N) (t : DataType) : zag N t = some (zc7 t) := by
 have f2 : ∀ a b : Int, zk N [a, b] = some (zg2 [a, b]) := fun a b => zsm N _ (by simp; omega) (by simp)
 unfold zag zc7
 simp only [zys, zre, f2, obs, zqt _ _ 18 3 (by decide) (by decide)]
 by_cases h0 : t.Kind = 0
 · simp only [h0, bst, ctr, if_true]; cases inB t.Length 1 256 <;> by_cases hs : t.Scale = 0 <;> simp [zbk, hs]
 · simp only [beq_eq_false_iff_ne.2 h0, h0, cfa, if_false]
   by_cases h1 : t.Kind = 1
   · simp only [h1, bst, ctr, true_or, if_true, obs]; cases inB t.Length 1 15 <;> cases inB t.Scale 0 t.Length <;> simp
   · by_cases h2 : t.Kind = 2
     · simp only [h2, h1]; cases inB t.Length 1 15 <;> cases inB t.Scale 0 t.Length <;> simp
     · by_cases h3 : t.Kind = 3
       · simp only [h3]
         by_cases h4 : t.Length = 4 <;> by_cases h5 : t.Length = 9 <;> cases inB t.Scale 0 t.Length <;> simp [zbk, h4, h5]
       · by_cases h4 : t.Kind = 4
         · simp only [h4]
           by_cases h5 : t.Length = 0 <;> by_cases h6 : t.Scale = 0 <;> simp [zbk, h5, h6]
         · simp [zbk, h1, h2, h3, h4]
theorem zta (k : Int) : zb8 k = some (inB k 1 3) := by simp only [zb8, zgi, obs]
theorem zxq (t : DataType) : zey t = some (zc7 t) := by
 have w0' : w6 0 = 0 := by decide
 have w1 : w6 3 = 3 := by decide
 have hz : inB t.Scale 0 0 = decide (t.Scale = 0) := by
  unfold inB
  by_cases h : t.Scale = 0
  · simp [h]
  · simp only [h, decide_false]
    by_cases h1 : 0 ≤ t.Scale
    · simp [h1, show ¬ t.Scale ≤ 0 by omega]
    · simp [h1]
 unfold zey zc7
 simp only [zgi, zta, zmj, obs, hz]
 by_cases h0 : t.Kind = 0
 · have e : inB (0 : Int) 0 4 = true := by decide
   have e' : inB (0 : Int) 1 3 = false := by decide
   simp only [h0, e, e']; cases inB t.Length 1 256 <;> by_cases hs : t.Scale = 0 <;> simp [zbk, hs, w0', w1]
 · by_cases h1 : t.Kind = 1
   · have e : inB (1 : Int) 0 4 = true := by decide
     have e' : inB (1 : Int) 1 3 = true := by decide
     simp only [h1, e, e']; cases inB t.Length 1 15 <;> cases inB t.Scale 0 t.Length <;> simp [w0', w1]
   · by_cases h2 : t.Kind = 2
     · have e : inB (2 : Int) 0 4 = true := by decide
       have e' : inB (2 : Int) 1 3 = true := by decide
       simp only [h2, e, e']; cases inB t.Length 1 15 <;> cases inB t.Scale 0 t.Length <;> simp [w0', w1]
     · by_cases h3 : t.Kind = 3
       · have e : inB (3 : Int) 0 4 = true := by decide
         have e' : inB (3 : Int) 1 3 = true := by decide
         simp only [h3, e, e']
         by_cases h4 : t.Length = 4 <;> by_cases h5 : t.Length = 9 <;> cases inB t.Scale 0 t.Length <;> simp [zbk, h4, h5, w0', w1]
       · by_cases h4 : t.Kind = 4
         · have e : inB (4 : Int) 0 4 = true := by decide
           have e' : inB (4 : Int) 1 3 = false := by decide
           simp only [h4, e, e']
           by_cases h5 : t.Length = 0 <;> by_cases h6 : t.Scale = 0 <;> simp [zbk, h5, h6, w0', w1]
         · have e : inB t.Kind 0 4 = false := by
            unfold inB
            by_cases hh : 0 ≤ t.Kind
            · simp only [hh, decide_true, Bool.true_and, decide_eq_false_iff_not]; omega
            · simp [hh]
           simp [zbk, h0, h1, h2, h3, h4, e]
theorem zc2 {n lo hi : Int} : inB n lo hi = true ↔ lo ≤ n ∧ n ≤ hi := by simp [inB]
theorem zj3 {t : DataType} (h : zc7 t = 0) : (t.Kind = 0 ∧ 1 ≤ t.Length ∧ t.Length ≤ 256) ∨ ((t.Kind = 1 ∨ t.Kind = 2) ∧ 1 ≤ t.Length ∧ t.Length ≤ 15) ∨ (t.Kind = 3 ∧ (t.Length = 4 ∨ t.Length = 9)) ∨ (t.Kind = 4 ∧ t.Length = 0) := by
 unfold zc7 at h
 split at h
 · rename_i h0; split at h
   · rename_i h1; exact .inl ⟨h0, (zc2.1 h1).1, (zc2.1 h1).2⟩
   · cases h
 · split at h
   · rename_i h0; split at h
     · rename_i h1; exact .inr (.inl ⟨h0, (zc2.1 h1).1, (zc2.1 h1).2⟩)
     · cases h
   · split at h
     · rename_i h0; split at h
       · rename_i h1; exact .inr (.inr (.inl ⟨h0, h1⟩))
       · cases h
     · split at h
       · rename_i h0; split at h
         · rename_i h1; exact .inr (.inr (.inr ⟨h0, h1⟩))
         · cases h
       · cases h
def szE (t : DataType) : Int := if t.Kind = 1 then t.Length / 2 + 1 else if t.Kind = 3 then (if t.Length = 9 then 4 else 2) else if t.Kind = 4 then 16 else t.Length
theorem zfv {t : DataType} (h : zc7 t = 0) : 0 < szE t ∧ szE t ≤ 256 := by
 unfold szE
 rcases zj3 h with ⟨h0, h1, h2⟩ | ⟨h0 | h0, h1, h2⟩ | ⟨h0, h1 | h1⟩ | ⟨h0, h1⟩ <;> simp only [h0] <;> simp <;> omega
theorem zoa {t : DataType} (h : zc7 t = 0) : zco t = some (szE t) := by
 unfold zco szE
 rcases zj3 h with ⟨h0, h1, h2⟩ | ⟨h0 | h0, h1, h2⟩ | ⟨h0, h1 | h1⟩ | ⟨h0, h1⟩ <;> simp only [h0, h1, zbk, zmj] <;> simp
 · rw [tde, w6e (n := t.Length / 2), w6e]
 · decide
 · decide
theorem zt6 {t : DataType} (h : zc7 t = 0) : zd5 t = some (szE t) := by
 unfold zd5 szE
 rcases zj3 h with ⟨h0, h1, h2⟩ | ⟨h0 | h0, h1, h2⟩ | ⟨h0, h1 | h1⟩ | ⟨h0, h1⟩ <;> simp only [h0, h1, zbk] <;> simp
 · rw [tde, w6e (n := t.Length / 2), w6e]
 · decide
 · decide
structure StoOk (s : Storage) : Prop where
 le : s.Bytes.size ≤ 1024
 quad : s.Bytes.size % 16 = 0
def zm6 (s : Storage) (a : Int) : Bool := decide (0 ≤ a) && (decide (a % 16 = 0) && decide (a < (s.Bytes.size : Int)))
theorem z21 {s : Storage} (ok : StoOk s) (a : Int) : zml s a = some (zm6 s a) := by
 have h1 := ok.le
 have h2 := ok.quad
 unfold zml zm6
 rw [w6e, zgi]
 simp only [obs]
 by_cases h : 0 ≤ a
 · rw [tme h]; simp only [inB, h, decide_true, Bool.true_and, zbk]
   by_cases h3 : a % 16 = 0
   · have e : decide (a ≤ (s.Bytes.size : Int) - 16) = decide (a < (s.Bytes.size : Int)) := by
      by_cases h4 : a < (s.Bytes.size : Int)
      · rw [dct h4]; exact dct (by omega)
      · rw [dcf h4]; exact dcf (by omega)
     simp only [h3, decide_true, Bool.true_and, e]; cases decide (a < (s.Bytes.size : Int)) <;> rfl
   · simp only [h3, decide_false, Bool.false_and]; cases decide (a ≤ (s.Bytes.size : Int) - 16) <;> rfl
 · simp [inB, h]
theorem orB (a b : Bool) : (cond a (some true) (some b)) = some (a || b) := by cases a <;> rfl
theorem zsv (a b : Bool) : (cond a (some b) (some false)) = some (a && b) := by cases a <;> rfl
theorem z4k (a b : ByteArray) : (a == b) = decide (a = b) := by
 cases a with | mk x =>
 cases b with | mk y =>
 show ByteArray.beq _ _ = _
 unfold ByteArray.beq
 by_cases h : x = y
 · simp [h]
 · simp [h]
theorem eD (t : DataType) : (⟨t.Kind, t.Length, t.Scale⟩ : DataType) = t := rfl
theorem z4s (n lo hi : Int) : zct n lo hi = some (inB n lo hi) := by
 unfold zct inB
 cases decide (lo ≤ n) <;> rfl
theorem zd8 (b : ByteArray) (i j : Nat) (h : j ≤ b.size) (hij : i ≤ j) : (b.extract i j).size = j - i := by
 rw [ByteArray.size_extract]
 omega
theorem z4q {n : Int} (h1 : 0 ≤ n) (h2 : n < 18446744073709551616) : IntKind.wrap .u64 n = n := by
 have e : (2 : Int) ^ (IntKind.u64.bits) = 18446744073709551616 := by decide
 unfold IntKind.wrap
 simp only [e, show IntKind.u64.signed = false from rfl, Bool.false_and]
 simp only [Bool.false_eq_true, if_false]
 omega
theorem zj2 {n : Int} (h1 : 0 ≤ n) (h2 : n < 256) : IntKind.wrap .u8 n = n := by
 have e : (2 : Int) ^ (IntKind.u8.bits) = 256 := by decide
 unfold IntKind.wrap
 simp only [e, show IntKind.u8.signed = false from rfl, Bool.false_and]
 simp only [Bool.false_eq_true, if_false]
 omega
theorem z5q (x y : Nat) (hx : x < 2 ^ 64) (hy : y < 2 ^ 64) : zfb .u64 (x : Int) (y : Int) = ((x &&& y : Nat) : Int) := by
 have h := Nat.and_lt_two_pow x hy
 unfold zfb
 have e : (BitVec.ofInt IntKind.u64.bits (x : Int) &&& BitVec.ofInt IntKind.u64.bits (y : Int)).toNat = (x &&& y) := by
  show (BitVec.ofInt 64 (x : Int) &&& BitVec.ofInt 64 (y : Int)).toNat = _; rw [BitVec.toNat_and, BitVec.ofInt_natCast, BitVec.ofInt_natCast, BitVec.toNat_ofNat, BitVec.toNat_ofNat, mel hx, mel hy]
 rw [e]
 exact z4q (by omega) (by omega)
theorem zzj (m : Nat) : IntKind.wrap .u64 (m : Int) = ((m % 18446744073709551616 : Nat) : Int) := by
 have e : (2 : Int) ^ (IntKind.u64.bits) = 18446744073709551616 := by decide
 unfold IntKind.wrap
 simp only [e, show IntKind.u64.signed = false from rfl, Bool.false_and]
 simp only [Bool.false_eq_true, if_false]
 omega
theorem z13 (p q : Nat) : (p : Int).fdiv (q : Int) = ((p / q : Nat) : Int) := by
 rw [Int.fdiv_eq_ediv_of_nonneg _ (by omega)]
 exact (Int.natCast_ediv p q).symm
theorem zwq (p : Nat) : (p : Int).fdiv (2 ^ (min (32 : Int).toNat 64)) = ((p / 4294967296 : Nat) : Int) := z13 p 4294967296
theorem zze (p : Nat) (h : p < 18446744073709551616) : zfb .u64 (p : Int) 4294967295 = ((p % 4294967296 : Nat) : Int) := by
 rw [show (4294967295 : Int) = ((4294967295 : Nat) : Int) from rfl, z5q p 4294967295 h (by decide)]
 rw [show (4294967295 : Nat) = 2 ^ 32 - 1 from rfl, Nat.and_two_pow_sub_one_eq_mod]
theorem z5f (p q : Nat) (hp : p < 18446744073709551616) (hq : q < 18446744073709551616) : zdy (p : Int) (q : Int) = some (((p * q / 18446744073709551616 : Nat) : Int), ((p * q % 18446744073709551616 : Nat) : Int)) := by
 unfold zdy
 simp only [zwq, zze p hp, zze q hq, ← Int.natCast_mul, zzj, ← Int.natCast_add, zwq]
 rw [zze _ (Nat.mod_lt _ (by decide))]
 simp only [zwq, ← Int.natCast_mul, zzj, ← Int.natCast_add]
 have e1 := Nat.div_add_mod p 4294967296
 have e2 := Nat.div_add_mod q 4294967296
 have b1 : p / 4294967296 ≤ 4294967295 := by omega
 have b2 : q / 4294967296 ≤ 4294967295 := by omega
 have b3 : p % 4294967296 ≤ 4294967295 := by omega
 have b4 : q % 4294967296 ≤ 4294967295 := by omega
 have m : p * q = 18446744073709551616 * ((p / 4294967296) * (q / 4294967296)) + 4294967296 * ((p / 4294967296) * (q % 4294967296)) + (4294967296 * ((p % 4294967296) * (q / 4294967296)) + (p % 4294967296) * (q % 4294967296)) := by
  conv => lhs; rw [← e1, ← e2]
  rw [Nat.add_mul, Nat.mul_add, Nat.mul_add, Nat.mul_mul_mul_comm, Nat.mul_assoc 4294967296 (p / 4294967296) (q % 4294967296), Nat.mul_left_comm (p % 4294967296) 4294967296 (q / 4294967296)]
 have c1 := Nat.mul_le_mul b1 b2
 have c2 := Nat.mul_le_mul b1 b4
 have c3 := Nat.mul_le_mul b3 b2
 have c4 := Nat.mul_le_mul b3 b4
 rw [m]
 clear m e1 e2 b1 b2 b3 b4
 generalize (p / 4294967296) * (q / 4294967296) = A at *
 generalize (p / 4294967296) * (q % 4294967296) = B at *
 generalize (p % 4294967296) * (q / 4294967296) = C at *
 generalize (p % 4294967296) * (q % 4294967296) = D at *
 simp only [Option.some.injEq, Prod.mk.injEq, Int.natCast_inj]
 refine ⟨?_, trivial⟩
 omega
def zn0 (t : DataType) : Prop := zc7 t = 0 ∧ 1 ≤ t.Kind ∧ t.Kind ≤ 3
theorem zhh {t : DataType} (h : zn0 t) : (1 ≤ t.Length ∧ t.Length ≤ 15) ∧ 0 ≤ t.Scale ∧ t.Scale ≤ t.Length := by
 obtain ⟨h0, h1, h2⟩ := h
 unfold zc7 at h0
 rw [ifn] at h0
 by_cases hk : t.Kind = 3
 · rw [ifn, ifp hk] at h0; split at h0
   · split at h0
     · rename_i h3 h4; have := zc2.1 h4; omega
     · cases h0
   · cases h0
 · rw [ifp] at h0; split at h0
   · split at h0
     · rename_i h3 h4; have := zc2.1 h4; have := zc2.1 h3; omega
     · cases h0
   · cases h0
theorem zjm {k m : Nat} (h : k ≤ m) : 10 ^ k ≤ 10 ^ m := Nat.pow_le_pow_right (by decide) h
theorem zuq (k : Nat) : 0 < 10 ^ k := Nat.pow_pos (by decide)
def bl (b : ByteArray) : List UInt8 := b.data.toList
theorem zi7 (b : ByteArray) : (bl b).length = b.size := rfl
theorem z0t {a b : ByteArray} (h : bl a = bl b) : a = b := by
 cases a; cases b
 unfold bl at h
 simp only at h
 congr 1
 exact Array.toList_inj.1 h
theorem zkz (b : ByteArray) (i : Nat) : zgd b (i : Int) = (bl b)[i]? := by
 unfold zgd bl
 rw [ifp]
 show b[i]? = _
 by_cases h : i < b.size
 · rw [getElem?_pos b i h, lge (by simpa using h)]
   congr 1
 · rw [getElem?_neg b i h, List.getElem?_eq_none (by simpa using h)]
theorem zgn (b : ByteArray) (i j : Nat) : bl (b.extract i j) = ((bl b).take j).drop i := by
 unfold bl
 rw [ByteArray.data_extract, Array.toList_extract, List.extract_eq_drop_take', List.drop_take]
theorem zno (a b : ByteArray) : bl (a ++ b) = bl a ++ bl b := by
 unfold bl
 rw [ByteArray.data_append, Array.toList_append]
def beV (l : List UInt8) : Nat := l.foldl (fun n c => n * 256 + c.toNat) 0
theorem zst (l : List UInt8) (x : UInt8) : beV (l ++ [x]) = beV l * 256 + x.toNat := by
 unfold beV; rw [List.foldl_append]; rfl
theorem z0w (l : List UInt8) : beV l < 256 ^ l.length := by
 have key : ∀ (l r : List UInt8), l = r.reverse → beV l < 256 ^ l.length := by
  intro l r
  induction r generalizing l with
  | nil => intro h; subst h; decide
  | cons x r ih =>
   intro h; rw [List.reverse_cons] at h; subst h; have := ih _ rfl; rw [zst, lna, lns, Nat.pow_succ]; have := x.toNat_lt; omega
 exact key l l.reverse (by simp)
theorem zgg {α : Type} (l : List α) (i : Nat) {x : α} (h : l[i]? = some x) : l.take (i + 1) = l.take i ++ [x] := by
 obtain ⟨h1, h2⟩ := gei h
 rw [List.take_succ_eq_append_getElem h1, h2]
theorem zio {α : Type} {l : List α} {i : Nat} (h : i < l.length) : ∃ x, l[i]? = some x := ⟨_, lge h⟩
theorem or8 (n : Int) (c : Nat) (h1 : -36028797018963968 ≤ n) (h2 : n < 36028797018963968) (hc : c < 256) : orI .i64 (n * 256) (c : Int) = n * 256 + c := by
 unfold orI
 have e : (BitVec.ofInt IntKind.i64.bits (n * 256) ||| BitVec.ofInt IntKind.i64.bits (c : Int)).toNat = ((n * 256) % 18446744073709551616).toNat + c := by
  show (BitVec.ofInt 64 (n * 256) ||| BitVec.ofInt 64 (c : Int)).toNat = _; rw [BitVec.toNat_or, BitVec.ofInt_natCast, BitVec.toNat_ofNat, BitVec.toNat_ofInt, mel (by omega)]; show ((n * 256) % 18446744073709551616).toNat ||| c = _; have := Nat.two_pow_add_eq_or_of_lt (i := 8) (b := c) hc (((n * 256) % 18446744073709551616).toNat / 256); rw [show 2 ^ 8 * (((n * 256) % 18446744073709551616).toNat / 256) = ((n * 256) % 18446744073709551616).toNat by omega] at this; exact this.symm
 rw [e]
 have k : (2 : Int) ^ (IntKind.i64.bits) = 18446744073709551616 := by decide
 have k' : (2 : Int) ^ (IntKind.i64.bits - 1) = 9223372036854775808 := by decide
 unfold IntKind.wrap
 simp only [k, k', show IntKind.i64.signed = true from rfl, Bool.true_and, decide_eq_true_eq, ge_iff_le]
 split <;> omega
theorem zvh (N : Nat) (hN : 20 < N) (b : ByteArray) (hb : b.size ≤ 6) : za1 N b = some (beV (bl b) : Int) := by
 unfold za1
 have := zbc (f := za1.r0 N) (fun i => (b, ((beV ((bl b).take i) : Nat) : Int), (b.size : Int), (i : Int))) b.size
  (fun i hi => by
   obtain ⟨x, hx⟩ : ∃ x, (bl b)[i]? = some x := zio (by rw [zi7]; exact hi); have hl := z0w ((bl b).take i); have hl2 : 256 ^ ((bl b).take i).length ≤ 256 ^ 6 := Nat.pow_le_pow_right (by decide) (by rw [lnt, zi7]; omega); have hc := x.toNat_lt; simp only [za1.r0, za1.b0, dct (show (i : Int) < (b.size : Int) by omega), ctr, zkz, hx, obs]; rw [show (2 : Int) ^ (min (8 : Int).toNat 64) = 256 from rfl, w6e (n := ((beV ((bl b).take i) : Nat) : Int) * 256), w6e (n := (x.toNat : Int)), w6e (n := (i : Int) + 1), or8 _ _ (by omega) (by omega) hc, zgg _ _ hx, zst]; simp only [Int.natCast_add, Int.natCast_mul, Int.natCast_one]; rfl)
  (by simp only [za1.r0, za1.b0, dcf (show ¬ (b.size : Int) < (b.size : Int) by omega), cfa]) (N := N) (by omega)
 simp only [List.take_zero, nc0] at this
 rw [show ((beV [] : Nat) : Int) = 0 from rfl] at this
 rw [this, ← zi7, List.take_length]
 rfl
theorem zt2 (N : Nat) (hN : 20 < N) (b : ByteArray) (k n : Nat) (hn : n ≤ 6) (hk : k + n ≤ b.size) (hb : b.size < 1000000) : zdh N b (k : Int) (n : Int) = some (beV (((bl b).drop k).take n) : Int) := by
 unfold zdh
 have := zbc (f := zdh.r0 N) (fun i => (b, (k : Int), (n : Int), ((beV (((bl b).drop k).take i) : Nat) : Int), (i : Int))) n
  (fun i hi => by
   have hlen : i < ((bl b).drop k).length := by rw [List.length_drop, zi7]; omega
   obtain ⟨x, hy⟩ : ∃ x, ((bl b).drop k)[i]? = some x := zio hlen; have hx : (bl b)[k + i]? = some x := by rw [← List.getElem?_drop]; exact hy
   have hl := z0w (((bl b).drop k).take i); have hl2 : 256 ^ (((bl b).drop k).take i).length ≤ 256 ^ 6 := Nat.pow_le_pow_right (by decide) (by rw [lnt]; omega); have hc := x.toNat_lt; simp only [zdh.r0, zdh.b0, dct (show (i : Int) < (n : Int) by omega), ctr]; rw [w6e (n := (k : Int) + (i : Int)), ← Int.natCast_add, zkz, hx]; simp only [obs]; rw [w6e (n := ((beV (((bl b).drop k).take i) : Nat) : Int) * 256), w6e (n := (x.toNat : Int)), w6e (n := (i : Int) + 1), w6e, zgg _ _ hy, zst]; simp only [Int.natCast_add, Int.natCast_mul, Int.natCast_one]; rfl)
  (by simp only [zdh.r0, zdh.b0, dcf (show ¬ (n : Int) < (n : Int) by omega), cfa]) (N := N) (by omega)
 simp only [List.take_zero, nc0] at this
 rw [show ((beV [] : Nat) : Int) = 0 from rfl] at this
 rw [this]
 rfl
def z2a (v k : Nat) : List Int := (List.range k).map fun j => ((v / 256 ^ (k - 1 - j) % 256 : Nat) : Int)
def zep (f : Nat → Int) (k i : Nat) : List Int := (List.range k).map fun j => if k - i ≤ j then f (k - 1 - j) else 0
theorem zo5 (f : Nat → Int) (k i : Nat) : (zep f k i).length = k := by simp [zep]
theorem zm7 (f : Nat → Int) (k : Nat) : zep f k 0 = List.replicate k (0 : Int) := by
 unfold zep
 refine List.ext_getElem? fun j => ?_
 rw [List.getElem?_map, List.getElem?_replicate]
 by_cases h : j < k
 · rw [lge (by simpa using h), ifp h]; simp only [List.getElem_range, Option.map_some]; rw [ifn]
 · rw [List.getElem?_eq_none (by simpa using h), ifn h]; rfl
theorem zm9 (f : Nat → Int) (k : Nat) : zep f k k = (List.range k).map fun j => f (k - 1 - j) := by
 unfold zep
 refine List.map_congr_left fun j _ => ?_
 rw [ifp]
theorem zm8 (f : Nat → Int) (k i : Nat) (h : i < k) : (zep f k i).set (k - 1 - i) (f i) = zep f k (i + 1) := by
 refine List.ext_getElem? fun j => ?_
 rw [List.getElem?_set]
 unfold zep
 simp only [lnm, List.length_range, List.getElem?_map]
 by_cases hj : j < k
 · rw [lge (by simpa using hj)]; simp only [List.getElem_range, Option.map_some]
   by_cases he : k - 1 - i = j
   · rw [ifp he, ifp, ifp, show k - 1 - j = i by omega]
   · rw [ifn he]
     congr 1
     by_cases h2 : k - i ≤ j
     · rw [ifp h2, ifp]
     · rw [ifn h2, ifn]
 · rw [List.getElem?_eq_none (by simpa using hj)]
   by_cases he : k - 1 - i = j
   · omega
   · rw [ifn he]; rfl
def zsw : Pointer := ⟨0, ⟨0, 0⟩, 0⟩
def zv5 (off : Int) : Pointer := ⟨0, ⟨1, off⟩, 0⟩
def zqx (p : Pointer) : Int := cond (!inB p.Kind 0 2) 4 (cond (!inB p.Address.zU 0 1099511627775 || (!inB p.Address.Offset 0 16777215 || !inB p.Authority 0 1023)) 3 (cond (p.Authority != 0 && p.Kind != 1) 5 0))
theorem zzm (p : Pointer) : zcd p = some (zqx p) := by
 unfold zcd zqx
 simp only [z4s, obs, zsv]
 generalize inB p.Kind 0 2 = a
 generalize inB p.Address.zU 0 1099511627775 = b
 generalize inB p.Address.Offset 0 16777215 = c
 generalize inB p.Authority 0 1023 = d
 generalize (p.Authority != 0 && p.Kind != 1) = e
 cases a <;> cases b <;> cases c <;> cases d <;> cases e <;> rfl
theorem zz3 (p : Pointer) : zjj p = some (zqx p) := by
 unfold zjj zqx
 rw [Bool.and_comm (p.Authority != 0) (p.Kind != 1)]
 simp only [zgi, obs, zsv, orB]
 generalize inB p.Kind 0 2 = a
 generalize inB p.Address.zU 0 1099511627775 = b
 generalize inB p.Address.Offset 0 16777215 = c
 generalize inB p.Authority 0 1023 = d
 generalize (p.Kind != 1 && p.Authority != 0) = e
 cases a <;> cases b <;> cases c <;> cases d <;> cases e <;> rfl
def zsk (l : List UInt8) : Pointer := ⟨((l.getD 0 0).toNat : Nat), ⟨(beV ((l.drop 4).take 6) : Nat), (beV ((l.drop 10).take 6) : Nat)⟩, (beV ((l.drop 2).take 2) : Nat)⟩
def zmn (l : List UInt8) : Pointer × Int := if (l.getD 1 0).toNat ≠ 0 then (zsw, 5) else if zqx (zsk l) ≠ 0 then (zsw, zqx (zsk l)) else (zsk l, 0)
theorem zrg {l : List UInt8} {i : Nat} (h : i < l.length) : l[i]? = some (l.getD i 0) := by
 rw [gdd, lge h]; rfl
theorem zzl (N : Nat) (hN : 20 < N) (b : ByteArray) (hb : b.size = 16) : zdd N b = some (zmn (bl b)) := by
 have hl : (bl b).length = 16 := hb
 have i1 : zgd b 1 = some ((bl b).getD 1 0) := by rw [show (1 : Int) = ((1 : Nat) : Int) from rfl, zkz, zrg (by omega)]
 have i0 : zgd b 0 = some ((bl b).getD 0 0) := by rw [show (0 : Int) = ((0 : Nat) : Int) from rfl, zkz, zrg (by omega)]
 have z1 : (b.extract (2 : Int).toNat (4 : Int).toNat).size = 2 := zd8 b 2 4 (by omega) (by omega)
 have z2 : (b.extract (4 : Int).toNat (10 : Int).toNat).size = 6 := zd8 b 4 10 (by omega) (by omega)
 have z3 : (b.extract (10 : Int).toNat b.size).size = 6 := (zd8 b 10 b.size (by omega) (by omega)).trans (by omega)
 have e1 := zvh N hN (b.extract (2 : Int).toNat (4 : Int).toNat) (by omega)
 have e2 := zvh N hN (b.extract (4 : Int).toNat (10 : Int).toNat) (by omega)
 have e3 := zvh N hN (b.extract (10 : Int).toNat b.size) (by omega)
 rw [zgn, show (2 : Int).toNat = 2 from rfl, show (4 : Int).toNat = 4 from rfl, List.drop_take] at e1
 rw [zgn, show (4 : Int).toNat = 4 from rfl, show (10 : Int).toNat = 10 from rfl, List.drop_take] at e2
 rw [zgn, show (10 : Int).toNat = 10 from rfl, List.drop_take, hb] at e3
 unfold zdd
 rw [show ((b.size : Int) != 16) = false by rw [hb]; rfl]
 simp only [cfa, i1, i0, obs]
 by_cases h : ((bl b).getD 1 0).toNat = 0
 · rw [h, show ((((0 : Nat) : Int)) != 0) = false from rfl, cfa]; rw [ifp, ifp, show (2 : Int).toNat = 2 from rfl, show (4 : Int).toNat = 4 from rfl, e1]; simp only [obs]; rw [ifp, ifp, show (10 : Int).toNat = 10 from rfl, e2]; simp only [obs]; rw [ifp, hb, e3]; simp only [obs]; have hx := ((bl b).getD 0 0).toNat_lt; rw [w6e]; rw [show (⟨(((bl b).getD 0 0).toNat : Int), ⟨(beV (((bl b).drop 4).take (10 - 4)) : Int), (beV (((bl b).drop 10).take (16 - 10)) : Int)⟩, (beV (((bl b).drop 2).take (4 - 2)) : Int)⟩ : Pointer) = zsk (bl b) from rfl, zzm]; simp only [obs]; unfold zmn; rw [ifn]
   by_cases h2 : zqx (zsk (bl b)) = 0
   · rw [h2]; rfl
   · rw [ifp h2, ze8, dct h2]; rfl
 · unfold zmn; rw [ifp h, ze8, dct (by omega)]; rfl
theorem zz0 (N : Nat) (hN : 20 < N) (b : ByteArray) (hb : b.size = 16) : zox N b = some (zmn (bl b)) := by
 have hl : (bl b).length = 16 := hb
 have i1 : zgd b 1 = some ((bl b).getD 1 0) := by rw [show (1 : Int) = ((1 : Nat) : Int) from rfl, zkz, zrg (by omega)]
 have i0 : zgd b 0 = some ((bl b).getD 0 0) := by rw [show (0 : Int) = ((0 : Nat) : Int) from rfl, zkz, zrg (by omega)]
 have e1 : zdh N b 2 2 = _ := zt2 N hN b 2 2 (by omega) (by omega) (by omega)
 have e2 : zdh N b 4 6 = _ := zt2 N hN b 4 6 (by omega) (by omega) (by omega)
 have e3 : zdh N b 10 6 = _ := zt2 N hN b 10 6 (by omega) (by omega) (by omega)
 unfold zox
 rw [show ((b.size : Int) != 16) = false by rw [hb]; rfl]
 simp only [cfa, i1, i0, obs]
 by_cases h : ((bl b).getD 1 0).toNat = 0
 · rw [h, show ((((0 : Nat) : Int)) != 0) = false from rfl, cfa]; rw [e1, e2, e3]; simp only [obs]; have hx := ((bl b).getD 0 0).toNat_lt; rw [w6e]; rw [show (⟨(((bl b).getD 0 0).toNat : Int), ⟨(beV (((bl b).drop 4).take 6) : Int), (beV (((bl b).drop 10).take 6) : Int)⟩, (beV (((bl b).drop 2).take 2) : Int)⟩ : Pointer) = zsk (bl b) from rfl, zz3]; simp only [obs]; unfold zmn; rw [ifn]
   by_cases h2 : zqx (zsk (bl b)) = 0
   · rw [h2]; rfl
   · rw [ifp h2, ze8, dct h2]; rfl
 · unfold zmn; rw [ifp h, ze8, dct (by omega)]; rfl
def zl1 (s : Storage) (i : Nat) : List UInt8 := ((bl s.Bytes).drop (16 * i)).take 16
def gS (s : Storage) (i : Nat) : Option (Int × Int) := (s.Tags[i]?).bind fun t => if t = true ∧ (zmn (zl1 s i)).2 ≠ 0 then some ((i : Int), 22) else none
def zvk (s : Storage) : Int × Int :=
 if s.Bytes.size > 1024 then (0, 2) else if s.Bytes.size % 16 ≠ 0 then (0, 18) else if s.Tags.length ≠ s.Bytes.size / 16 then (0, 6)
 else match (List.range s.Tags.length).findSome? (gS s) with | some r => r | none => ((s.Tags.length : Int), 0)
theorem zj9 (s : Storage) (i : Nat) : bl (s.Bytes.extract (16 * i) (16 * i + 16)) = zl1 s i := by
 rw [zgn, List.drop_take, zl1, show 16 * i + 16 - 16 * i = 16 by omega]
theorem zvj (N : Nat) (hN : 2000 < N) (s : Storage) : zx N s = some (zvk s) ∧ zd4 N s = some (zvk s) := by
 unfold zx zd4 zvk
 by_cases h1 : (s.Bytes.size : Int) > 1024
 · rw [dct h1, ifp]; exact ⟨rfl, rfl⟩
 · rw [dcf h1, ifn]; have hm : (s.Bytes.size : Int).tmod 16 = (s.Bytes.size : Int) % 16 := tme; have hd : (s.Bytes.size : Int).tdiv 16 = (s.Bytes.size : Int) / 16 := tde
   by_cases h2 : (s.Bytes.size : Int) % 16 = 0
   · rw [hm, hd, w6e, ifn]
     by_cases h3 : (s.Tags.length : Int) = (s.Bytes.size : Int) / 16
     · rw [show (((s.Bytes.size : Int) % 16) != 0) = false by rw [h2]; rfl, show ((s.Tags.length : Int) != (s.Bytes.size : Int) / 16) = false by rw [← h3]; exact bsf _, ifn]; simp only [cfa]; have hw : ∀ i : Nat, i < s.Tags.length → w6 ((i : Int) * 16) = (i : Int) * 16 ∧ w6 ((i : Int) * 16 + 16) = (i : Int) * 16 + 16 := fun i hi => ⟨w6e, w6e⟩; have hx : ∀ i : Nat, i < s.Tags.length → s.Bytes.extract ((i : Int) * 16).toNat ((i : Int) * 16 + 16).toNat = s.Bytes.extract (16 * i) (16 * i + 16) := fun i hi => by
        rw [show ((i : Int) * 16).toNat = 16 * i by omega, show ((i : Int) * 16 + 16).toNat = 16 * i + 16 by omega]
       have hz : ∀ i : Nat, i < s.Tags.length → (s.Bytes.extract (16 * i) (16 * i + 16)).size = 16 := fun i hi => by
        rw [zd8 _ _ _ (by omega) (by omega)]; omega
       constructor
       · have l1 := zby (f := zx.r1 N) (fun i => (s.Tags, (s.Tags.length : Int), (i : Int), s)) (gS s) s.Tags.length
          (fun i hi => by
           obtain ⟨w1, w2⟩ := hw i hi; have hx1 := lge hi; simp only [zx.r1, zx.b1, zaw, hx1, obs, dct (show (i : Int) < (s.Tags.length : Int) by omega), ctr, gS]; rw [w6e (n := (i : Int) + 1)]; cases hb : s.Tags[i] with
           | false => simp
           | true =>
            simp only [bnt, cfa, w1, w2]; rw [ifp, ifp, hx i hi, zzl N (by omega) _ (hz i hi), zj9]; simp only [obs]
            by_cases hq : (zmn (zl1 s i)).2 = 0
            · rw [hq]; simp
            · rw [ze8, dct hq, ifp ⟨trivial, hq⟩]; rfl)
          (by simp only [zx.r1, zx.b1, dcf (show ¬ (s.Tags.length : Int) < (s.Tags.length : Int) by omega), cfa]) (N := N) (by omega)
         simp only [nc0] at l1; rw [l1]; simp only [obs]; cases (List.range s.Tags.length).findSome? (gS s) <;> rfl
       · have l1 := zby (f := zd4.r0 N) (fun i => ((s.Bytes.size : Int) / 16, (i : Int), s)) (gS s) s.Tags.length
          (fun i hi => by
           obtain ⟨w1, w2⟩ := hw i hi; have hx1 := lge hi; simp only [zd4.r0, zd4.b0, zaw, hx1, obs, dct (show (i : Int) < (s.Bytes.size : Int) / 16 by omega), ctr, gS]; rw [w6e (n := (i : Int) + 1)]; cases hb : s.Tags[i] with
           | false => simp
           | true =>
            simp only [ctr, zlz, w1, w2]; rw [ifp, ifp]; simp only [obs]; rw [hx i hi, zz0 N (by omega) _ (hz i hi), zj9]; simp only [obs]
            by_cases hq : (zmn (zl1 s i)).2 = 0
            · rw [hq]; simp
            · rw [ze8, dct hq, ifp ⟨trivial, hq⟩]; rfl)
          (by simp only [zd4.r0, zd4.b0, dcf (show ¬ (s.Tags.length : Int) < (s.Bytes.size : Int) / 16 by omega), cfa]) (N := N) (by omega)
         simp only [nc0] at l1; rw [l1]; simp only [obs]; cases (List.range s.Tags.length).findSome? (gS s) with
         | some r => rfl
         | none => simp only [zda, ← h3]
     · rw [show (((s.Bytes.size : Int) % 16) != 0) = false by rw [h2]; rfl, show ((s.Tags.length : Int) != (s.Bytes.size : Int) / 16) = true by rw [ze8]; exact dct h3, ifp]; exact ⟨rfl, rfl⟩
   · rw [hm, show (((s.Bytes.size : Int) % 16) != 0) = true by rw [ze8]; exact dct h2, ifp]; exact ⟨rfl, rfl⟩
structure zk6 (s : Storage) : Prop where
 le : s.Bytes.size ≤ 1024
 quad : s.Bytes.size % 16 = 0
 tags : s.Tags.length = s.Bytes.size / 16
 ptr : ∀ i, s.Tags[i]? = some true → ∃ off : Int, (0 ≤ off ∧ off ≤ 16777215) ∧ zmn (zl1 s i) = (zv5 off, 0)
theorem zk6.err {s : Storage} (h : zk6 s) : zvk s = ((s.Tags.length : Int), 0) := by
 obtain ⟨h1, h2, h3, h4⟩ := h
 unfold zvk
 rw [ifn, ifn, ifn]
 have : (List.range s.Tags.length).findSome? (gS s) = none := by
  rw [List.findSome?_eq_none_iff]; intro i _; unfold gS; cases ht : s.Tags[i]? with
  | none => rfl
  | some t =>
   rw [obs]; split
   · rename_i h5; rw [h5.1] at ht; obtain ⟨off, _, h6⟩ := h4 i ht; rw [h6] at h5; exact absurd rfl h5.2
   · rfl
 rw [this]
theorem zk6.ok {s : Storage} (h : zk6 s) : StoOk s := ⟨h.le, h.quad⟩
def ldV (s : Storage) (at_ : Int) : Option Int := if s.Tags[(at_ / 16).toNat]? = some true then some (zmn (zl1 s (at_ / 16).toNat)).1.Address.Offset else none
theorem z0j {s : Storage} (h : zk6 s) {at_ o : Int} (hl : ldV s at_ = some o) : 0 ≤ o ∧ o ≤ 16777215 := by
 unfold ldV at hl
 split at hl
 · rename_i ht; obtain ⟨off, h1, h2⟩ := h.ptr _ ht; rw [h2] at hl; cases hl; exact h1
 · cases hl
theorem zrx {s : Storage} {a : Int} (h : zm6 s a = true) : 0 ≤ a ∧ a % 16 = 0 ∧ a < (s.Bytes.size : Int) := by
 unfold zm6 at h
 simpa using h
theorem z2q (N : Nat) (hN : 2000 < N) {s : Storage} (h : zk6 s) {a : Int} (ha : zm6 s a = true) :
 zed N s a = some (match ldV s a with | some o => (zv5 o, 0) | none => (zsw, 22)) := by
 obtain ⟨a1, a2, a3⟩ := zrx ha
 have hl := h.le
 have hq := h.quad
 have ht := h.tags
 unfold zed zf0
 rw [(zvj N hN s).1, h.err]
 simp only [obs, bsf, cfa]
 rw [dcf (show ¬ a < 0 by omega), dcf (show ¬ a ≥ (s.Bytes.size : Int) by omega), tme a1, a2]
 simp only [bsf, cfa, obs]
 have ed : w6 (a.tdiv 16) = (((a / 16).toNat : Nat) : Int) := by
  rw [tde a1, w6e]; omega
 have hi : (a / 16).toNat < s.Tags.length := by omega
 rw [ed, zaw, lge hi]
 simp only [obs]
 unfold ldV
 rw [lge hi]
 cases hb : s.Tags[(a / 16).toNat] with
 | false => rfl
 | true =>
  simp only [bnt, cfa, if_true]; rw [w6e, ifp, ifp]; have e : s.Bytes.extract a.toNat (a + 16).toNat = s.Bytes.extract (16 * (a / 16).toNat) (16 * (a / 16).toNat + 16) := by
   rw [show a.toNat = 16 * (a / 16).toNat by omega, show (a + 16).toNat = 16 * (a / 16).toNat + 16 by omega]
  rw [e, zzl N (by omega) _ (by rw [zd8 _ _ _ (by omega) (by omega)]; omega), zj9]; obtain ⟨off, _, h2⟩ := h.ptr (a / 16).toNat (by rw [lge hi, hb]); rw [h2]; rfl
theorem zcx {n : Nat} (h : n ≤ 1000000) : Nat.ble n zbr = true := by
 rw [Nat.ble_eq]; unfold zbr; omega
def spl (l : List UInt8) (a : Nat) (d : List UInt8) : List UInt8 := l.take a ++ d ++ l.drop (a + d.length)
theorem z2r {l : List UInt8} {a : Nat} {d : List UInt8} (h : a + d.length ≤ l.length) : (spl l a d).length = l.length := by
 unfold spl
 simp only [lna, lnt, List.length_drop]
 omega
def clr (t : List Bool) (a n : Nat) : List Bool := (List.range t.length).map fun k => if 16 * k < a + n ∧ a < 16 * k + 16 then false else t.getD k false
theorem zx3 (t : List Bool) (a n : Nat) : (clr t a n).length = t.length := by simp [clr]
theorem zrh (t : List Bool) (a n k : Nat) : (clr t a n)[k]? = if 16 * k < a + n ∧ a < 16 * k + 16 then (if k < t.length then some false else none) else t[k]? := by
 unfold clr
 rw [List.getElem?_map]
 by_cases h : k < t.length
 · rw [lge (by simpa using h)]; simp only [List.getElem_range, Option.map_some]; split
   · simp [h]
   · rw [lge h, gdd, lge h]; rfl
 · rw [List.getElem?_eq_none (by simpa using h), List.getElem?_eq_none (by simpa using h)]; simp [h]
def wrV (s : Storage) (a : Nat) (d : ByteArray) : Storage := ⟨⟨(spl (bl s.Bytes) a (bl d)).toArray⟩, clr s.Tags a d.size⟩
theorem zve {s : Storage} {a : Nat} {d : ByteArray} (h : a + d.size ≤ s.Bytes.size) : (wrV s a d).Bytes.size = s.Bytes.size := z2r (l := bl s.Bytes) (d := bl d) h
theorem z14 {l : List UInt8} {a : Nat} {d : List UInt8} (h : a + d.length ≤ l.length) (i n : Nat) (hi : i + n ≤ a ∨ a + d.length ≤ i) : ((spl l a d).drop i).take n = (l.drop i).take n := by
 refine List.ext_getElem? fun k => ?_
 rw [List.getElem?_take, List.getElem?_take]
 by_cases hk : k < n
 · rw [ifp hk, ifp hk, List.getElem?_drop, List.getElem?_drop]; unfold spl; rcases hi with hi | hi
   · rw [List.append_assoc, List.getElem?_append_left (by rw [lnt]; omega), List.getElem?_take, ifp]
   · rw [List.getElem?_append_right (by rw [lna, lnt]; omega), lna, lnt, List.getElem?_drop]
     congr 1
     omega
 · rw [ifn hk, ifn hk]
theorem z3t {s : Storage} (h : zk6 s) {a : Nat} {d : ByteArray} (hd : a + d.size ≤ s.Bytes.size) (hd0 : 0 < d.size) : zk6 (wrV s a d) := by
 have hs := zve hd
 refine ⟨by rw [hs]; exact h.le, by rw [hs]; exact h.quad, by rw [hs]; exact (zx3 _ _ _).trans h.tags, fun i hi => ?_⟩
 have hi' : (clr s.Tags a d.size)[i]? = some true := hi
 rw [zrh] at hi'
 split at hi'
 · split at hi' <;> cases hi'
 · rename_i hn; obtain ⟨off, h1, h2⟩ := h.ptr i hi'; refine ⟨off, h1, ?_⟩; have : zl1 (wrV s a d) i = zl1 s i := z14 (l := bl s.Bytes) (d := bl d) hd _ _ (by rw [zi7]; omega); rw [this]; exact h2
theorem zjo (b : ByteArray) : b.toList = bl b := ByteArray.toList_eq b
theorem z3v {s : Storage} (h : zk6 s) {a : Nat} {d : ByteArray} (hd : a + d.size ≤ s.Bytes.size) (hd0 : 0 < d.size) : zgh s (a : Int) d = some (wrV s a d) := by
 have hl := h.le
 have hq := h.quad
 have ht := h.tags
 have hmax : IntKind.i64.max = 9223372036854775807 := by decide
 unfold zgh
 rw [hmax]
 have z1 : (s.Bytes.extract (0 : Int).toNat (a : Int).toNat).size = a := by rw [zd8 _ _ _ (by omega) (by omega)]; omega
 rw [ifp, ifp, ifn (by rw [z1]; omega), w6e (n := (a : Int) + (d.size : Int)), ifp]
 have z2 : (s.Bytes.extract ((a : Int) + (d.size : Int)).toNat s.Bytes.size).size = s.Bytes.size - (a + d.size) := by rw [zd8 _ _ _ (by omega) (by omega)]; omega
 rw [ifn (by rw [z2, bsa, z1]; omega)]
 have hc : ziv 1 s.Tags = some s.Tags := by unfold ziv; rw [zcx (by omega)]; rfl
 rw [hc]
 simp only [obs]
 have hne : (d.toList == (⟨#[]⟩ : ByteArray).toList) = false := by
  rw [zjo, zjo]; refine beq_eq_false_iff_ne.2 fun h => ?_; have := congrArg List.length h; rw [zi7, zi7] at this; have : d.size = 0 := this; omega
 rw [hne]
 simp only [Bool.not_false, ctr]
 have e1 : w6 ((w6 ((w6 ((a : Int) + (d.size : Int) - 1)).tdiv 16)) + 1) = (((a + d.size - 1) / 16 + 1 : Nat) : Int) := by
  rw [w6e (n := (a : Int) + (d.size : Int) - 1), tde, w6e (n := ((a : Int) + (d.size : Int) - 1) / 16), w6e]; omega
 have e2 : w6 ((a : Int).tdiv 16) = ((a / 16 : Nat) : Int) := by
  rw [tde, w6e]; omega
 rw [e1, e2, ifp, ifp]
 simp only [itn]
 have f1 : ((s.Bytes.extract (0 : Int).toNat a) ++ d) ++ (s.Bytes.extract ((a : Int) + (d.size : Int)).toNat s.Bytes.size) = (wrV s a d).Bytes := by
  refine z0t ?_; rw [zno, zno, zgn, zgn, show (0 : Int).toNat = 0 from rfl, dr0, show ((a : Int) + (d.size : Int)).toNat = a + d.size by omega, ← zi7 s.Bytes, List.take_length]; rfl
 have f2 : s.Tags.take (a / 16) ++ List.replicate ((a + d.size - 1) / 16 + 1 - a / 16) false ++ s.Tags.drop (a / 16 + ((a + d.size - 1) / 16 + 1 - a / 16)) = (wrV s a d).Tags := by
  refine List.ext_getElem? fun k => ?_; show _ = (clr s.Tags a d.size)[k]?; rw [zrh]
  by_cases h1 : k < a / 16
  · rw [List.append_assoc, List.getElem?_append_left (by rw [lnt]; omega), List.getElem?_take, ifp h1, ifn]
  · by_cases h2 : k < (a + d.size - 1) / 16 + 1
    · rw [List.append_assoc, List.getElem?_append_right (by rw [lnt]; omega), List.getElem?_append_left (by rw [lnt, lnr]; omega), List.getElem?_replicate, ifp (by rw [lnt]; omega), ifp, ifp]
    · rw [List.getElem?_append_right (by rw [lna, lnt, lnr]; omega), lna, lnt, lnr, List.getElem?_drop, ifn]
      congr 1
      omega
 rw [f1, f2]
theorem z06 (N : Nat) (hN : 2000 < N) {s : Storage} (h : zk6 s) {a : Nat} {d : ByteArray} (hd : a + d.size ≤ s.Bytes.size) (hd0 : 0 < d.size) : zc4 N s (a : Int) d = some (wrV s a d, 0) := by
 have hl := h.le
 unfold zc4 zhj
 rw [(zvj N hN s).1, h.err]
 simp only [obs, bsf, cfa]
 rw [dcf (show ¬ (a : Int) < 0 by omega), dcf (show ¬ (d.size : Int) < 0 by omega), dcf (show ¬ (a : Int) > (s.Bytes.size : Int) by omega), w6e, dcf (show ¬ (d.size : Int) > (s.Bytes.size : Int) - (a : Int) by omega)]
 simp only [cfa, obs, bsf]
 rw [z3v h hd hd0]
 rfl
theorem zzb (l : List Int) : bl (zds l) = l.map fun n => UInt8.ofNat n.toNat := rfl
theorem zwb (N : Nat) (hN : 100 < N) (k : Nat) (hk : k ≤ 18) : zbg N (k : Int) = some ((10 ^ k : Nat) : Int) := by
 unfold zbg
 have := zbc (f := zbg.r0 N) (fun i => (((10 ^ i : Nat) : Int), (k : Int), (i : Int))) k
  (fun i hi => by
   have : 10 ^ (i + 1) ≤ 10 ^ 18 := zjm (by omega); rw [Nat.pow_succ] at this; simp only [zbg.r0, zbg.b0, dct (show (i : Int) < (k : Int) by omega), ctr]; rw [w6e (n := ((10 ^ i : Nat) : Int) * 10), w6e, Nat.pow_succ]; simp only [Int.natCast_add, Int.natCast_mul, Int.natCast_one]; rfl)
  (by simp only [zbg.r0, zbg.b0, dcf (show ¬ (k : Int) < (k : Int) by omega), cfa]) (N := N) (by omega)
 simp only [Nat.pow_zero, nc0] at this
 rw [ifn, show (1 : Int) = ((1 : Nat) : Int) from rfl, this]
 rfl
theorem zu6 (N : Nat) (hN : 100 < N) {t : DataType} (ht : zn0 t) (n : Int) : zar N t ⟨n, ⟨#[]⟩⟩ = some (if -((10 ^ t.Length.toNat : Nat) : Int) < n ∧ n < ((10 ^ t.Length.toNat : Nat) : Int) then 0 else 19) := by
 have f2 : ∀ a b : Int, zk N [a, b] = some (zg2 [a, b]) := fun a b => zsm N _ (by simp; omega) (by simp)
 obtain ⟨⟨l1, l2⟩, l3, l4⟩ := zhh ht
 have hp := zwb N hN t.Length.toNat (by omega)
 rw [Int.toNat_of_nonneg (by omega)] at hp
 have hp2 : 10 ^ t.Length.toNat ≤ 10 ^ 15 := zjm (by omega)
 have hp3 := zuq t.Length.toNat
 obtain ⟨h0, h1, h2⟩ := ht
 unfold zar
 rw [zod N (by omega), h0, zbk, zbk, dcf (show ¬ t.Kind = 4 by omega), dcf (show ¬ t.Kind = 0 by omega)]
 simp only [zre, cfa, obs, f2, show zg2 [0, 0] = 0 from rfl, bsf]
 rw [hp]
 simp only [obs, bst, bnt, cfa, zys, zre]
 generalize 10 ^ t.Length.toNat = P at *
 rw [w6e (n := (P : Int) - 1), w6e]
 by_cases h : -(P : Int) < n ∧ n < (P : Int)
 · rw [ifp h, show inB n (0 - ((P : Int) - 1)) ((P : Int) - 1) = true from zc2.2 ⟨by omega, by omega⟩]; rfl
 · rw [ifn h, show inB n (0 - ((P : Int) - 1)) ((P : Int) - 1) = false by
    cases hb : inB n (0 - ((P : Int) - 1)) ((P : Int) - 1) with
    | false => rfl
    | true => have := zc2.1 hb; omega]
   rfl
theorem zty {t : DataType} (ht : zn0 t) : szE t = (if t.Kind = 1 then t.Length / 2 + 1 else if t.Kind = 3 then (if t.Length = 9 then 4 else 2) else t.Length) := by
 obtain ⟨_, h1, h2⟩ := ht
 unfold szE
 split
 · rfl
 · split
   · rfl
   · rw [ifn]
def zmu (n len : Nat) : List Int := (List.range len).map fun j => ((n / 10 ^ (len - 1 - j) % 10 : Nat) : Int)
theorem zpr (n len : Nat) : (zmu n len).length = len := by simp [zmu]
theorem zpq {n len : Nat} : ∀ d ∈ zmu n len, 0 ≤ d ∧ d ≤ 9 := by
 intro d hd
 obtain ⟨j, _, rfl⟩ := List.mem_map.1 hd
 omega
def zvd (l : List Int) (neg : Bool) : List Int := (l.take (l.length - 1)).map (· + 240) ++ [l.getD (l.length - 1) 0 + cond neg 208 240]
def zgj : List Int → List Int
 | a :: b :: l => (16 * a + b) :: zgj l
 | _ => []
def zy6 (n : Int) (k : Nat) : List Int := (List.range k).map fun j => n / 256 ^ (k - 1 - j) % 256
def znx (t : DataType) (n : Int) : List Int := (if t.Length % 2 = 0 then [0] else []) ++ zmu n.natAbs t.Length.toNat ++ [if n < 0 then 13 else 15]
def zqw (t : DataType) (n : Int) : ByteArray :=
 zds (if t.Kind = 3 then zy6 n (szE t).toNat else if t.Kind = 2 then zvd (zmu n.natAbs t.Length.toNat) (decide (n < 0)) else zgj (znx t n))
theorem z0e (N : Nat) (hN : 100 < N) (n len : Nat) (hn : n ≤ 1000000000000000000) (hl : len ≤ 20) : za9 N (n : Int) (len : Int) = some (zmu n len) := by
 unfold za9
 have := zbc (f := za9.r0 N) (fun i => (((n / 10 ^ i : Nat) : Int), zep (fun e => ((n / 10 ^ e % 10 : Nat) : Int)) len i, (len : Int) - 1 - (i : Int))) len
  (fun i hi => by
   have hl2 : n / 10 ^ i ≤ n := Nat.div_le_self _ _; have hl : (zep (fun e => ((n / 10 ^ e % 10 : Nat) : Int)) len i).length = len := zo5 _ _ _; have e1 : n / 10 ^ (i + 1) = n / 10 ^ i / 10 := by rw [Nat.pow_succ, ← Nat.div_div_eq_div_mul]
   have e2 : (zep (fun e => ((n / 10 ^ e % 10 : Nat) : Int)) len i).set (len - 1 - i) ((n / 10 ^ i % 10 : Nat) : Int) = zep (fun e => ((n / 10 ^ e % 10 : Nat) : Int)) len (i + 1) := zm8 _ len i hi; rw [e1, ← e2]; generalize (zep (fun e => ((n / 10 ^ e % 10 : Nat) : Int)) len i) = P at *; generalize n / 10 ^ i = q at *; simp only [za9.r0, za9.b0, dct (show (len : Int) - 1 - (i : Int) ≥ 0 by omega), ctr, hl]; rw [ifp, ifp]; obtain ⟨x, hx⟩ : ∃ x, P[((len : Int) - 1 - (i : Int)).toNat]? = some x := zio (by omega); rw [hx]; simp only [obs]
   rw [tde, tme, w6e (n := (q : Int) / 10), w6e (n := (len : Int) - 1 - (i : Int) - 1), zj2 (by omega) (by omega), show ((len : Int) - 1 - (i : Int)).toNat = len - 1 - i by omega, show (q : Int) % 10 = ((q % 10 : Nat) : Int) by omega, show (q : Int) / 10 = ((q / 10 : Nat) : Int) by omega, show (len : Int) - 1 - (i : Int) - 1 = (len : Int) - 1 - ((i + 1 : Nat) : Int) by omega])
  (by simp only [za9.r0, za9.b0, dcf (show ¬ (len : Int) - 1 - (len : Int) ≥ 0 by omega), cfa]) (N := N) (by omega)
 rw [ifp, ifp, zcx (by omega), ctr, itn, w6e]
 simp only [Nat.pow_zero, Nat.div_one, zm7, nc0, Int.sub_zero, zm9] at this
 rw [this]
 rfl
theorem or4 (x y : Nat) (hx : x < 16) (hy : y < 16) : orI .u8 (IntKind.wrap .u8 ((x : Int) * 2 ^ (min (4 : Int).toNat 8))) (y : Int) = ((16 * x + y : Nat) : Int) := by
 rw [show (2 : Int) ^ (min (4 : Int).toNat 8) = 16 from rfl, zj2 (by omega) (by omega)]
 unfold orI
 have e : (BitVec.ofInt IntKind.u8.bits ((x : Int) * 16) ||| BitVec.ofInt IntKind.u8.bits (y : Int)).toNat = 16 * x + y := by
  show (BitVec.ofInt 8 ((x : Int) * 16) ||| BitVec.ofInt 8 (y : Int)).toNat = _; rw [show (x : Int) * 16 = ((16 * x : Nat) : Int) by omega, BitVec.toNat_or, BitVec.ofInt_natCast, BitVec.ofInt_natCast, BitVec.toNat_ofNat, BitVec.toNat_ofNat, mel (by omega), mel (by omega)]; exact (Nat.two_pow_add_eq_or_of_lt (i := 4) (b := y) hy x).symm
 rw [e]
 exact zj2 (by omega) (by omega)
theorem zo7 : ∀ (n : Nat) (l : List Int) (x y : Int), l.length = 2 * n → zgj (l ++ [x, y]) = zgj l ++ [16 * x + y]
 | 0, l, x, y, h => by
  obtain rfl := List.length_eq_zero_iff.1 (by omega : l.length = 0); rfl
 | n + 1, [], x, y, h => by simp at h
 | n + 1, [a], x, y, h => by simp at h; omega
 | n + 1, a :: b :: l, x, y, h => by
  simp only [List.cons_append, zgj]; rw [zo7 n l x y (by simp only [lnc] at h; omega)]
theorem zln : ∀ (n : Nat) (l : List Int), l.length = 2 * n → (zgj l).length = n
 | 0, l, h => by
  obtain rfl := List.length_eq_zero_iff.1 (by omega : l.length = 0); rfl
 | n + 1, [], h => by simp at h
 | n + 1, [a], h => by simp at h; omega
 | n + 1, a :: b :: l, h => by
  simp only [zgj, lnc]; rw [zln n l (by simp only [lnc] at h; omega)]
theorem z0c (N : Nat) (hN : 100 < N) (l : List Int) (n : Nat) (hl : l.length = 2 * n) (hn : n ≤ 20) (hd : ∀ d ∈ l, 0 ≤ d ∧ d < 16) : zak N l = some (zds (zgj l)) := by
 unfold zak
 have := zbc (f := zak.r0 N) (fun i => (l, zgj (l.take (2 * i)), 2 * (i : Int))) n
  (fun i hi => by
   obtain ⟨x, hx⟩ : ∃ x, l[2 * i]? = some x := zio (by omega); obtain ⟨y, hy⟩ : ∃ y, l[2 * i + 1]? = some y := zio (by omega); obtain ⟨x1, x2⟩ := hd x (lmg hx); obtain ⟨y1, y2⟩ := hd y (lmg hy); have hlt : (l.take (2 * i)).length = 2 * i := by rw [lnt]; omega
   simp only [zak.r0, zak.b0, dct (show 2 * (i : Int) < (l.length : Int) by omega), ctr]; rw [w6e (n := 2 * (i : Int) + 1), w6e (n := 2 * (i : Int) + 2), show 2 * (i : Int) = ((2 * i : Nat) : Int) by omega, show ((2 * i : Nat) : Int) + 1 = ((2 * i + 1 : Nat) : Int) by omega, zaw, zaw, hx, hy]; simp only [obs]; obtain ⟨u, rfl⟩ : ∃ u : Nat, x = (u : Int) := ⟨x.toNat, by omega⟩; obtain ⟨v, rfl⟩ : ∃ v : Nat, y = (v : Int) := ⟨y.toNat, by omega⟩; rw [or4 u v (by omega) (by omega), zcx (by rw [zln i _ hlt]; simp only [lnc, ln0]; omega), ctr]; rw [show 2 * (i + 1) = 2 * i + 1 + 1 by omega, zgg _ _ hy, zgg _ _ hx, List.append_assoc, show ([(u : Int)] ++ [(v : Int)] : List Int) = [(u : Int), (v : Int)] from rfl, zo7 i _ _ _ hlt]
   congr 4)
  (by simp only [zak.r0, zak.b0, dcf (show ¬ 2 * (n : Int) < (l.length : Int) by omega), cfa]) (N := N) (by omega)
 simp only [Nat.mul_zero, List.take_zero, nc0, Int.mul_zero] at this
 rw [show zgj [] = [] from rfl] at this
 rw [this, obs, ← hl, List.take_length]
theorem z2s (f : Int → Int) (l : List Int) (i : Nat) {x : Int} (hx : l[i]? = some x) : ((l.take i).map f ++ l.drop i)[i]? = some x ∧ ((l.take i).map f ++ l.drop i).set i (f x) = (l.take (i + 1)).map f ++ l.drop (i + 1) := by
 obtain ⟨h1, h2⟩ := gei hx
 have hl : ((l.take i).map f).length = i := by rw [lnm, lnt]; omega
 have hd : l.drop i = x :: l.drop (i + 1) := by rw [List.drop_eq_getElem_cons h1, h2]
 constructor
 · rw [List.getElem?_append_right (by omega), hl, Nat.sub_self, hd]; rfl
 · rw [List.set_append_right _ _ (by omega), hl, Nat.sub_self, hd, zgg l i hx, List.map_append, List.append_assoc]; rfl
theorem zyw {l : List Int} (h : 0 < l.length) : l = l.take (l.length - 1) ++ [l.getD (l.length - 1) 0] := by
 have hx : l[l.length - 1]? = some (l.getD (l.length - 1) 0) := by rw [gdd, lge (by omega)]; rfl
 have := zgg l (l.length - 1) hx
 rw [show l.length - 1 + 1 = l.length by omega, List.take_length] at this
 exact this
theorem z2n (z : Int) : IntKind.wrap .u8 z = z % 256 := by
 have e : (2 : Int) ^ (IntKind.u8.bits) = 256 := by decide
 unfold IntKind.wrap
 simp only [e, show IntKind.u8.signed = false from rfl, Bool.false_and]
 simp only [Bool.false_eq_true, if_false]
theorem zlw {l : List Int} (h : 0 < l.length) : l.map (· + 240) = zvd l false := by
 conv => lhs; rw [zyw h]
 rw [List.map_append]
 rfl
theorem ztu {n : Int} (h1 : -9223372036854775807 ≤ n) (h2 : n ≤ 9223372036854775807) : (if w6 (0 - n) > n then w6 (0 - n) else n) = ((n.natAbs : Nat) : Int) := by
 rw [w6e]
 split <;> omega
theorem zo8 {t : DataType} (h1 : 1 ≤ t.Length) (n : Int) : (znx t n).length = 2 * (t.Length.toNat / 2 + 1) ∧ ∀ d ∈ znx t n, 0 ≤ d ∧ d < 16 := by
 unfold znx
 constructor
 · rw [lna, lna, zpr, lns]; split
   · rw [lns]; omega
   · rw [ln0]; omega
 · intro d hd; rcases List.mem_append.1 hd with hd | hd
   · rcases List.mem_append.1 hd with hd | hd
     · split at hd
       · rcases List.mem_cons.1 hd with rfl | hd
         · omega
         · cases hd
       · cases hd
     · have := zpq d hd; omega
   · rcases List.mem_cons.1 hd with rfl | hd
     · split <;> omega
     · cases hd
theorem zyt (N : Nat) (hN : 100 < N) {t : DataType} (ht : zn0 t) (n : Int) (hn : -((10 ^ t.Length.toNat : Nat) : Int) < n ∧ n < ((10 ^ t.Length.toNat : Nat) : Int)) : zq N t ⟨n, ⟨#[]⟩⟩ = some (zqw t n) := by
 obtain ⟨⟨l1, l2⟩, l3, l4⟩ := zhh ht
 have hp2 : 10 ^ t.Length.toNat ≤ 10 ^ 15 := zjm (by omega)
 have hsz := zty ht
 have ht' := ht
 obtain ⟨h0, h1, h2⟩ := ht'
 have hd := z0e N hN n.natAbs t.Length.toNat (by omega) (by omega)
 rw [Int.toNat_of_nonneg (by omega)] at hd
 unfold zq zqw
 try simp only [eD]
 rw [ztu (by omega) (by omega), hd]
 simp only [obs]
 have hlen := zpr n.natAbs t.Length.toNat
 have hrange := zpq (n := n.natAbs) (len := t.Length.toNat)
 have hpac := zo8 (t := t) l1 n
 have epac : znx t n = (if t.Length % 2 = 0 then [0] else []) ++ zmu n.natAbs t.Length.toNat ++ [if n < 0 then 13 else 15] := rfl
 generalize zmu n.natAbs t.Length.toNat = d at *
 simp only [zbk]
 by_cases k2 : t.Kind = 2
 · rw [dct k2, ctr, ifn, ifp k2]; have lp := zbc (f := zq.r1 N) (fun i => ((d.take i).map (· + 240) ++ d.drop i, (d.length : Int), (i : Int), (⟨n, ⟨#[]⟩⟩ : Value))) d.length
    (fun i hi => by
     obtain ⟨x, hx⟩ : ∃ x, d[i]? = some x := zio hi; obtain ⟨e1, e2⟩ := z2s (· + 240) d i hx; have hxr := hrange x (lmg hx); have hl : ((d.take i).map (· + 240) ++ d.drop i).length = d.length := by rw [lna, lnm, lnt, List.length_drop]; omega
     simp only [zq.r1, zq.b1, dct (show (i : Int) < (d.length : Int) by omega), ctr, hl]; rw [ifp, ifp, itn, e1]; simp only [obs]; rw [ifp, ifp, zj2 (by omega) (by omega), w6e, e2]; rfl)
    (by simp only [zq.r1, zq.b1, dcf (show ¬ (d.length : Int) < (d.length : Int) by omega), cfa]) (N := N) (by omega)
   simp only [List.take_zero, nc0, dr0, List.map_nil, List.nil_append, List.take_length, List.drop_length, List.append_nil] at lp; rw [lp]; simp only [obs, lnm]
   by_cases hneg : n < 0
   · rw [dct hneg, ctr, w6e, ifp, ifp]; have hi : (d.length : Int) - 1 = ((d.length - 1 : Nat) : Int) := by omega
     have hx : d[d.length - 1]? = some (d.getD (d.length - 1) 0) := by rw [gdd, lge (by omega)]; rfl
     have hxr := hrange _ (lmg hx); rw [hi, itn, List.getElem?_map, hx]; simp only [Option.map_some, obs]; rw [ifp, ifp, zj2 (by omega) (by omega)]
     congr 2
     conv => lhs; rw [show d.map (· + 240) = (d.take (d.length - 1)).map (· + 240) ++ [d.getD (d.length - 1) 0 + 240] from zlw (by omega)]
     have hl : ((d.take (d.length - 1)).map (· + 240)).length = d.length - 1 := by rw [lnm, lnt]; omega
     rw [List.set_append_right _ _ (by omega), hl, Nat.sub_self]; unfold zvd
     congr 1
     show [_] = [_]
     congr 1
     simp only [ctr]; omega
   · rw [dcf hneg, cfa, zlw (by omega)]
 · rw [dcf k2, cfa, ifn (c := t.Kind = 2) k2]
   by_cases k1 : t.Kind = 1
   · rw [dct k1, ctr, ifn]; have pk := z0c N hN (znx t n) _ hpac.1 (by omega) hpac.2; have ev : decide ((d.length : Int).tmod 2 = 0) = decide (t.Length % 2 = 0) := by
      rw [tme]; simp only [decide_eq_decide]; omega
     rw [ev]; rw [epac] at pk ⊢
     by_cases hneg : n < 0
     · rw [dct hneg, ctr]; rw [ifp hneg] at pk ⊢
       by_cases he : t.Length % 2 = 0
       · rw [dct he, ctr]; rw [ifp he] at pk ⊢; rw [zcx (by simp only [lnc, ln0]; omega), ctr, zcx (by simp only [lna, lnc, ln0]; omega), ctr, pk]; rfl
       · rw [dcf he, cfa]; rw [ifn he, List.nil_append] at pk ⊢; rw [zcx (by simp only [lnc, ln0]; omega), ctr, pk]; rfl
     · rw [dcf hneg, cfa]; rw [ifn hneg] at pk ⊢
       by_cases he : t.Length % 2 = 0
       · rw [dct he, ctr]; rw [ifp he] at pk ⊢; rw [zcx (by simp only [lnc, ln0]; omega), ctr, zcx (by simp only [lna, lnc, ln0]; omega), ctr, pk]; rfl
       · rw [dcf he, cfa]; rw [ifn he, List.nil_append] at pk ⊢; rw [zcx (by simp only [lnc, ln0]; omega), ctr, pk]; rfl
   · have k3 : t.Kind = 3 := by omega
     rw [dcf k1, cfa, dct k3, ctr, ifp k3, zt6 h0]; have hs : (szE t).toNat ≤ 4 ∧ 0 < (szE t).toNat ∧ szE t = ((szE t).toNat : Int) := by
      rw [hsz, ifn k1, ifp k3]; split <;> decide
     obtain ⟨s1, s2, s3⟩ := hs; generalize (szE t).toNat = k at *; rw [s3]; simp only [obs]; rw [ifp, ifp, zcx (by omega), ctr, itn, lnr, w6e]; have lp := zbc (f := zq.r3 N) (fun i => (zep (fun e => n / 256 ^ e % 256) k i, (k : Int) - 1 - (i : Int), n / 256 ^ i)) k
      (fun i hi => by
       have e2 : (zep (fun e => n / 256 ^ e % 256) k i).set (k - 1 - i) (n / 256 ^ i % 256) = zep (fun e => n / 256 ^ e % 256) k (i + 1) := zm8 _ k i hi; have hl : (zep (fun e => n / 256 ^ e % 256) k i).length = k := zo5 _ _ _; have e1 : n / 256 ^ (i + 1) = n / 256 ^ i / 256 := by rw [Int.pow_succ, Int.ediv_ediv_of_nonneg (Int.le_of_lt (Int.pow_pos (by decide)))]
       rw [e1, ← e2]; generalize zep (fun e => n / 256 ^ e % 256) k i = P at *; simp only [zq.r3, zq.b3, dct (show (k : Int) - 1 - (i : Int) ≥ 0 by omega), ctr, hl]; rw [ifp, ifp]; obtain ⟨x, hx⟩ : ∃ x, P[((k : Int) - 1 - (i : Int)).toNat]? = some x := zio (by omega); rw [hx]; simp only [obs]; rw [z2n, w6e, show (2 : Int) ^ (min (8 : Int).toNat 64) = 256 from rfl, Int.fdiv_eq_ediv_of_nonneg _ (by decide), show ((k : Int) - 1 - (i : Int)).toNat = k - 1 - i by omega, show (k : Int) - 1 - (i : Int) - 1 = (k : Int) - 1 - ((i + 1 : Nat) : Int) by omega])
      (by simp only [zq.r3, zq.b3, dcf (show ¬ (k : Int) - 1 - (k : Int) ≥ 0 by omega), cfa]) (N := N) (by omega)
     simp only [Int.pow_zero, Int.ediv_one, zm7, nc0, Int.sub_zero, zm9] at lp; rw [lp]; rfl
theorem z0d (N : Nat) (hN : 100 < N) {t : DataType} (ht : zn0 t) (n : Int) (hn : -((10 ^ t.Length.toNat : Nat) : Int) < n ∧ n < ((10 ^ t.Length.toNat : Nat) : Int)) : zb3 N t ⟨n, ⟨#[]⟩⟩ = some (zqw t n, 0) := by
 unfold zb3
 rw [zu6 N hN ht, ifp hn]
 simp only [obs, bsf, cfa, eD]
 rw [zyt N hN ht n hn]
 rfl
theorem z0o {t : DataType} (ht : zn0 t) (n : Int) : ((zqw t n).size : Int) = szE t := by
 obtain ⟨⟨l1, l2⟩, l3, l4⟩ := zhh ht
 have hsz := zty ht
 obtain ⟨h0, h1, h2⟩ := ht
 rw [← zi7]
 unfold zqw
 rw [zzb, lnm]
 by_cases k3 : t.Kind = 3
 · rw [ifp k3]; unfold zy6; rw [lnm, List.length_range]; rw [hsz, ifn, ifp k3]; split <;> rfl
 · rw [ifn k3]
   by_cases k2 : t.Kind = 2
   · rw [ifp k2]; unfold zvd; rw [lna, lnm, lnt, zpr, lns, hsz, ifn, ifn k3]; omega
   · rw [ifn k2, zln _ _ (zo8 l1 n).1, hsz, ifp]; omega
theorem z1d (N : Nat) (hN : 100 < N) (k : Nat) (hk : k ≤ 18) : zcg N (k : Int) = some ((10 ^ k : Nat) : Int) := by
 unfold zcg
 have := zbc (f := zcg.r0 N) (fun i => ((k : Int), ((10 ^ i : Nat) : Int), (i : Int))) k
  (fun i hi => by
   have : 10 ^ (i + 1) ≤ 10 ^ 18 := zjm (by omega); rw [Nat.pow_succ] at this; simp only [zcg.r0, zcg.b0, dct (show (i : Int) < (k : Int) by omega), ctr]; rw [w6e (n := ((10 ^ i : Nat) : Int) * 10), w6e, Nat.pow_succ]; simp only [Int.natCast_add, Int.natCast_mul, Int.natCast_one]; rfl)
  (by simp only [zcg.r0, zcg.b0, dcf (show ¬ (k : Int) < (k : Int) by omega), cfa]) (N := N) (by omega)
 simp only [Nat.pow_zero, nc0] at this
 rw [show (1 : Int) = ((1 : Nat) : Int) from rfl, this]
 rfl
theorem zz2 (N : Nat) (hN : 100 < N) (n len : Nat) (hn : n ≤ 1000000000000000000) (hl : len ≤ 20) : zcu N (n : Int) (len : Int) = some (zmu n len) := by
 unfold zcu
 have := zbc (f := zcu.r0 N) (fun i => (((n / 10 ^ i : Nat) : Int), zep (fun e => ((n / 10 ^ e % 10 : Nat) : Int)) len i, (len : Int) - 1 - (i : Int))) len
  (fun i hi => by
   have hl2 : n / 10 ^ i ≤ n := Nat.div_le_self _ _; have hl : (zep (fun e => ((n / 10 ^ e % 10 : Nat) : Int)) len i).length = len := zo5 _ _ _; have e1 : n / 10 ^ (i + 1) = n / 10 ^ i / 10 := by rw [Nat.pow_succ, ← Nat.div_div_eq_div_mul]
   have e2 : (zep (fun e => ((n / 10 ^ e % 10 : Nat) : Int)) len i).set (len - 1 - i) ((n / 10 ^ i % 10 : Nat) : Int) = zep (fun e => ((n / 10 ^ e % 10 : Nat) : Int)) len (i + 1) := zm8 _ len i hi; rw [e1, ← e2]; generalize (zep (fun e => ((n / 10 ^ e % 10 : Nat) : Int)) len i) = P at *; generalize n / 10 ^ i = q at *; simp only [zcu.r0, zcu.b0, dct (show (len : Int) - 1 - (i : Int) ≥ 0 by omega), ctr, hl]; rw [ifp, ifp]; obtain ⟨x, hx⟩ : ∃ x, P[((len : Int) - 1 - (i : Int)).toNat]? = some x := zio (by omega); rw [hx]; simp only [obs]; rw [tde, tme, w6e (n := (q : Int) / 10), w6e (n := (len : Int) - 1 - (i : Int) - 1), show ((len : Int) - 1 - (i : Int)).toNat = len - 1 - i by omega, show (q : Int) % 10 = ((q % 10 : Nat) : Int) by omega, show (q : Int) / 10 = ((q / 10 : Nat) : Int) by omega, show (len : Int) - 1 - (i : Int) - 1 = (len : Int) - 1 - ((i + 1 : Nat) : Int) by omega])
  (by simp only [zcu.r0, zcu.b0, dcf (show ¬ (len : Int) - 1 - (len : Int) ≥ 0 by omega), cfa]) (N := N) (by omega)
 rw [ifp, ifp, zcx (by omega), ctr, itn, w6e]
 simp only [Nat.pow_zero, Nat.div_one, zm7, nc0, Int.sub_zero, zm9] at this
 rw [this]
 rfl
theorem zrv (N : Nat) (hN : 100 < N) (v k : Nat) (hv : v < 9223372036854775807) (hk : k ≤ 8) : zb4 N (v : Int) (k : Int) = some (zds (z2a v k)) := by
 unfold zb4
 have := zbc (f := zb4.r0 N) (fun i => (((v / 256 ^ i : Nat) : Int), (k : Int), zep (fun e => ((v / 256 ^ e % 256 : Nat) : Int)) k i, (i : Int))) k
  (fun i hi => by
   have hl2 : v / 256 ^ i ≤ v := Nat.div_le_self _ _; have hl : (zep (fun e => ((v / 256 ^ e % 256 : Nat) : Int)) k i).length = k := zo5 _ _ _; have e1 : v / 256 ^ (i + 1) = v / 256 ^ i / 256 := by rw [Nat.pow_succ, ← Nat.div_div_eq_div_mul]
   have e2 : (zep (fun e => ((v / 256 ^ e % 256 : Nat) : Int)) k i).set (k - 1 - i) ((v / 256 ^ i % 256 : Nat) : Int) = zep (fun e => ((v / 256 ^ e % 256 : Nat) : Int)) k (i + 1) := zm8 _ k i hi; rw [e1, ← e2]; generalize (zep (fun e => ((v / 256 ^ e % 256 : Nat) : Int)) k i) = P at *; generalize v / 256 ^ i = q at *; simp only [zb4.r0, zb4.b0, dct (show (i : Int) < (k : Int) by omega), ctr, hl]; rw [w6e (n := (k : Int) - 1), w6e (n := (k : Int) - 1 - (i : Int)), ifp, ifp]; obtain ⟨x, hx⟩ : ∃ x, P[((k : Int) - 1 - (i : Int)).toNat]? = some x := zio (by omega); rw [hx]; simp only [obs]; rw [tde, tme, w6e (n := (q : Int) / 256), w6e (n := (i : Int) + 1), zj2 (by omega) (by omega), show ((k : Int) - 1 - (i : Int)).toNat = k - 1 - i by omega, show (q : Int) % 256 = ((q % 256 : Nat) : Int) by omega, show (q : Int) / 256 = ((q / 256 : Nat) : Int) by omega]; rfl)
  (by simp only [zb4.r0, zb4.b0, dcf (show ¬ (k : Int) < (k : Int) by omega), cfa]) (N := N) (by omega)
 rw [ifp, ifp, zcx (by omega), ctr, itn]
 simp only [Nat.pow_zero, Nat.div_one, zm7, nc0] at this
 rw [this, obs, zm9]
 rfl
theorem z07 (f : Int → Int) (l : List Int) (m i : Nat) {x : Int} (hx : l[i]? = some x) (hm : i < m) : ((l.take i).map f ++ List.replicate (m - i) 0)[i]? = some 0 ∧ ((l.take i).map f ++ List.replicate (m - i) 0).set i (f x) = (l.take (i + 1)).map f ++ List.replicate (m - (i + 1)) 0 := by
 obtain ⟨h1, h2⟩ := gei hx
 have hl : ((l.take i).map f).length = i := by rw [lnm, lnt]; omega
 have hd : List.replicate (m - i) (0 : Int) = 0 :: List.replicate (m - (i + 1)) 0 := by rw [show m - i = m - (i + 1) + 1 by omega, List.replicate_succ]
 constructor
 · rw [List.getElem?_append_right (by omega), hl, Nat.sub_self, hd]; rfl
 · rw [List.set_append_right _ _ (by omega), hl, Nat.sub_self, hd, zgg l i hx, List.map_append, List.append_assoc]; rfl
theorem zwt (n : Int) (k : Nat) (m : Nat) (h : (m : Int) = n ∨ (m : Int) = n + (256 ^ k : Nat)) : z2a m k = zy6 n k := by
 unfold z2a zy6
 refine List.map_congr_left fun j hj => ?_
 have hjk := List.mem_range.1 hj
 have hc : (256 : Int) ^ (k - 1 - j) = ((256 ^ (k - 1 - j) : Nat) : Int) := by rw [Int.natCast_pow]; rfl
 rw [hc]
 rcases h with h | h
 · rw [← h]; rfl
 · have hk : (256 ^ k : Nat) = 256 ^ (k - 1 - j) * (256 * 256 ^ j) := by
    rw [← Nat.pow_succ', ← Nat.pow_add]; congr 1; omega
   have hp : ((256 ^ (k - 1 - j) : Nat) : Int) ≠ 0 := by
    have : 0 < 256 ^ (k - 1 - j) := Nat.pow_pos (by decide); omega
   have e : ((m / 256 ^ (k - 1 - j) % 256 : Nat) : Int) = (m : Int) / ((256 ^ (k - 1 - j) : Nat) : Int) % 256 := rfl; rw [e, h, hk, Int.natCast_mul, Int.add_mul_ediv_left _ _ hp, Int.natCast_mul]; exact Int.add_mul_emod_self_left _ _ _
theorem z1g (N : Nat) (hN : 100 < N) {t : DataType} (ht : zn0 t) (n : Int) (hn : -((10 ^ t.Length.toNat : Nat) : Int) < n ∧ n < ((10 ^ t.Length.toNat : Nat) : Int)) : zat N t ⟨n, ⟨#[]⟩⟩ = some (zqw t n) := by
 obtain ⟨⟨l1, l2⟩, l3, l4⟩ := zhh ht
 have hp2 : 10 ^ t.Length.toNat ≤ 10 ^ 15 := zjm (by omega)
 have hsz := zty ht
 have ht' := ht
 obtain ⟨h0, h1, h2⟩ := ht'
 have hd := zz2 N hN n.natAbs t.Length.toNat (by omega) (by omega)
 rw [Int.toNat_of_nonneg (by omega)] at hd
 unfold zat zqw zqi
 simp only [eD, zbk]
 rw [dcf (show ¬ t.Kind = 0 by omega), cfa]
 by_cases k3 : t.Kind = 3
 · rw [dct k3, ctr, ifp k3, zoa h0]; have hs : (szE t).toNat ≤ 4 ∧ 0 < (szE t).toNat ∧ szE t = ((szE t).toNat : Int) ∧ ((szE t).toNat = 2 ∨ (szE t).toNat = 4) ∧ ((szE t).toNat = 2 → t.Length = 4) := by
    have h9 := h0; unfold zc7 at h9; rw [ifn, ifn, ifp k3] at h9; rw [hsz, ifn, ifp k3]; split at h9
    · split
      · exact ⟨by decide, by decide, by decide, by decide, fun h => by cases h⟩
      · exact ⟨by decide, by decide, by decide, by decide, fun _ => by omega⟩
    · cases h9
   obtain ⟨s1, s2, s3, s4, s5⟩ := hs; generalize (szE t).toNat = k at *; rw [s3]; simp only [obs]
   by_cases hneg : n < 0
   · rw [dct hneg, ctr, w6e (n := 8 * (k : Int)), ifn]; have hpow : (1 : Int) * 2 ^ (min (8 * (k : Int)).toNat 64) = ((256 ^ k : Nat) : Int) := by
      rcases s4 with rfl | rfl <;> decide
     have hlow : -((256 ^ k : Nat) : Int) ≤ n := by
      rcases s4 with rfl | rfl
      · have := s5 rfl; rw [this] at hn; have : (10 ^ (4 : Int).toNat : Nat) = 10000 := by decide
        rw [this] at hn; have : (256 ^ 2 : Nat) = 65536 := by decide
        omega
      · have hl9 : 10 ^ t.Length.toNat ≤ 10 ^ 9 := by
         refine zjm ?_; unfold zc7 at h0; rw [ifn, ifn, ifp k3] at h0; split at h0
         · omega
         · cases h0
        have : (256 ^ 4 : Nat) = 4294967296 := by decide
        omega
     have hup : 256 ^ k ≤ 4294967296 := by rcases s4 with rfl | rfl <;> decide
     rw [hpow, w6e (n := ((256 ^ k : Nat) : Int)), w6e]; obtain ⟨m, hm⟩ : ∃ m : Nat, (m : Int) = n + (256 ^ k : Nat) := ⟨(n + (256 ^ k : Nat)).toNat, by omega⟩; rw [← hm, zrv N hN m k (by omega) (by omega), zwt n k m (.inr hm)]; rfl
   · rw [dcf hneg, cfa]; obtain ⟨m, hm⟩ : ∃ m : Nat, (m : Int) = n := ⟨n.toNat, by omega⟩; rw [← hm, zrv N hN m k (by omega) (by omega), zwt (m : Int) k m (.inl rfl)]; rfl
 · rw [dcf k3, cfa, ifn k3, ztu (by omega) (by omega)]; simp only [obs]; rw [hd]; simp only [obs]; have hlen := zpr n.natAbs t.Length.toNat; have hrange := zpq (n := n.natAbs) (len := t.Length.toNat); have hpac := zo8 (t := t) l1 n; have epac : znx t n = (if t.Length % 2 = 0 then [0] else []) ++ zmu n.natAbs t.Length.toNat ++ [if n < 0 then 13 else 15] := rfl; generalize zmu n.natAbs t.Length.toNat = d at *
   by_cases k2 : t.Kind = 2
   · rw [dct k2, ctr, ifp k2, ifp, ifp, zcx (by omega), ctr]; have lp := zbc (f := zat.r1 N) (fun i => (d, (d.take i).map (· + 240) ++ List.replicate (d.length - i) 0, (i : Int), t, (⟨n, ⟨#[]⟩⟩ : Value))) d.length
      (fun i hi => by
       obtain ⟨x, hx⟩ : ∃ x, d[i]? = some x := zio hi; obtain ⟨e1, e2⟩ := z07 (· + 240) d d.length i hx hi; have hxr := hrange x (lmg hx); have hl : ((d.take i).map (· + 240) ++ List.replicate (d.length - i) 0).length = d.length := by rw [lna, lnm, lnt, lnr]; omega
       simp only [zat.r1, zat.b1, dct (show (i : Int) < t.Length by omega), ctr, hl]; rw [ifp, ifp, itn, hx]; simp only [obs]; rw [ifp, ifp, e1]; simp only [obs]; rw [w6e (n := 240 + x), zj2 (by omega) (by omega), w6e, Int.add_comm 240 x, e2]; rfl)
      (by simp only [zat.r1, zat.b1, dcf (show ¬ (d.length : Int) < t.Length by omega), cfa]) (N := N) (by omega)
     simp only [List.take_zero, nc0, List.map_nil, List.nil_append, List.take_length, Nat.sub_self, Nat.sub_zero, List.replicate_zero, List.append_nil] at lp; rw [← hlen, lp]; simp only [obs, lnm]
     by_cases hneg : n < 0
     · rw [dct hneg, ctr, w6e (n := t.Length - 1), ifp, ifp]; have hi : t.Length - 1 = ((d.length - 1 : Nat) : Int) := by omega
       have hx : d[d.length - 1]? = some (d.getD (d.length - 1) 0) := by rw [gdd, lge (by omega)]; rfl
       have hxr := hrange _ (lmg hx); rw [hi, itn, hx]; simp only [obs]; rw [ifp, ifp, List.getElem?_map, hx]; simp only [Option.map_some, obs]; rw [w6e, zj2 (by omega) (by omega)]
       congr 2
       conv => lhs; rw [show d.map (· + 240) = (d.take (d.length - 1)).map (· + 240) ++ [d.getD (d.length - 1) 0 + 240] from zlw (by omega)]
       have hl : ((d.take (d.length - 1)).map (· + 240)).length = d.length - 1 := by rw [lnm, lnt]; omega
       rw [List.set_append_right _ _ (by omega), hl, Nat.sub_self]; unfold zvd
       congr 1
       show [_] = [_]
       congr 1
       simp only [ctr]; omega
     · rw [dcf hneg, cfa, zlw (by omega)]
   · rw [dcf k2, cfa, ifn k2]; have lp : ∀ (l : List Int) (m : Nat), l.length = 2 * m → m ≤ 20 → (∀ d ∈ l, 0 ≤ d ∧ d < 16) → zt (zat.r3 N) N (l, List.replicate m 0, 0) = some (l, zgj l, (m : Int)) := fun l m hl hm hr => by
      have := zbc (f := zat.r3 N) (fun i => (l, zgj (l.take (2 * i)) ++ List.replicate (m - i) 0, (i : Int))) m
       (fun i hi => by
        obtain ⟨x, hx⟩ : ∃ x, l[2 * i]? = some x := zio (by omega); obtain ⟨y, hy⟩ : ∃ y, l[2 * i + 1]? = some y := zio (by omega); obtain ⟨x1, x2⟩ := hr x (lmg hx); obtain ⟨y1, y2⟩ := hr y (lmg hy); have hlt : (l.take (2 * i)).length = 2 * i := by rw [lnt]; omega
        have hpl := zln i _ hlt; have hl2 : (zgj (l.take (2 * i)) ++ List.replicate (m - i) 0).length = m := by rw [lna, hpl, lnr]; omega
        have hd : List.replicate (m - i) (0 : Int) = 0 :: List.replicate (m - (i + 1)) 0 := by rw [show m - i = m - (i + 1) + 1 by omega, List.replicate_succ]
        have e1 : (zgj (l.take (2 * i)) ++ List.replicate (m - i) 0)[i]? = some 0 := by rw [List.getElem?_append_right (by omega), hpl, Nat.sub_self, hd]; rfl
        have e2 : (zgj (l.take (2 * i)) ++ List.replicate (m - i) 0).set i (16 * x + y) = zgj (l.take (2 * (i + 1))) ++ List.replicate (m - (i + 1)) 0 := by
         rw [List.set_append_right _ _ (by omega), hpl, Nat.sub_self, hd, show 2 * (i + 1) = 2 * i + 1 + 1 by omega, zgg _ _ hy, zgg _ _ hx, List.append_assoc, show ([x] ++ [y] : List Int) = [x, y] from rfl, zo7 i _ _ _ hlt, List.append_assoc]; rfl
        simp only [zat.r3, zat.b3, hl2, dct (show (i : Int) < (m : Int) by omega), ctr]; rw [w6e (n := 2 * (i : Int)), w6e (n := 2 * (i : Int) + 1), ifp, ifp, show (2 * (i : Int)).toNat = 2 * i by omega, hx]; simp only [obs]; rw [ifp, ifp, show (2 * (i : Int) + 1).toNat = 2 * i + 1 by omega, hy]; simp only [obs]; rw [ifp, ifp, itn, e1]; simp only [obs]; rw [w6e (n := 16 * x), w6e (n := 16 * x + y), zj2 (by omega) (by omega), w6e, e2]; rfl)
       (by simp only [zat.r3, zat.b3]; rw [lna, zln m _ (by rw [lnt]; omega), Nat.sub_self, lnr, Nat.add_zero, dcf (show ¬ (m : Int) < (m : Int) by omega), cfa]) (N := N) (by omega)
      simp only [Nat.mul_zero, List.take_zero, nc0, Nat.sub_zero, Nat.sub_self, List.replicate_zero, List.append_nil] at this; rw [show zgj [] = [] from rfl, List.nil_append, ← hl, List.take_length] at this; exact this
     have lpp := lp (znx t n) _ hpac.1 (by omega) hpac.2; have hpl := hpac.1; rw [zmj, show decide (t.Length.tmod 2 = 0) = decide (t.Length % 2 = 0) by rw [tme]]; simp only [obs]; have hsg : w6 (15 - w6 (2 * cond (decide (n < 0)) 1 0)) = if n < 0 then 13 else 15 := by
      by_cases hneg : n < 0
      · rw [dct hneg, ifp hneg]; decide
      · rw [dcf hneg, ifn hneg]; decide
     rw [hsg]
     by_cases he : t.Length % 2 = 0
     · rw [ifp he] at epac; rw [dct he, ctr, zcx (by simp only [lnc, ln0]; omega), ctr, ← epac, zcx (by simp only [lna, lnc, ln0]; omega), ctr, tde, w6e, ifp, ifp, zcx (by omega), ctr, show ((znx t n).length : Int) / 2 = ((t.Length.toNat / 2 + 1 : Nat) : Int) by omega, itn, lpp]; rfl
     · rw [ifn he, List.nil_append] at epac; rw [dcf he, cfa, zcx (by simp only [lnc, ln0]; omega), ctr, ← epac, tde, w6e, ifp, ifp, zcx (by omega), ctr, show ((znx t n).length : Int) / 2 = ((t.Length.toNat / 2 + 1 : Nat) : Int) by omega, itn, lpp]; rfl
set_option exponentiation.threshold 3000
theorem z23 (N : Nat) (hN : 2000 < N) {s : Storage} (h : zk6 s) {a : Int} (ha : zm6 s a = true) :
 zow N s a = some (match ldV s a with | some o => (zv5 o, 0) | none => (zsw, 22)) := by
 obtain ⟨a1, a2, a3⟩ := zrx ha
 have hl := h.le
 have hq := h.quad
 have ht := h.tags
 unfold zow
 rw [z21 h.ok, ha]
 simp only [obs, bnt, cfa]
 have ed : w6 (a.tdiv 16) = (((a / 16).toNat : Nat) : Int) := by
  rw [tde a1, w6e]; omega
 have hi : (a / 16).toNat < s.Tags.length := by omega
 rw [ed, zaw, lge hi]
 simp only [obs]
 unfold ldV
 rw [lge hi]
 cases hb : s.Tags[(a / 16).toNat] with
 | false => rfl
 | true =>
  simp only [bnt, cfa, if_true]; unfold zlz; rw [w6e (n := (((a / 16).toNat : Nat) : Int) * 16), w6e, ifp, ifp]; simp only [obs]; have e : s.Bytes.extract ((((a / 16).toNat : Nat) : Int) * 16).toNat ((((a / 16).toNat : Nat) : Int) * 16 + 16).toNat = s.Bytes.extract (16 * (a / 16).toNat) (16 * (a / 16).toNat + 16) := by
   rw [show ((((a / 16).toNat : Nat) : Int) * 16).toNat = 16 * (a / 16).toNat by omega, show ((((a / 16).toNat : Nat) : Int) * 16 + 16).toNat = 16 * (a / 16).toNat + 16 by omega]
  rw [e, zz0 N (by omega) _ (by rw [zd8 _ _ _ (by omega) (by omega)]; omega), zj9]; obtain ⟨off, _, h2⟩ := h.ptr (a / 16).toNat (by rw [lge hi, hb]); rw [h2]; rfl
theorem z29 {s : Storage} (h : s.Tags.length ≤ 100000) : zkl s = some s := by
 unfold zkl zol
 rw [zcx (by omega)]
 rfl
theorem z1b (N : Nat) (hN : 2000 < N) {s : Storage} (h : zk6 s) {a : Nat} {d : ByteArray} (hd : a + d.size ≤ s.Bytes.size) (hd0 : 0 < d.size) : zcy N s (a : Int) d = some (wrV s a d) := by
 have hl := h.le
 have hq := h.quad
 have ht := h.tags
 have hmax : IntKind.i64.max = 9223372036854775807 := by decide
 unfold zcy zq2
 rw [z29 (by omega), hmax]
 simp only [obs]
 have z1 : (s.Bytes.extract (0 : Int).toNat (a : Int).toNat).size = a := by rw [zd8 _ _ _ (by omega) (by omega)]; omega
 rw [ifp, ifp, ifn (by rw [z1]; omega), w6e (n := (a : Int) + (d.size : Int)), ifp]
 have z2 : (s.Bytes.extract ((a : Int) + (d.size : Int)).toNat s.Bytes.size).size = s.Bytes.size - (a + d.size) := by rw [zd8 _ _ _ (by omega) (by omega)]; omega
 rw [ifn (by rw [z2, bsa, z1]; omega)]
 simp only [obs]
 have f1 : ((s.Bytes.extract (0 : Int).toNat (a : Int).toNat) ++ d) ++ (s.Bytes.extract ((a : Int) + (d.size : Int)).toNat s.Bytes.size) = (wrV s a d).Bytes := by
  refine z0t ?_; rw [zno, zno, zgn, zgn, show (0 : Int).toNat = 0 from rfl, dr0, show ((a : Int) + (d.size : Int)).toNat = a + d.size by omega, ← zi7 s.Bytes, List.take_length, itn]; rfl
 rw [f1]
 have lp := zbc (f := zcy.r0 N) (fun i => ((a : Int), d, (i : Int), (⟨⟨#[]⟩, []⟩ : Storage), (⟨(wrV s a d).Bytes, if i = 0 then s.Tags else clr s.Tags a i⟩ : Storage))) d.size
  (fun i hi => by
   have hlen : (if i = 0 then s.Tags else clr s.Tags a i).length = s.Tags.length := by split <;> simp [zx3]
   have ei : w6 ((w6 ((a : Int) + (i : Int))).tdiv 16) = (((a + i) / 16 : Nat) : Int) := by
    rw [w6e (n := (a : Int) + (i : Int)), tde, w6e]; omega
   simp only [zcy.r0, zcy.b0, dct (show (i : Int) < (d.size : Int) by omega), ctr, ei, hlen]; rw [ifp, ifp, itn]; obtain ⟨x, hx⟩ : ∃ x, (if i = 0 then s.Tags else clr s.Tags a i)[(a + i) / 16]? = some x := zio (by omega); rw [hx]; simp only [obs]; rw [w6e]; have e2 : (if i = 0 then s.Tags else clr s.Tags a i).set ((a + i) / 16) false = clr s.Tags a (i + 1) := by
    refine List.ext_getElem? fun k => ?_; rw [zrh, List.getElem?_set, hlen]; have hc : (if i = 0 then s.Tags else clr s.Tags a i)[k]? = if i ≠ 0 ∧ 16 * k < a + i ∧ a < 16 * k + 16 then (if k < s.Tags.length then some false else none) else s.Tags[k]? := by
     by_cases h0 : i = 0
     · rw [ifp h0, ifn]
     · rw [ifn h0, zrh]
       by_cases h1 : 16 * k < a + i ∧ a < 16 * k + 16
       · rw [ifp h1, ifp (show i ≠ 0 ∧ 16 * k < a + i ∧ a < 16 * k + 16 from ⟨h0, h1⟩)]
       · rw [ifn h1, ifn (fun h => h1 h.2)]
    rw [hc]
    by_cases hk : (a + i) / 16 = k
    · rw [ifp hk, ifp (show (a + i) / 16 < s.Tags.length by omega), ifp (show 16 * k < a + (i + 1) ∧ a < 16 * k + 16 by omega), ifp]
    · rw [ifn hk]
      by_cases h1 : i ≠ 0 ∧ 16 * k < a + i ∧ a < 16 * k + 16
      · rw [ifp h1, ifp (show 16 * k < a + (i + 1) ∧ a < 16 * k + 16 by omega)]
      · rw [ifn h1, ifn (show ¬ (16 * k < a + (i + 1) ∧ a < 16 * k + 16) by omega)]
   rw [e2, ifn (show ¬ i + 1 = 0 by omega)]; rfl)
  (by simp only [zcy.r0, zcy.b0, dcf (show ¬ (d.size : Int) < (d.size : Int) by omega), cfa]) (N := N) (by omega)
 simp only [if_true, nc0] at lp
 rw [lp, ifn (show ¬ d.size = 0 by omega)]
 rfl
theorem zl4 {R α : Type} {f : α → Option (Round R α)} (S : Nat → α) (g : Nat → Option R) (n : Nat) (h : ∀ i, i < n → (∀ j, j < i → g j = none) → f (S i) = some (match g i with | some r => .result r | none => .again (S (i + 1)))) (hl : (∀ j, j < n → g j = none) → f (S n) = some (.leave (S n))) {N : Nat} (hN : n < N) :
 zr f N (S 0) = some (match (List.range n).findSome? g with | some r => .inl r | none => .inr (S n)) := by
 have key : ∀ k i N, i + k = n → k < N → (∀ j, j < i → g j = none) → zr f N (S i) = some (match (List.range' i k).findSome? g with | some r => .inl r | none => .inr (S n)) := by
  intro k
  induction k with
  | zero =>
   intro i N hi hN hp; obtain ⟨m, rfl⟩ : ∃ m, N = m + 1 := ⟨N - 1, by omega⟩; obtain rfl : i = n := by omega
   simp only [zr, hl hp, obs]; rfl
  | succ k ih =>
   intro i N hi hN hp; obtain ⟨m, rfl⟩ : ∃ m, N = m + 1 := ⟨N - 1, by omega⟩; simp only [zr, h i (by omega) hp, obs, List.range'_succ, List.findSome?_cons]; cases hg : g i with
   | some r => rfl
   | none =>
    refine ih (i + 1) m (by omega) (by omega) fun j hj => ?_; rcases Nat.lt_or_ge j i with h1 | h1
    · exact hp j h1
    · obtain rfl : j = i := by omega
      exact hg
 rw [List.range_eq_range']
 exact key n 0 N (by omega) hN (fun j hj => absurd hj (by omega))
theorem zhf {R : Type} {g : Nat → Option R} {n : Nat} : (List.range n).findSome? g = none ↔ ∀ i, i < n → g i = none := by
 rw [List.findSome?_eq_none_iff]
 exact ⟨fun h i hi => h i (List.mem_range.2 hi), fun h i hi => h i (List.mem_range.1 hi)⟩
theorem zhe {R : Type} {g : Nat → Option R} {r : R} : ∀ {n : Nat}, (List.range n).findSome? g = some r → ∃ i, i < n ∧ g i = some r ∧ ∀ j, j < i → g j = none
 | 0, h => by simp at h
 | n + 1, h => by
  rw [List.range_succ, List.findSome?_append] at h; cases hn : (List.range n).findSome? g with
  | some r' =>
   rw [hn] at h; obtain ⟨i, h1, h2, h3⟩ := zhe hn; exact ⟨i, by omega, by rw [h2]; exact h, h3⟩
  | none =>
   rw [hn] at h; simp only [List.findSome?_cons, List.findSome?_nil] at h; refine ⟨n, by omega, ?_, zhf.1 hn⟩; cases hg : g n with
   | some x => rw [hg] at h; exact h
   | none => rw [hg] at h; cases h
theorem zrd (b : Bool) (e : Int) : zaz b e = some (cond b e 0) := by cases b <;> rfl
theorem zrc (n lo hi : Int) : zb9 n lo hi = some (inB n lo hi) := by
 unfold zb9 inB
 cases decide (lo ≤ n) <;> rfl
theorem zo6 (N : Nat) (l : List Int) (h : l.length < N) (hl : l.length < 1000000000) : zah N l = some (zg2 l) := by
 unfold zah
 have := zby (f := zah.r0 N) (fun i => (l, (l.length : Int), (i : Int))) (fun i => (l[i]?).bind fun x => if x = 0 then none else some x) l.length
  (fun i hi => by
   have hx := lge hi; simp only [zah.r0, zah.b0, zaw, hx, obs, dct (show (i : Int) < (l.length : Int) by omega), ctr]
   by_cases h0 : l[i] = 0
   · simp only [h0, bsf, cfa, if_true]; rw [w6e]; rfl
   · simp only [h0, if_false]; rw [show (l[i] != 0) = true by simpa using h0]; rfl)
  (by simp only [zah.r0, zah.b0, dcf (show ¬ (l.length : Int) < (l.length : Int) by omega), cfa]) h
 simp only [nc0] at this
 rw [this, zk0, ← zng]
 simp only [obs]
 cases l.findSome? (fun x => if x = 0 then none else some x) <;> rfl
def z1s (c : Int) : Bool := (decide (65 ≤ c) && decide (c ≤ 90)) || (decide (c = 35) || (decide (c = 36) || decide (c = 64)))
def z1p (c : Int) : Bool := (decide (48 ≤ c) && decide (c ≤ 57)) || (decide (c = 95) || decide (c = 46))
def zsu (c i : Int) : Bool := !z1s c && (decide (i = 0) || !z1p c)
def zl5 (s : ByteArray) (i : Nat) : Option Bool := ((bl s)[i]?).bind fun c => if zsu ((c.toNat : Nat) : Int) (i : Int) = true then some false else none
def zpc (s : ByteArray) : Bool := decide (1 ≤ s.size ∧ s.size ≤ 10) && ((List.range s.size).findSome? (zl5 s)).isNone
theorem zxn (s : ByteArray) : s.size = (bl s).length := rfl
theorem z3i (s : ByteArray) (i : Nat) : zgd s (i : Int) = (bl s)[i]? := by
 unfold zgd
 rw [ifp]
 show s.data[i]? = s.data.toList[i]?
 simp
theorem z26 (N : Nat) (hN : 20 < N) (s : ByteArray) : za8 N s = some (zpc s) := by
 unfold za8 zpc
 rw [zjo, zjo, show bl (⟨#[]⟩ : ByteArray) = [] from rfl]
 by_cases h0 : s.size = 0
 · have : bl s = [] := List.eq_nil_of_length_eq_zero (by rw [← zxn]; exact h0); rw [this, dcf (show ¬ (1 ≤ s.size ∧ s.size ≤ 10) by omega)]; rfl
 by_cases h1 : s.size > 10
 · rw [dcf (show ¬ (1 ≤ s.size ∧ s.size ≤ 10) by omega), dct (show (s.size : Int) > 10 by omega)]; cases (bl s == ([] : List UInt8)) <;> rfl
 have hne : (bl s == ([] : List UInt8)) = false := by
  cases hb : (bl s == ([] : List UInt8)) with
  | false => rfl
  | true =>
   have := congrArg List.length (eq_of_beq hb); rw [← zxn] at this; exact absurd this h0
 rw [hne, dcf (show ¬ (s.size : Int) > 10 by omega), dct (show 1 ≤ s.size ∧ s.size ≤ 10 by omega)]
 simp only [cfa, obs, Bool.true_and]
 have hlen : (zd1 s).length = s.size := by unfold zd1; rw [lnm]; rfl
 have l1 := zby (f := za8.r0 N) (fun i => (zd1 s, ((zd1 s).length : Int), (i : Int))) (zl5 s) s.size
  (fun i hi => by
   have hi' : i < (bl s).length := hi; have hx : (zd1 s)[i]? = some (((bl s)[i].toNat : Nat) : Int) := by
    unfold zd1; rw [List.getElem?_map]; show ((bl s)[i]?).map _ = _; rw [lge hi']; rfl
   simp only [za8.r0, za8.b0, hlen, dct (show (i : Int) < (s.size : Int) by omega), ctr, ifp (show (0 : Int) ≤ (i : Int) by omega), ifp (show (i : Int) < (s.size : Int) by omega), itn, hx, obs, zsv, orB, zbk, zl5, lge hi']; rw [w6e]; generalize (((bl s)[i].toNat : Nat) : Int) = c; have e : (!(((decide (65 ≤ c) && decide (c ≤ 90)) || decide (c = 35) || decide (c = 36)) || decide (c = 64)) && (decide ((i : Int) = 0) || !(((decide (48 ≤ c) && decide (c ≤ 57)) || decide (c = 95)) || decide (c = 46)))) = zsu c (i : Int) := by
    unfold zsu z1s z1p; simp only [Bool.or_assoc]
   rw [e]; cases zsu c (i : Int) <;> rfl)
  (by simp only [za8.r0, za8.b0, hlen, dcf (show ¬ (s.size : Int) < (s.size : Int) by omega), cfa]) (N := N) (by omega)
 simp only [nc0] at l1
 rw [l1]
 cases hg : (List.range s.size).findSome? (zl5 s) with
 | none => rfl
 | some r =>
  obtain ⟨i, _, hi, _⟩ := zhe hg; unfold zl5 at hi; rw [Option.bind_eq_some_iff] at hi; obtain ⟨c, _, hc⟩ := hi; split at hc
  · cases hc; rfl
  · cases hc
theorem z22 (N : Nat) (hN : 20 < N) (s : ByteArray) : zbz N s = some (zpc s) := by
 unfold zbz zpc
 rw [zgi, obs]
 by_cases h1 : 1 ≤ s.size ∧ s.size ≤ 10
 · rw [show inB (s.size : Int) 1 10 = true from zc2.2 (by omega), dct h1]; simp only [bnt, cfa, Bool.true_and]; have l1 := zby (f := zbz.r0 N) (fun i => (s, (i : Int))) (zl5 s) s.size
    (fun i hi => by
     have hi' : i < (bl s).length := hi; simp only [zbz.r0, zbz.b0, zid, zie, dct (show (i : Int) < (s.size : Int) by omega), ctr, z3i, lge hi', obs, zsv, orB, zbk, ze8, zl5]; rw [w6e]; generalize (((bl s)[i].toNat : Nat) : Int) = c; have e : (!((((decide (65 ≤ c) && decide (c ≤ 90)) || decide (c = 36)) || decide (c = 35)) || decide (c = 64)) && (decide ((i : Int) = 0) || ((!(decide (48 ≤ c) && decide (c ≤ 57)) && decide (c ≠ 95)) && decide (c ≠ 46)))) = zsu c (i : Int) := by
      unfold zsu z1s z1p; simp only [decide_not, Bool.not_or, Bool.not_and, Bool.or_assoc, Bool.and_assoc]; cases decide (65 ≤ c) <;> cases decide (c ≤ 90) <;> cases decide (c = 36) <;> cases decide (c = 35) <;> simp
     rw [e]; cases zsu c (i : Int) <;> rfl)
    (by simp only [zbz.r0, zbz.b0, dcf (show ¬ (s.size : Int) < (s.size : Int) by omega), cfa]) (N := N) (by omega)
   simp only [nc0] at l1; rw [l1]; cases hg : (List.range s.size).findSome? (zl5 s) with
   | none => rfl
   | some r =>
    obtain ⟨i, _, hi, _⟩ := zhe hg; unfold zl5 at hi; rw [Option.bind_eq_some_iff] at hi; obtain ⟨c, _, hc⟩ := hi; split at hc
    · cases hc; rfl
    · cases hc
 · rw [show inB (s.size : Int) 1 10 = false by
    cases hb : inB (s.size : Int) 1 10 with
    | false => rfl
    | true => have := zc2.1 hb; omega, dcf h1]
   rfl
def gNm (l : List zF) (s : ByteArray) (i : Nat) : Option Int := (l[i]?).bind fun o => if (o.Name.toList == s.toList) = true then some (i : Int) else none
def nmI (l : List zF) (s : ByteArray) : Int := match (List.range l.length).findSome? (gNm l s) with | some i => i | none => -1
theorem zsl (N : Nat) (l : List zF) (h : l.length < N) (hl : l.length < 1000000000) (s : ByteArray) : zdi N l s = some (nmI l s) := by
 unfold zdi zf nmI
 have l1 := zby (f := zf.r0 N) (fun i => (l, (l.length : Int), (i : Int), s)) (gNm l s) l.length
  (fun i hi => by
   have hx := lge hi; simp only [zf.r0, zf.b0, zf3, zaw, hx, obs, dct (show (i : Int) < (l.length : Int) by omega), ctr, gNm]; rw [w6e]; cases (l[i].Name.toList == s.toList) <;> rfl)
  (by simp only [zf.r0, zf.b0, dcf (show ¬ (l.length : Int) < (l.length : Int) by omega), cfa]) h
 simp only [nc0] at l1
 rw [l1]
 cases (List.range l.length).findSome? (gNm l s) <;> rfl
theorem zu9 (N : Nat) (p : zB) (h : p.zA.length < N) (hl : p.zA.length < 1000000000) (s : ByteArray) : zcb N p s = some (nmI p.zA s) := by
 unfold zcb nmI
 have l1 := zby (f := zcb.r0 N) (fun i => (s, (i : Int), p)) (gNm p.zA s) p.zA.length
  (fun i hi => by
   have hx := lge hi; simp only [zcb.r0, zcb.b0, zaw, hx, obs, dct (show (i : Int) < (p.zA.length : Int) by omega), ctr, gNm]; rw [w6e]; cases (p.zA[i].Name.toList == s.toList) <;> rfl)
  (by simp only [zcb.r0, zcb.b0, dcf (show ¬ (p.zA.length : Int) < (p.zA.length : Int) by omega), cfa]) h
 simp only [nc0] at l1
 rw [l1]
 cases (List.range p.zA.length).findSome? (gNm p.zA s) <;> rfl
theorem z1y {l : List zF} {s : ByteArray} {i : Nat} {r : Int} (h : gNm l s i = some r) : r = (i : Int) ∧ ∃ o, l[i]? = some o ∧ (o.Name.toList == s.toList) = true := by
 unfold gNm at h
 rw [Option.bind_eq_some_iff] at h
 obtain ⟨o, h1, h2⟩ := h
 split at h2
 · rename_i h3; cases h2; exact ⟨rfl, o, h1, h3⟩
 · cases h2
theorem zmf (l : List zF) (s : ByteArray) : (nmI l s = -1 ∧ ∀ i, i < l.length → gNm l s i = none) ∨ ∃ i : Nat, nmI l s = (i : Int) ∧ i < l.length ∧ gNm l s i = some (i : Int) ∧ ∀ j, j < i → gNm l s j = none := by
 unfold nmI
 cases hf : (List.range l.length).findSome? (gNm l s) with
 | none => exact .inl ⟨rfl, zhf.1 hf⟩
 | some r =>
  obtain ⟨i, h1, h2, h3⟩ := zhe hf; have := (z1y h2).1; subst this; exact .inr ⟨i, rfl, h1, h2, h3⟩
theorem z5e {l : List zF} {s : ByteArray} {i : Nat} (h1 : i < l.length) (h2 : gNm l s i = some (i : Int)) (h3 : ∀ j, j < i → gNm l s j = none) : nmI l s = (i : Int) := by
 rcases zmf l s with ⟨_, g2⟩ | ⟨k, g1, g2, g3, g4⟩
 · rw [g2 i h1] at h2; cases h2
 · rcases Nat.lt_trichotomy i k with h | h | h
   · rw [g4 i h] at h2; cases h2
   · rw [g1, h]
   · rw [h3 k h] at g3; cases g3
theorem zpm {l : List zF} {s : ByteArray} {n i : Nat} (h : i < n) : gNm (l.take n) s i = gNm l s i := by
 unfold gNm
 rw [List.getElem?_take, ifp h]
theorem zxt (l : List zF) (s : ByteArray) (n : Nat) : nmI (l.take n) s = if nmI l s < (n : Int) then nmI l s else -1 := by
 rcases zmf l s with ⟨g1, g2⟩ | ⟨k, g1, g2, g3, g4⟩
 · rw [g1, ifp]; rcases zmf (l.take n) s with ⟨e1, _⟩ | ⟨k, _, e2, e3, _⟩
   · exact e1
   · rw [lnt] at e2; rw [zpm (by omega), g2 k (by omega)] at e3; cases e3
 · by_cases hk : k < n
   · rw [g1, ifp]; exact z5e (by rw [lnt]; omega) (by rw [zpm hk]; exact g3) (fun j hj => by rw [zpm (by omega)]; exact g4 j hj)
   · rw [g1, ifn]; rcases zmf (l.take n) s with ⟨e1, _⟩ | ⟨k', _, e2, e3, _⟩
     · exact e1
     · rw [lnt] at e2; rw [zpm (by omega), g4 k' (by omega)] at e3; cases e3
theorem zwc {l : List zF} {i : Nat} {o : zF} (h : l[i]? = some o) : 0 ≤ nmI l o.Name ∧ nmI l o.Name ≤ (i : Int) := by
 have hi := (gei h).1
 have hg : gNm l o.Name i = some (i : Int) := by
  unfold gNm; rw [h, obs, ifp (bst _)]
 rcases zmf l o.Name with ⟨_, g2⟩ | ⟨k, g1, g2, g3, g4⟩
 · rw [g2 i hi] at hg; cases hg
 · have : ¬ i < k := fun hlt => by rw [g4 i hlt] at hg; cases hg
   omega
def isS (k : Int) : Bool := (decide (k = 0) || decide (k = 1)) || decide (k = 2)
def isD (k : Int) : Bool := isS k || decide (k = 4)
theorem zqm (o : zF) : zcz o = some (isD o.Kind) := by
 unfold zcz isD isS
 simp only [orB, zbk, obs]
theorem zru (k : Int) : zdl k = some (isS k) := by
 unfold zdl isS
 simp only [orB, zbk, obs]
theorem zun (k : Int) : zd3 k = some (isD k) := by
 unfold zd3 isD
 rw [zru]
 simp only [orB, zbk, obs]
theorem zye (a b : ByteArray) : (a.toList == b.toList) = decide (a = b) := by
 rw [zjo, zjo]
 by_cases h : a = b
 · subst h; rw [dct rfl]; exact bst _
 · rw [dcf h]; refine beq_eq_false_iff_ne.2 fun hh => h ?_; obtain ⟨⟨a⟩⟩ := a; obtain ⟨⟨b⟩⟩ := b; have : a = b := hh; rw [this]
def e0 : ByteArray := ⟨#[]⟩
def noV (o : zF) : Bool := decide (o.Value.N = 0) && decide (o.Value.S = e0)
def noB (o : zF) : Bool := decide (o.Base = e0) && decide (o.Offset = 0)
def noT (o : zF) : Bool := decide (o.zJ.Kind = 0) && (decide (o.zJ.Length = 0) && decide (o.zJ.Scale = 0))
def zmt (o : zF) : Bool :=
 if o.Kind = 0 ∨ o.Kind = 4 then !noB o || !decide (o.Target = 0)
 else if o.Kind = 1 ∨ o.Kind = 2 then !noV o || !decide (o.Target = 0)
 else if o.Kind = 3 then !noT o || (!noV o || (!noB o || !decide (o.Target = 0)))
 else !noT o || (!noV o || !noB o)
theorem zti {k : Int} (h : inB k 0 5 = true) : k = 0 ∨ k = 1 ∨ k = 2 ∨ k = 3 ∨ k = 4 ∨ k = 5 := by
 have := zc2.1 h
 omega
theorem z5l (a : Int) : decide (0 = a) = decide (a = 0) := by
 by_cases h : a = 0
 · rw [dct h, dct h.symm]
 · rw [dcf h, dcf fun e => h e.symm]
theorem z5n (a : ByteArray) : decide ((⟨#[]⟩ : ByteArray) = a) = decide (a = e0) := by
 by_cases h : a = e0
 · rw [dct h, dct (show (⟨#[]⟩ : ByteArray) = a from h.symm)]
 · rw [dcf h, dcf fun e => h e.symm]
theorem z27 {o : zF} (h : inB o.Kind 0 5 = true) : ∃ k, zf4 o = some k ∧ (!(zel [(k.Name == o.Name), (k.Kind == o.Kind), (k.zJ.Kind == o.zJ.Kind), (k.zJ.Length == o.zJ.Length), (k.zJ.Scale == o.zJ.Scale), (k.Value.N == o.Value.N), (k.Value.S == o.Value.S), (k.Base == o.Base), (k.Offset == o.Offset), (k.Target == o.Target)])) = zmt o := by
 obtain ⟨nm, kd, ty, v, bs, off, tg⟩ := o
 have hk := zti h
 simp only at hk
 rcases hk with rfl | rfl | rfl | rfl | rfl | rfl
 all_goals
  refine ⟨_, rfl, ?_⟩; simp only [zel, zmt, noV, noB, noT, zbk, z4k, z5l, z5n]; simp [Bool.and_assoc, Bool.or_assoc]
  try congr
theorem zz1 {o : zF} (h : inB o.Kind 0 5 = true) : zfw o = some (zmt o) := by
 obtain ⟨nm, kd, ty, v, bs, off, tg⟩ := o
 have hk := zti h
 simp only at hk
 unfold zfw
 simp only [zye]
 rcases hk with rfl | rfl | rfl | rfl | rfl | rfl
 all_goals
  simp only [zel, zmt, noV, noB, noT, zbk, ze8, z4k, zye, orB, zsv, obs]; simp [e0, Bool.and_assoc, Bool.or_assoc]
  try congr
def zkd (t : DataType) : Int := ((10 ^ t.Length.toNat : Nat) : Int) - 1
def zh2 (t : DataType) (v : Value) : Int :=
 if t.Kind = 0 then (if v.N ≠ 0 then 5 else if (v.S.size : Int) ≠ t.Length then 18 else 0)
 else (if v.S ≠ e0 then 5 else if inB v.N (-zkd t) (zkd t) = true then 0 else 19)
theorem zwa {t : DataType} (h : zc7 t = 0) (h0 : t.Kind ≠ 0) (h4 : t.Kind ≠ 4) : zn0 t := by
 rcases zj3 h with ⟨k, _⟩ | ⟨k | k, _⟩ | ⟨k, _⟩ | ⟨k, _⟩
 · exact absurd k h0
 · exact ⟨h, by omega, by omega⟩
 · exact ⟨h, by omega, by omega⟩
 · exact ⟨h, by omega, by omega⟩
 · exact absurd k h4
theorem zuu {t : DataType} (h : zn0 t) : w6 (((10 ^ t.Length.toNat : Nat) : Int) - 1) = zkd t ∧ w6 (0 - zkd t) = -zkd t ∧ 0 ≤ zkd t := by
 obtain ⟨⟨l1, l2⟩, _⟩ := zhh h
 have hp : 10 ^ t.Length.toNat ≤ 10 ^ 15 := zjm (by omega)
 have hp2 := zuq t.Length.toNat
 unfold zkd
 exact ⟨w6e, by rw [w6e]; omega, by omega⟩
theorem z1r (N : Nat) (hN : 100 < N) {t : DataType} (ht : zc7 t = 0) (h4 : t.Kind ≠ 4) (v : Value) : zar N t v = some (zh2 t v) := by
 have f2 : ∀ a b : Int, zk N [a, b] = some (zg2 [a, b]) := fun a b => zsm N _ (by simp; omega) (by simp)
 unfold zar zh2
 rw [zod N (by omega), ht]
 simp only [obs, zre, f2, zbk, dcf h4, cfa]
 rw [show zg2 [0, 0] = 0 from rfl]
 simp only [bsf, cfa]
 by_cases h0 : t.Kind = 0
 · rw [ifp h0, dct h0]; simp only [ctr, ze8]; rw [zqt _ _ _ _ (by decide) (by decide)]
   by_cases h1 : v.N ≠ 0
   · rw [ifp h1, dct h1]; rfl
   · rw [ifn h1, dcf h1]
     by_cases h2 : (v.S.size : Int) ≠ t.Length
     · rw [ifp h2, dct h2]; rfl
     · rw [ifn h2, dcf h2]; rfl
 · have hn := zwa ht h0 h4; obtain ⟨⟨l1, l2⟩, _⟩ := zhh hn; obtain ⟨m1, m2, m3⟩ := zuu hn; rw [ifn h0, dcf h0]; simp only [cfa]; have := zwb N (by omega) t.Length.toNat (by omega); rw [show ((t.Length.toNat : Nat) : Int) = t.Length by omega] at this; rw [this]; simp only [obs, zys, m1, m2, zye]; rw [zqt _ _ _ _ (by decide) (by decide)]
   by_cases h1 : v.S = e0
   · rw [ifn (fun h => h h1), dct (show v.S = (⟨#[]⟩ : ByteArray) from h1)]; cases hb : inB v.N (-zkd t) (zkd t) <;> rfl
   · rw [ifp h1, dcf (show ¬ v.S = (⟨#[]⟩ : ByteArray) from h1)]; rfl
theorem z1c (N : Nat) (hN : 100 < N) {t : DataType} (ht : zc7 t = 0) (h4 : t.Kind ≠ 4) (v : Value) : ze7 N t v = some (zh2 t v) := by
 unfold ze7 zh2
 rw [zxq, ht]
 simp only [obs, zbk, ze8, dcf h4, cfa, bsf, zye]
 by_cases h0 : t.Kind = 0
 · rw [ifp h0, dct h0]; simp only [ctr, obs, dcf (show ¬ t.Kind ≠ 0 from fun h => h h0), cfa]
   by_cases h1 : v.N ≠ 0
   · rw [ifp h1, dct h1]; rfl
   · rw [ifn h1, dcf h1]; simp only [cfa, obs, zmj]
     by_cases h2 : (v.S.size : Int) ≠ t.Length
     · rw [ifp h2, dct h2]; rfl
     · rw [ifn h2, dcf h2]; rfl
 · have hn := zwa ht h0 h4; obtain ⟨⟨l1, l2⟩, _⟩ := zhh hn; obtain ⟨m1, m2, m3⟩ := zuu hn; rw [ifn h0, dcf h0]; simp only [ctr, cfa, obs, dct (show t.Kind ≠ 0 from h0)]; have := z1d N (by omega) t.Length.toNat (by omega); rw [show ((t.Length.toNat : Nat) : Int) = t.Length by omega] at this; unfold zij; rw [this]; simp only [obs, zgi, zmj, m1, m2]
   by_cases h1 : v.S = e0
   · rw [ifn (fun h => h h1), dct (show v.S = (⟨#[]⟩ : ByteArray) from h1)]; cases hb : inB v.N (-zkd t) (zkd t) <;> rfl
   · rw [ifp h1, dcf (show ¬ v.S = (⟨#[]⟩ : ByteArray) from h1)]; rfl
def znp (ops : List zF) (i : Int) (o : zF) : Int :=
 if nmI ops o.Base < 0 ∨ i ≤ nmI ops o.Base then 11
 else match ops[(nmI ops o.Base).toNat]? with
  | none => 0
  | some b => if o.Kind = 2 then (if b.Kind ≠ 3 then 17 else if inB o.Offset 0 256 = true then 0 else 3)
   else if b.Kind ≠ 0 then 17 else if inB o.Offset 0 (szE b.zJ - szE o.zJ) = true then 0 else 3
def zm5 (p : zB) (i : Int) (o : zF) : Int :=
 if o.Kind = 0 ∨ o.Kind = 4 then zh2 o.zJ o.Value
 else if o.Kind = 1 ∨ o.Kind = 2 then znp p.zA i o
 else if o.Kind = 5 then (if inB o.Target 0 ((p.zG.length : Int) - 1) = true then 0 else 3)
 else 0
def opE (p : zB) (i : Nat) : Int :=
 match p.zA[i]? with
 | none => 0
 | some o => if zpc o.Name = false then 7 else if nmI p.zA o.Name < (i : Int) then 13 else if inB o.Kind 0 5 = false then 4 else if zmt o = true then 5
  else if isD o.Kind = true ∧ zc7 o.zJ ≠ 0 then zc7 o.zJ else if isD o.Kind = true ∧ o.zJ.Kind = 4 then 17 else zm5 p i o
structure OpV (p : zB) (i : Nat) (o : zF) : Prop where
 kind : 0 ≤ o.Kind ∧ o.Kind ≤ 5
 own : nmI p.zA o.Name = (i : Int)
 ty : isD o.Kind = true → zc7 o.zJ = 0 ∧ o.zJ.Kind ≠ 4
 val : o.Kind = 0 ∨ o.Kind = 4 → zh2 o.zJ o.Value = 0
 base : o.Kind = 1 ∨ o.Kind = 2 → znp p.zA i o = 0
 tg : o.Kind = 5 → 0 ≤ o.Target ∧ o.Target < (p.zG.length : Int)
theorem z1q {p : zB} {i : Nat} {o : zF} (ho : p.zA[i]? = some o) (h : opE p i = 0) : OpV p i o := by
 unfold opE at h
 rw [ho] at h
 simp only at h
 obtain ⟨n1, n2⟩ := zwc ho
 split at h
 · cases h
 split at h
 · cases h
 split at h
 · cases h
 split at h
 · cases h
 rename_i h1 h2 h3 h4
 have hk := zti (show inB o.Kind 0 5 = true by simpa using h3)
 split at h
 · rename_i h5; exact absurd h h5.2
 split at h
 · cases h
 rename_i h5 h6
 refine { kind := by omega, own := by omega, ty := fun hd => ⟨cbc fun hh => h5 ⟨hd, hh⟩, fun hh => h6 ⟨hd, hh⟩⟩, val := fun hv => ?_, base := fun hv => ?_, tg := fun hv => ?_ }
 · unfold zm5 at h; rw [ifp hv] at h; exact h
 · unfold zm5 at h; rw [ifn, ifp hv] at h; exact h
 · unfold zm5 at h; rw [ifn, ifn, ifp hv] at h; split at h
   · rename_i hh; have := zc2.1 hh; omega
   · cases h
theorem zt5 (N : Nat) (hN : 10 < N) {o : zF} (h : zc7 o.zJ = 0) : zen N o = some (szE o.zJ) := by
 unfold zen zeh
 rw [zod N hN, h]
 simp [zt6 h]
theorem z4i (a : Int) (b : Bool) : zg2 [a, cond b 17 0] = if a = 0 then cond b 17 0 else a := by
 show (if a = 0 then zg2 [cond b 17 0] else a) = _
 cases b <;> rfl
theorem z1u (o : zF) : ∃ k, zf4 o = some k := by
 unfold zf4
 rw [zqm]
 simp only [obs]
 cases isD o.Kind <;> cases (o.Kind == 0) <;> cases (o.Kind == 4) <;> cases (o.Kind == 1) <;> cases (o.Kind == 2) <;> cases (o.Kind == 5) <;> exact ⟨_, rfl⟩
structure Upto (p : zB) (i : Nat) : Prop where
 ops : p.zA.length ≤ 1000
 ins : p.zG.length ≤ 1000000
 ok : ∀ j, j < i → opE p j = 0
theorem zwd (l : List zF) (s : ByteArray) : nmI l s = -1 ∨ (0 ≤ nmI l s ∧ nmI l s < (l.length : Int) ∧ ∃ o, l[(nmI l s).toNat]? = some o) := by
 rcases zmf l s with ⟨h, _⟩ | ⟨k, h1, h2, _⟩
 · exact .inl h
 · rw [h1]; exact .inr ⟨by omega, by omega, _, lge h2⟩
theorem zx4 {p : zB} {i : Nat} (hu : Upto p i) {n : Int} (h0 : 0 ≤ n) (h1 : n < (i : Int)) {b : zF} (hb : p.zA[n.toNat]? = some b) (hk : b.Kind = 0) : zc7 b.zJ = 0 := by
 have := z1q hb (hu.ok n.toNat (by omega))
 exact (this.ty (by rw [hk]; rfl)).1
theorem zvi {a b : DataType} (ha : zc7 a = 0) (hb : zc7 b = 0) : w6 (szE a - szE b) = szE a - szE b := by
 have h1 := zfv ha
 have h2 := zfv hb
 exact w6e
theorem z4t (l : List zF) (i : Nat) : (l.take ((i : Int)).toNat).drop (0 : Int).toNat = l.take i := rfl
theorem zxs (N : Nat) (hN : 1100 < N) {p : zB} {i : Nat} (hu : Upto p i) {o : zF} (ht : zc7 o.zJ = 0) (hk : o.Kind = 1 ∨ o.Kind = 2) : zeo N o (p.zA.take i) = some (znp p.zA i o) := by
 have hl := hu.ops
 unfold zeo znp
 rw [zsl N _ (by rw [lnt]; omega) (by rw [lnt]; omega), zxt]
 simp only [obs]
 by_cases hc : nmI p.zA o.Base < 0 ∨ (i : Int) ≤ nmI p.zA o.Base
 · rw [ifp hc]; rw [dct (by split <;> omega)]; rfl
 · rw [ifn hc, ifp, dcf (by omega)]; obtain ⟨b, hb⟩ : ∃ b, p.zA[(nmI p.zA o.Base).toNat]? = some b := by
    rcases zwd p.zA o.Base with h | ⟨_, _, h⟩
    · omega
    · exact h
   have hx : idx (p.zA.take i) (nmI p.zA o.Base) = some b := by
    unfold idx; rw [ifp, List.getElem?_take, ifp, hb]
   rw [hx, hb]; simp only [cfa, obs, zrd, zrc, zbk, ze8]
   by_cases h2 : o.Kind = 2
   · rw [ifp h2, dct h2]; simp only [ctr]; rw [zo6 N _ (by simp; omega) (by simp), zqt _ _ _ _ (by decide) (by decide)]
     by_cases h3 : b.Kind ≠ 3
     · rw [ifp h3, dct h3]; rfl
     · rw [ifn h3, dcf h3]; cases inB o.Offset 0 256 <;> rfl
   · rw [ifn h2, dcf h2]; simp only [cfa]
     by_cases h3 : b.Kind ≠ 0
     · rw [ifp h3, dct h3]; rfl
     · rw [ifn h3, dcf h3]; have hbt := zx4 hu (by omega) (by omega) hb (by omega); simp only [cfa]; rw [zt5 N (by omega) hbt, zt5 N (by omega) ht]; simp only [obs]; rw [zvi hbt ht]; cases inB o.Offset 0 (szE b.zJ - szE o.zJ) <;> rfl
theorem zxr (N : Nat) (hN : 1100 < N) {p : zB} {i : Nat} (hu : Upto p i) {o : zF} (ht : zc7 o.zJ = 0) (hk : o.Kind = 1 ∨ o.Kind = 2) :
 ((cond (nmI p.zA o.Base == (-1)) (some true) (some (decide (nmI p.zA o.Base ≥ (i : Int))))).bind fun g12 => cond g12 (some (11 : Int)) ((idx p.zA (nmI p.zA o.Base)).bind fun x13 =>
 (cond (o.Kind == 1) (some (x13.Kind != 0)) (some false)).bind fun g14 => (cond g14 (some true) ((cond (o.Kind == 2) (some (x13.Kind != 3)) (some false)).bind fun g15 =>
 some g15)).bind fun g16 => cond g16 (some 17) (cond (o.Kind == 1) ((zco x13.zJ).bind fun r17 => (zco o.zJ).bind fun r18 =>
 (zh o.Offset 0 (w6 (r17 - r18))).bind fun r19 => cond (!r19) (some 3) (some 0)) ((zh o.Offset 0 256).bind fun r20 => cond (!r20) (some 3)
 (some 0))))) = some (znp p.zA i o) := by
 have hl := hu.ops
 unfold znp
 rcases zwd p.zA o.Base with h | ⟨n0, n1, b, hb⟩
 · rw [h, ifp]; rfl
 · rw [zbk, dcf (by omega)]; simp only [cfa, obs]
   by_cases hc : (i : Int) ≤ nmI p.zA o.Base
   · rw [ifp (.inr hc), dct (show nmI p.zA o.Base ≥ (i : Int) from hc)]; rfl
   · rw [ifn, dcf (show ¬ nmI p.zA o.Base ≥ (i : Int) from hc)]; have hx : idx p.zA (nmI p.zA o.Base) = some b := by
      unfold idx; rw [ifp n0, hb]
     rw [hx, hb]; simp only [cfa, obs, zgi, zbk, ze8, orB, zsv]
     by_cases h2 : o.Kind = 2
     · rw [ifp h2, dct h2, dcf (show ¬ o.Kind = 1 by omega)]; simp only [Bool.false_and, Bool.false_or, Bool.true_and, cfa]
       by_cases h3 : b.Kind ≠ 3
       · rw [ifp h3, dct h3]; rfl
       · rw [ifn h3, dcf h3]; cases inB o.Offset 0 256 <;> rfl
     · rw [ifn h2, dcf h2, dct (show o.Kind = 1 by omega)]; simp only [Bool.false_and, Bool.or_false, Bool.true_and, ctr]
       by_cases h3 : b.Kind ≠ 0
       · rw [ifp h3, dct h3]; rfl
       · rw [ifn h3, dcf h3]; have hbt := zx4 hu n0 (by omega) hb (by omega); simp only [cfa]; rw [zoa hbt, zoa ht]; simp only [obs, zgi]; rw [zvi hbt ht]; cases inB o.Offset 0 (szE b.zJ - szE o.zJ) <;> rfl
theorem zyz {p : zB} {i : Nat} (hu : Upto p i) : w6 ((p.zG.length : Int) - 1) = (p.zG.length : Int) - 1 := by
 have := hu.ins
 exact w6e
theorem z5c (N : Nat) (hN : 1100 < N) {p : zB} {i : Nat} (hu : Upto p i) (hi : i < p.zA.length) : zef N p (i : Int) = some (opE p i) := by
 have hl := hu.ops
 have hx := lge hi
 unfold zef opE
 rw [zaw, hx]
 generalize p.zA[i] = o at hx ⊢
 obtain ⟨n0, n1⟩ := zwc hx
 simp only [obs]
 rw [ifp, ifp]
 simp only [z4t]
 rw [z26 N (by omega), zsl N _ (by rw [lnt]; omega) (by rw [lnt]; omega), zxt]
 simp only [obs, zrd, zrc]
 obtain ⟨k, hk⟩ := z1u o
 rw [hk]
 simp only [obs]
 rw [zo6 N _ (by simp; omega) (by simp)]
 simp only [obs]
 cases hnm : zpc o.Name with
 | false => rfl
 | true =>
  by_cases hd : nmI p.zA o.Name < (i : Int)
  · rw [ifp hd, dct (show nmI p.zA o.Name ≥ 0 from n0)]; simp only [Bool.true_eq_false, if_false, ifp hd]; rfl
  · rw [ifn hd, dcf (show ¬ (-1 : Int) ≥ 0 by decide)]; simp only [Bool.true_eq_false, if_false, ifn hd]; cases hkd : inB o.Kind 0 5 with
    | false => rfl
    | true =>
     obtain ⟨k', hk1, hk2⟩ := z27 hkd; rw [hk] at hk1; cases hk1; rw [hk2]; cases hex : zmt o with
     | true => rfl
     | false =>
      rw [show zg2 [cond (!true) 7 0, cond false 13 0, cond (!true) 4 0, cond false 5 0] = 0 from rfl]; simp only [bsf, cfa, Bool.true_eq_false, Bool.false_eq_true, if_false, zqm, obs]; have hks := zti hkd; cases hdt : isD o.Kind with
      | true =>
       simp only [ctr]; rw [zod N (by omega)]; simp only [obs, true_and]; rw [zo6 N _ (by simp; omega) (by simp)]; simp only [obs, z4i]
       by_cases ht : zc7 o.zJ = 0
       · rw [ifp ht, ifn (fun h => h ht)]
         by_cases h4 : o.zJ.Kind = 4
         · rw [ifp h4, zbk, dct h4]; rfl
         · rw [ifn h4, zbk, dcf h4]; simp only [cfa, bsf]; rw [z1r N (by omega) ht h4]; unfold zm5; rcases hks with h | h | h | h | h | h
           · rw [h]; rfl
           · rw [zxs N hN hu ht (.inl h), ifn, ifp (.inl h), h]; rfl
           · rw [zxs N hN hu ht (.inr h), ifn, ifp (.inr h), h]; rfl
           · rw [h] at hdt; cases hdt
           · rw [h]; rfl
           · rw [h] at hdt; cases hdt
       · rw [ifn ht, ifp ht, ze8, dct ht]; rfl
      | false =>
       simp only [cfa, Bool.false_eq_true, false_and, if_false]; unfold zm5; rcases hks with h | h | h | h | h | h
       · rw [h] at hdt; cases hdt
       · rw [h] at hdt; cases hdt
       · rw [h] at hdt; cases hdt
       · rw [h]; rfl
       · rw [h] at hdt; cases hdt
       · rw [h, zyz hu]; cases inB o.Target 0 ((p.zG.length : Int) - 1) <;> rfl
theorem z40 (N : Nat) (hN : 1100 < N) {p : zB} {i : Nat} (hu : Upto p i) (hi : i < p.zA.length) : ze6 N p (i : Int) = some (opE p i) := by
 have hl := hu.ops
 have hx := lge hi
 unfold ze6 opE
 rw [zaw, hx]
 generalize p.zA[i] = o at hx ⊢
 obtain ⟨n0, n1⟩ := zwc hx
 simp only [obs]
 rw [z22 N (by omega)]
 simp only [obs]
 cases hnm : zpc o.Name with
 | false => rfl
 | true =>
  simp only [bnt, cfa, Bool.true_eq_false, if_false]; rw [zu9 N p (by omega) (by omega)]; simp only [obs]
  by_cases hd : nmI p.zA o.Name < (i : Int)
  · rw [dct hd, ifp hd]; rfl
  · rw [dcf hd, ifn hd]; simp only [cfa, zgi, obs]; cases hkd : inB o.Kind 0 5 with
    | false => rfl
    | true =>
     rw [zz1 hkd]; simp only [bnt, cfa, obs, Bool.true_eq_false, if_false]; cases hex : zmt o with
     | true => rfl
     | false =>
      simp only [cfa, Bool.false_eq_true, if_false, zun, obs]; have hks := zti hkd; rw [zu9 N p (by omega) (by omega)]; cases hdt : isD o.Kind with
      | true =>
       simp only [ctr, true_and, zxq, obs]
       by_cases ht : zc7 o.zJ = 0
       · rw [ifn (fun h => h ht), ze8, dcf (fun h => h ht)]; simp only [cfa]
         by_cases h4 : o.zJ.Kind = 4
         · rw [ifp h4, zbk, dct h4]; rfl
         · rw [ifn h4, zbk, dcf h4]; simp only [cfa]; rw [z1c N (by omega) ht h4]; unfold zm5; rcases hks with h | h | h | h | h | h
           · rw [h]; rfl
           · have hb := zxr N hN hu ht (.inl h); simp only [zgi, obs] at hb; rw [ifn, ifp (.inl h), ← hb, h]; rfl
           · have hb := zxr N hN hu ht (.inr h); simp only [zgi, obs] at hb; rw [ifn, ifp (.inr h), ← hb, h]; rfl
           · rw [h] at hdt; cases hdt
           · rw [h]; rfl
           · rw [h] at hdt; cases hdt
       · rw [ifp ht, ze8, dct ht]; rfl
      | false =>
       simp only [cfa, Bool.false_eq_true, false_and, if_false, obs]; unfold zm5; rcases hks with h | h | h | h | h | h
       · rw [h] at hdt; cases hdt
       · rw [h] at hdt; cases hdt
       · rw [h] at hdt; cases hdt
       · rw [h]; rfl
       · rw [h] at hdt; cases hdt
       · rw [h, zyz hu]; cases inB o.Target 0 ((p.zG.length : Int) - 1) <;> rfl
def zh9 (o : zF) : Bool := decide (o.zJ.Kind ≠ 0)
def zls (o b : zF) (c : Int) : Bool :=
 if c = 0 then isS o.Kind else if c = 1 then isD o.Kind else if c = 2 then isS o.Kind && zh9 o else if c = 3 then isD o.Kind && zh9 o
 else if c = 4 then isD o.Kind && (zh9 o == zh9 b) else if c = 5 then decide (o.Kind = 3) else decide (o.Kind = 5)
theorem z1v (k : Int) : (isD k && !decide (k = 4)) = isS k := by
 unfold isD
 by_cases h : k = 4
 · subst h; rfl
 · rw [dcf h]; simp
theorem z28 (o b : zF) {c : Int} (hc : 0 ≤ c ∧ c ≤ 6) : zg0 o b c = some (zls o b c) := by
 have h : c = 0 ∨ c = 1 ∨ c = 2 ∨ c = 3 ∨ c = 4 ∨ c = 5 ∨ c = 6 := by omega
 unfold zg0
 rw [zqm]
 simp only [zdu, zbk, ze8, obs]
 have hs := z1v o.Kind
 unfold zls zh9
 rcases h with rfl | rfl | rfl | rfl | rfl | rfl | rfl
 · rw [← hs]; simp only [if_true]; cases isD o.Kind <;> cases decide (o.Kind = 4) <;> rfl
 · rw [ifn (by decide), ifp rfl]; cases isD o.Kind <;> rfl
 · rw [← hs, ifn (by decide), ifn (by decide), ifp rfl]; cases isD o.Kind <;> cases decide (o.Kind = 4) <;> cases decide (o.zJ.Kind ≠ 0) <;> rfl
 · rw [ifn (by decide), ifn (by decide), ifn (by decide), ifp rfl]; cases isD o.Kind <;> cases decide (o.zJ.Kind ≠ 0) <;> rfl
 · rw [ifn (by decide), ifn (by decide), ifn (by decide), ifn (by decide), ifp rfl]; cases isD o.Kind <;> cases decide (o.zJ.Kind ≠ 0) <;> cases decide (b.zJ.Kind ≠ 0) <;> rfl
 · rw [ifn (by decide), ifn (by decide), ifn (by decide), ifn (by decide), ifn (by decide), ifp rfl]; rfl
 · rw [ifn (by decide), ifn (by decide), ifn (by decide), ifn (by decide), ifn (by decide), ifn (by decide)]; rfl
def zsx : zF := ⟨⟨#[]⟩, 0, ⟨0, 0, 0⟩, ⟨0, ⟨#[]⟩⟩, ⟨#[]⟩, 0, 0⟩
def zkk (p : zB) (x : zK) : Nat → zF
 | 0 => zsx
 | k + 1 => p.zA.getD ((x.Args.getD k 0).toNat) zsx
def zfq (op : Int) : List Int := zne.getD op.toNat []
def gA (p : zB) (x : zK) (i : Nat) : Option Int :=
 (x.Args[i]?).bind fun a => if inB a 0 ((p.zA.length : Int) - 1) = true then (match p.zA[a.toNat]?, (zfq x.Op)[i]? with | some o, some c => if zls o (zkk p x i) c = true then none else some 17 | _, _ => none) else some 3
def zph (p : zB) (x : zK) : Int :=
 if inB x.Op 0 18 = false then 4 else if (x.Args.length : Int) ≠ ((zfq x.Op).length : Int) then 37
 else match (List.range x.Args.length).findSome? (gA p x) with | some e => e | none => 0
theorem zz9 {k : Int} (h : inB k 0 18 = true) : ∃ n : Nat, k = (n : Int) ∧ n < 19 := by
 have := zc2.1 h
 exact ⟨k.toNat, by omega, by omega⟩
theorem z3w : ((List.range 19).all fun n => (match zne[n]? with | some l => l.all (fun c => decide (0 ≤ c) && decide (c ≤ 6)) && (decide (l.length ≤ 3) && ((List.range l.length).all fun i => !(l.getD i 0 == 4) || (i == 1 && (l.getD 0 9 == 0 || l.getD 0 9 == 1)))) | none => false)) = true := by kernel_rfl
def zt1 (c : Int) : Int := if c = 1 then 2 else if c = 2 then 1 else c
theorem z20 : ((List.range 19).all fun n => match zgq (n : Int) with | some l => l == (zfq (n : Int)).map zt1 | none => false) = true := by kernel_rfl
theorem zu1 {k : Int} (h : inB k 0 18 = true) : idx zne k = some (zfq k) ∧ (zfq k).length ≤ 3 ∧ (∀ (i : Nat) (c : Int), (zfq k)[i]? = some c → (0 ≤ c ∧ c ≤ 6) ∧ (c = 4 → i = 1 ∧ ∃ d, (zfq k)[0]? = some d ∧ (d = 0 ∨ d = 1))) ∧ zgq k = some ((zfq k).map zt1) := by
 obtain ⟨n, rfl, hn⟩ := zz9 h
 have h1 := List.all_eq_true.1 z3w n (List.mem_range.2 hn)
 have h2 := List.all_eq_true.1 z20 n (List.mem_range.2 hn)
 have hlt : n < zne.length := hn
 have hg : zne[n]? = some (zfq (n : Int)) := by
  unfold zfq; rw [itn, gdd, lge hlt]; rfl
 rw [hg] at h1
 simp only [Bool.and_eq_true, List.all_eq_true, decide_eq_true_eq, List.mem_range, Bool.or_eq_true, Bool.not_eq_true', beq_iff_eq, beq_eq_false_iff_ne] at h1
 obtain ⟨a1, a2, a3⟩ := h1
 refine ⟨by rw [zaw, hg], a2, fun i c hc => ⟨a1 c (lmg hc), fun h4 => ?_⟩, ?_⟩
 · have hi := (gei hc).1; have e : (zfq (n : Int)).getD i 0 = c := by rw [gdd, hc]; rfl
   rcases a3 i hi with h | ⟨h5, h6⟩
   · rw [e] at h; exact absurd h4 h
   · refine ⟨h5, ?_⟩; have h0 : 0 < (zfq (n : Int)).length := by omega
     refine ⟨_, lge h0, ?_⟩; rw [gdd, lge h0] at h6; exact h6
 · cases hr : zgq (n : Int) with
   | none => rw [hr] at h2; cases h2
   | some l =>
    rw [hr] at h2; rw [eq_of_beq h2]
theorem z4a {p : zB} {i : Nat} (hu : Upto p i) : w6 ((p.zA.length : Int) - 1) = (p.zA.length : Int) - 1 := by
 have := hu.ops
 exact w6e
theorem zw3 {p : zB} {a : Int} (h : inB a 0 ((p.zA.length : Int) - 1) = true) : ∃ o, p.zA[a.toNat]? = some o ∧ idx p.zA a = some o := by
 have := zc2.1 h
 refine ⟨_, lge (by omega), ?_⟩
 unfold idx
 rw [ifp, lge]
theorem z38 (N : Nat) (hN : 1100 < N) {p : zB} {i : Nat} (hu : Upto p i) (x : zK) : zw N p x = some (zph p x) := by
 unfold zw zph
 rw [zrc]
 simp only [obs]
 cases hop : inB x.Op 0 18 with
 | false => rfl
 | true =>
  obtain ⟨t1, t2, t3, _⟩ := zu1 hop; rw [t1]; simp only [bnt, cfa, obs, ze8, Bool.true_eq_false, if_false]
  by_cases hl : (x.Args.length : Int) ≠ ((zfq x.Op).length : Int)
  · rw [ifp hl, dct hl]; rfl
  · rw [ifn hl, dcf hl]; simp only [cfa]; have l1 := zl4 (f := zw.r0 N) (fun i => (x.Args, (x.Args.length : Int), (i : Int), p, x, zkk p x i)) (gA p x) x.Args.length
     (fun i hi hp => by
      have hx := lge hi; have hi2 : i < (zfq x.Op).length := by omega
      have hc := lge hi2; simp only [zw.r0, zw.b0, zaw, hx, obs, dct (show (i : Int) < (x.Args.length : Int) by omega), ctr, z4a hu, zrc, gA, t1, hc]; cases hin : inB x.Args[i] 0 ((p.zA.length : Int) - 1) with
      | false => rfl
      | true =>
       obtain ⟨o, ho, ho2⟩ := zw3 hin; simp only [bnt, cfa, ho, ho2, obs, if_true]; rw [z28 _ _ (t3 i _ hc).1]; simp only [obs]; cases zls o (zkk p x i) (zfq x.Op)[i] with
       | false => rfl
       | true =>
        simp only [bnt, cfa, if_true]; rw [w6e]; rw [show zkk p x (i + 1) = o by
         show p.zA.getD ((x.Args.getD i 0).toNat) zsx = o; rw [gdd (l := x.Args), hx, Option.getD_some, gdd, ho]; rfl]
        rfl)
     (fun _ => by simp only [zw.r0, zw.b0, dcf (show ¬ (x.Args.length : Int) < (x.Args.length : Int) by omega), cfa]) (N := N) (by omega)
    simp only [nc0] at l1; rw [show (⟨(⟨#[]⟩ : ByteArray), 0, (⟨0, 0, 0⟩ : DataType), (⟨0, (⟨#[]⟩ : ByteArray)⟩ : Value), (⟨#[]⟩ : ByteArray), 0, 0⟩ : zF) = zkk p x 0 from rfl, l1]; cases (List.range x.Args.length).findSome? (gA p x) <;> rfl
theorem z0b {p : zB} {j : Nat} {o : zF} (ho : p.zA[j]? = some o) (h : opE p j = 0) (hd : isD o.Kind = true) : inB o.zJ.Kind 1 3 = zh9 o := by
 obtain ⟨h1, h2⟩ := (z1q ho h).ty hd
 unfold zh9
 rcases zj3 h1 with ⟨k, _⟩ | ⟨k | k, _⟩ | ⟨k, _⟩ | ⟨k, _⟩
 · rw [k]; rfl
 · rw [k]; rfl
 · rw [k]; rfl
 · rw [k]; rfl
 · exact absurd k h2
theorem z1e (N : Nat) (hN : 1100 < N) {p : zB} (hu : Upto p p.zA.length) (x : zK) : zaa N p x = some (zph p x) := by
 have hol := hu.ops
 unfold zaa zph
 rw [zgi]
 simp only [obs]
 cases hop : inB x.Op 0 18 with
 | false => rfl
 | true =>
  obtain ⟨t1, t2, t3, t4⟩ := zu1 hop; rw [t4]; simp only [bnt, cfa, obs, ze8, Bool.true_eq_false, if_false, lnm]
  by_cases hl : (x.Args.length : Int) ≠ ((zfq x.Op).length : Int)
  · rw [ifp hl, dct hl]; rfl
  · rw [ifn hl, dcf hl]; simp only [cfa]; have l1 := zl4 (f := zaa.r0 N) (fun i => ((zfq x.Op).map zt1, (i : Int), p, x)) (gA p x) x.Args.length
     (fun i hi hp => by
      have hx := lge hi; have hi2 : i < (zfq x.Op).length := by omega
      have hc := lge hi2; simp only [zaa.r0, zaa.b0, zaw, hx, obs, lnm, dct (show (i : Int) < ((zfq x.Op).length : Int) by omega), ctr, z4a hu, zgi, gA, List.getElem?_map, hc, Option.map_some]; cases hin : inB x.Args[i] 0 ((p.zA.length : Int) - 1) with
      | false => rfl
      | true =>
       obtain ⟨o, ho, ho2⟩ := zw3 hin; have hlt := (gei ho).1; obtain ⟨c1, c2⟩ := t3 i _ hc; have hbf : (zfq x.Op)[i] = 4 → ∃ a b, i = 1 ∧ x.Args[0]? = some a ∧ idx p.zA a = some b ∧ zkk p x i = b ∧ inB b.zJ.Kind 1 3 = zh9 b := fun h4 => by
        obtain ⟨rfl, d, hd, hd2⟩ := c2 h4; have h0 := hp 0 (by omega); have hx0 := lge (show 0 < x.Args.length by omega); unfold gA at h0; rw [hx0, obs] at h0; split at h0
        · rename_i hin0; obtain ⟨b, hb, hb2⟩ := zw3 hin0; rw [hb, hd] at h0; simp only at h0; split at h0
          · rename_i hcl; have hlt0 := (gei hb).1; refine ⟨_, b, rfl, hx0, hb2, ?_, z0b hb (hu.ok _ hlt0) ?_⟩
            · show p.zA.getD ((x.Args.getD 0 0).toNat) zsx = b; rw [gdd (l := x.Args), hx0, Option.getD_some, gdd, hb]; rfl
            · unfold zls at hcl; rcases hd2 with rfl | rfl
              · rw [ifp rfl] at hcl; unfold isD; rw [hcl]; rfl
              · rw [ifn (by decide), ifp rfl] at hcl; exact hcl
          · cases h0
        · cases h0
       have hnum : isD o.Kind = true → inB o.zJ.Kind 1 3 = zh9 o := z0b ho (hu.ok _ hlt); have hSD : isS o.Kind = true → isD o.Kind = true := fun h => by unfold isD; rw [h]; rfl
       simp only [bnt, cfa, ho, ho2, obs, if_true, zru, zun, zdw, zta, zbk]; generalize (zfq x.Op)[i] = c at c1 hbf ⊢; have fin : ∀ b : Bool, (cond (!b) (some (Round.result (17 : Int))) (some (Round.again ((zfq x.Op).map zt1, w6 ((i : Int) + 1), p, x)))) = some (cond b (Round.again ((zfq x.Op).map zt1, ((i + 1 : Nat) : Int), p, x)) (.result 17)) := fun b => by
        rw [w6e]; cases b <;> rfl
       have hcs : c = 0 ∨ c = 1 ∨ c = 2 ∨ c = 3 ∨ c = 4 ∨ c = 5 ∨ c = 6 := by omega
       rcases hcs with rfl | rfl | rfl | rfl | rfl | rfl | rfl <;> simp only [zt1, Int.reduceEq, reduceIte, decide_true, decide_false, ctr, cfa]
       · rw [show zls o (zkk p x i) 0 = isS o.Kind from rfl]; rw [fin]; cases (isS o.Kind) <;> rfl
       · rw [show zls o (zkk p x i) 1 = isD o.Kind from rfl]; rw [fin]; cases (isD o.Kind) <;> rfl
       · rw [show zls o (zkk p x i) 2 = (isS o.Kind && inB o.zJ.Kind 1 3) by
          show (isS o.Kind && zh9 o) = _; cases hs : isS o.Kind with
          | false => rfl
          | true => rw [hnum (hSD hs)]]
         cases isS o.Kind
         · simp only [ctr, cfa, obs, Bool.true_and, Bool.false_and]; rfl
         · simp only [ctr, cfa, obs, Bool.true_and, Bool.false_and]; rw [fin]; cases (inB o.zJ.Kind 1 3) <;> rfl
       · rw [show zls o (zkk p x i) 3 = (isD o.Kind && inB o.zJ.Kind 1 3) by
          show (isD o.Kind && zh9 o) = _; cases hs : isD o.Kind with
          | false => rfl
          | true => rw [hnum hs]]
         cases isD o.Kind
         · simp only [ctr, cfa, obs, Bool.true_and, Bool.false_and]; rfl
         · simp only [ctr, cfa, obs, Bool.true_and, Bool.false_and]; rw [fin]; cases (inB o.zJ.Kind 1 3) <;> rfl
       · obtain ⟨a, b, rfl, ha, hb, hbb, hbn⟩ := hbf rfl; rw [show zls o (zkk p x 1) 4 = (isD o.Kind && (inB o.zJ.Kind 1 3 == inB b.zJ.Kind 1 3)) by
          show (isD o.Kind && (zh9 o == zh9 (zkk p x 1))) = _; rw [hbb, hbn]; cases hs : isD o.Kind with
          | false => rfl
          | true => rw [hnum hs]]
         rw [show w6 (((1 : Nat) : Int) - 1) = ((0 : Nat) : Int) from rfl, zaw, ha]; simp only [obs]; rw [hb]; cases isD o.Kind
         · simp only [ctr, cfa, obs, Bool.true_and, Bool.false_and]; rfl
         · simp only [ctr, cfa, obs, Bool.true_and, Bool.false_and]; rw [fin]; cases (inB o.zJ.Kind 1 3 == inB b.zJ.Kind 1 3) <;> rfl
       · rw [show zls o (zkk p x i) 5 = decide (o.Kind = 3) from rfl]; rw [fin]; cases (decide (o.Kind = 3)) <;> rfl
       · rw [show zls o (zkk p x i) 6 = decide (o.Kind = 5) from rfl]; rw [fin]; cases (decide (o.Kind = 5)) <;> rfl)
     (fun _ => by simp only [zaa.r0, zaa.b0, lnm, dcf (show ¬ (x.Args.length : Int) < ((zfq x.Op).length : Int) by omega), cfa]) (N := N) (by omega)
    simp only [nc0] at l1; rw [l1]; cases (List.range x.Args.length).findSome? (gA p x) <;> rfl
def zpd (p : zB) (m : zM) : Bool := decide (0 ≤ m.From) && (decide (m.From < m.To) && (decide (m.To ≤ (p.zG.length : Int)) && (inB m.Exception 0 999 && inB m.Handler 0 ((p.zG.length : Int) - 1))))
theorem z37 {p : zB} {i : Nat} (hu : Upto p i) (m : zM) : zeg p m = some (cond (zpd p m) 0 3) := by
 unfold zeg zpd
 rw [zyz hu, zrc, zrc]
 simp only [obs, zsv, zrd, ge_iff_le]
 cases decide (0 ≤ m.From) <;> cases decide (m.From < m.To) <;> cases decide (m.To ≤ (p.zG.length : Int)) <;> cases inB m.Exception 0 999 <;> cases inB m.Handler 0 ((p.zG.length : Int) - 1) <;> rfl
theorem z4d (p : zB) (m : zM) : ((((decide (m.From < 0) || decide (m.From ≥ m.To)) || decide (m.To > (p.zG.length : Int))) || !inB m.Exception 0 999) || !inB m.Handler 0 ((p.zG.length : Int) - 1)) = !zpd p m := by
 unfold zpd
 rw [show decide (m.From < 0) = !decide (0 ≤ m.From) by rw [← decide_not]; congr 1; simp, show decide (m.From ≥ m.To) = !decide (m.From < m.To) by rw [← decide_not]; congr 1; simp, show decide (m.To > (p.zG.length : Int)) = !decide (m.To ≤ (p.zG.length : Int)) by rw [← decide_not]; congr 1; simp]
 simp only [Bool.not_and, Bool.or_assoc]
theorem zv1 (N0 : Nat) (n : Nat) (hn : n ≤ 1000000) (v : Int) : ∀ (N k : Nat), 1 ≤ k → k ≤ n → n - k < N → zt (zax.r0 N0) N (List.replicate k v ++ List.replicate (n - k) 0, (k : Int)) = some (List.replicate n v, (n : Int))
 | 0, k, _, _, h => by omega
 | N + 1, k, h1, h2, h3 => by
  have hlen : (List.replicate k v ++ List.replicate (n - k) (0 : Int)).length = n := by rw [lna, lnr, lnr]; omega
  simp only [zt, zax.r0, zax.b0, hlen]
  by_cases hk : k < n
  · rw [dct (by omega), ctr, ifp, ifp, ifp]; simp only [obs]; have t1 : (List.replicate k v ++ List.replicate (n - k) (0 : Int)).take ((k : Int)).toNat = List.replicate k v := by
     rw [itn, List.take_append_of_le_length (by rw [lnr]; omega), List.take_replicate, Nat.min_self]
    have t2 : (((List.replicate k v ++ List.replicate (n - k) (0 : Int)).drop (0 : Int).toNat).take (((k : Int)).toNat - (0 : Int).toNat)) = List.replicate k v := t1; rw [t1, t2, lnr]; have e : ((k : Int)).toNat = k := itn k; rw [e, List.take_replicate, show min (min k (n - k)) k = min k (n - k) by omega, List.drop_append, List.drop_eq_nil_of_le (by rw [lnr]; omega), lnr, List.drop_replicate, List.nil_append]; rw [w6e]; have := zv1 N0 n hn v N (k + min k (n - k)) (by omega) (by omega) (by omega); rw [← this, List.replicate_append_replicate, show n - k - (k + min k (n - k) - k) = n - (k + min k (n - k)) by omega]; rfl
  · obtain rfl : k = n := by omega
    rw [dcf (by omega), cfa, Nat.sub_self]; simp
theorem zzq (N : Nat) (n : Nat) (hn : n ≤ 100000) (hN : n < N) (v : Int) : zax N [v] (n : Int) = some (List.replicate n v) := by
 have wu : ∀ m : Nat, m ≤ 1000000 → IntKind.wrap .u64 (m : Int) = (m : Int) := fun m hm => by
  unfold IntKind.wrap; rw [show (2 : Int) ^ IntKind.u64.bits = 18446744073709551616 from rfl, show IntKind.u64.signed = false from rfl]; simp only [Bool.false_and, Bool.false_eq_true, if_false]; omega
 unfold zax zhl
 rw [show (([v] : List Int).length : Int) = ((1 : Nat) : Int) from rfl, wu 1 (by decide), wu n (by omega), z5f 1 n (by decide) (by omega)]
 rw [show (1 * n) / 18446744073709551616 = 0 by omega, show (1 * n) % 18446744073709551616 = n by omega]
 simp only [obs]
 rw [dcf (by omega), dcf (by omega), dcf (by omega), w6e, ifp, ifp, itn, zcx (by omega)]
 simp only [cfa, ctr, obs, lnr]
 by_cases h0 : n = 0
 · subst h0; obtain ⟨M, rfl⟩ : ∃ M, N = M + 1 := ⟨N - 1, by omega⟩; rfl
 · have := zv1 N n (by omega) v N 1 (by omega) (by omega) (by omega); rw [show min ([v] : List Int).length n = 1 by simp; omega]; rw [show ([v] : List Int).take 1 ++ (List.replicate n (0 : Int)).drop 1 = List.replicate 1 v ++ List.replicate (n - 1) 0 by rw [List.drop_replicate]; rfl, this]; rfl
def og (ops : List zF) (k : Nat) : zF := ops.getD k zsx
def pAt (ops : List zF) : Nat → Int
 | 0 => 0
 | k + 1 => pAt ops k + (if (og ops k).Kind = 3 then 16 else 0)
def zgc (ops : List zF) : Nat → Int
 | 0 => 0
 | k + 1 => zgc ops k + (if (og ops k).Kind = 0 then szE (og ops k).zJ else 0)
def sAt (ops : List zF) (k : Nat) : Int := pAt ops ops.length + zgc ops k
def zhi (ops : List zF) (i : Nat) : Int :=
 if (og ops i).Kind = 3 then pAt ops i else if (og ops i).Kind = 0 then sAt ops i else if (og ops i).Kind = 1 then sAt ops (nmI ops (og ops i).Base).toNat + (og ops i).Offset else -1
def zsp (ops : List zF) : List Int := (List.range ops.length).map (zhi ops)
def zpf (ops : List zF) : Int := (sAt ops ops.length + 15) / 16
theorem zlb {ops : List zF} {k : Nat} (h : k < ops.length) : ops[k]? = some (og ops k) := by
 unfold og
 rw [gdd, lge h]
 rfl
theorem zjv (ops : List zF) : ∀ k, 0 ≤ pAt ops k ∧ pAt ops k ≤ 16 * (k : Int) ∧ pAt ops k % 16 = 0
 | 0 => ⟨Int.le_refl _, by show (0 : Int) ≤ 16 * ((0 : Nat) : Int); omega, rfl⟩
 | k + 1 => by
  obtain ⟨h1, h2, h3⟩ := zjv ops k; unfold pAt; split <;> omega
theorem zv9 (ops : List zF) {j : Nat} : ∀ {k : Nat}, j ≤ k → pAt ops j ≤ pAt ops k
 | 0, h => by
  obtain rfl : j = 0 := by omega
  exact Int.le_refl _
 | k + 1, h => by
  by_cases e : j = k + 1
  · subst e; exact Int.le_refl _
  · have := zv9 ops (show j ≤ k by omega); have e2 : pAt ops (k + 1) = pAt ops k + (if (og ops k).Kind = 3 then 16 else 0) := rfl; rw [e2]; split <;> omega
def zjg (p : zB) : Prop := Upto p p.zA.length
theorem zl2 {p : zB} (h : zjg p) {k : Nat} (hk : k < p.zA.length) : OpV p k (og p.zA k) := z1q (zlb hk) (h.ok k hk)
theorem znb {p : zB} (h : zjg p) {k : Nat} (hk : k < p.zA.length) (h0 : (og p.zA k).Kind = 0) : zc7 (og p.zA k).zJ = 0 := ((zl2 h hk).ty (by rw [h0]; rfl)).1
theorem zii {p : zB} (h : zjg p) : ∀ k, k ≤ p.zA.length → 0 ≤ zgc p.zA k ∧ zgc p.zA k ≤ 256 * (k : Int)
 | 0, _ => ⟨Int.le_refl _, by show (0 : Int) ≤ 256 * ((0 : Nat) : Int); omega⟩
 | k + 1, hk => by
  obtain ⟨h1, h2⟩ := zii h k (by omega); unfold zgc; split
  · rename_i h0; have := zfv (znb h (by omega) h0); omega
  · omega
theorem zul {p : zB} (h : zjg p) {j : Nat} : ∀ {k : Nat}, k ≤ p.zA.length → j ≤ k → zgc p.zA j ≤ zgc p.zA k
 | 0, _, hj => by
  obtain rfl : j = 0 := by omega
  exact Int.le_refl _
 | k + 1, hk, hj => by
  by_cases e : j = k + 1
  · subst e; exact Int.le_refl _
  · have := zul h (show k ≤ p.zA.length by omega) (show j ≤ k by omega); have e2 : zgc p.zA (k + 1) = zgc p.zA k + (if (og p.zA k).Kind = 0 then szE (og p.zA k).zJ else 0) := rfl; rw [e2]; split
    · rename_i h0; have := zfv (znb h (by omega) h0); omega
    · omega
theorem zkx {n : Nat} (f : Nat → Int) {k : Nat} (v : Int) : ((List.range n).map f).set k v = (List.range n).map fun i => if i = k then v else f i := by
 apply List.ext_getElem?
 intro i
 rw [List.getElem?_set, List.getElem?_map, List.getElem?_map, lnm, List.length_range]
 by_cases hi : i < n
 · rw [List.getElem?_range hi]
   by_cases e : k = i
   · subst e; simp [hi]
   · simp [e, Ne.symm e]
 · rw [List.getElem?_eq_none (by simpa using hi)]
   by_cases e : k = i
   · subst e; simp [hi]
   · simp [e]
theorem zi1 {n : Nat} (f : Nat → Int) {k : Nat} (h : k < n) : ((List.range n).map f)[k]? = some (f k) := by
 rw [List.getElem?_map, List.getElem?_range h]
 rfl
theorem zdf {n : Nat} {f g : Nat → Int} (h : ∀ i, i < n → f i = g i) : (List.range n).map f = (List.range n).map g := List.map_congr_left fun i hi => h i (List.mem_range.1 hi)
theorem zxu (n : Nat) (v : Int) : List.replicate n v = (List.range n).map fun _ => v := by
 apply List.ext_getElem?
 intro i
 rw [List.getElem?_replicate, List.getElem?_map]
 by_cases hi : i < n
 · rw [ifp hi, List.getElem?_range hi]; rfl
 · rw [ifn hi, List.getElem?_eq_none (by simpa using hi)]; rfl
def A1 (ops : List zF) (k i : Nat) : Int := if i < k ∧ (og ops i).Kind = 3 then pAt ops i else -1
def B1 (ops : List zF) (k i : Nat) : Int := if i < k then (if (og ops i).Kind = 3 then pAt ops i else -1) else 0
def A2 (ops : List zF) (k i : Nat) : Int := if i < k ∧ (og ops i).Kind = 0 then sAt ops i else if (og ops i).Kind = 3 then pAt ops i else -1
def A3 (ops : List zF) (k i : Nat) : Int := if i < k ∧ (og ops i).Kind = 1 then sAt ops (nmI ops (og ops i).Base).toNat + (og ops i).Offset else A2 ops ops.length i
theorem zp5 {p : zB} (h : zjg p) {i : Nat} (hi : i < p.zA.length) (hk : (og p.zA i).Kind = 1) : ∃ b : Nat, nmI p.zA (og p.zA i).Base = (b : Int) ∧ b < i ∧ (og p.zA b).Kind = 0 ∧ 0 ≤ (og p.zA i).Offset ∧ (og p.zA i).Offset ≤ szE (og p.zA b).zJ - szE (og p.zA i).zJ := by
 have hb := (zl2 h hi).base (.inl hk)
 unfold znp at hb
 by_cases hc : nmI p.zA (og p.zA i).Base < 0 ∨ (i : Int) ≤ nmI p.zA (og p.zA i).Base
 · rw [ifp hc] at hb; cases hb
 · rw [ifn hc] at hb; refine ⟨(nmI p.zA (og p.zA i).Base).toNat, by omega, by omega, ?_⟩; rw [zlb (by omega)] at hb; simp only at hb; rw [ifn] at hb; split at hb
   · cases hb
   · rename_i h0; split at hb
     · rename_i h1; have := zc2.1 h1; exact ⟨by omega, by omega, by omega⟩
     · cases hb
theorem zzc {p : zB} (h : zjg p) {i : Nat} (hi : i < p.zA.length) (hk : (og p.zA i).Kind = 2) : ∃ b : Nat, nmI p.zA (og p.zA i).Base = (b : Int) ∧ b < i ∧ (og p.zA b).Kind = 3 ∧ 0 ≤ (og p.zA i).Offset ∧ (og p.zA i).Offset ≤ 256 := by
 have hb := (zl2 h hi).base (.inr hk)
 unfold znp at hb
 by_cases hc : nmI p.zA (og p.zA i).Base < 0 ∨ (i : Int) ≤ nmI p.zA (og p.zA i).Base
 · rw [ifp hc] at hb; cases hb
 · rw [ifn hc] at hb; refine ⟨(nmI p.zA (og p.zA i).Base).toNat, by omega, by omega, ?_⟩; rw [zlb (by omega)] at hb; simp only at hb; rw [ifp hk] at hb; split at hb
   · cases hb
   · rename_i h0; split at hb
     · rename_i h1; have := zc2.1 h1; exact ⟨by omega, by omega, by omega⟩
     · cases hb
theorem zu4 {p : zB} (h : zjg p) (k : Nat) {b : Nat} (hb : b < p.zA.length) (h0 : (og p.zA b).Kind = 0) : A3 p.zA k b = sAt p.zA b := by
 unfold A3 A2
 rw [ifn, ifp ⟨hb, h0⟩]
theorem z03 (ops : List zF) : (List.range ops.length).map (A3 ops ops.length) = zsp ops := by
 refine zdf fun i hi => ?_
 unfold A3 A2 zhi
 by_cases h1 : (og ops i).Kind = 1
 · rw [ifp ⟨hi, h1⟩, ifn, ifn, ifp h1]
 · rw [ifn]
   by_cases h0 : (og ops i).Kind = 0
   · rw [ifp ⟨hi, h0⟩, ifn, ifp h0]
   · rw [ifn]
     by_cases h3 : (og ops i).Kind = 3
     · rw [ifp h3, ifp h3]
     · rw [ifn h3, ifn h3, ifn h0, ifn h1]
section
variable {ops : List zF} {k : Nat}
theorem z3r : (List.range ops.length).map (A1 ops (k + 1)) = if (og ops k).Kind = 3 then ((List.range ops.length).map (A1 ops k)).set k (pAt ops k) else (List.range ops.length).map (A1 ops k) := by
 split
 · rename_i h; rw [zkx]; refine zdf fun i _ => ?_; unfold A1
   by_cases e : i = k
   · subst e; rw [ifp ⟨by omega, h⟩, ifp rfl]
   · rw [ifn e]
     by_cases h2 : i < k ∧ (og ops i).Kind = 3
     · rw [ifp h2, ifp ⟨by omega, h2.2⟩]
     · rw [ifn h2, ifn]
 · rename_i h; refine zdf fun i _ => ?_; unfold A1
   by_cases e : i = k
   · subst e; rw [ifn, ifn]
   · by_cases h2 : i < k ∧ (og ops i).Kind = 3
     · rw [ifp h2, ifp ⟨by omega, h2.2⟩]
     · rw [ifn h2, ifn]
theorem z3q : (List.range ops.length).map (B1 ops (k + 1)) = if (og ops k).Kind = 3 then (((List.range ops.length).map (B1 ops k)).set k (-1)).set k (pAt ops k) else ((List.range ops.length).map (B1 ops k)).set k (-1) := by
 split
 · rename_i h; rw [zkx, zkx]; refine zdf fun i _ => ?_; unfold B1
   by_cases e : i = k
   · subst e; rw [ifp, ifp h, ifp rfl]
   · rw [ifn e, ifn e]
     by_cases h2 : i < k
     · rw [ifp h2, ifp]
     · rw [ifn h2, ifn]
 · rename_i h; rw [zkx]; refine zdf fun i _ => ?_; unfold B1
   by_cases e : i = k
   · subst e; rw [ifp, ifn h, ifp rfl]
   · rw [ifn e]
     by_cases h2 : i < k
     · rw [ifp h2, ifp]
     · rw [ifn h2, ifn]
theorem zya : (List.range ops.length).map (A2 ops (k + 1)) = if (og ops k).Kind = 0 then ((List.range ops.length).map (A2 ops k)).set k (sAt ops k) else (List.range ops.length).map (A2 ops k) := by
 split
 · rename_i h; rw [zkx]; refine zdf fun i _ => ?_; unfold A2
   by_cases e : i = k
   · subst e; rw [ifp ⟨by omega, h⟩, ifp rfl]
   · rw [ifn e]
     by_cases h2 : i < k ∧ (og ops i).Kind = 0
     · rw [ifp h2, ifp ⟨by omega, h2.2⟩]
     · rw [ifn h2, ifn (show ¬ (i < k + 1 ∧ (og ops i).Kind = 0) by omega)]
 · rename_i h; refine zdf fun i _ => ?_; unfold A2
   by_cases e : i = k
   · subst e; rw [ifn (show ¬ (i < i + 1 ∧ (og ops i).Kind = 0) by omega), ifn (show ¬ (i < i ∧ (og ops i).Kind = 0) by omega)]
   · by_cases h2 : i < k ∧ (og ops i).Kind = 0
     · rw [ifp h2, ifp ⟨by omega, h2.2⟩]
     · rw [ifn h2, ifn (show ¬ (i < k + 1 ∧ (og ops i).Kind = 0) by omega)]
theorem zx9 : (List.range ops.length).map (A3 ops (k + 1)) = if (og ops k).Kind = 1 then ((List.range ops.length).map (A3 ops k)).set k (sAt ops (nmI ops (og ops k).Base).toNat + (og ops k).Offset) else (List.range ops.length).map (A3 ops k) := by
 split
 · rename_i h; rw [zkx]; refine zdf fun i _ => ?_; unfold A3
   by_cases e : i = k
   · subst e; rw [ifp ⟨by omega, h⟩, ifp rfl]
   · rw [ifn e]
     by_cases h2 : i < k ∧ (og ops i).Kind = 1
     · rw [ifp h2, ifp ⟨by omega, h2.2⟩]
     · rw [ifn h2, ifn]
 · rename_i h; refine zdf fun i _ => ?_; unfold A3
   by_cases e : i = k
   · subst e; rw [ifn, ifn]
   · by_cases h2 : i < k ∧ (og ops i).Kind = 1
     · rw [ifp h2, ifp ⟨by omega, h2.2⟩]
     · rw [ifn h2, ifn]
end
theorem zv4 {a : Int} (h0 : 0 ≤ a) (h1 : a ≤ 1000000) : w6 ((w6 ((w6 (a + 16)) - 1)).tdiv 16) = (a + 15) / 16 := by
 rw [w6e (n := a + 16), w6e (n := a + 16 - 1), tde, show a + 16 - 1 = a + 15 by omega, w6e]
theorem zt7 (n : Nat) (f : Nat → Int) : ((List.range n).map f).length = n := by rw [lnm, List.length_range]
theorem zz6 (N : Nat) (hN : 1100 < N) {p : zB} (h : zjg p) : ze N p.zA = some (zsp p.zA, zpf p.zA) := by
 have hl := h.ops
 have hp := fun k => zjv p.zA k
 have hs := fun k hk => zii h k hk
 unfold ze
 rw [zzq N _ (by omega) (by omega), zxu]
 simp only [obs]
 have l1 := zbc (f := ze.r0 N) (fun k => (p.zA, (List.range p.zA.length).map (A1 p.zA k), pAt p.zA k, p.zA, (p.zA.length : Int), (k : Int))) p.zA.length
  (fun k hk => by
   have h1 := hp k; simp only [ze.r0, ze.b0, zaw, zlb hk, obs, dct (show (k : Int) < (p.zA.length : Int) by omega), ctr, zt7, ifp (show (0 : Int) ≤ (k : Int) by omega), ifp (show (k : Int) < (p.zA.length : Int) by omega), itn, zi1 _ hk, z3r, zbk]; rw [w6e (n := (k : Int) + 1), w6e (n := pAt p.zA k + 16)]; rw [show pAt p.zA (k + 1) = pAt p.zA k + (if (og p.zA k).Kind = 3 then 16 else 0) from rfl]
   by_cases h3 : (og p.zA k).Kind = 3
   · rw [dct h3, ifp h3, ifp h3]; rfl
   · rw [dcf h3, ifn h3, ifn h3, Int.add_zero]; rfl)
  (by simp only [ze.r0, ze.b0, dcf (show ¬ (p.zA.length : Int) < (p.zA.length : Int) by omega), cfa]) (N := N) (by omega)
 simp only [nc0] at l1
 rw [show ((List.range p.zA.length).map fun _ => (-1 : Int)) = (List.range p.zA.length).map (A1 p.zA 0) from zdf fun i _ => by unfold A1; rw [ifn], show (0 : Int) = pAt p.zA 0 from rfl]
 rw [show pAt p.zA 0 = 0 from rfl] at l1 ⊢
 rw [l1]
 simp only [obs]
 have l2 := zbc (f := ze.r2 N) (fun k => (p.zA, (List.range p.zA.length).map (A2 p.zA k), sAt p.zA k, p.zA, (p.zA.length : Int), (k : Int))) p.zA.length
  (fun k hk => by
   have h1 := hp p.zA.length; have h2 := hs k (by omega); simp only [ze.r2, ze.b2, zaw, zlb hk, obs, dct (show (k : Int) < (p.zA.length : Int) by omega), ctr, zt7, ifp (show (0 : Int) ≤ (k : Int) by omega), ifp (show (k : Int) < (p.zA.length : Int) by omega), itn, zi1 _ hk, zya, zbk]; rw [w6e (n := (k : Int) + 1)]; have e : sAt p.zA (k + 1) = sAt p.zA k + (if (og p.zA k).Kind = 0 then szE (og p.zA k).zJ else 0) := by
    unfold sAt; rw [show zgc p.zA (k + 1) = zgc p.zA k + (if (og p.zA k).Kind = 0 then szE (og p.zA k).zJ else 0) from rfl]; omega
   rw [e]
   by_cases h3 : (og p.zA k).Kind = 0
   · have hz := zfv (znb h hk h3); rw [dct h3, ifp h3, ifp h3, ctr, zt5 N (by omega) (znb h hk h3)]; simp only [obs]; rw [w6e (n := sAt p.zA k + szE (og p.zA k).zJ) (by unfold sAt; omega) (by unfold sAt; omega)]; rfl
   · rw [dcf h3, ifn h3, ifn h3, Int.add_zero]; rfl)
  (by simp only [ze.r2, ze.b2, dcf (show ¬ (p.zA.length : Int) < (p.zA.length : Int) by omega), cfa]) (N := N) (by omega)
 simp only [nc0] at l2
 rw [show ((List.range p.zA.length).map (A1 p.zA p.zA.length)) = (List.range p.zA.length).map (A2 p.zA 0) from zdf fun i hi => by
  unfold A1 A2; rw [ifn (show ¬ (i < 0 ∧ (og p.zA i).Kind = 0) by omega)]
  by_cases h3 : (og p.zA i).Kind = 3
  · rw [ifp ⟨hi, h3⟩, ifp h3]
  · rw [ifn, ifn h3], show pAt p.zA p.zA.length = sAt p.zA 0 by unfold sAt; rw [show zgc p.zA 0 = 0 from rfl, Int.add_zero], l2]
 simp only [obs]
 have l3 := zbc (f := ze.r4 N) (fun k => (p.zA, (List.range p.zA.length).map (A3 p.zA k), sAt p.zA p.zA.length, p.zA, (p.zA.length : Int), (k : Int))) p.zA.length
  (fun k hk => by
   have h1 := hp p.zA.length; simp only [ze.r4, ze.b4, zaw, zlb hk, obs, dct (show (k : Int) < (p.zA.length : Int) by omega), ctr, zt7, ifp (show (0 : Int) ≤ (k : Int) by omega), ifp (show (k : Int) < (p.zA.length : Int) by omega), itn, zi1 _ hk, zx9, zbk]; rw [w6e (n := (k : Int) + 1)]
   by_cases h3 : (og p.zA k).Kind = 1
   · obtain ⟨b, e1, e2, e3, e4, e5⟩ := zp5 h hk h3; have hz := zfv (znb h (show b < p.zA.length by omega) e3); have hz2 := zfv ((zl2 h hk).ty (by rw [h3]; rfl)).1; have h2 := hs b (by omega); rw [dct h3, ifp h3, ctr, zsl N _ (by omega) (by omega), e1]; simp only [obs]; rw [ifp, ifp, itn, zi1 _ (by omega), zu4 h k (by omega) e3]; simp only [obs]; rw [w6e (n := sAt p.zA b + (og p.zA k).Offset) (by unfold sAt; omega) (by unfold sAt; omega)]; rfl
   · rw [dcf h3, ifn h3]; rfl)
  (by simp only [ze.r4, ze.b4, dcf (show ¬ (p.zA.length : Int) < (p.zA.length : Int) by omega), cfa]) (N := N) (by omega)
 simp only [nc0] at l3
 rw [show ((List.range p.zA.length).map (A2 p.zA p.zA.length)) = (List.range p.zA.length).map (A3 p.zA 0) from zdf fun i hi => by
  unfold A3; rw [ifn (show ¬ (i < 0 ∧ (og p.zA i).Kind = 1) by omega)], l3]
 simp only [obs, z03]
 have h1 := hp p.zA.length
 have h2 := hs p.zA.length (by omega)
 rw [zv4 (by unfold sAt; omega) (by unfold sAt; omega)]
 rfl
theorem zum (N : Nat) (hN : 1100 < N) {p : zB} (h : zjg p) : zj N p = some (zsp p.zA, zpf p.zA) := by
 have hl := h.ops
 have hp := fun k => zjv p.zA k
 have hs := fun k hk => zii h k hk
 unfold zj
 rw [ifp, ifp, itn, zcx (by omega), ctr, zxu]
 have l1 := zbc (f := zj.r0 N) (fun k => ((List.range p.zA.length).map (B1 p.zA k), pAt p.zA k, (k : Int), p)) p.zA.length
  (fun k hk => by
   have h1 := hp k; simp only [zj.r0, zj.b0, zaw, zlb hk, obs, dct (show (k : Int) < (p.zA.length : Int) by omega), ctr, List.length_set, zt7, ifp (show (0 : Int) ≤ (k : Int) by omega), ifp (show (k : Int) < (p.zA.length : Int) by omega), itn, zi1 _ hk, z3q, zbk]; rw [w6e (n := (k : Int) + 1), w6e (n := pAt p.zA k + 16)]; rw [show pAt p.zA (k + 1) = pAt p.zA k + (if (og p.zA k).Kind = 3 then 16 else 0) from rfl]
   by_cases h3 : (og p.zA k).Kind = 3
   · rw [dct h3, ifp h3, ifp h3, ctr, zkx, zi1 _ hk]; rfl
   · rw [dcf h3, ifn h3, ifn h3, Int.add_zero]; rfl)
  (by simp only [zj.r0, zj.b0, dcf (show ¬ (p.zA.length : Int) < (p.zA.length : Int) by omega), cfa]) (N := N) (by omega)
 simp only [nc0] at l1
 rw [show ((List.range p.zA.length).map fun _ => (0 : Int)) = (List.range p.zA.length).map (B1 p.zA 0) from zdf fun i _ => by unfold B1; rw [ifn]]
 rw [show pAt p.zA 0 = 0 from rfl] at l1
 rw [l1]
 simp only [obs]
 have l2 := zbc (f := zj.r2 N) (fun k => ((List.range p.zA.length).map (A2 p.zA k), sAt p.zA k, (k : Int), p)) p.zA.length
  (fun k hk => by
   have h1 := hp p.zA.length; have h2 := hs k (by omega); simp only [zj.r2, zj.b2, zaw, zlb hk, obs, dct (show (k : Int) < (p.zA.length : Int) by omega), ctr, zt7, ifp (show (0 : Int) ≤ (k : Int) by omega), ifp (show (k : Int) < (p.zA.length : Int) by omega), itn, zi1 _ hk, zya, zbk]; rw [w6e (n := (k : Int) + 1)]; have e : sAt p.zA (k + 1) = sAt p.zA k + (if (og p.zA k).Kind = 0 then szE (og p.zA k).zJ else 0) := by
    unfold sAt; rw [show zgc p.zA (k + 1) = zgc p.zA k + (if (og p.zA k).Kind = 0 then szE (og p.zA k).zJ else 0) from rfl]; omega
   rw [e]
   by_cases h3 : (og p.zA k).Kind = 0
   · have hz := zfv (znb h hk h3); rw [dct h3, ifp h3, ifp h3, ctr, zoa (znb h hk h3)]; simp only [obs]; rw [w6e (n := sAt p.zA k + szE (og p.zA k).zJ) (by unfold sAt; omega) (by unfold sAt; omega)]; rfl
   · rw [dcf h3, ifn h3, ifn h3, Int.add_zero]; rfl)
  (by simp only [zj.r2, zj.b2, dcf (show ¬ (p.zA.length : Int) < (p.zA.length : Int) by omega), cfa]) (N := N) (by omega)
 simp only [nc0] at l2
 rw [show ((List.range p.zA.length).map (B1 p.zA p.zA.length)) = (List.range p.zA.length).map (A2 p.zA 0) from zdf fun i hi => by
  unfold B1 A2; rw [ifn (show ¬ (i < 0 ∧ (og p.zA i).Kind = 0) by omega), ifp hi], show pAt p.zA p.zA.length = sAt p.zA 0 by unfold sAt; rw [show zgc p.zA 0 = 0 from rfl, Int.add_zero], l2]
 simp only [obs]
 have l3 := zbc (f := zj.r4 N) (fun k => ((List.range p.zA.length).map (A3 p.zA k), sAt p.zA p.zA.length, (k : Int), p)) p.zA.length
  (fun k hk => by
   have h1 := hp p.zA.length; simp only [zj.r4, zj.b4, zaw, zlb hk, obs, dct (show (k : Int) < (p.zA.length : Int) by omega), ctr, zt7, ifp (show (0 : Int) ≤ (k : Int) by omega), ifp (show (k : Int) < (p.zA.length : Int) by omega), itn, zi1 _ hk, zx9, zbk]; rw [w6e (n := (k : Int) + 1)]
   by_cases h3 : (og p.zA k).Kind = 1
   · obtain ⟨b, e1, e2, e3, e4, e5⟩ := zp5 h hk h3; have hz := zfv (znb h (show b < p.zA.length by omega) e3); have hz2 := zfv ((zl2 h hk).ty (by rw [h3]; rfl)).1; have h2 := hs b (by omega); rw [dct h3, ifp h3, ctr, zu9 N p (by omega) (by omega), e1]; simp only [obs]; rw [ifp, ifp, itn, zi1 _ (by omega), zu4 h k (by omega) e3]; simp only [obs]; rw [w6e (n := sAt p.zA b + (og p.zA k).Offset) (by unfold sAt; omega) (by unfold sAt; omega)]; rfl
   · rw [dcf h3, ifn h3]; rfl)
  (by simp only [zj.r4, zj.b4, dcf (show ¬ (p.zA.length : Int) < (p.zA.length : Int) by omega), cfa]) (N := N) (by omega)
 simp only [nc0] at l3
 rw [show ((List.range p.zA.length).map (A2 p.zA p.zA.length)) = (List.range p.zA.length).map (A3 p.zA 0) from zdf fun i hi => by
  unfold A3; rw [ifn (show ¬ (i < 0 ∧ (og p.zA i).Kind = 1) by omega)], l3]
 simp only [obs, z03]
 have h1 := hp p.zA.length
 have h2 := hs p.zA.length (by omega)
 rw [zv4 (by unfold sAt; omega) (by unfold sAt; omega)]
 rfl
def gO (p : zB) (i : Nat) : Option (zL × Int) := if opE p i = 0 then none else some (⟨1, i⟩, opE p i)
def gX (p : zB) (i : Nat) : Option (zL × Int) := (p.zG[i]?).bind fun x => if zph p x = 0 then none else some (⟨2, i⟩, zph p x)
def gMo (p : zB) (i : Nat) : Option (zL × Int) := (p.zI[i]?).bind fun m => if zpd p m = true then none else some (⟨3, i⟩, 3)
def zmv (p : zB) : zL × Int :=
 if p.zA.length > 24 ∨ p.zG.length > 40 ∨ p.zI.length > 6 then (⟨0, 0⟩, 2)
 else if p.zG.length = 0 then (⟨0, 0⟩, 1)
 else match (List.range p.zA.length).findSome? (gO p) with
  | some r => r
  | none => if zpf p.zA > 24 then (⟨0, 0⟩, 30) else match (List.range p.zG.length).findSome? (gX p) with
   | some r => r
   | none => match (List.range p.zI.length).findSome? (gMo p) with
    | some r => r
    | none => (⟨0, 0⟩, 0)
theorem zuc {p : zB} {i : Nat} (h : gO p i = none) : opE p i = 0 := by
 unfold gO at h
 split at h
 · assumption
 · cases h
theorem zwk (p : zB) : ((decide ((p.zA.length : Int) > 24) || decide ((p.zG.length : Int) > 40)) || decide ((p.zI.length : Int) > 6)) = decide (p.zA.length > 24 ∨ p.zG.length > 40 ∨ p.zI.length > 6) := by
 rw [← Bool.decide_or, ← Bool.decide_or]
 congr 1
 apply propext
 omega
theorem z1l (N : Nat) (hN : 1100 < N) (p : zB) : zc N p = some (zmv p) := by
 unfold zc zmv
 simp only [orB, obs, zwk, zrd]
 rw [zo6 N _ (by simp; omega) (by simp)]
 simp only [obs]
 rw [zqt _ _ _ _ (by decide) (by decide)]
 by_cases hb : p.zA.length > 24 ∨ p.zG.length > 40 ∨ p.zI.length > 6
 · rw [ifp hb, dct hb]; rfl
 rw [ifn hb, dcf hb]
 by_cases h0 : p.zG.length = 0
 · rw [ifp h0, zbk, dct (by omega)]; rfl
 rw [ifn h0, zbk, dcf (by omega)]
 simp only [cfa, bsf]
 have mk : ∀ i, (∀ j, j < i → gO p j = none) → Upto p i := fun i h => { ops := by omega, ins := by omega, ok := fun j hj => zuc (h j hj) }
 have l1 := zl4 (f := zc.r0 N) (fun i => ((p.zA.length : Int), (i : Int), p, (⟨0, 0⟩ : zL))) (gO p) p.zA.length
  (fun i hi hp => by
   simp only [zc.r0, zc.b0, dct (show (i : Int) < (p.zA.length : Int) by omega), ctr]; rw [z5c N hN (mk i hp) hi, w6e]; unfold gO; simp only [obs, ze8]
   by_cases h : opE p i = 0
   · rw [ifp h, dcf (fun hh => hh h)]; rfl
   · rw [ifn h, dct h]; rfl)
  (fun _ => by simp only [zc.r0, zc.b0, dcf (show ¬ (p.zA.length : Int) < (p.zA.length : Int) by omega), cfa]) (N := N) (by omega)
 simp only [nc0] at l1
 rw [l1]
 cases hf : (List.range p.zA.length).findSome? (gO p) with
 | some r => rfl
 | none =>
  have hu : zjg p := mk _ (zhf.1 hf); simp only [obs, zda]; rw [zz6 N hN hu]; simp only [obs]
  by_cases hq : zpf p.zA > 24
  · rw [ifp hq, dct hq]; rfl
  rw [ifn hq, dcf hq]; simp only [cfa]; have l2 := zby (f := zc.r2 N) (fun i => (p.zG, (p.zG.length : Int), (i : Int), p, (⟨0, 0⟩ : zL))) (gX p) p.zG.length
   (fun i hi => by
    have hx := lge hi; simp only [zc.r2, zc.b2, dct (show (i : Int) < (p.zG.length : Int) by omega), ctr, zaw, hx, obs, gX]; rw [z38 N hN hu, w6e]; simp only [obs, ze8]
    by_cases h : zph p p.zG[i] = 0
    · rw [ifp h, dcf (fun hh => hh h)]; rfl
    · rw [ifn h, dct h]; rfl)
   (by simp only [zc.r2, zc.b2, dcf (show ¬ (p.zG.length : Int) < (p.zG.length : Int) by omega), cfa]) (N := N) (by omega)
  simp only [nc0] at l2; rw [l2]; cases (List.range p.zG.length).findSome? (gX p) with
  | some r => rfl
  | none =>
   simp only [obs, zda]; have l3 := zby (f := zc.r4 N) (fun i => (p.zI, (p.zI.length : Int), (i : Int), p, (⟨0, 0⟩ : zL))) (gMo p) p.zI.length
    (fun i hi => by
     have hx := lge hi; simp only [zc.r4, zc.b4, dct (show (i : Int) < (p.zI.length : Int) by omega), ctr, zaw, hx, obs, gMo]; rw [z37 hu, w6e]; simp only [obs]; cases zpd p p.zI[i] <;> rfl)
    (by simp only [zc.r4, zc.b4, dcf (show ¬ (p.zI.length : Int) < (p.zI.length : Int) by omega), cfa]) (N := N) (by omega)
   simp only [nc0] at l3; rw [l3]; cases (List.range p.zI.length).findSome? (gMo p) <;> rfl
theorem zyo (N : Nat) (hN : 1100 < N) (p : zB) : zp N p = some (zmv p) := by
 unfold zp zmv
 simp only [orB, obs, zwk]
 by_cases hb : p.zA.length > 24 ∨ p.zG.length > 40 ∨ p.zI.length > 6
 · rw [ifp hb, dct hb]; rfl
 rw [ifn hb, dcf hb]
 by_cases h0 : p.zG.length = 0
 · rw [ifp h0, zbk, dct (by omega)]; rfl
 rw [ifn h0, zbk, dcf (by omega)]
 simp only [cfa]
 have mk : ∀ i, (∀ j, j < i → gO p j = none) → Upto p i := fun i h => { ops := by omega, ins := by omega, ok := fun j hj => zuc (h j hj) }
 have l1 := zl4 (f := zp.r0 N) (fun i => ((i : Int), p, (⟨0, 0⟩ : zL))) (gO p) p.zA.length
  (fun i hi hp => by
   simp only [zp.r0, zp.b0, dct (show (i : Int) < (p.zA.length : Int) by omega), ctr]; rw [z40 N hN (mk i hp) hi, w6e]; unfold gO; simp only [obs, ze8]
   by_cases h : opE p i = 0
   · rw [ifp h, dcf (fun hh => hh h)]; rfl
   · rw [ifn h, dct h]; rfl)
  (fun _ => by simp only [zp.r0, zp.b0, dcf (show ¬ (p.zA.length : Int) < (p.zA.length : Int) by omega), cfa]) (N := N) (by omega)
 simp only [nc0] at l1
 rw [l1]
 cases hf : (List.range p.zA.length).findSome? (gO p) with
 | some r => rfl
 | none =>
  have hu : zjg p := mk _ (zhf.1 hf); simp only [obs, zda]; rw [zum N hN hu]; simp only [obs]
  by_cases hq : zpf p.zA > 24
  · rw [ifp hq, dct hq]; rfl
  rw [ifn hq, dcf hq]; simp only [cfa]; have l2 := zby (f := zp.r2 N) (fun i => ((i : Int), p, (⟨0, 0⟩ : zL))) (gX p) p.zG.length
   (fun i hi => by
    have hx := lge hi; simp only [zp.r2, zp.b2, dct (show (i : Int) < (p.zG.length : Int) by omega), ctr, zaw, hx, obs, gX]; rw [z1e N hN hu, w6e]; simp only [obs, ze8]
    by_cases h : zph p p.zG[i] = 0
    · rw [ifp h, dcf (fun hh => hh h)]; rfl
    · rw [ifn h, dct h]; rfl)
   (by simp only [zp.r2, zp.b2, dcf (show ¬ (p.zG.length : Int) < (p.zG.length : Int) by omega), cfa]) (N := N) (by omega)
  simp only [nc0] at l2; rw [l2]; cases (List.range p.zG.length).findSome? (gX p) with
  | some r => rfl
  | none =>
   simp only [obs, zda]; have l3 := zby (f := zp.r4 N) (fun i => ((i : Int), p, (⟨0, 0⟩ : zL))) (gMo p) p.zI.length
    (fun i hi => by
     have hx := lge hi; simp only [zp.r4, zp.b4, dct (show (i : Int) < (p.zI.length : Int) by omega), ctr, zaw, hx, obs, gMo, zgi, orB, zyz hu]; rw [z4d, w6e]; cases zpd p p.zI[i] <;> rfl)
    (by simp only [zp.r4, zp.b4, dcf (show ¬ (p.zI.length : Int) < (p.zI.length : Int) by omega), cfa]) (N := N) (by omega)
   simp only [nc0] at l3; rw [l3]; cases (List.range p.zI.length).findSome? (gMo p) <;> rfl
theorem z1f (N : Nat) (hN : 1100 < N) (p : zB) : zjs N p = some (zmv p).2 := by
 unfold zjs
 rw [zyo N hN]; rfl
structure ProgV (p : zB) : Prop where
 ok : zjg p
 n24 : p.zA.length ≤ 24
 i40 : p.zG.length ≤ 40
 i0 : 0 < p.zG.length
 m6 : p.zI.length ≤ 6
 quads : zpf p.zA ≤ 24
 ins : ∀ x ∈ p.zG, zph p x = 0
 mon : ∀ m ∈ p.zI, zpd p m = true
theorem z35 {p : zB} (h : (zmv p).2 = 0) : ProgV p := by
 unfold zmv at h
 split at h
 · cases h
 split at h
 · cases h
 rename_i hb h0
 split at h
 · rename_i r hr
   exfalso
   obtain ⟨i, _, hi, _⟩ := zhe hr; unfold gO at hi; split at hi
   · cases hi
   · rename_i hne; cases hi; exact hne h
 · rename_i hf; split at h
   · cases h
   rename_i hq; split at h
   · rename_i r hr
     exfalso
     obtain ⟨i, _, hi, _⟩ := zhe hr; unfold gX at hi; rw [Option.bind_eq_some_iff] at hi; obtain ⟨x, _, hi⟩ := hi; split at hi
     · cases hi
     · rename_i hne; cases hi; exact hne h
   · rename_i hf2; split at h
     · rename_i r hr
       exfalso
       obtain ⟨i, _, hi, _⟩ := zhe hr; unfold gMo at hi; rw [Option.bind_eq_some_iff] at hi; obtain ⟨x, _, hi⟩ := hi; split at hi
       · cases hi
       · cases hi; cases h
     · rename_i hf3; refine { ok := { ops := by omega, ins := by omega, ok := fun j hj => zuc (zhf.1 hf j hj) }, n24 := by omega, i40 := by omega, i0 := by omega, m6 := by omega, quads := by omega, ins := fun x hx => ?_, mon := fun m hm => ?_ }
       · obtain ⟨i, hi⟩ := List.getElem?_of_mem hx; have := zhf.1 hf2 i (gei hi).1; unfold gX at this; rw [hi, obs] at this; split at this
         · assumption
         · cases this
       · obtain ⟨i, hi⟩ := List.getElem?_of_mem hm; have := zhf.1 hf3 i (gei hi).1; unfold gMo at this; rw [hi, obs] at this; split at this
         · assumption
         · cases this
def mI (p : zB) (s : zD) (e : Int) : zC := ⟨p, s, zsp p.zA, e⟩
def mS (s : zD) (t : Storage) : zD := ⟨t, s.At, s.Stack, s.Lines, s.Status, s.Exception, s.Steps⟩
def mK (s : zD) (l : List Int) : zD := ⟨s.Storage, s.At, l, s.Lines, s.Status, s.Exception, s.Steps⟩
def mL (s : zD) (l : List ByteArray) : zD := ⟨s.Storage, s.At, s.Stack, l, s.Status, s.Exception, s.Steps⟩
def mT (s : zD) (k : Int) : zD := ⟨s.Storage, s.At, s.Stack, s.Lines, k, s.Exception, s.Steps⟩
def mA (s : zD) (k : Int) : zD := ⟨s.Storage, k, s.Stack, s.Lines, s.Status, s.Exception, s.Steps⟩
def mE (s : zD) (k : Int) : zD := ⟨s.Storage, s.At, s.Stack, s.Lines, s.Status, k, s.Steps⟩
def mP (s : zD) (k : Int) : zD := ⟨s.Storage, s.At, s.Stack, s.Lines, s.Status, s.Exception, k⟩
theorem z0l (p : zB) (s : zD) {e : Int} (he : e ≠ 0) (n : Int) : zi (mI p s e) n = some (mI p s e) := by
 unfold zi
 rw [show (mI p s e).raised = e from rfl, zbk, dcf he]
 rfl
structure StoP (p : zB) (t : Storage) : Prop where
 sto : zk6 t
 size : (t.Bytes.size : Int) = 16 * zpf p.zA
section
variable {p : zB}
theorem zvg (h : ProgV p) : 0 ≤ sAt p.zA p.zA.length ∧ sAt p.zA p.zA.length ≤ 16 * zpf p.zA := by
 have h1 := zjv p.zA p.zA.length
 have h2 := zii h.ok p.zA.length (Nat.le_refl _)
 unfold zpf
 have : sAt p.zA p.zA.length = pAt p.zA p.zA.length + zgc p.zA p.zA.length := rfl
 omega
theorem zt8 {i : Nat} (hi : i < p.zA.length) : idx (zsp p.zA) (i : Int) = some (zhi p.zA i) := by
 rw [zaw]
 exact zi1 _ hi
theorem zxv (h : ProgV p) {i : Nat} (hi : i < p.zA.length) (h3 : (og p.zA i).Kind = 3) {t : Storage} (hs : StoP p t) : zm6 t (zhi p.zA i) = true ∧ 0 ≤ zhi p.zA i ∧ zhi p.zA i % 16 = 0 ∧ zhi p.zA i + 16 ≤ (t.Bytes.size : Int) := by
 have e : zhi p.zA i = pAt p.zA i := by unfold zhi; rw [ifp h3]
 have b1 := zjv p.zA i
 have b2 := zv9 p.zA (show i + 1 ≤ p.zA.length by omega)
 have e2 : pAt p.zA (i + 1) = pAt p.zA i + 16 := by
  show pAt p.zA i + (if (og p.zA i).Kind = 3 then 16 else 0) = _; rw [ifp h3]
 have b3 := zii h.ok p.zA.length (Nat.le_refl _)
 have b4 := zvg h
 have e4 : sAt p.zA p.zA.length = pAt p.zA p.zA.length + zgc p.zA p.zA.length := rfl
 have hz := hs.size
 rw [e]
 refine ⟨?_, b1.1, b1.2.2, by omega⟩
 unfold zm6
 rw [dct b1.1, dct b1.2.2, dct (by omega)]
 rfl
theorem z1t (h : ProgV p) {i : Nat} (hi : i < p.zA.length) (hk : (og p.zA i).Kind = 0 ∨ (og p.zA i).Kind = 1) {t : Storage} (hs : StoP p t) : 0 ≤ zhi p.zA i ∧ zhi p.zA i + szE (og p.zA i).zJ ≤ (t.Bytes.size : Int) := by
 have b1 := zjv p.zA p.zA.length
 have b4 := zvg h
 have hz := hs.size
 have key : ∀ j, j < p.zA.length → (og p.zA j).Kind = 0 → 0 ≤ sAt p.zA j ∧ sAt p.zA j + szE (og p.zA j).zJ ≤ (t.Bytes.size : Int) := by
  intro j hj h0; have b2 := zii h.ok j (by omega); have b3 := zul h.ok (Nat.le_refl p.zA.length) (show j + 1 ≤ p.zA.length by omega); have e2 : zgc p.zA (j + 1) = zgc p.zA j + szE (og p.zA j).zJ := by
   show zgc p.zA j + (if (og p.zA j).Kind = 0 then szE (og p.zA j).zJ else 0) = _; rw [ifp h0]
  have e4 : sAt p.zA p.zA.length = pAt p.zA p.zA.length + zgc p.zA p.zA.length := rfl; have e5 : sAt p.zA j = pAt p.zA p.zA.length + zgc p.zA j := rfl; omega
 unfold zhi
 rcases hk with h0 | h1
 · rw [ifn, ifp h0]; exact key i hi h0
 · obtain ⟨b, e1, e2, e3, e4, e5⟩ := zp5 h.ok hi h1; have := key b (by omega) e3; rw [ifn, ifn, ifp h1, e1, itn]; have hz := zfv ((zl2 h.ok hi).ty (by rw [h1]; rfl)).1; omega
theorem z1w (N : Nat) (l : List zF) (h : l.length < N) (hl : l.length < 1000000000) (o : zF) : zd N l o = some (nmI l o.Base) := by
 unfold zd nmI
 have l1 := zby (f := zd.r0 N) (fun i => (l, (l.length : Int), (i : Int), o)) (gNm l o.Base) l.length
  (fun i hi => by
   have hx := lge hi; simp only [zd.r0, zd.b0, zcj, zaw, hx, obs, dct (show (i : Int) < (l.length : Int) by omega), ctr, gNm]; rw [w6e]; cases (l[i].Name.toList == o.Base.toList) <;> rfl)
  (by simp only [zd.r0, zd.b0, dcf (show ¬ (l.length : Int) < (l.length : Int) by omega), cfa]) h
 simp only [nc0] at l1
 rw [l1]
 cases (List.range l.length).findSome? (gNm l o.Base) <;> rfl
theorem z3f (N : Nat) (hN : 10 < N) {o : zF} (h : zc7 o.zJ = 0) : zci N o = some (szE o.zJ) := by
 unfold zci zeh
 rw [zod N hN, h]
 simp [zt6 h]
theorem zy0 (N : Nat) (hN : 2000 < N) (h : ProgV p) {s : zD} (hs : StoP p s.Storage) {i : Nat} (hi : i < p.zA.length) (h3 : (og p.zA i).Kind = 3) (e : Int) :
 zao N (mI p s e) (i : Int) = some (match ldV s.Storage (zhi p.zA i) with | some o => (zv5 o, zhi p.zA i, mI p s e) | none => (zsw, zhi p.zA i, mI p s (if e = 0 then 4 else e))) := by
 unfold zao
 rw [show (mI p s e).layout = zsp p.zA from rfl, zt8 hi, show (mI p s e).zD.Storage = s.Storage from rfl]
 simp only [obs]
 rw [z2q N hN hs.sto (zxv h hi h3 hs).1]
 cases ldV s.Storage (zhi p.zA i) with
 | some o => rfl
 | none =>
  simp only [obs]
  by_cases he : e = 0
  · subst he; rfl
  · rw [z0l p s he, ifn he]; rfl
def adI (p : zB) (t : Storage) (i : Nat) : Except Int Int :=
 if (og p.zA i).Kind = 2 then (match ldV t (zhi p.zA (nmI p.zA (og p.zA i).Base).toNat) with
  | none => .error 4
  | some o => if o + (og p.zA i).Offset > (t.Bytes.size : Int) - szE (og p.zA i).zJ then .error 5 else .ok (o + (og p.zA i).Offset))
 else .ok (zhi p.zA i)
theorem z0a {i : Nat} (hi : i < p.zA.length) : idx p.zA (i : Int) = some (og p.zA i) := by
 rw [zaw, zlb hi]
theorem z0k {k : Int} (h : isS k = true) : k = 0 ∨ k = 1 ∨ k = 2 := by
 unfold isS at h
 simp only [Bool.or_eq_true, decide_eq_true_eq] at h
 omega
theorem zyx {k : Int} (h : isS k = true) : isD k = true := by unfold isD; rw [h]; rfl
theorem z3p (N : Nat) (hN : 2000 < N) (h : ProgV p) {s : zD} (hs : StoP p s.Storage) {i : Nat} (hi : i < p.zA.length) (hk : isS (og p.zA i).Kind = true) :
 (∃ e j k, (e = 4 ∨ e = 5) ∧ adI p s.Storage i = .error e ∧ zad N (mI p s 0) (i : Int) = some (j, mI p s e) ∧ zge N p s (i : Int) = some (k, e)) ∨
 ∃ a, adI p s.Storage i = .ok a ∧ zad N (mI p s 0) (i : Int) = some (a, mI p s 0) ∧ zge N p s (i : Int) = some (a, 0) ∧ 0 ≤ a ∧ a + szE (og p.zA i).zJ ≤ (s.Storage.Bytes.size : Int) := by
 have hl := hs.sto.le
 have n24 := h.n24
 have hty := ((zl2 h.ok hi).ty (zyx hk)).1
 have hsz := zfv hty
 unfold zad zge adI
 rw [show (mI p s 0).zB = p from rfl, z0a hi, zum N (by omega) h.ok]
 simp only [obs, ze8]
 by_cases h2 : (og p.zA i).Kind = 2
 · rw [ifp h2, dcf (fun hh => hh h2)]; obtain ⟨b, e1, e2, e3, e4, e5⟩ := zzc h.ok hi h2; have hb : b < p.zA.length := by omega
   simp only [cfa]; rw [z1w N _ (by omega) (by omega), zu9 N p (by omega) (by omega), e1]; simp only [obs, itn]; rw [zy0 N hN h hs hb e3, zt8 hb]; simp only [obs]; rw [z23 N hN hs.sto (zxv h hb e3 hs).1]; cases hld : ldV s.Storage (zhi p.zA b) with
   | none => exact .inl ⟨4, _, _, .inl rfl, rfl, rfl, rfl⟩
   | some o =>
    have ho := z0j hs.sto hld; simp only [obs, show (zv5 o).Address.Offset = o from rfl, show (mI p s 0).raised = 0 from rfl, show (mI p s 0).zD = s from rfl, bsf, bst, ctr, cfa]; rw [z3f N (by omega) hty, zoa hty]; simp only [obs]; rw [w6e (n := o + (og p.zA i).Offset), w6e (n := (s.Storage.Bytes.size : Int) - szE (og p.zA i).zJ)]; unfold zpy; rw [zgi, zgi, w6e (n := (s.Storage.Bytes.size : Int) - (o + (og p.zA i).Offset))]; simp only [obs]
    by_cases hgt : o + (og p.zA i).Offset > (s.Storage.Bytes.size : Int) - szE (og p.zA i).zJ
    · left; rw [dct hgt, ifp hgt]; refine ⟨5, _, 0, .inr rfl, rfl, rfl, ?_⟩
      by_cases h1 : inB (o + (og p.zA i).Offset) 0 (s.Storage.Bytes.size : Int) = true
      · rw [h1, ctr]; rw [show inB (szE (og p.zA i).zJ) 0 ((s.Storage.Bytes.size : Int) - (o + (og p.zA i).Offset)) = false by
         cases hh : inB (szE (og p.zA i).zJ) 0 ((s.Storage.Bytes.size : Int) - (o + (og p.zA i).Offset)) with
         | false => rfl
         | true => have := zc2.1 hh; omega]
        rfl
      · rw [show inB (o + (og p.zA i).Offset) 0 (s.Storage.Bytes.size : Int) = false by simpa using h1]; rfl
    · right; rw [dcf hgt, ifn hgt]; refine ⟨_, rfl, rfl, ?_, by omega, by omega⟩; rw [show inB (o + (og p.zA i).Offset) 0 (s.Storage.Bytes.size : Int) = true from zc2.2 ⟨by omega, by omega⟩, ctr, show inB (szE (og p.zA i).zJ) 0 ((s.Storage.Bytes.size : Int) - (o + (og p.zA i).Offset)) = true from zc2.2 ⟨by omega, by omega⟩]; rfl
 · have hk2 := z0k hk; have hd := z1t h hi (by omega) hs; rw [ifn h2, dct h2, show (mI p s 0).layout = zsp p.zA from rfl, zt8 hi]; exact .inr ⟨_, rfl, rfl, rfl, hd.1, hd.2⟩
end
section
variable {p : zB}
theorem z4b (h : ProgV p) {i : Nat} (hi : i < p.zA.length) (hk : isD (og p.zA i).Kind = true) (hn : zh9 (og p.zA i) = true) : zn0 (og p.zA i).zJ := by
 obtain ⟨hty, hk4⟩ := (zl2 h.ok hi).ty hk
 unfold zh9 at hn
 exact zwa hty (of_decide_eq_true hn) hk4
def wrI (p : zB) (s : zD) (i : Nat) (d : ByteArray) : Except Int zD :=
 match adI p s.Storage i with | .error e => .error e | .ok a => .ok (mS s (wrV s.Storage a.toNat d))
theorem z2o (N : Nat) (hN : 2000 < N) (h : ProgV p) {s : zD} (hs : StoP p s.Storage) {i : Nat} (hi : i < p.zA.length) (hk : isS (og p.zA i).Kind = true) {d : ByteArray} (hd : (d.size : Int) = szE (og p.zA i).zJ) :
 (∃ e k, (e = 4 ∨ e = 5) ∧ wrI p s i d = .error e ∧ zam N (mI p s 0) (i : Int) d = some (mI p s e) ∧ zge N p s (i : Int) = some (k, e)) ∨
 ∃ a : Nat, wrI p s i d = .ok (mS s (wrV s.Storage a d)) ∧ zam N (mI p s 0) (i : Int) d = some (mI p (mS s (wrV s.Storage a d)) 0) ∧ zge N p s (i : Int) = some ((a : Int), 0) ∧ zcy N s.Storage (a : Int) d = some (wrV s.Storage a d) ∧ StoP p (wrV s.Storage a d) := by
 have hty := ((zl2 h.ok hi).ty (zyx hk)).1
 have hsz := zfv hty
 unfold wrI zam
 rcases z3p N hN h hs hi hk with ⟨e, j, k, he, h1, h2, h3⟩ | ⟨a, h1, h2, h3, h4, h5⟩
 · left; rw [h1, h2, h3]; refine ⟨e, k, he, rfl, ?_, rfl⟩; rcases he with rfl | rfl <;> rfl
 · right; obtain ⟨a, rfl⟩ : ∃ k : Nat, a = (k : Int) := ⟨a.toNat, by omega⟩; rw [h1, h2, h3]; have hw : a + d.size ≤ s.Storage.Bytes.size := by omega
   have hw0 : 0 < d.size := by omega
   refine ⟨a, rfl, ?_, rfl, z1b N hN hs.sto hw hw0, ⟨z3t hs.sto hw hw0, by rw [zve hw]; exact hs.size⟩⟩; simp only [obs, show (mI p s 0).raised = 0 from rfl, show (mI p s 0).zD = s from rfl, bst, ctr]; rw [z06 N hN hs.sto hw hw0]; rfl
end
theorem z2f (n lo hi : Int) : zck n lo hi = some (inB n lo hi) := by
 unfold zck inB
 cases decide (lo ≤ n) <;> rfl
section
variable {p : zB}
def zva (p : zB) (s : zD) (i : Nat) (r : Value × Int) : Except Int zD :=
 if r.2 = 20 then .error 3 else if r.2 = 19 then .error 2 else wrI p s i (zqw (og p.zA i).zJ r.1.N)
def ztc (N : Nat) (p : zB) (s : zD) (i : Nat) (r : Value × Int) : Option (Int × zD) :=
 cond (r.2 == 20) (some (3, s)) (cond (r.2 != 0) (some (2, s)) ((zge N p s (i : Int)).bind fun r19 => cond (r19.2 != 0) (some (r19.2, s)) ((zat N (og p.zA i).zJ r.1).bind fun r20 =>
  (zcy N s.Storage r19.1 r20).bind fun r21 => some (0, mS s r21))))
theorem z1k (N : Nat) (hN : 2000 < N) (h : ProgV p) {s : zD} (hs : StoP p s.Storage) {i : Nat} (hi : i < p.zA.length) (hk : isS (og p.zA i).Kind = true) (hn : zh9 (og p.zA i) = true)
 {r : Value × Int} (hr : r.2 = 0 ∨ r.2 = 19 ∨ r.2 = 20) (hS : r.1 = ⟨r.1.N, ⟨#[]⟩⟩) (hb : r.2 = 0 → -((10 ^ (og p.zA i).zJ.Length.toNat : Nat) : Int) < r.1.N ∧ r.1.N < ((10 ^ (og p.zA i).zJ.Length.toNat : Nat) : Int)) :
 (∃ e, (2 ≤ e ∧ e ≤ 5) ∧ zva p s i r = .error e ∧ zap N (mI p s 0) (i : Int) r.1 r.2 = some (mI p s e) ∧ ztc N p s i r = some (e, s)) ∨
 ∃ t, zva p s i r = .ok (mS s t) ∧ zap N (mI p s 0) (i : Int) r.1 r.2 = some (mI p (mS s t) 0) ∧ ztc N p s i r = some (0, mS s t) ∧ StoP p t := by
 have ht := z4b h hi (zyx hk) hn
 unfold zva zap ztc
 rcases hr with h0 | h0 | h0
 · obtain ⟨b1, b2⟩ := hb h0; have hz := z0o ht r.1.N; rw [h0, ifn (by decide), ifn (by decide)]; simp only [show ((0 : Int) == 20) = false from rfl, show ((0 : Int) == 19) = false from rfl, bsf, cfa, show (mI p s 0).raised = 0 from rfl, bst, ctr, show (mI p s 0).zB = p from rfl]; rw [z0a hi, hS]; simp only [obs]; rw [z0d N (by omega) ht _ ⟨b1, b2⟩, z1g N (by omega) ht _ ⟨b1, b2⟩]; simp only [obs]; rcases z2o N hN h hs hi hk hz with ⟨e, k, he, h1, h2, h3⟩ | ⟨a, h1, h2, h3, h4, h5⟩
   · left; rw [h1, h2, h3]; refine ⟨e, by omega, rfl, rfl, ?_⟩; rcases he with rfl | rfl <;> rfl
   · right; rw [h1, h2, h3]; refine ⟨_, rfl, rfl, ?_, h5⟩; simp only [obs, bsf, cfa]; rw [h4]; rfl
 · left; rw [h0]; exact ⟨2, by decide, rfl, rfl, rfl⟩
 · left; rw [h0]; exact ⟨3, by decide, rfl, rfl, rfl⟩
structure StI (p : zB) (s : zD) : Prop where
 sto : StoP p s.Storage
 at0 : 0 ≤ s.At
 at1 : s.At < (p.zG.length : Int)
 stk : s.Stack.length ≤ 6
 calls : ∀ i ∈ s.Stack, (0 ≤ i ∧ i < (p.zG.length : Int)) ∧ ∃ x, p.zG[i.toNat]? = some x ∧ x.Op = 13
 lines : s.Lines.length ≤ 40
 long : ∀ l ∈ s.Lines, l.size ≤ 256
 st0 : 0 ≤ s.Status
 st1 : s.Status ≤ 3
 ex0 : 0 ≤ s.Exception
 ex1 : s.Exception ≤ 999
 sp0 : 0 ≤ s.Steps
 sp1 : s.Steps ≤ 300
theorem StI.S {s : zD} (h : StI p s) {t : Storage} (ht : StoP p t) : StI p (mS s t) := { sto := ht, at0 := h.at0, at1 := h.at1, stk := h.stk, calls := h.calls, lines := h.lines, long := h.long, st0 := h.st0, st1 := h.st1, ex0 := h.ex0, ex1 := h.ex1, sp0 := h.sp0, sp1 := h.sp1 }
theorem StI.K {s : zD} (h : StI p s) {l : List Int} (h1 : l.length ≤ 6) (h2 : ∀ i ∈ l, (0 ≤ i ∧ i < (p.zG.length : Int)) ∧ ∃ x, p.zG[i.toNat]? = some x ∧ x.Op = 13) : StI p (mK s l) := { sto := h.sto, at0 := h.at0, at1 := h.at1, stk := h1, calls := h2, lines := h.lines, long := h.long, st0 := h.st0, st1 := h.st1, ex0 := h.ex0, ex1 := h.ex1, sp0 := h.sp0, sp1 := h.sp1 }
theorem StI.T {s : zD} (h : StI p s) {k : Int} (h1 : 0 ≤ k) (h2 : k ≤ 3) : StI p (mT s k) := { sto := h.sto, at0 := h.at0, at1 := h.at1, stk := h.stk, calls := h.calls, lines := h.lines, long := h.long, st0 := h1, st1 := h2, ex0 := h.ex0, ex1 := h.ex1, sp0 := h.sp0, sp1 := h.sp1 }
theorem StI.A {s : zD} (h : StI p s) {k : Int} (h1 : 0 ≤ k) (h2 : k < (p.zG.length : Int)) : StI p (mA s k) := { sto := h.sto, at0 := h1, at1 := h2, stk := h.stk, calls := h.calls, lines := h.lines, long := h.long, st0 := h.st0, st1 := h.st1, ex0 := h.ex0, ex1 := h.ex1, sp0 := h.sp0, sp1 := h.sp1 }
theorem StI.E {s : zD} (h : StI p s) {k : Int} (h1 : 0 ≤ k) (h2 : k ≤ 999) : StI p (mE s k) := { sto := h.sto, at0 := h.at0, at1 := h.at1, stk := h.stk, calls := h.calls, lines := h.lines, long := h.long, st0 := h.st0, st1 := h.st1, ex0 := h1, ex1 := h2, sp0 := h.sp0, sp1 := h.sp1 }
theorem StI.P {s : zD} (h : StI p s) {k : Int} (h1 : 0 ≤ k) (h2 : k ≤ 300) : StI p (mP s k) := { sto := h.sto, at0 := h.at0, at1 := h.at1, stk := h.stk, calls := h.calls, lines := h.lines, long := h.long, st0 := h.st0, st1 := h.st1, ex0 := h.ex0, ex1 := h.ex1, sp0 := h1, sp1 := h2 }
theorem StI.L {s : zD} (h : StI p s) {l : ByteArray} (h1 : s.Lines.length < 40) (h2 : l.size ≤ 256) : StI p (mL s (s.Lines ++ [l])) := {
 sto := h.sto, at0 := h.at0, at1 := h.at1, stk := h.stk, calls := h.calls
 lines := by show (s.Lines ++ [l]).length ≤ 40; rw [lna, lns]; omega
 long := fun y hy => by
  rcases List.mem_append.1 (show y ∈ s.Lines ++ [l] from hy) with h3 | h3
  · exact h.long y h3
  · rw [List.mem_singleton.1 h3]; exact h2
 st0 := h.st0, st1 := h.st1, ex0 := h.ex0, ex1 := h.ex1, sp0 := h.sp0, sp1 := h.sp1 }
end
section
variable {p : zB} {s : zD}
def z2k (N : Nat) (p : zB) (s : zD) (m : Except Int zD) (prog : Option zC) (rf : Option (Int × zD)) : Prop :=
 (∃ e u, (1 ≤ e ∧ e ≤ 5) ∧ m = .error e ∧ prog = some (mI p s e) ∧ rf = some (e, u)) ∨ ∃ t, m = .ok (mS s t) ∧ prog = some (mI p (mS s t) 0) ∧ rf = some (0, mS s t) ∧ StoP p t
theorem z2k.mk (N : Nat) {m : Except Int zD} {r : Value × Int} {i : Nat} (hN : 2000 < N) (h : ProgV p) (hs : StoP p s.Storage) (hi : i < p.zA.length) (hk : isS (og p.zA i).Kind = true) (hn : zh9 (og p.zA i) = true)
 (hr : r.2 = 0 ∨ r.2 = 19 ∨ r.2 = 20) (hS : r.1 = ⟨r.1.N, ⟨#[]⟩⟩) (hb : r.2 = 0 → -((10 ^ (og p.zA i).zJ.Length.toNat : Nat) : Int) < r.1.N ∧ r.1.N < ((10 ^ (og p.zA i).zJ.Length.toNat : Nat) : Int)) (hm : m = zva p s i r) :
 z2k N p s m (zap N (mI p s 0) (i : Int) r.1 r.2) (ztc N p s i r) := by
 subst hm
 rcases z1k N hN h hs hi hk hn hr hS hb with ⟨e, he, h1, h2, h3⟩ | ⟨t, h1, h2, h3, h4⟩
 · exact .inl ⟨e, s, by omega, h1, h2, h3⟩
 · exact .inr ⟨t, h1, h2, h3, h4⟩
end
section
variable {p : zB} {s : zD}
end
section
variable {p : zB} {s : zD}
end
section
variable {p : zB} {s : zD}
def zkf (t : zM) (a e : Int) : Bool := inB a t.From (t.To - 1) && (decide (t.Exception = 0) || decide (t.Exception = e))
def zua (p : zB) (a e : Int) : Option Nat := (List.range p.zI.length).findSome? fun i => (p.zI[i]?).bind fun t => if zkf t a e = true then some i else none
def zf7 (p : zB) (a e : Int) : Int := match zua p a e with | some i => (p.zI.getD i ⟨0, 0, 0, 0⟩).Handler | none => -1
theorem zuw {a e : Int} {i : Nat} (h : zua p a e = some i) : ∃ t, p.zI[i]? = some t ∧ zkf t a e = true := by
 obtain ⟨j, _, hj⟩ := eof h
 rw [Option.bind_eq_some_iff] at hj
 obtain ⟨t, ht, hj⟩ := hj
 split at hj
 · rename_i hh; cases hj; exact ⟨t, ht, hh⟩
 · cases hj
theorem zuv (h : ProgV p) {t : zM} (ht : t ∈ p.zI) : 0 ≤ t.From ∧ t.From < t.To ∧ t.To ≤ (p.zG.length : Int) ∧ 0 ≤ t.Handler ∧ t.Handler < (p.zG.length : Int) := by
 have := h.mon t ht
 unfold zpd at this
 simp only [Bool.and_eq_true, decide_eq_true_eq] at this
 obtain ⟨h1, h2, h3, h4, h5⟩ := this
 have := zc2.1 h5
 omega
theorem zub (h : ProgV p) (a e : Int) : zf7 p a e = -1 ∨ (0 ≤ zf7 p a e ∧ zf7 p a e < (p.zG.length : Int)) := by
 unfold zf7
 cases hi : zua p a e with
 | none => exact .inl rfl
 | some i =>
  obtain ⟨t, ht, _⟩ := zuw hi; right; simp only []; rw [gdd, ht]; exact (zuv h (lmg ht)).2.2.2
theorem zxw {β : Type} (f : Nat → β) (a e : Int) : (List.range p.zI.length).findSome? (fun i => ((p.zI[i]?).bind fun t => if zkf t a e = true then some i else none).map f) = (zua p a e).map f := by
 have key : ∀ l : List Nat, l.findSome? (fun i => ((p.zI[i]?).bind fun t => if zkf t a e = true then some i else none).map f) = (l.findSome? (fun i => (p.zI[i]?).bind fun t => if zkf t a e = true then some i else none)).map f := by
  intro l
  induction l with
  | nil => rfl
  | cons i l ih =>
   rw [List.findSome?_cons, List.findSome?_cons]; cases (p.zI[i]?).bind fun t => if zkf t a e = true then some i else none with
   | none => exact ih
   | some j => rfl
 exact key _
theorem zy1 (N : Nat) (hN : 20000 < N) (h : ProgV p) (a e : Int) : zc6 N p a e = some (zf7 p a e) := by
 have m6 := h.m6
 have i40 := h.i40
 unfold zc6 zg
 have l1 := zby (f := zg.r0 N) (fun i => (p.zI, (p.zI.length : Int), (i : Int), a, e)) (fun i => ((p.zI[i]?).bind fun t => if zkf t a e = true then some i else none).map fun i : Nat => (i : Int)) p.zI.length
  (fun i hi => by
   have hx := lge hi; have hf := zuv h (List.getElem_mem hi); simp only [zg.r0, zg.b0, zaw, hx, obs, dct (show (i : Int) < (p.zI.length : Int) by omega), ctr]; have e1 : zdp p.zI[i] a e = some (zkf p.zI[i] a e) := by
    unfold zdp zkf; rw [w6e, z2f, zbk, zbk]; simp only [obs]; cases inB a p.zI[i].From (p.zI[i].To - 1) <;> cases decide (p.zI[i].Exception = 0) <;> cases decide (p.zI[i].Exception = e) <;> rfl
   rw [e1, w6e]; cases zkf p.zI[i] a e <;> rfl)
  (by simp only [zg.r0, zg.b0, dcf (show ¬ (p.zI.length : Int) < (p.zI.length : Int) by omega), cfa]) (N := N) (by omega)
 simp only [nc0] at l1
 rw [l1, zxw]
 unfold zf7
 cases hi : zua p a e with
 | none => rfl
 | some i =>
  obtain ⟨t, ht, _⟩ := zuw hi; simp only [Option.map_some, zda, obs]; rw [dcf (show ¬ ((i : Nat) : Int) < 0 by omega), cfa, zaw, ht, gdd, ht]; rfl
theorem zvw (N : Nat) (hN : 20000 < N) (h : ProgV p) (a e : Int) : zbf N p a e = some (zf7 p a e) := by
 have m6 := h.m6
 unfold zbf
 have l1 := zby (f := zbf.r0 N) (fun i => (a, e, (i : Int), p)) (fun i => ((p.zI[i]?).bind fun t => if zkf t a e = true then some i else none).map fun i : Nat => (p.zI.getD i ⟨0, 0, 0, 0⟩).Handler) p.zI.length
  (fun i hi => by
   have hx := lge hi; simp only [zbf.r0, zbf.b0, zaw, hx, obs, dct (show (i : Int) < (p.zI.length : Int) by omega), ctr]; have e1 : ((cond (decide (p.zI[i].From ≤ a)) (some (decide (a < p.zI[i].To))) (some false)).bind fun g1002 => (cond g1002 ((cond (p.zI[i].Exception == 0) (some true) (some (p.zI[i].Exception == e))).bind fun g1003 => some g1003) (some false))) = some (zkf p.zI[i] a e) := by
    unfold zkf inB; rw [zbk, zbk, show decide (a ≤ p.zI[i].To - 1) = decide (a < p.zI[i].To) by rw [decide_eq_decide]; omega]; cases decide (p.zI[i].From ≤ a) <;> cases decide (a < p.zI[i].To) <;> cases decide (p.zI[i].Exception = 0) <;> cases decide (p.zI[i].Exception = e) <;> rfl
   rw [← Option.bind_assoc, e1, w6e]; simp only [obs]; cases zkf p.zI[i] a e with
   | false => rfl
   | true =>
    simp only [ctr, if_true, Option.map_some]; rw [gdd, hx]; rfl)
  (by simp only [zbf.r0, zbf.b0, dcf (show ¬ (p.zI.length : Int) < (p.zI.length : Int) by omega), cfa]) (N := N) (by omega)
 simp only [nc0] at l1
 rw [l1, zxw]
 unfold zf7
 cases zua p a e <;> rfl
end
section
variable {p : zB} {s : zD}
theorem zt4 {n : Nat} (h : Wft En n Ty.zB p) : p.zA.length ≤ n ∧ p.zG.length ≤ n ∧ p.zI.length ≤ n ∧ ∀ x ∈ p.zG, x.Args.length ≤ n := by
 have h1 := h (.lst Ty.zF p.zA) (by show _ ∈ zgm p; simp [zgm])
 have h2 := h (.lst Ty.zK p.zG) (by show _ ∈ zgm p; simp [zgm])
 have h3 := h (.lst Ty.zM p.zI) (by show _ ∈ zgm p; simp [zgm])
 cases h1 with
 | lst h1 _ =>
  cases h2 with
  | lst h2 h2' =>
   cases h3 with
   | lst h3 _ =>
    refine ⟨h1, h2, h3, fun x hx => ?_⟩; have h4 := h2' x hx (.lst (Ty.int .i64) x.Args) (by show _ ∈ ziq x; simp [ziq]); cases h4 with
    | lst h4 _ => exact h4
theorem zou {n : Nat} (h : n ≤ 1000000000) : Nat.ble n zbr = true := Nat.ble_eq_true_of_le (by unfold zbr; omega)
theorem z1n (N : Nat) (hN : 1048600 < N) (hp : Wft En 1048576 Ty.zB p) : zc5 N p = some p := by
 obtain ⟨w1, w2, w3, w4⟩ := zt4 hp
 unfold zc5
 rw [zou (by omega), zou (by omega)]
 simp only [ctr]
 have l1 := zbc (f := zc5.r0 N) (fun i => ((i : Int), p, (⟨[], [], []⟩ : zB), (⟨p.zA, p.zG.take i, p.zI⟩ : zB))) p.zG.length
  (fun i hi => by
   have hx := lge hi; have ha := w4 _ (List.getElem_mem hi); simp only [zc5.r0, zc5.b0, zaw, hx, obs, dct (show (i : Int) < (p.zG.length : Int) by omega), ctr, zho, zou (show p.zG[i].Args.length * 8 ≤ 1000000000 by omega)]; rw [zou (by rw [lnt]; simp only [lnc, ln0]; omega), ctr, w6e, ← List.take_append_getElem hi]; rfl)
  (by simp only [zc5.r0, zc5.b0, dcf (show ¬ (p.zG.length : Int) < (p.zG.length : Int) by omega), cfa]) (N := N) (by omega)
 simp only [nc0, List.take_zero] at l1
 rw [l1, obs, List.take_length]
theorem z5j (N : Nat) (hN : 1048600 < N) (hp : Wft En 1048576 Ty.zB p) : ∃ b, za4 N p = some b := by
 obtain ⟨w1, w2, w3, w4⟩ := zt4 hp
 unfold za4
 simp only [orB, obs]
 cases (decide ((p.zA.length : Int) > 28) || decide ((p.zG.length : Int) > 44)) || decide ((p.zI.length : Int) > 9) with
 | true => exact ⟨_, rfl⟩
 | false =>
  simp only [cfa]; have l1 := zr1 (f := za4.r0 N) (fun i t => t = ((i : Int), p)) (fun r => True) p.zA.length
   (fun i t hi ht => by
    subst ht; have hx := lge hi; simp only [za4.r0, za4.b0, zaw, hx, obs, dct (show (i : Int) < (p.zA.length : Int) by omega), ctr, orB]; rw [w6e (n := (i : Int) + 1)]; cases (decide ((p.zA[i].Name.size : Int) > 100) || decide ((p.zA[i].Base.size : Int) > 100)) || decide ((p.zA[i].Value.S.size : Int) > 600) with
    | true => exact .inr ⟨_, rfl, trivial⟩
    | false => exact .inl ⟨_, rfl, rfl⟩)
   (fun t ht => by
    subst ht; simp only [za4.r0, za4.b0, dcf (show ¬ (p.zA.length : Int) < (p.zA.length : Int) by omega), cfa]; exact ⟨_, rfl, rfl⟩) (N := N) (by omega) (s := (0, p)) rfl
  rcases l1 with ⟨t, g1, g2⟩ | ⟨r, g1, _⟩
  · rw [g1, g2]; simp only [obs, zda]; have l2 := zr1 (f := za4.r2 N) (fun i t => t = ((i : Int), p)) (fun r => True) p.zG.length
     (fun i t hi ht => by
      subst ht; have hx := lge hi; simp only [za4.r2, za4.b2, zaw, hx, obs, dct (show (i : Int) < (p.zG.length : Int) by omega), ctr]; rw [w6e (n := (i : Int) + 1)]; cases decide ((p.zG[i].Args.length : Int) > 6) with
      | true => exact .inr ⟨_, rfl, trivial⟩
      | false => exact .inl ⟨_, rfl, rfl⟩)
     (fun t ht => by
      subst ht; simp only [za4.r2, za4.b2, dcf (show ¬ (p.zG.length : Int) < (p.zG.length : Int) by omega), cfa]; exact ⟨_, rfl, rfl⟩) (N := N) (by omega) (s := (0, p)) rfl
    rcases l2 with ⟨t, g3, _⟩ | ⟨r, g3, _⟩
    · rw [g3]; exact ⟨_, rfl⟩
    · rw [g3]; exact ⟨_, rfl⟩
  · rw [g1]; exact ⟨_, rfl⟩
theorem z4l : zi2 2000000 = some true := by kernel_rfl
end
theorem zqs (x : Int) (l : List Int) : zg2 (x :: l) = if x = 0 then zg2 l else x := rfl
section
variable {p : zB} {s : zD}
end
section
variable {p : zB} {s : zD}
theorem z3h (b : Bool) (e : Int) : zg1 b e = some (cond b e 0) := by cases b <;> rfl
theorem z3g (N : Nat) (hN : 1100 < N) (p : zB) : zdo N p = some (zmv p).2 := by
 unfold zdo
 rw [z1l N hN]
 rfl
theorem z1x (N : Nat) (l : List Int) (h : l.length < N) (hl : l.length < 1000000000) : zas N l = some (zg2 l) := by
 unfold zas
 have := zby (f := zas.r0 N) (fun i => (l, (l.length : Int), (i : Int))) (fun i => (l[i]?).bind fun x => if x = 0 then none else some x) l.length
  (fun i hi => by
   have hx := lge hi; simp only [zas.r0, zas.b0, zaw, hx, obs, dct (show (i : Int) < (l.length : Int) by omega), ctr]
   by_cases h0 : l[i] = 0
   · simp only [h0, bsf, cfa, if_true]; rw [w6e]; rfl
   · simp only [h0, if_false]; rw [show (l[i] != 0) = true by simpa using h0]; rfl)
  (by simp only [zas.r0, zas.b0, dcf (show ¬ (l.length : Int) < (l.length : Int) by omega), cfa]) h
 simp only [nc0] at this
 rw [this, zk0, ← zng]
 simp only [obs]
 cases l.findSome? (fun x => if x = 0 then none else some x) <;> rfl
end
theorem plainInterpretHandlers : zd9 := by
 intro p i e hp hi he
 refine ⟨2000000, ?_⟩
 obtain ⟨b, hb⟩ := z5j 2000000 (by decide) hp
 obtain ⟨w1, w2, w3, w4⟩ := zt4 hp
 have f2 : ∀ a b : Int, zas 2000000 [a, b] = some (zg2 [a, b]) := fun a b => z1x 2000000 _ (by simp) (by simp)
 unfold zcp
 rw [z4l]
 simp only [obs, bnt, cfa]
 rw [hb]
 cases b with
 | false => rfl
 | true =>
  simp only [obs, bnt, cfa]; rw [z1n _ (by decide) hp, z1f _ (by decide)]; simp only [obs]; unfold zer; rw [z3g _ (by decide)]; simp only [obs, z2f, z3h, orB, f2, zgi, w6e (n := (p.zG.length : Int) - 1)]
  by_cases hc : (zmv p).2 = 0
  · have h := z35 hc; rw [hc]; simp only [bst, ctr, obs]; rw [zqs, ifp rfl, zqs]; cases hq : (!inB i 0 ((p.zG.length : Int) - 1) || !inB e 1 999) with
    | true => rfl
    | false =>
     rw [zy1 _ (by decide) h, zvw _ (by decide) h]; simp only [cfa, if_true, zg2, bsf, obs]; rcases zub h i e with hh | ⟨h0, h1⟩
     · rw [hh]; rfl
     · rw [dcf (show ¬ zf7 p i e < 0 by omega), zbk, ze8, dcf (show ¬ zf7 p i e = -1 by omega), dct (show zf7 p i e ≠ -1 by omega)]; simp only [cfa, ctr, obs, bst]
  · have e1 : ((zmv p).2 != 0) = true := by rw [ze8]; exact dct hc
    have e2 : ((zmv p).2 == 0) = false := by rw [zbk]; exact dcf hc
    rw [zqs, ifn hc]; simp only [e1, e2, ctr, cfa, obs, bst]
end
end Go.Proofs.YtmifhmfokbigiaaGreatDoor.M
namespace Go.Proofs.YtmifhmfokbigiaaGreatDoor
theorem interpretHandlers_card : Rows.InterpretHandlersUptoCardSaid := M.cardInterpretHandlers M.plainInterpretHandlers
#print axioms interpretHandlers_card
end Go.Proofs.YtmifhmfokbigiaaGreatDoor
