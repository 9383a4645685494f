/- The plain law of InterpretAgain: part 0. -/
import Derived.Test.YtmifhmfokbigiaaGreatDoorF1
import Derived.Test.YtmifhmfokbigiaaGreatDoorA4
import Derived.Lib.Strings
namespace Go.Proofs.YtmifhmfokbigiaaGreatDoor.M
open Go Go.Amx
set_option linter.unusedVariables false
set_option linter.unusedSimpArgs false
set_option maxRecDepth 100000
noncomputable section
theorem obs {α β : Type} (a : α) (f : α → Option β) : (some a).bind f = f a := rfl
theorem dct {p : Prop} [Decidable p] (h : p) : decide p = true := decide_eq_true h
theorem dcf {p : Prop} [Decidable p] (h : ¬ p) : decide p = false := decide_eq_false h
theorem lna {α : Type} {a b : List α} : (a ++ b).length = a.length + b.length := List.length_append
theorem lns {α : Type} {a : α} : [a].length = 1 := List.length_singleton
theorem lge {α : Type} {l : List α} {i : Nat} (h : i < l.length) : l[i]? = some l[i] := List.getElem?_eq_getElem h
theorem itn (n : Nat) : Int.toNat (n : Int) = n := Int.toNat_natCast n
theorem ctr {α : Sort _} (a b : α) : cond true a b = a := rfl
theorem cfa {α : Sort _} (a b : α) : cond false a b = b := rfl
theorem ifp {c : Prop} {h : Decidable c} (hc : c := by omega) {α : Sort _} {t e : α} : ite c t e = t := if_pos hc
theorem ifn {c : Prop} {h : Decidable c} (hc : ¬c := by omega) {α : Sort _} {t e : α} : ite c t e = e := if_neg hc
theorem bsf {α : Type _} [BEq α] [LawfulBEq α] (a : α) : (a != a) = false := bne_self_eq_false a
theorem tde {a b : Int} (h : 0 ≤ a := by omega) : a.tdiv b = a / b := Int.tdiv_eq_ediv_of_nonneg h
theorem tme {a b : Int} (h : 0 ≤ a := by omega) : a.tmod b = a % b := Int.tmod_eq_emod_of_nonneg h
theorem lnt {α : Type _} {i : Nat} {l : List α} : (l.take i).length = min i l.length := List.length_take
theorem lnr {α : Type _} {n : Nat} {a : α} : (List.replicate n a).length = n := List.length_replicate
theorem gdd {α : Type _} {l : List α} {i : Nat} {a : α} : l.getD i a = l[i]?.getD a := List.getD_eq_getElem?_getD
theorem cbc {p : Prop} (h : ¬p → False) : p := Classical.byContradiction h
theorem lnc {α : Type _} {a : α} {l : List α} : (a :: l).length = l.length + 1 := List.length_cons
theorem gei {α : Type _} {i : Nat} {a : α} {l : List α} (h : l[i]? = some a) : ∃ h : i < l.length, l[i] = a := List.getElem?_eq_some_iff.1 h
theorem eof {α β : Type _} {b : β} {f : α → Option β} {l : List α} (h : l.findSome? f = some b) : ∃ a, a ∈ l ∧ f a = some b := List.exists_of_findSome?_eq_some h
theorem ln0 {α : Type _} : ([] : List α).length = 0 := rfl
theorem lnm {α β : Type _} {l : List α} (f : α → β) : (l.map f).length = l.length := List.length_map f
theorem dr0 {α : Type _} {l : List α} : l.drop 0 = l := rfl
theorem bsa {a b : ByteArray} : (a ++ b).size = a.size + b.size := ByteArray.size_append
theorem bnt : (!true) = false := rfl
theorem mel {a b : Nat} (h : a < b) : a % b = a := Nat.mod_eq_of_lt h
theorem nc0 : ((0 : Nat) : Int) = 0 := Int.natCast_zero
theorem bst {α : Type _} [BEq α] [ReflBEq α] (a : α) : (a == a) = true := beq_self_eq_true a
theorem lmg {α : Type _} {l : List α} {i : Nat} {a : α} (h : l[i]? = some a) : a ∈ l := List.mem_of_getElem? h
theorem w6e {n : Int} (h1 : -9223372036854775808 ≤ n := by omega) (h2 : n ≤ 9223372036854775807 := by omega) : w6 n = n := z6n h1 h2
def zvn (a0 : Storage) (a1 : Int) : Option ByteArray :=
 if 0 ≤ (w6 ((w6 (a1 * 16)) + 16)) ∧ (w6 ((w6 (a1 * 16)) + 16)) ≤ (a0.Bytes.size : Int) then (if 0 ≤ (w6 (a1 * 16)) ∧ (w6 (a1 * 16)) ≤ (w6 ((w6 (a1 * 16)) + 16)) then (some (a0.Bytes.extract (w6 (a1 * 16)).toNat (w6 ((w6 (a1 * 16)) + 16)).toNat)) else none) else none
def zfj.b0 (N : Nat) (s0 : ByteArray) (s1 : Int) (s2 : Int) (s7 : Int) (s8 : Int) : Option (Stp (ByteArray × Int × Int × Int × Int)) :=
 cond (decide (s8 < s2)) ((zhl s0 (w6 (s1 + s8))).bind fun x1001 =>
  some (.again (s0, s1, s2, (w6 ((w6 (s7 * 256)) + (w6 (x1001.toNat : Int)))), (w6 (s8 + 1)))))
  (some (.leave (s0, s1, s2, s7, s8)))
def zfj.r0 (N : Nat) (x : ByteArray × Int × Int × Int × Int) := zfj.b0 N x.1 x.2.1 x.2.2.1 x.2.2.2.1 x.2.2.2.2
def zfj (N : Nat) (a0 : ByteArray) (a1 : Int) (a2 : Int) : Option Int :=
 (zl (zfj.r0 N) N (a0, a1, a2, 0, 0)).bind fun y1 => some y1.2.2.2.1
def zq0 (a0 : Pointer) : Option Int :=
 (zi a0.Kind 0 2).bind fun r1 => cond (!r1) (some 4) ((zi a0.Address.zU 0 1099511627775).bind fun r2 => (cond (!r2) (some true)
  ((zi a0.Address.Offset 0 16777215).bind fun r3 => some (!r3))).bind fun g4 => (cond g4 (some true) ((zi a0.Authority 0 1023).bind fun r5 =>
  some (!r5))).bind fun g6 => cond g6 (some 3) ((cond (a0.Kind != 1) (some (a0.Authority != 0)) (some false)).bind fun g7 => cond g7 (some 5) (some 0)))
def zyr (N : Nat) (a0 : ByteArray) : Option (Pointer × Int) :=
 cond ((a0.size : Int) != 16) (some ((⟨0, (⟨0, 0⟩ : Address), 0⟩ : Pointer), 18)) ((zhl a0 1).bind fun x1 => cond ((x1.toNat : Int) != 0)
  (some ((⟨0, (⟨0, 0⟩ : Address), 0⟩ : Pointer), 5)) ((zhl a0 0).bind fun x2 => (zfj N a0 2 2).bind fun r3 => (zfj N a0 4 6).bind fun r4 =>
  (zfj N a0 10 6).bind fun r5 => (zq0 (⟨(w6 (x2.toNat : Int)), (⟨r4, r5⟩ : Address), r3⟩ : Pointer)).bind fun r6 => cond (r6 != 0)
  (some ((⟨0, (⟨0, 0⟩ : Address), 0⟩ : Pointer), r6)) (some ((⟨(w6 (x2.toNat : Int)), (⟨r4, r5⟩ : Address), r3⟩ : Pointer), 0))))
def zhq.b0 (N : Nat) (s4 : Int) (s5 : Int) (b1 : Storage) : Option (Round (Int × Int) (Int × Int × Storage)) :=
 cond (decide (s5 < s4)) ((idx b1.Tags s5).bind fun x1001 => cond x1001 ((zvn b1 s5).bind fun r1002 => (zyr N r1002).bind fun r1003 => cond (r1003.2 != 0)
  (some (.result (s5, 22))) (some (.again (s4, (w6 (s5 + 1)), b1)))) (some (.again (s4, (w6 (s5 + 1)), b1)))) (some (.leave (s4, s5, b1)))
def zhq.r0 (N : Nat) (x : Int × Int × Storage) := zhq.b0 N x.1 x.2.1 x.2.2
def zhq (N : Nat) (a0 : Storage) : Option (Int × Int) :=
 cond (decide ((a0.Bytes.size : Int) > 1024)) (some (0, 2)) (cond (((a0.Bytes.size : Int).tmod 16) != 0) (some (0, 18))
  (cond ((a0.Tags.length : Int) != (w6 ((a0.Bytes.size : Int).tdiv 16))) (some (0, 6))
  ((zj (zhq.r0 N) N ((w6 ((a0.Bytes.size : Int).tdiv 16)), 0, a0)).bind fun z2 => zb5 z2 (fun z => some z) (fun y1 => some (y1.1, 0)))))
def zwh (a0 : Storage) (a1 : Int) : Option Bool :=
 (zi a1 0 (w6 ((a0.Bytes.size : Int) - 16))).bind fun r1 => (cond r1 (some ((a1.tmod 16) == 0)) (some false)).bind fun g2 => some g2
def zoh (N : Nat) (a0 : Storage) (a1 : Int) : Option (Pointer × Int) :=
 (zwh a0 a1).bind fun r1 => cond (!r1) (some ((⟨0, (⟨0, 0⟩ : Address), 0⟩ : Pointer), 3)) ((idx a0.Tags (w6 (a1.tdiv 16))).bind fun x2 => cond (!x2)
  (some ((⟨0, (⟨0, 0⟩ : Address), 0⟩ : Pointer), 22)) ((zvn a0 (w6 (a1.tdiv 16))).bind fun r3 => (zyr N r3).bind fun r4 => some (r4.1, 0)))
def zf2.b0 (N : Nat) (s0 : Int) (s1 : Int) (s5 : List Int) (s6 : Int) : Option (Stp (Int × Int × (List Int) × Int)) :=
 cond (decide (s6 < s1)) (cond (Nat.ble ((s5.length + ([s0] : List Int).length) * 1) zbr) (some (.again (s0, s1, (s5 ++ ([s0] : List Int)), (w6 (s6 + 1))))) none)
  (some (.leave (s0, s1, s5, s6)))
def zf2.r0 (N : Nat) (x : Int × Int × (List Int) × Int) := zf2.b0 N x.1 x.2.1 x.2.2.1 x.2.2.2
def zf2 (N : Nat) (a0 : Int) (a1 : Int) : Option ByteArray :=
 (zl (zf2.r0 N) N (a0, a1, [], 0)).bind fun y1 => some (zd3 y1.2.2.1)
def zbt.b0 (N : Nat) (s0 : Int) (s1 : Int) (s5 : List Int) (s6 : Int) : Option (Stp (Int × Int × (List Int) × Int)) :=
 cond (decide (s6 < s1))
  (if 0 ≤ (w6 ((w6 (s1 - 1)) - s6)) then (if (w6 ((w6 (s1 - 1)) - s6)) < (s5.length : Int) then ((s5[(w6 ((w6 (s1 - 1)) - s6)).toNat]?).bind fun x1001 =>
  some (.again ((w6 (s0.tdiv 256)), s1, (s5.set ((w6 ((w6 (s1 - 1)) - s6)).toNat)
  (IntKind.wrap .u8 (s0.tmod 256))), (w6 (s6 + 1))))) else none) else none) (some (.leave (s0, s1, s5, s6)))
def zbt.r0 (N : Nat) (x : Int × Int × (List Int) × Int) := zbt.b0 N x.1 x.2.1 x.2.2.1 x.2.2.2
def zbt (N : Nat) (a0 : Int) (a1 : Int) : Option ByteArray :=
 if 0 ≤ a1 then (if a1 ≤ a1 then (cond (Nat.ble (a1.toNat * 1) zbr) ((zl (zbt.r0 N) N (a0, a1, (List.replicate a1.toNat (0 : Int)), 0)).bind fun y1 =>
  some (zd3 y1.2.2.1)) none) else none) else none
def znf (a0 : Int) : Option Int :=
 some (if (w6 (0 - a0)) > a0 then (w6 (0 - a0)) else a0)
def zfm.b0 (N : Nat) (s0 : Int) (s5 : List Int) (s6 : Int) : Option (Stp (Int × (List Int) × Int)) :=
 cond (decide (s6 ≥ 0)) (if 0 ≤ s6 then (if s6 < (s5.length : Int) then ((s5[s6.toNat]?).bind fun x1001 =>
  some (.again ((w6 (s0.tdiv 10)), (s5.set s6.toNat (s0.tmod 10)), (w6 (s6 - 1))))) else none) else none) (some (.leave (s0, s5, s6)))
def zfm.r0 (N : Nat) (x : Int × (List Int) × Int) := zfm.b0 N x.1 x.2.1 x.2.2
def zfm (N : Nat) (a0 : Int) (a1 : Int) : Option ((List Int)) :=
 if 0 ≤ a1 then (if a1 ≤ a1 then (cond (Nat.ble (a1.toNat * 8) zbr)
  ((zl (zfm.r0 N) N (a0, (List.replicate a1.toNat (0 : Int)), (w6 (a1 - 1)))).bind fun y1 => some y1.2.1) none) else none) else none
def zbe.b1 (N : Nat) (s6 : List Int) (s7 : List Int) (s8 : Int) (b2 : DataType) (b3 : Value) : Option (Stp ((List Int) × (List Int) × Int × DataType × Value)) :=
 cond (decide (s8 < b2.Length)) (if 0 ≤ s8 then (if s8 < (s6.length : Int) then ((s6[s8.toNat]?).bind fun x2001 =>
  if 0 ≤ s8 then (if s8 < (s7.length : Int) then ((s7[s8.toNat]?).bind fun x2002 =>
  some (.again (s6, (s7.set s8.toNat (IntKind.wrap .u8 (w6 (240 + x2001)))), (w6 (s8 + 1)), b2, b3))) else none) else none) else none) else none)
  (some (.leave (s6, s7, s8, b2, b3)))
def zbe.r1 (N : Nat) (x : (List Int) × (List Int) × Int × DataType × Value) := zbe.b1 N x.1 x.2.1 x.2.2.1 x.2.2.2.1 x.2.2.2.2
def zbe.b3 (N : Nat) (s6 : List Int) (s9 : List Int) (s10 : Int) : Option (Stp ((List Int) × (List Int) × Int)) :=
 cond (decide (s10 < (s9.length : Int)))
  (if 0 ≤ (w6 (2 * s10)) then (if (w6 (2 * s10)) < (s6.length : Int) then ((s6[(w6 (2 * s10)).toNat]?).bind fun x4001 =>
  if 0 ≤ (w6 ((w6 (2 * s10)) + 1)) then (if (w6 ((w6 (2 * s10)) + 1)) < (s6.length : Int) then ((s6[(w6 ((w6 (2 * s10)) + 1)).toNat]?).bind fun x4002 =>
  if 0 ≤ s10 then (if s10 < (s9.length : Int) then ((s9[s10.toNat]?).bind fun x4003 =>
  some (.again (s6, (s9.set s10.toNat (IntKind.wrap .u8 (w6 ((w6 (16 * x4001)) + x4002)))), (w6 (s10 + 1))))) else none) else none) else none) else none) else none) else none)
  (some (.leave (s6, s9, s10)))
def zbe.r3 (N : Nat) (x : (List Int) × (List Int) × Int) := zbe.b3 N x.1 x.2.1 x.2.2
def zbe (N : Nat) (a0 : DataType) (a1 : Value) : Option ByteArray :=
 cond (a0.Kind == 0) (some a1.S) (cond (a0.Kind == 3) (cond (decide (a1.N < 0)) ((zec a0).bind fun r1 =>
  if (w6 (8 * r1)) < 0 then none else (zec a0).bind fun r2 =>
  (zbt N (w6 (a1.N + (w6 (1 * 2 ^ (min (w6 (8 * r1)).toNat 64))))) r2).bind fun r3 => some r3) ((zec a0).bind fun r4 =>
  (zbt N a1.N r4).bind fun r5 => some r5)) ((znf a1.N).bind fun r6 => (zfm N r6 a0.Length).bind fun r7 => cond (a0.Kind == 2)
  (if 0 ≤ a0.Length then (if a0.Length ≤ a0.Length then (cond (Nat.ble (a0.Length.toNat * 1) zbr)
  ((zl (zbe.r1 N) N (r7, (List.replicate a0.Length.toNat (0 : Int)), 0, a0, a1)).bind fun y8 => cond (decide (y8.2.2.2.2.N < 0))
  (if 0 ≤ (w6 (y8.2.2.2.1.Length - 1)) then (if (w6 (y8.2.2.2.1.Length - 1)) < (y8.1.length : Int) then ((y8.1[(w6 (y8.2.2.2.1.Length - 1)).toNat]?).bind fun x9 =>
  if 0 ≤ (w6 (y8.2.2.2.1.Length - 1)) then (if (w6 (y8.2.2.2.1.Length - 1)) < (y8.2.1.length : Int) then ((y8.2.1[(w6 (y8.2.2.2.1.Length - 1)).toNat]?).bind fun x10 =>
  some (zd3 (y8.2.1.set ((w6 (y8.2.2.2.1.Length - 1)).toNat) (IntKind.wrap .u8 (w6 (208 + x9)))))) else none) else none) else none) else none)
  (some (zd3 y8.2.1))) none) else none) else none) (cond ((a0.Length.tmod 2) == 0) (cond (Nat.ble ((([0] : List Int).length + r7.length) * 8) zbr)
  ((zbj (decide (a1.N < 0))).bind fun r11 =>
  cond (Nat.ble (((([0] : List Int) ++ r7).length + ([(w6 (15 - (w6 (2 * r11))))] : List Int).length) * 8) zbr)
  (if 0 ≤ (w6 ((((([0] : List Int) ++ r7) ++ ([(w6 (15 - (w6 (2 * r11))))] : List Int)).length : Int).tdiv 2)) then (if (w6 ((((([0] : List Int) ++ r7) ++ ([(w6 (15 - (w6 (2 * r11))))] : List Int)).length : Int).tdiv 2)) ≤ (w6 ((((([0] : List Int) ++ r7) ++ ([(w6 (15 - (w6 (2 * r11))))] : List Int)).length : Int).tdiv 2)) then (cond (Nat.ble ((w6 ((((([0] : List Int) ++ r7) ++ ([(w6 (15 - (w6 (2 * r11))))] : List Int)).length : Int).tdiv 2)).toNat * 1) zbr)
  ((zl (zbe.r3 N) N (((([0] : List Int) ++ r7) ++ ([(w6 (15 - (w6 (2 * r11))))] : List Int)), (List.replicate (w6 ((((([0] : List Int) ++ r7) ++ ([(w6 (15 - (w6 (2 * r11))))] : List Int)).length : Int).tdiv 2)).toNat (0 : Int)), 0)).bind fun y12 =>
  some (zd3 y12.2.1)) none) else none) else none) none) none) ((zbj (decide (a1.N < 0))).bind fun r13 =>
  cond (Nat.ble ((r7.length + ([(w6 (15 - (w6 (2 * r13))))] : List Int).length) * 8) zbr)
  (if 0 ≤ (w6 (((r7 ++ ([(w6 (15 - (w6 (2 * r13))))] : List Int)).length : Int).tdiv 2)) then (if (w6 (((r7 ++ ([(w6 (15 - (w6 (2 * r13))))] : List Int)).length : Int).tdiv 2)) ≤ (w6 (((r7 ++ ([(w6 (15 - (w6 (2 * r13))))] : List Int)).length : Int).tdiv 2)) then (cond (Nat.ble ((w6 (((r7 ++ ([(w6 (15 - (w6 (2 * r13))))] : List Int)).length : Int).tdiv 2)).toNat * 1) zbr)
  ((zl (zbe.r3 N) N ((r7 ++ ([(w6 (15 - (w6 (2 * r13))))] : List Int)), (List.replicate (w6 (((r7 ++ ([(w6 (15 - (w6 (2 * r13))))] : List Int)).length : Int).tdiv 2)).toNat (0 : Int)), 0)).bind fun y14 =>
  some (zd3 y14.2.1)) none) else none) else none) none))))
def zwz (a0 : ByteArray) (a1 : Int) (a2 : ByteArray) : Option ByteArray :=
 if 0 ≤ a1 ∧ a1 ≤ (a0.size : Int) then (if 0 ≤ (0 : Int) ∧ (0 : Int) ≤ a1 then (if (((a0.extract (0 : Int).toNat a1.toNat).size + a2.size : Nat) : Int) > IntKind.i64.max then none else if 0 ≤ (w6 (a1 + (a2.size : Int))) ∧ (w6 (a1 + (a2.size : Int))) ≤ (a0.size : Int) then (if ((((a0.extract (0 : Int).toNat a1.toNat) ++ a2).size + (a0.extract (w6 (a1 + (a2.size : Int))).toNat a0.size).size : Nat) : Int) > IntKind.i64.max then none else some (((a0.extract (0 : Int).toNat a1.toNat) ++ a2) ++ (a0.extract (w6 (a1 + (a2.size : Int))).toNat a0.size))) else none) else none) else none
def zor.b0 (N : Nat) (s3 : List Int) (s6 : Int) (b1 : zB) (b2 : Storage) (b5 : Storage) : Option (Stp ((List Int) × Int × zB × Storage × Storage)) :=
 cond (decide (s6 < (b1.zA.length : Int))) ((idx b1.zA s6).bind fun x1001 => cond (x1001.Kind == 0) ((idx s3 s6).bind fun x1002 =>
  (zbe N x1001.zJ x1001.Value).bind fun r1003 => (zwz b5.Bytes x1002 r1003).bind fun r1004 =>
  some (.again (s3, (w6 (s6 + 1)), b1, b2, (⟨r1004, b5.Tags⟩ : Storage)))) (some (.again (s3, (w6 (s6 + 1)), b1, b2, b5))))
  (some (.leave (s3, s6, b1, b2, b5)))
def zor.r0 (N : Nat) (x : (List Int) × Int × zB × Storage × Storage) := zor.b0 N x.1 x.2.1 x.2.2.1 x.2.2.2.1 x.2.2.2.2
def zor (N : Nat) (a0 : zB) : Option Storage :=
 (zw N a0).bind fun r1 => (zf2 N 0 (w6 (r1.2 * 16))).bind fun r2 => if 0 ≤ r1.2 then (if r1.2 ≤ r1.2 then (cond (Nat.ble (r1.2.toNat * 1) zbr)
  ((zl (zor.r0 N) N (r1.1, 0, a0, (⟨(⟨#[]⟩ : ByteArray), []⟩ : Storage), (⟨r2, (List.replicate r1.2.toNat (false : Bool))⟩ : Storage))).bind fun y3 =>
  some y3.2.2.2.2) none) else none) else none
def z31 (N : Nat) (a0 : zB) : Option zC :=
 (zor N a0).bind fun r1 => some (⟨r1, 0, [], [], 0, 0, 0⟩ : zC)
def zl6 (a0 : zB) (a1 : Int) : Option Bool :=
 (idx a0.zA a1).bind fun x1 => (zc4 x1.zJ.Kind).bind fun r2 => some r2
def z01 (a0 : Storage) (a1 : Int) (a2 : Int) : Option Bool :=
 (zi a1 0 (a0.Bytes.size : Int)).bind fun r1 => (cond r1 ((zi a2 0 (w6 ((a0.Bytes.size : Int) - a1))).bind fun r2 => some r2)
  (some false)).bind fun g3 => some g3
def zdz (N : Nat) (a0 : zB) (a1 : zC) (a2 : Int) : Option (Int × Int) :=
 (idx a0.zA a2).bind fun x1 => (zw N a0).bind fun r2 => cond (x1.Kind != 2) ((idx r2.1 a2).bind fun x3 => some (x3, 0)) ((zee N a0 x1.Base).bind fun r4 =>
  (idx r2.1 r4).bind fun x5 => (zoh N a1.Storage x5).bind fun r6 => cond (r6.2 != 0) (some (0, 4)) ((zec x1.zJ).bind fun r7 =>
  (z01 a1.Storage (w6 (r6.1.Address.Offset + x1.Offset)) r7).bind fun r8 => cond (!r8) (some (0, 5))
  (some ((w6 (r6.1.Address.Offset + x1.Offset)), 0))))
def zj3 (N : Nat) (a0 : zB) (a1 : zC) (a2 : Int) : Option (ByteArray × Int) :=
 (idx a0.zA a2).bind fun x1 => cond (x1.Kind == 4) ((zbe N x1.zJ x1.Value).bind fun r2 => some (r2, 0)) ((zdz N a0 a1 a2).bind fun r3 => cond (r3.2 != 0)
  (some ((⟨#[]⟩ : ByteArray), r3.2)) ((zec x1.zJ).bind fun r4 =>
  if 0 ≤ (w6 (r3.1 + r4)) ∧ (w6 (r3.1 + r4)) ≤ (a1.Storage.Bytes.size : Int) then (if 0 ≤ r3.1 ∧ r3.1 ≤ (w6 (r3.1 + r4)) then (some ((a1.Storage.Bytes.extract r3.1.toNat (w6 (r3.1 + r4)).toNat), 0)) else none) else none))
def zj7 (N : Nat) (a0 : ByteArray) (a1 : Int) : Option ByteArray :=
 cond (decide ((a0.size : Int) ≥ a1))
  (if 0 ≤ a1 ∧ a1 ≤ (a0.size : Int) then (if 0 ≤ (0 : Int) ∧ (0 : Int) ≤ a1 then (some (a0.extract (0 : Int).toNat a1.toNat)) else none) else none)
  ((zf2 N 32 (w6 (a1 - (a0.size : Int)))).bind fun r1 => if ((a0.size + r1.size : Nat) : Int) > IntKind.i64.max then none else some (a0 ++ r1))
def zc9.b0 (N : Nat) (s1 : Int) (s2 : ByteArray) (s8 : Int) (b6 : Storage) (b7 : Storage) : Option (Stp (Int × ByteArray × Int × Storage × Storage)) :=
 cond (decide (s8 < (s2.size : Int)))
  (if 0 ≤ (w6 ((w6 (s1 + s8)).tdiv 16)) then (if (w6 ((w6 (s1 + s8)).tdiv 16)) < (b7.Tags.length : Int) then ((b7.Tags[(w6 ((w6 (s1 + s8)).tdiv 16)).toNat]?).bind fun x1001 =>
  some (.again (s1, s2, (w6 (s8 + 1)), b6, (⟨b7.Bytes, (b7.Tags.set ((w6 ((w6 (s1 + s8)).tdiv 16)).toNat) false)⟩ : Storage)))) else none) else none)
  (some (.leave (s1, s2, s8, b6, b7)))
def zc9.r0 (N : Nat) (x : Int × ByteArray × Int × Storage × Storage) := zc9.b0 N x.1 x.2.1 x.2.2.1 x.2.2.2.1 x.2.2.2.2
def zc9 (N : Nat) (a0 : Storage) (a1 : Int) (a2 : ByteArray) : Option Storage :=
 (zhm a0).bind fun r1 => (zwz a0.Bytes a1 a2).bind fun r2 =>
  (zl (zc9.r0 N) N (a1, a2, 0, (⟨(⟨#[]⟩ : ByteArray), []⟩ : Storage), (⟨r2, r1.Tags⟩ : Storage))).bind fun y3 => some y3.2.2.2.2
def zle (a0 : Int) (a1 : Int) : Option (Int × Bool) :=
 (cond (a1 == 11) (some true) (some (a1 == 13))).bind fun g1 => cond g1 (some ((w6 (0 - a0)), (decide (a1 ≥ 10)))) (some (a0, (decide (a1 ≥ 10))))
def zc1.b0 (N : Nat) (s0 : ByteArray) (s5 : Int) (s6 : Int) (s7 : Int) (b2 : Value) : Option (Round (Value × Int × Int) (ByteArray × Int × Int × Int × Value)) :=
 cond (decide (s7 < (s0.size : Int))) (cond (s7 == (w6 ((s0.size : Int) - 1))) ((zhl s0 s7).bind fun x1001 =>
  (cond (decide ((w6 ((w6 (x1001.toNat : Int)).tdiv 16)) < 10)) (some true) ((zhl s0 s7).bind fun x1002 =>
  some (decide (((x1002.toNat : Int).tmod 16) > 9)))).bind fun g1003 => cond g1003 (some (.result ((⟨0, (⟨#[]⟩ : ByteArray)⟩ : Value), s7, 21))) ((zhl s0 s7).bind fun x1004 =>
  some (.again (s0, (w6 ((w6 (10 * s5)) + ((w6 (x1004.toNat : Int)).tmod 16))), (w6 ((w6 (x1001.toNat : Int)).tdiv 16)), (w6 (s7 + 1)), b2))))
  ((cond (decide (s6 < 10)) (some true) ((zhl s0 s7).bind fun x1005 => some (decide (((x1005.toNat : Int).tmod 16) > 9)))).bind fun g1006 =>
  cond g1006 (some (.result ((⟨0, (⟨#[]⟩ : ByteArray)⟩ : Value), s7, 21))) ((zhl s0 s7).bind fun x1007 =>
  some (.again (s0, (w6 ((w6 (10 * s5)) + ((w6 (x1007.toNat : Int)).tmod 16))), s6, (w6 (s7 + 1)), b2)))))
  (some (.leave (s0, s5, s6, s7, b2)))
def zc1.r0 (N : Nat) (x : ByteArray × Int × Int × Int × Value) := zc1.b0 N x.1 x.2.1 x.2.2.1 x.2.2.2.1 x.2.2.2.2
def zc1 (N : Nat) (a0 : ByteArray) : Option (Value × Int × Int) :=
 (zj (zc1.r0 N) N (a0, 0, 15, 0, (⟨0, (⟨#[]⟩ : ByteArray)⟩ : Value))).bind fun z2 => zb5 z2 (fun z => some z) (fun y1 =>
  (zle y1.2.1 y1.2.2.1).bind fun r3 => some ((⟨r3.1, (⟨#[]⟩ : ByteArray)⟩ : Value), 0, 0))
def zcw.b0 (N : Nat) (s1 : ByteArray) (s7 : Int) (s8 : Int) (b2 : DataType) (b4 : Value) : Option (Round (Value × Int × Int) (ByteArray × Int × Int × DataType × Value)) :=
 cond (decide (s8 < (w6 (2 * (s1.size : Int))))) ((zhl s1 (w6 (s8.tdiv 2))).bind fun x1001 => cond ((s8.tmod 2) == 1)
  ((zhl s1 (w6 (s8.tdiv 2))).bind fun x1002 => cond (s8 == (w6 ((w6 (2 * (s1.size : Int))) - 1)))
  ((cond (decide (((w6 (x1002.toNat : Int)).tmod 16) < 10)) (some true) ((cond (s8 == 0) (some ((b2.Length.tmod 2) == 0)) (some false)).bind fun g1003 =>
  (cond g1003 (some (((w6 (x1002.toNat : Int)).tmod 16) != 0)) (some false)).bind fun g1004 => some g1004)).bind fun g1005 =>
  cond g1005 (some (.result ((⟨0, (⟨#[]⟩ : ByteArray)⟩ : Value), (w6 (s8.tdiv 2)), 21)))
  (cond (s8 == (w6 ((w6 (2 * (s1.size : Int))) - 1))) ((zle s7 ((w6 (x1002.toNat : Int)).tmod 16)).bind fun r1006 =>
  some (.again (s1, r1006.1, (w6 (s8 + 1)), b2, b4)))
  (some (.again (s1, (w6 ((w6 (10 * s7)) + ((w6 (x1002.toNat : Int)).tmod 16))), (w6 (s8 + 1)), b2, b4)))))
  ((cond (decide (((w6 (x1002.toNat : Int)).tmod 16) > 9)) (some true) ((cond (s8 == 0) (some ((b2.Length.tmod 2) == 0)) (some false)).bind fun g1007 =>
  (cond g1007 (some (((w6 (x1002.toNat : Int)).tmod 16) != 0)) (some false)).bind fun g1008 => some g1008)).bind fun g1009 =>
  cond g1009 (some (.result ((⟨0, (⟨#[]⟩ : ByteArray)⟩ : Value), (w6 (s8.tdiv 2)), 21)))
  (cond (s8 == (w6 ((w6 (2 * (s1.size : Int))) - 1))) ((zle s7 ((w6 (x1002.toNat : Int)).tmod 16)).bind fun r1010 =>
  some (.again (s1, r1010.1, (w6 (s8 + 1)), b2, b4)))
  (some (.again (s1, (w6 ((w6 (10 * s7)) + ((w6 (x1002.toNat : Int)).tmod 16))), (w6 (s8 + 1)), b2, b4))))))
  (cond (s8 == (w6 ((w6 (2 * (s1.size : Int))) - 1))) ((cond (decide ((w6 ((w6 (x1001.toNat : Int)).tdiv 16)) < 10))
  (some true) ((cond (s8 == 0) (some ((b2.Length.tmod 2) == 0)) (some false)).bind fun g1011 =>
  (cond g1011 (some ((w6 ((w6 (x1001.toNat : Int)).tdiv 16)) != 0)) (some false)).bind fun g1012 => some g1012)).bind fun g1013 =>
  cond g1013 (some (.result ((⟨0, (⟨#[]⟩ : ByteArray)⟩ : Value), (w6 (s8.tdiv 2)), 21)))
  (cond (s8 == (w6 ((w6 (2 * (s1.size : Int))) - 1)))
  ((zle s7 (w6 ((w6 (x1001.toNat : Int)).tdiv 16))).bind fun r1014 => some (.again (s1, r1014.1, (w6 (s8 + 1)), b2, b4)))
  (some (.again (s1, (w6 ((w6 (10 * s7)) + (w6 ((w6 (x1001.toNat : Int)).tdiv 16)))), (w6 (s8 + 1)), b2, b4)))))
  ((cond (decide ((w6 ((w6 (x1001.toNat : Int)).tdiv 16)) > 9)) (some true) ((cond (s8 == 0) (some ((b2.Length.tmod 2) == 0))
  (some false)).bind fun g1015 => (cond g1015 (some ((w6 ((w6 (x1001.toNat : Int)).tdiv 16)) != 0)) (some false)).bind fun g1016 =>
  some g1016)).bind fun g1017 => cond g1017 (some (.result ((⟨0, (⟨#[]⟩ : ByteArray)⟩ : Value), (w6 (s8.tdiv 2)), 21)))
  (cond (s8 == (w6 ((w6 (2 * (s1.size : Int))) - 1)))
  ((zle s7 (w6 ((w6 (x1001.toNat : Int)).tdiv 16))).bind fun r1018 => some (.again (s1, r1018.1, (w6 (s8 + 1)), b2, b4)))
  (some (.again (s1, (w6 ((w6 (10 * s7)) + (w6 ((w6 (x1001.toNat : Int)).tdiv 16)))), (w6 (s8 + 1)), b2, b4)))))))
  (some (.leave (s1, s7, s8, b2, b4)))
def zcw.r0 (N : Nat) (x : ByteArray × Int × Int × DataType × Value) := zcw.b0 N x.1 x.2.1 x.2.2.1 x.2.2.2.1 x.2.2.2.2
def zcw (N : Nat) (a0 : DataType) (a1 : ByteArray) : Option (Value × Int × Int) :=
 (zj (zcw.r0 N) N (a1, 0, 0, a0, (⟨0, (⟨#[]⟩ : ByteArray)⟩ : Value))).bind fun z2 => zb5 z2 (fun z => some z) (fun y1 =>
  some ((⟨y1.2.1, (⟨#[]⟩ : ByteArray)⟩ : Value), 0, 0))
def zwl (N : Nat) (a0 : DataType) (a1 : ByteArray) : Option (Value × Int × Int) :=
 (zgq a0).bind fun r1 => cond (r1 != 0) (some ((⟨0, (⟨#[]⟩ : ByteArray)⟩ : Value), 0, r1)) (cond (a0.Kind == 4) (some ((⟨0, (⟨#[]⟩ : ByteArray)⟩ : Value), 0, 17))
  ((zec a0).bind fun r2 => cond ((a1.size : Int) != r2) (some ((⟨0, (⟨#[]⟩ : ByteArray)⟩ : Value), 0, 18)) (cond (a0.Kind == 0) (some ((⟨0, a1⟩ : Value), 0, 0))
  (cond (a0.Kind == 3) ((zfj N a1 0 (a1.size : Int)).bind fun r3 => (zhl a1 0).bind fun x4 => cond (decide ((x4.toNat : Int) ≥ 128))
  (if (w6 (8 * (a1.size : Int))) < 0 then none else (ziw N a0).bind fun r5 => (ziw N a0).bind fun r6 =>
  (zi (w6 (r3 - (w6 (1 * 2 ^ (min (w6 (8 * (a1.size : Int))).toNat 64))))) (w6 (0 - r5)) r6).bind fun r7 =>
  cond (!r7) (some ((⟨0, (⟨#[]⟩ : ByteArray)⟩ : Value), 0, 19))
  (some ((⟨(w6 (r3 - (w6 (1 * 2 ^ (min (w6 (8 * (a1.size : Int))).toNat 64))))), (⟨#[]⟩ : ByteArray)⟩ : Value), 0, 0)))
  ((ziw N a0).bind fun r8 => (ziw N a0).bind fun r9 => (zi r3 (w6 (0 - r8)) r9).bind fun r10 => cond (!r10)
  (some ((⟨0, (⟨#[]⟩ : ByteArray)⟩ : Value), 0, 19)) (some ((⟨r3, (⟨#[]⟩ : ByteArray)⟩ : Value), 0, 0)))) (cond (a0.Kind == 2) ((zc1 N a1).bind fun r11 =>
  some (r11.1, r11.2.1, r11.2.2)) ((zcw N a0 a1).bind fun r12 => some (r12.1, r12.2.1, r12.2.2)))))))
def zds (N : Nat) (a0 : zB) (a1 : zC) (a2 : Int) : Option (Number × Int) :=
 (zj3 N a0 a1 a2).bind fun r1 => cond (r1.2 != 0) (some ((⟨0, 0⟩ : Number), r1.2)) ((idx a0.zA a2).bind fun x2 => (zwl N x2.zJ r1.1).bind fun r3 =>
  cond (r3.2.2 != 0) (some ((⟨0, 0⟩ : Number), 1)) (some ((⟨r3.1.N, x2.zJ.Scale⟩ : Number), 0)))
def zl8 (a0 : Number) : Option Int :=
 (zi a0.N (-999999999999999) 999999999999999).bind fun r1 => (cond r1 ((zi a0.Scale 0 15).bind fun r2 => some r2) (some false)).bind fun g3 =>
  (zbj (!g3)).bind fun r4 => some (w6 (3 * r4))
def zoi (a0 : DataType) : Option Int :=
 (zgq a0).bind fun r1 => cond (r1 != 0) (some r1) ((zc4 a0.Kind).bind fun r2 => (zbj (!r2)).bind fun r3 => some (w6 (17 * r3)))
def zen.b0 (N : Nat) (s0 : List Int) : Option (Stp (List Int)) :=
 (cond (decide ((s0.length : Int) > 0)) ((idx s0 (w6 ((s0.length : Int) - 1))).bind fun x1001 => some (x1001 == 0)) (some false)).bind fun g1002 =>
  cond g1002 (if 0 ≤ (w6 ((s0.length : Int) - 1)) ∧ (w6 ((s0.length : Int) - 1)) ≤ (s0.length : Int) then (if 0 ≤ (0 : Int) ∧ (0 : Int) ≤ (w6 ((s0.length : Int) - 1)) then (some (.again ((s0.take (w6 ((s0.length : Int) - 1)).toNat).drop (0 : Int).toNat))) else none) else none)
  (some (.leave s0))
def zen.r0 (N : Nat) (x : (List Int)) := zen.b0 N x
def zen (N : Nat) (a0 : List Int) : Option ((List Int)) :=
 (zl (zen.r0 N) N a0).bind fun y1 => some y1
def zfn.b0 (N : Nat) (s0 : Int) (s5 : List Int) (s6 : Int) (b4 : zK) : Option (Stp (Int × (List Int) × Int × zK)) :=
 cond (decide (s6 > 0)) (cond (Nat.ble ((s5.length + ([(s6.tmod 10)] : List Int).length) * 8) zbr)
  (some (.again (s0, (s5 ++ ([(s6.tmod 10)] : List Int)), (w6 (s6.tdiv 10)), b4))) none) (some (.leave (s0, s5, s6, b4)))
def zfn.r0 (N : Nat) (x : Int × (List Int) × Int × zK) := zfn.b0 N x.1 x.2.1 x.2.2.1 x.2.2.2
def zfn (N : Nat) (a0 : Int) (a1 : Int) : Option zK :=
 if 0 ≤ a1 then (if a1 ≤ a1 then (cond (Nat.ble (a1.toNat * 8) zbr) ((znf a0).bind fun r1 =>
  (zl (zfn.r0 N) N (a0, (List.replicate a1.toNat (0 : Int)), r1, (⟨false, []⟩ : zK))).bind fun y2 => (zen N y2.2.1).bind fun r3 =>
  some (⟨(decide (y2.1 < 0)), r3⟩ : zK)) none) else none) else none
def zm4 (a0 : Int) : Option ((List Int)) :=
 if 0 ≤ a0 then (if a0 ≤ a0 then (cond (Nat.ble (a0.toNat * 8) zbr) (cond (Nat.ble (((List.replicate a0.toNat (0 : Int)).length + ([1] : List Int).length) * 8) zbr)
  (some ((List.replicate a0.toNat (0 : Int)) ++ ([1] : List Int))) none) none) else none) else none
def zwi (N : Nat) (a0 : Number) : Option zQ :=
 (zfn N a0.N 0).bind fun r1 => (zm4 a0.Scale).bind fun r2 => some (⟨r1, r2⟩ : zQ)
def zgn.b0 (N : Nat) (s0 : List Int) (s1 : List Int) (s5 : Int) : Option (Round Int ((List Int) × (List Int) × Int)) :=
 cond (decide (s5 ≥ 0)) ((idx s0 s5).bind fun x1001 => (idx s1 s5).bind fun x1002 => cond (x1001 != x1002) ((idx s0 s5).bind fun x1003 => (idx s1 s5).bind fun x1004 =>
  (zbj (decide (x1003 > x1004))).bind fun r1005 => some (.result (w6 ((w6 (2 * r1005)) - 1))))
  (some (.again (s0, s1, (w6 (s5 - 1)))))) (some (.leave (s0, s1, s5)))
def zgn.r0 (N : Nat) (x : (List Int) × (List Int) × Int) := zgn.b0 N x.1 x.2.1 x.2.2
def zgn (N : Nat) (a0 : List Int) (a1 : List Int) : Option Int :=
 cond ((a0.length : Int) != (a1.length : Int)) ((zbj (decide ((a0.length : Int) > (a1.length : Int)))).bind fun r1 =>
  some (w6 ((w6 (2 * r1)) - 1))) ((zj (zgn.r0 N) N (a0, a1, (w6 ((a0.length : Int) - 1)))).bind fun z3 => zb5 z3 (fun z =>
  some z) (fun y2 => some 0))
def zgp.b0 (N : Nat) (s0 : List Int) (s1 : List Int) (s5 : List Int) (s6 : Int) (s7 : Int) : Option (Stp ((List Int) × (List Int) × (List Int) × Int × Int)) :=
 cond (decide (s7 < (s0.length : Int))) ((idx s0 s7).bind fun x1001 => cond (decide (s7 < (s1.length : Int))) ((idx s1 s7).bind fun x1002 =>
  (zbj (decide ((w6 ((w6 (x1001 - s6)) - x1002)) < 0))).bind fun r1003 =>
  cond (Nat.ble ((s5.length + ([(w6 ((w6 ((w6 (x1001 - s6)) - x1002)) + (w6 (10 * r1003))))] : List Int).length) * 8) zbr)
  (some (.again (s0, s1, (s5 ++ ([(w6 ((w6 ((w6 (x1001 - s6)) - x1002)) + (w6 (10 * r1003))))] : List Int)), r1003, (w6 (s7 + 1))))) none)
  ((zbj (decide ((w6 (x1001 - s6)) < 0))).bind fun r1004 =>
  cond (Nat.ble ((s5.length + ([(w6 ((w6 (x1001 - s6)) + (w6 (10 * r1004))))] : List Int).length) * 8) zbr)
  (some (.again (s0, s1, (s5 ++ ([(w6 ((w6 (x1001 - s6)) + (w6 (10 * r1004))))] : List Int)), r1004, (w6 (s7 + 1))))) none))
  (some (.leave (s0, s1, s5, s6, s7)))
def zgp.r0 (N : Nat) (x : (List Int) × (List Int) × (List Int) × Int × Int) := zgp.b0 N x.1 x.2.1 x.2.2.1 x.2.2.2.1 x.2.2.2.2
def zgp (N : Nat) (a0 : List Int) (a1 : List Int) : Option ((List Int)) :=
 (zl (zgp.r0 N) N (a0, a1, [], 0, 0)).bind fun y1 => (zen N y1.2.2.1).bind fun r2 => some r2
def zb6.b2 (N : Nat) (s0 : List Int) (s1 : List Int) (s6 : List Int) (s7 : List Int) (s8 : Int) : Option (Stp ((List Int) × (List Int) × (List Int) × (List Int) × Int)) :=
 (zgn N s7 s1).bind fun r3001 => cond (decide (r3001 ≥ 0)) ((zgp N s7 s1).bind fun r3002 =>
  if 0 ≤ s8 then (if s8 < (s6.length : Int) then ((s6[s8.toNat]?).bind fun x3003 => if 0 ≤ s8 then (if s8 < (s6.length : Int) then ((s6[s8.toNat]?).bind fun x3004 =>
  some (.again (s0, s1, (s6.set s8.toNat (w6 (x3003 + 1))), r3002, s8))) else none) else none) else none) else none) (some (.leave (s0, s1, s6, s7, s8)))
def zb6.r2 (N : Nat) (x : (List Int) × (List Int) × (List Int) × (List Int) × Int) := zb6.b2 N x.1 x.2.1 x.2.2.1 x.2.2.2.1 x.2.2.2.2
def zb6.b0 (N : Nat) (s0 : List Int) (s1 : List Int) (s6 : List Int) (s7 : List Int) (s8 : Int) : Option (Stp ((List Int) × (List Int) × (List Int) × (List Int) × Int)) :=
 cond (decide (s8 ≥ 0)) ((idx s0 s8).bind fun x1001 => cond (Nat.ble ((([x1001] : List Int).length + s7.length) * 8) zbr)
  ((zen N (([x1001] : List Int) ++ s7)).bind fun r1002 => (zl (zb6.r2 N) N (s0, s1, s6, r1002, s8)).bind fun y1003 =>
  some (.again (y1003.1, y1003.2.1, y1003.2.2.1, y1003.2.2.2.1, (w6 (y1003.2.2.2.2 - 1))))) none) (some (.leave (s0, s1, s6, s7, s8)))
def zb6.r0 (N : Nat) (x : (List Int) × (List Int) × (List Int) × (List Int) × Int) := zb6.b0 N x.1 x.2.1 x.2.2.1 x.2.2.2.1 x.2.2.2.2
def zb6 (N : Nat) (a0 : List Int) (a1 : List Int) : Option ((List Int) × (List Int)) :=
 if 0 ≤ (a0.length : Int) then (if (a0.length : Int) ≤ (a0.length : Int) then (cond (Nat.ble ((a0.length : Int).toNat * 8) zbr)
  ((zl (zb6.r0 N) N (a0, a1, (List.replicate (a0.length : Int).toNat (0 : Int)), [], (w6 ((a0.length : Int) - 1)))).bind fun y1 =>
  (zen N y1.2.2.1).bind fun r2 => some (r2, y1.2.2.2.1)) none) else none) else none
def zgb.b0 (N : Nat) (s0 : List Int) (s1 : List Int) (s5 : List Int) (s6 : Int) (s7 : Int) : Option (Stp ((List Int) × (List Int) × (List Int) × Int × Int)) :=
 (cond (decide (s7 < (s0.length : Int))) (some true) (some (decide (s7 < (s1.length : Int))))).bind fun g1001 => (cond g1001 (some true) (some (decide (s6 > 0)))).bind fun g1002 =>
  cond g1002 (cond (decide (s7 < (s0.length : Int))) ((idx s0 s7).bind fun x1003 => cond (decide (s7 < (s1.length : Int))) ((idx s1 s7).bind fun x1004 =>
  cond (Nat.ble ((s5.length + ([((w6 ((w6 (s6 + x1003)) + x1004)).tmod 10)] : List Int).length) * 8) zbr)
  (some (.again (s0, s1, (s5 ++ ([((w6 ((w6 (s6 + x1003)) + x1004)).tmod 10)] : List Int)), (w6 ((w6 ((w6 (s6 + x1003)) + x1004)).tdiv 10)), (w6 (s7 + 1))))) none)
  (cond (Nat.ble ((s5.length + ([((w6 (s6 + x1003)).tmod 10)] : List Int).length) * 8) zbr)
  (some (.again (s0, s1, (s5 ++ ([((w6 (s6 + x1003)).tmod 10)] : List Int)), (w6 ((w6 (s6 + x1003)).tdiv 10)), (w6 (s7 + 1))))) none))
  (cond (decide (s7 < (s1.length : Int))) ((idx s1 s7).bind fun x1005 => cond (Nat.ble ((s5.length + ([((w6 (s6 + x1005)).tmod 10)] : List Int).length) * 8) zbr)
  (some (.again (s0, s1, (s5 ++ ([((w6 (s6 + x1005)).tmod 10)] : List Int)), (w6 ((w6 (s6 + x1005)).tdiv 10)), (w6 (s7 + 1))))) none)
  (cond (Nat.ble ((s5.length + ([(s6.tmod 10)] : List Int).length) * 8) zbr)
  (some (.again (s0, s1, (s5 ++ ([(s6.tmod 10)] : List Int)), (w6 (s6.tdiv 10)), (w6 (s7 + 1))))) none))) (some (.leave (s0, s1, s5, s6, s7)))
def zgb.r0 (N : Nat) (x : (List Int) × (List Int) × (List Int) × Int × Int) := zgb.b0 N x.1 x.2.1 x.2.2.1 x.2.2.2.1 x.2.2.2.2
def zgb (N : Nat) (a0 : List Int) (a1 : List Int) : Option ((List Int)) :=
 (zl (zgb.r0 N) N (a0, a1, [], 0, 0)).bind fun y1 => some y1.2.2.1
def zt3 (N : Nat) (a0 : zQ) (a1 : Int) (a2 : Bool) : Option zK :=
 if 0 ≤ a1 then (if a1 ≤ a1 then (cond (Nat.ble (a1.toNat * 8) zbr) (cond (Nat.ble (((List.replicate a1.toNat (0 : Int)).length + a0.Top.zR.length) * 8) zbr)
  ((zen N ((List.replicate a1.toNat (0 : Int)) ++ a0.Top.zR)).bind fun r1 => (zb6 N r1 a0.zW).bind fun r2 =>
  (cond a2 ((zgb N r2.2 r2.2).bind fun r3 => (zgn N r3 a0.zW).bind fun r4 => some (decide (r4 ≥ 0))) (some false)).bind fun g5 =>
  cond g5 ((zgb N r2.1 ([1] : List Int)).bind fun r6 => (cond a0.Top.Below (some (decide ((r6.length : Int) > 0))) (some false)).bind fun g7 => some (⟨g7, r6⟩ : zK))
  ((cond a0.Top.Below (some (decide ((r2.1.length : Int) > 0))) (some false)).bind fun g8 => some (⟨g8, r2.1⟩ : zK))) none) none) else none) else none
def zfq.b0 (N : Nat) (s3 : Int) (s4 : Int) (b1 : zK) : Option (Stp (Int × Int × zK)) :=
 cond (decide (s4 ≥ 0)) ((idx b1.zR s4).bind fun x1001 => some (.again ((w6 ((w6 (10 * s3)) + x1001)), (w6 (s4 - 1)), b1)))
  (some (.leave (s3, s4, b1)))
def zfq.r0 (N : Nat) (x : Int × Int × zK) := zfq.b0 N x.1 x.2.1 x.2.2
def zfq (N : Nat) (a0 : zK) : Option Int :=
 (zl (zfq.r0 N) N (0, (w6 ((a0.zR.length : Int) - 1)), a0)).bind fun y1 => cond y1.2.2.Below (some (w6 (0 - y1.1))) (some y1.1)
def zre (N : Nat) (a0 : zQ) (a1 : DataType) (a2 : Bool) : Option (Int × Int) :=
 (zt3 N a0 a1.Scale a2).bind fun r1 => cond (decide ((r1.zR.length : Int) > a1.Length)) (some (0, 19)) ((zfq N r1).bind fun r2 => some (r2, 0))
def zr1 (N : Nat) (a0 : Number) (a1 : DataType) (a2 : Bool) : Option (Value × Int) :=
 (zl8 a0).bind fun r1 => cond (r1 != 0) (some ((⟨0, (⟨#[]⟩ : ByteArray)⟩ : Value), r1)) ((zoi a1).bind fun r2 => cond (r2 != 0)
  (some ((⟨0, (⟨#[]⟩ : ByteArray)⟩ : Value), r2)) ((zwi N a0).bind fun r3 => (zre N r3 a1 a2).bind fun r4 => some ((⟨r4.1, (⟨#[]⟩ : ByteArray)⟩ : Value), r4.2)))
def zrc (N : Nat) (a0 : zB) (a1 : zC) (a2 : Int) (a3 : Number) (a4 : Bool) : Option (Int × zC) :=
 (idx a0.zA a2).bind fun x1 => (zr1 N a3 x1.zJ a4).bind fun r2 => cond (r2.2 != 0) (some (2, a1)) ((zdz N a0 a1 a2).bind fun r3 => cond (r3.2 != 0)
  (some (r3.2, a1)) ((zbe N x1.zJ r2.1).bind fun r4 => (zc9 N a1.Storage r3.1 r4).bind fun r5 =>
  some (0, (⟨r5, a1.At, a1.Stack, a1.Lines, a1.Status, a1.Exception, a1.Steps⟩ : zC))))
def zqi (N : Nat) (a0 : Number) (a1 : Number) : Option (zK × zK × Int) :=
 (zfn N a0.N (w6 ((if a1.Scale > a0.Scale then a1.Scale else a0.Scale) - a0.Scale))).bind fun r1 =>
  (zfn N a1.N (w6 ((if a1.Scale > a0.Scale then a1.Scale else a0.Scale) - a1.Scale))).bind fun r2 =>
  some (r1, r2, (if a1.Scale > a0.Scale then a1.Scale else a0.Scale))
def zul (N : Nat) (a0 : zK) (a1 : zK) : Option zK :=
 cond (a0.Below == a1.Below) ((zgb N a0.zR a1.zR).bind fun r1 => some (⟨a0.Below, r1⟩ : zK)) ((zgn N a0.zR a1.zR).bind fun r2 =>
  cond (decide (r2 < 0)) ((zgp N a1.zR a0.zR).bind fun r3 => (cond a1.Below (some (decide ((r3.length : Int) > 0))) (some false)).bind fun g4 =>
  some (⟨g4, r3⟩ : zK)) ((zgp N a0.zR a1.zR).bind fun r5 => (cond a0.Below (some (decide ((r5.length : Int) > 0))) (some false)).bind fun g6 =>
  some (⟨g6, r5⟩ : zK)))
def zcl.b2 (N : Nat) (s5 : List Int) (s6 : Int) (s7 : List Int) (s8 : Int) (s9 : Int) (b2 : zK) (b3 : zK) (b4 : zK) : Option (Stp ((List Int) × Int × (List Int) × Int × Int × zK × zK × zK)) :=
 (cond (decide (s9 < (b2.zR.length : Int))) (some true) (some (decide (s8 > 0)))).bind fun g3001 => cond g3001 (cond (decide (s9 < (b2.zR.length : Int)))
  ((idx b2.zR s9).bind fun x3002 => (idx b3.zR s6).bind fun x3003 =>
  cond (Nat.ble ((s7.length + ([((w6 (s8 + (w6 (x3002 * x3003)))).tmod 10)] : List Int).length) * 8) zbr)
  (some (.again (s5, s6, (s7 ++ ([((w6 (s8 + (w6 (x3002 * x3003)))).tmod 10)] : List Int)), (w6 ((w6 (s8 + (w6 (x3002 * x3003)))).tdiv 10)), (w6 (s9 + 1)), b2, b3, b4))) none)
  (cond (Nat.ble ((s7.length + ([(s8.tmod 10)] : List Int).length) * 8) zbr)
  (some (.again (s5, s6, (s7 ++ ([(s8.tmod 10)] : List Int)), (w6 (s8.tdiv 10)), (w6 (s9 + 1)), b2, b3, b4))) none))
  (some (.leave (s5, s6, s7, s8, s9, b2, b3, b4)))
def zcl.r2 (N : Nat) (x : (List Int) × Int × (List Int) × Int × Int × zK × zK × zK) := zcl.b2 N x.1 x.2.1 x.2.2.1 x.2.2.2.1 x.2.2.2.2.1 x.2.2.2.2.2.1 x.2.2.2.2.2.2.1 x.2.2.2.2.2.2.2
def zcl.b0 (N : Nat) (s5 : List Int) (s6 : Int) (b2 : zK) (b3 : zK) (b4 : zK) : Option (Stp ((List Int) × Int × zK × zK × zK)) :=
 cond (decide (s6 < (b3.zR.length : Int))) (if 0 ≤ s6 then (if s6 ≤ s6 then (cond (Nat.ble (s6.toNat * 8) zbr)
  ((zl (zcl.r2 N) N (s5, s6, (List.replicate s6.toNat (0 : Int)), 0, 0, b2, b3, b4)).bind fun y1001 => (zgb N y1001.1 y1001.2.2.1).bind fun r1002 =>
  some (.again (r1002, (w6 (y1001.2.1 + 1)), y1001.2.2.2.2.2.1, y1001.2.2.2.2.2.2.1, y1001.2.2.2.2.2.2.2))) none) else none) else none)
  (some (.leave (s5, s6, b2, b3, b4)))
def zcl.r0 (N : Nat) (x : (List Int) × Int × zK × zK × zK) := zcl.b0 N x.1 x.2.1 x.2.2.1 x.2.2.2.1 x.2.2.2.2
def zcl (N : Nat) (a0 : zK) (a1 : zK) : Option zK :=
 (zl (zcl.r0 N) N ([], 0, a0, a1, (⟨false, []⟩ : zK))).bind fun y1 => (zen N y1.1).bind fun r2 => (cond (!(y1.2.2.1.Below == y1.2.2.2.1.Below))
  (some (decide ((r2.length : Int) > 0))) (some false)).bind fun g3 => some (⟨g3, r2⟩ : zK)
def z1x (N : Nat) (a0 : Int) (a1 : Number) (a2 : Number) : Option (zQ × Int) :=
 (zqi N a1 a2).bind fun r1 => (cond (a0 == 3) (some true) (some (a0 == 4))).bind fun g2 => (cond g2 (some ((r1.2.1.zR.length : Int) == 0))
  (some false)).bind fun g3 => cond g3 (some ((⟨(⟨false, []⟩ : zK), []⟩ : zQ), 20)) (cond (a0 == 1) ((cond (!r1.2.1.Below)
  (some (decide ((r1.2.1.zR.length : Int) > 0))) (some false)).bind fun g4 => (zul N r1.1 (⟨g4, r1.2.1.zR⟩ : zK)).bind fun r5 =>
  (zm4 r1.2.2).bind fun r6 => some ((⟨r5, r6⟩ : zQ), 0)) (cond (a0 == 2) ((zcl N r1.1 r1.2.1).bind fun r7 =>
  (zm4 (w6 (2 * r1.2.2))).bind fun r8 => some ((⟨r7, r8⟩ : zQ), 0)) (cond (a0 == 3)
  (some ((⟨(⟨(!(r1.1.Below == r1.2.1.Below)), r1.1.zR⟩ : zK), r1.2.1.zR⟩ : zQ), 0)) (cond (a0 == 4)
  ((zb6 N r1.1.zR r1.2.1.zR).bind fun r9 => (zm4 r1.2.2).bind fun r10 => some ((⟨(⟨r1.1.Below, r9.2⟩ : zK), r10⟩ : zQ), 0))
  ((zul N r1.1 r1.2.1).bind fun r11 => (zm4 r1.2.2).bind fun r12 => some ((⟨r11, r12⟩ : zQ), 0))))))
def zlg (N : Nat) (a0 : zT) (a1 : Number) (a2 : Number) : Option (Value × Int) :=
 (zi a0.Op 0 4).bind fun r1 => cond (!r1) (some ((⟨0, (⟨#[]⟩ : ByteArray)⟩ : Value), 4)) ((zl8 a1).bind fun r2 => cond (r2 != 0)
  (some ((⟨0, (⟨#[]⟩ : ByteArray)⟩ : Value), r2)) ((zl8 a2).bind fun r3 => cond (r3 != 0) (some ((⟨0, (⟨#[]⟩ : ByteArray)⟩ : Value), r3))
  ((zoi a0.zJ).bind fun r4 => cond (r4 != 0) (some ((⟨0, (⟨#[]⟩ : ByteArray)⟩ : Value), r4)) ((z1x N a0.Op a1 a2).bind fun r5 => cond (r5.2 != 0)
  (some ((⟨0, (⟨#[]⟩ : ByteArray)⟩ : Value), r5.2)) ((zre N r5.1 a0.zJ a0.Half).bind fun r6 => some ((⟨r6.1, (⟨#[]⟩ : ByteArray)⟩ : Value), r6.2))))))
def znd (N : Nat) (a0 : zB) (a1 : zC) (a2 : zI) : Option (Int × zC) :=
 (idx a2.Args 0).bind fun x1 => (cond (a2.Op == 0) ((zl6 a0 x1).bind fun r2 => some (!r2)) (some false)).bind fun g3 => cond g3 ((idx a2.Args 1).bind fun x4 =>
  (zj3 N a0 a1 x4).bind fun r5 => cond (r5.2 != 0) (some (r5.2, a1)) ((zdz N a0 a1 x1).bind fun r6 => cond (r6.2 != 0) (some (r6.2, a1))
  ((idx a0.zA x1).bind fun x7 => (zj7 N r5.1 x7.zJ.Length).bind fun r8 => (zc9 N a1.Storage r6.1 r8).bind fun r9 =>
  some (0, (⟨r9, a1.At, a1.Stack, a1.Lines, a1.Status, a1.Exception, a1.Steps⟩ : zC))))) ((idx a2.Args 1).bind fun x10 => (zds N a0 a1 x10).bind fun r11 =>
  cond (r11.2 != 0) (some (r11.2, a1)) ((cond (a2.Op == 0) (some true) (some (a2.Op == 1))).bind fun g12 => cond g12 ((zrc N a0 a1 x1 r11.1 (a2.Op == 1)).bind fun r13 =>
  some (r13.1, r13.2)) ((idx a2.Args 2).bind fun x14 => (zds N a0 a1 x14).bind fun r15 => cond (r15.2 != 0) (some (r15.2, a1))
  (if 0 ≤ (w6 (a2.Op - 2)) then (if (w6 (a2.Op - 2)) < (([0, 1, 2, 3, 4] : List Int).length : Int) then ((([0, 1, 2, 3, 4] : List Int)[(w6 (a2.Op - 2)).toNat]?).bind fun x16 =>
  (idx a0.zA x1).bind fun x17 => (zlg N (⟨x16, x17.zJ, false⟩ : zT) r11.1 r15.1).bind fun r18 => cond (r18.2 == 20) (some (3, a1))
  (cond (r18.2 != 0) (some (2, a1)) ((zdz N a0 a1 x1).bind fun r19 => cond (r19.2 != 0) (some (r19.2, a1)) ((zbe N x17.zJ r18.1).bind fun r20 =>
  (zc9 N a1.Storage r19.1 r20).bind fun r21 => some (0, (⟨r21, a1.At, a1.Stack, a1.Lines, a1.Status, a1.Exception, a1.Steps⟩ : zC)))))) else none) else none))))
def zxr (N : Nat) (a0 : Number) (a1 : Number) : Option Int :=
 (zqi N a0 a1).bind fun r1 => (zul N r1.1 (⟨(!r1.2.1.Below), r1.2.1.zR⟩ : zK)).bind fun r2 => cond ((r2.zR.length : Int) == 0) (some 0)
  ((zbj r2.Below).bind fun r3 => some (w6 (1 - (w6 (2 * r3)))))
def zne (N : Nat) (a0 : zB) (a1 : zC) (a2 : zI) : Option (Bool × Int) :=
 (idx a2.Args 0).bind fun x1 => (zl6 a0 x1).bind fun r2 => cond r2 ((idx a2.Args 0).bind fun x3 => (zds N a0 a1 x3).bind fun r4 => cond (r4.2 != 0)
  (some (false, r4.2)) ((idx a2.Args 1).bind fun x5 => (zds N a0 a1 x5).bind fun r6 => cond (r6.2 != 0) (some (false, r6.2)) ((zxr N r4.1 r6.1).bind fun r7 =>
  cond (a2.Op == 7) (some ((r7 == 0), 0)) (some ((decide (r7 < 0)), 0))))) ((idx a2.Args 0).bind fun x8 => (zj3 N a0 a1 x8).bind fun r9 => cond (r9.2 != 0)
  (some (false, r9.2)) ((idx a2.Args 1).bind fun x10 => (zj3 N a0 a1 x10).bind fun r11 => cond (r11.2 != 0) (some (false, r11.2))
  ((zj7 N r9.1 (if (r11.1.size : Int) > (r9.1.size : Int) then (r11.1.size : Int) else (r9.1.size : Int))).bind fun r12 =>
  (zj7 N r11.1 (if (r11.1.size : Int) > (r9.1.size : Int) then (r11.1.size : Int) else (r9.1.size : Int))).bind fun r13 =>
  (zbj (!((Op.bytesLess r12.toList r13.toList) || (r12.toList == r13.toList)))).bind fun r14 => (zbj (Op.bytesLess r12.toList r13.toList)).bind fun r15 =>
  cond (a2.Op == 7) (some (((w6 (r14 - r15)) == 0), 0)) (some ((decide ((w6 (r14 - r15)) < 0)), 0)))))
def zxq (N : Nat) (a0 : Pointer) : Option ByteArray :=
 (zbt N a0.Kind 1).bind fun r1 => if ((r1.size + (⟨#[0]⟩ : ByteArray).size : Nat) : Int) > IntKind.i64.max then none else (zbt N a0.Authority 2).bind fun r2 =>
  if (((r1 ++ (⟨#[0]⟩ : ByteArray)).size + r2.size : Nat) : Int) > IntKind.i64.max then none else (zbt N a0.Address.zU 6).bind fun r3 =>
  if ((((r1 ++ (⟨#[0]⟩ : ByteArray)) ++ r2).size + r3.size : Nat) : Int) > IntKind.i64.max then none else (zbt N a0.Address.Offset 6).bind fun r4 =>
  if (((((r1 ++ (⟨#[0]⟩ : ByteArray)) ++ r2) ++ r3).size + r4.size : Nat) : Int) > IntKind.i64.max then none else some ((((r1 ++ (⟨#[0]⟩ : ByteArray)) ++ r2) ++ r3) ++ r4)
def zj6 (N : Nat) (a0 : Storage) (a1 : Int) (a2 : Pointer) : Option Storage :=
 (zxq N a2).bind fun r1 => (zc9 N a0 a1 r1).bind fun r2 =>
  if 0 ≤ (w6 (a1.tdiv 16)) then (if (w6 (a1.tdiv 16)) < (r2.Tags.length : Int) then ((r2.Tags[(w6 (a1.tdiv 16)).toNat]?).bind fun x3 =>
  some (⟨r2.Bytes, (r2.Tags.set ((w6 (a1.tdiv 16)).toNat) true)⟩ : Storage)) else none) else none
def zo2 (N : Nat) (a0 : Number) : Option Int :=
 (zed N a0.Scale).bind fun r1 => if r1 = 0 then none else some (w6 ((a0.N : Int).tdiv r1))
def zo5 : Nat → Int → Option ByteArray
 | 0, _ => none
 | N + 1, a0 =>
 cond (decide (a0 < (-9))) ((zo5 N (w6 (0 - (w6 (a0.tdiv 10))))).bind fun r1 =>
  if (((⟨#[45]⟩ : ByteArray).size + r1.size : Nat) : Int) > IntKind.i64.max then none else (zo5 N (w6 (0 - (a0.tmod 10)))).bind fun r2 =>
  if ((((⟨#[45]⟩ : ByteArray) ++ r1).size + r2.size : Nat) : Int) > IntKind.i64.max then none else some (((⟨#[45]⟩ : ByteArray) ++ r1) ++ r2)) (cond (decide (a0 < 0))
  ((zo5 N (w6 (0 - a0))).bind fun r3 =>
  if (((⟨#[45]⟩ : ByteArray).size + r3.size : Nat) : Int) > IntKind.i64.max then none else some ((⟨#[45]⟩ : ByteArray) ++ r3)) (cond (decide (a0 < 10))
  (some (zd3 ([(IntKind.wrap .u8 (w6 (48 + a0)))] : List Int))) ((zo5 N (w6 (a0.tdiv 10))).bind fun r4 =>
  if ((r4.size + (zd3 ([(IntKind.wrap .u8 (w6 (48 + (a0.tmod 10))))] : List Int)).size : Nat) : Int) > IntKind.i64.max then none else some (r4 ++ (zd3 ([(IntKind.wrap .u8 (w6 (48 + (a0.tmod 10))))] : List Int))))))
def zhv.b0 (N : Nat) (s3 : ByteArray) (b1 : Number) : Option (Stp (ByteArray × Number)) :=
 cond (decide ((s3.size : Int) ≤ b1.Scale))
  (if (((⟨#[48]⟩ : ByteArray).size + s3.size : Nat) : Int) > IntKind.i64.max then none else some (.again (((⟨#[48]⟩ : ByteArray) ++ s3), b1))) (some (.leave (s3, b1)))
def zhv.r0 (N : Nat) (x : ByteArray × Number) := zhv.b0 N x.1 x.2
def zhv (N : Nat) (a0 : Number) : Option ByteArray :=
 (znf a0.N).bind fun r1 => (zo5 N r1).bind fun r2 => (zl (zhv.r0 N) N (r2, a0)).bind fun y3 => cond (decide (y3.2.Scale > 0))
  (if 0 ≤ (w6 ((y3.1.size : Int) - y3.2.Scale)) ∧ (w6 ((y3.1.size : Int) - y3.2.Scale)) ≤ (y3.1.size : Int) then (if 0 ≤ (0 : Int) ∧ (0 : Int) ≤ (w6 ((y3.1.size : Int) - y3.2.Scale)) then (if (((y3.1.extract (0 : Int).toNat (w6 ((y3.1.size : Int) - y3.2.Scale)).toNat).size + (⟨#[46]⟩ : ByteArray).size : Nat) : Int) > IntKind.i64.max then none else if 0 ≤ (w6 ((y3.1.size : Int) - y3.2.Scale)) ∧ (w6 ((y3.1.size : Int) - y3.2.Scale)) ≤ (y3.1.size : Int) then (if ((((y3.1.extract (0 : Int).toNat (w6 ((y3.1.size : Int) - y3.2.Scale)).toNat) ++ (⟨#[46]⟩ : ByteArray)).size + (y3.1.extract (w6 ((y3.1.size : Int) - y3.2.Scale)).toNat y3.1.size).size : Nat) : Int) > IntKind.i64.max then none else cond (decide (y3.2.N < 0))
  (if (((⟨#[45]⟩ : ByteArray).size + (((y3.1.extract (0 : Int).toNat (w6 ((y3.1.size : Int) - y3.2.Scale)).toNat) ++ (⟨#[46]⟩ : ByteArray)) ++ (y3.1.extract (w6 ((y3.1.size : Int) - y3.2.Scale)).toNat y3.1.size)).size : Nat) : Int) > IntKind.i64.max then none else some ((⟨#[45]⟩ : ByteArray) ++ (((y3.1.extract (0 : Int).toNat (w6 ((y3.1.size : Int) - y3.2.Scale)).toNat) ++ (⟨#[46]⟩ : ByteArray)) ++ (y3.1.extract (w6 ((y3.1.size : Int) - y3.2.Scale)).toNat y3.1.size))))
  (some (((y3.1.extract (0 : Int).toNat (w6 ((y3.1.size : Int) - y3.2.Scale)).toNat) ++ (⟨#[46]⟩ : ByteArray)) ++ (y3.1.extract (w6 ((y3.1.size : Int) - y3.2.Scale)).toNat y3.1.size)))) else none) else none) else none)
  (cond (decide (y3.2.N < 0)) (if (((⟨#[45]⟩ : ByteArray).size + y3.1.size : Nat) : Int) > IntKind.i64.max then none else some ((⟨#[45]⟩ : ByteArray) ++ y3.1)) (some y3.1))
def zrz (N : Nat) (a0 : zB) (a1 : zC) (a2 : Int) : Option (ByteArray × Int) :=
 (zl6 a0 a2).bind fun r1 => cond (!r1) ((zj3 N a0 a1 a2).bind fun r2 => some (r2.1, r2.2)) ((zds N a0 a1 a2).bind fun r3 => cond (r3.2 != 0)
  (some ((⟨#[]⟩ : ByteArray), r3.2)) ((zhv N r3.1).bind fun r4 => some (r4, 0)))
def zaf (N : Nat) (a0 : zB) (a1 : zC) : Option (Int × Int × zC) :=
 (idx a0.zG a1.At).bind fun x1 => (zw N a0).bind fun r2 => (cond (x1.Op == 0) (some (x1.Op == 0)) (cond (x1.Op == 1) (some (x1.Op == 1)) (cond (x1.Op == 2)
  (some (x1.Op == 2)) (cond (x1.Op == 3) (some (x1.Op == 3)) (cond (x1.Op == 4) (some (x1.Op == 4)) (cond (x1.Op == 5) (some (x1.Op == 5)) (some (x1.Op == 6)))))))).bind fun q3 =>
  cond q3 ((znd N a0 a1 x1).bind fun r4 => some ((w6 (a1.At + 1)), r4.1, r4.2)) ((cond (x1.Op == 7) (some (x1.Op == 7)) (some (x1.Op == 8))).bind fun q5 =>
  cond q5 ((zne N a0 a1 x1).bind fun r6 => cond (r6.2 != 0) (some (0, r6.2, a1)) (cond r6.1 ((idx x1.Args 2).bind fun x7 => (idx a0.zA x7).bind fun x8 =>
  some (x8.Target, 0, a1)) (some ((w6 (a1.At + 1)), 0, a1)))) (cond (x1.Op == 9) ((idx x1.Args 0).bind fun x9 => (idx a0.zA x9).bind fun x10 =>
  some (x10.Target, 0, a1)) (cond (x1.Op == 10) ((idx x1.Args 1).bind fun x11 => (zdz N a0 a1 x11).bind fun r12 => cond (r12.2 != 0) (some (0, r12.2, a1))
  ((idx x1.Args 0).bind fun x13 => (idx r2.1 x13).bind fun x14 => (zj6 N a1.Storage x14 (⟨0, (⟨1, r12.1⟩ : Address), 0⟩ : Pointer)).bind fun r15 =>
  some ((w6 (a1.At + 1)), 0, (⟨r15, a1.At, a1.Stack, a1.Lines, a1.Status, a1.Exception, a1.Steps⟩ : zC)))) (cond (x1.Op == 11) ((idx x1.Args 1).bind fun x16 =>
  (idx r2.1 x16).bind fun x17 => (zoh N a1.Storage x17).bind fun r18 => cond (r18.2 != 0) (some (0, 4, a1)) ((idx x1.Args 0).bind fun x19 => (idx r2.1 x19).bind fun x20 =>
  (zj6 N a1.Storage x20 r18.1).bind fun r21 => some ((w6 (a1.At + 1)), 0, (⟨r21, a1.At, a1.Stack, a1.Lines, a1.Status, a1.Exception, a1.Steps⟩ : zC))))
  (cond (x1.Op == 12) ((idx x1.Args 0).bind fun x22 => (idx r2.1 x22).bind fun x23 => (zoh N a1.Storage x23).bind fun r24 => cond (r24.2 != 0) (some (0, 4, a1))
  ((idx x1.Args 1).bind fun x25 => (zds N a0 a1 x25).bind fun r26 => cond (r26.2 != 0) (some (0, r26.2, a1)) ((zo2 N r26.1).bind fun r27 =>
  (zi (w6 (r24.1.Address.Offset + r27)) 0 16777215).bind fun r28 => cond (!r28) (some (0, 5, a1)) ((idx x1.Args 0).bind fun x29 =>
  (idx r2.1 x29).bind fun x30 =>
  (zj6 N a1.Storage x30 (⟨r24.1.Kind, (⟨r24.1.Address.zU, (w6 (r24.1.Address.Offset + r27))⟩ : Address), r24.1.Authority⟩ : Pointer)).bind fun r31 =>
  some ((w6 (a1.At + 1)), 0, (⟨r31, a1.At, a1.Stack, a1.Lines, a1.Status, a1.Exception, a1.Steps⟩ : zC)))))) (cond (x1.Op == 13)
  (cond ((a1.Stack.length : Int) == 6) (some (0, 6, a1)) (cond (Nat.ble ((a1.Stack.length + ([a1.At] : List Int).length) * 8) zbr) ((idx x1.Args 0).bind fun x32 =>
  (idx a0.zA x32).bind fun x33 =>
  some (x33.Target, 0, (⟨a1.Storage, a1.At, (a1.Stack ++ ([a1.At] : List Int)), a1.Lines, a1.Status, a1.Exception, a1.Steps⟩ : zC))) none)) (cond (x1.Op == 14)
  (cond ((a1.Stack.length : Int) == 0) (some ((w6 (a1.At + 1)), 0, (⟨a1.Storage, a1.At, a1.Stack, a1.Lines, 1, a1.Exception, a1.Steps⟩ : zC)))
  (if 0 ≤ (w6 ((a1.Stack.length : Int) - 1)) then (if (w6 ((a1.Stack.length : Int) - 1)) < (a1.Stack.length : Int) then ((a1.Stack[(w6 ((a1.Stack.length : Int) - 1)).toNat]?).bind fun x34 =>
  if 0 ≤ (w6 ((a1.Stack.length : Int) - 1)) ∧ (w6 ((a1.Stack.length : Int) - 1)) ≤ (a1.Stack.length : Int) then (if 0 ≤ (0 : Int) ∧ (0 : Int) ≤ (w6 ((a1.Stack.length : Int) - 1)) then (some ((w6 (x34 + 1)), 0, (⟨a1.Storage, a1.At, ((a1.Stack.drop ((0 : Int).toNat)).take ((w6 ((a1.Stack.length : Int) - 1)).toNat - (0 : Int).toNat)), a1.Lines, a1.Status, a1.Exception, a1.Steps⟩ : zC))) else none) else none) else none) else none))
  (cond (x1.Op == 15) ((idx x1.Args 0).bind fun x35 => (zds N a0 a1 x35).bind fun r36 => cond (r36.2 != 0) (some (0, r36.2, a1)) ((zo2 N r36.1).bind fun r37 =>
  (zi r37 100 999).bind fun r38 => cond r38 (some (0, r37, a1)) (some (0, 2, a1)))) (cond (x1.Op == 16) ((idx x1.Args 0).bind fun x39 =>
  (zrc N a0 a1 x39 (⟨a1.Exception, 0⟩ : Number) false).bind fun r40 => some ((w6 (a1.At + 1)), r40.1, r40.2)) (cond (x1.Op == 17)
  ((idx x1.Args 0).bind fun x41 => (zrz N a0 a1 x41).bind fun r42 => cond (r42.2 != 0) (some (0, r42.2, a1)) (cond ((a1.Lines.length : Int) == 40)
  (some ((w6 (a1.At + 1)), 0, (⟨a1.Storage, a1.At, a1.Stack, a1.Lines, 3, a1.Exception, a1.Steps⟩ : zC)))
  (cond (Nat.ble ((a1.Lines.length + ([r42.1] : List ByteArray).length) * 16) zbr)
  (some ((w6 (a1.At + 1)), 0, (⟨a1.Storage, a1.At, a1.Stack, (a1.Lines ++ ([r42.1] : List ByteArray)), a1.Status, a1.Exception, a1.Steps⟩ : zC))) none)))
  (cond (x1.Op == 18) (some ((w6 (a1.At + 1)), 0, (⟨a1.Storage, a1.At, a1.Stack, a1.Lines, 1, a1.Exception, a1.Steps⟩ : zC)))
  (some ((w6 (a1.At + 1)), 0, a1)))))))))))))
def zes.b0 (N : Nat) (s1 : Int) (s2 : Int) (s7 : Int) (b3 : zB) : Option (Round Int (Int × Int × Int × zB)) :=
 cond (decide (s7 < (b3.zL.length : Int))) ((idx b3.zL s7).bind fun x1001 => (cond (decide (x1001.From ≤ s1)) (some (decide (s1 < x1001.To)))
  (some false)).bind fun g1002 => (cond g1002 ((cond (x1001.Exception == 0) (some true) (some (x1001.Exception == s2))).bind fun g1003 => some g1003) (some false)).bind fun g1004 =>
  cond g1004 (some (.result x1001.Handler)) (some (.again (s1, s2, (w6 (s7 + 1)), b3)))) (some (.leave (s1, s2, s7, b3)))
def zes.r0 (N : Nat) (x : Int × Int × Int × zB) := zes.b0 N x.1 x.2.1 x.2.2.1 x.2.2.2
def zes (N : Nat) (a0 : zB) (a1 : Int) (a2 : Int) : Option Int :=
 (zj (zes.r0 N) N (a1, a2, 0, a0)).bind fun z2 => zb5 z2 (fun z => some z) (fun y1 => some (-1))
def zhn.b0 (N : Nat) (s2 : Int) (b3 : zB) (b4 : zC) (b6 : zC) : Option (Round zC (Int × zB × zC × zC)) :=
 (zes N b3 b4.At s2).bind fun r1001 => cond (r1001 != (-1)) (some (.result (⟨b4.Storage, r1001, b4.Stack, b4.Lines, b4.Status, b4.Exception, b4.Steps⟩ : zC)))
  (cond ((b4.Stack.length : Int) == 0) (some (.result (⟨b4.Storage, b4.At, b4.Stack, b4.Lines, 2, b4.Exception, b4.Steps⟩ : zC)))
  ((idx b4.Stack (w6 ((b4.Stack.length : Int) - 1))).bind fun x1002 =>
  if 0 ≤ (w6 ((b4.Stack.length : Int) - 1)) ∧ (w6 ((b4.Stack.length : Int) - 1)) ≤ (b4.Stack.length : Int) then (if 0 ≤ (0 : Int) ∧ (0 : Int) ≤ (w6 ((b4.Stack.length : Int) - 1)) then (some (.again (s2, b3, (⟨b4.Storage, x1002, ((b4.Stack.take (w6 ((b4.Stack.length : Int) - 1)).toNat).drop (0 : Int).toNat), b4.Lines, b4.Status, b4.Exception, b4.Steps⟩ : zC), b6))) else none) else none))
def zhn.r0 (N : Nat) (x : Int × zB × zC × zC) := zhn.b0 N x.1 x.2.1 x.2.2.1 x.2.2.2
def zhn (N : Nat) (a0 : zB) (a1 : zC) (a2 : Int) : Option zC :=
 (zj (zhn.r0 N) N (a2, a0, (⟨a1.Storage, a1.At, a1.Stack, a1.Lines, a1.Status, a2, a1.Steps⟩ : zC), (⟨(⟨(⟨#[]⟩ : ByteArray), []⟩ : Storage), 0, [], [], 0, 0, 0⟩ : zC))).bind fun z2 =>
  zb5 z2 (fun z => some z) (fun y1 => some y1.2.2.2)
def zvm (N : Nat) (a0 : zB) (a1 : zC) : Option zC :=
 (zj9 a1).bind fun r1 => (zaf N a0 (⟨r1.Storage, r1.At, r1.Stack, r1.Lines, r1.Status, r1.Exception, (w6 (r1.Steps + 1))⟩ : zC)).bind fun r2 =>
  cond (r2.2.1 != 0) ((zj9 a1).bind fun r3 =>
  (zhn N a0 (⟨r3.Storage, r3.At, r3.Stack, r3.Lines, r3.Status, r3.Exception, (w6 (r3.Steps + 1))⟩ : zC) r2.2.1).bind fun r4 => (cond (r4.Status == 0)
  (some (r4.Steps == 300)) (some false)).bind fun g5 => cond g5 (some (⟨r4.Storage, r4.At, r4.Stack, r4.Lines, 3, r4.Exception, r4.Steps⟩ : zC)) (some r4))
  (cond (r2.2.2.Status == 0) (cond (r2.1 == (a0.zG.length : Int))
  (some (⟨r2.2.2.Storage, r2.2.2.At, r2.2.2.Stack, r2.2.2.Lines, 1, r2.2.2.Exception, r2.2.2.Steps⟩ : zC)) ((cond (r2.2.2.Status == 0) (some (r2.2.2.Steps == 300))
  (some false)).bind fun g6 => cond g6 (some (⟨r2.2.2.Storage, r2.1, r2.2.2.Stack, r2.2.2.Lines, 3, r2.2.2.Exception, r2.2.2.Steps⟩ : zC))
  (some (⟨r2.2.2.Storage, r2.1, r2.2.2.Stack, r2.2.2.Lines, r2.2.2.Status, r2.2.2.Exception, r2.2.2.Steps⟩ : zC)))) ((cond (r2.2.2.Status == 0) (some (r2.2.2.Steps == 300))
  (some false)).bind fun g7 => cond g7 (some (⟨r2.2.2.Storage, r2.2.2.At, r2.2.2.Stack, r2.2.2.Lines, 3, r2.2.2.Exception, r2.2.2.Steps⟩ : zC)) (some r2.2.2)))
def ziv.b0 (N : Nat) (s1 : Int) (s6 : List zC) (b2 : zB) (b5 : zC) : Option (Stp (Int × (List zC) × zB × zC)) :=
 (cond (b5.Status == 0) (some (decide (b5.Steps < s1))) (some false)).bind fun g1001 => cond g1001 ((zvm N b2 b5).bind fun r1002 =>
  cond (Nat.ble ((s6.length + ([r1002] : List zC).length) * 120) zbr) (some (.again (s1, (s6 ++ ([r1002] : List zC)), b2, r1002))) none) (some (.leave (s1, s6, b2, b5)))
def ziv.r0 (N : Nat) (x : Int × (List zC) × zB × zC) := ziv.b0 N x.1 x.2.1 x.2.2.1 x.2.2.2
def ziv (N : Nat) (a0 : zB) (a1 : Int) : Option ((List zC)) :=
 (z31 N a0).bind fun r1 => (zl (ziv.r0 N) N (a1, ([r1] : List zC), a0, r1)).bind fun y2 => some y2.2.1
def zn5.b0 (N : Nat) (b1 : zB) (b2 : zP) (b3 : zC) : Option (Stp (zB × zP × zC)) :=
 cond (b3.Status == 0) ((zvm N b1 b3).bind fun r1001 => some (.again (b1, b2, r1001))) (some (.leave (b1, b2, b3)))
def zn5.r0 (N : Nat) (x : zB × zP × zC) := zn5.b0 N x.1 x.2.1 x.2.2
def zn5 (N : Nat) (a0 : zB) : Option zP :=
 (z31 N a0).bind fun r1 => (zl (zn5.r0 N) N (a0, (⟨[], 0, 0, 0⟩ : zP), r1)).bind fun y2 =>
  some (⟨y2.2.2.Lines, y2.2.2.Status, y2.2.2.Exception, y2.2.2.Steps⟩ : zP)
theorem zq3 (N : Nat) (l : List Int) (h : l.length < N) (hl : l.length < 1000000000) : zq N l = some (zhe l) := by
 unfold zq
 have := zbh (f := zq.r0 N) (fun i => (l, (l.length : Int), (i : Int))) (fun i => (l[i]?).bind fun x => if x = 0 then none else some x) l.length
  (fun i hi => by
   have hx := lge hi; simp only [zq.r0, zq.b0, zai, hx, obs, dct (show (i : Int) < (l.length : Int) by omega), ctr]
   by_cases h0 : l[i] = 0
   · simp only [h0, bsf, cfa, if_true]; rw [w6e]; rfl
   · simp only [h0, if_false]; rw [show (l[i] != 0) = true by simpa using h0]; rfl)
  (by simp only [zq.r0, zq.b0, dcf (show ¬ (l.length : Int) < (l.length : Int) by omega), cfa]) h
 simp only [nc0] at this
 rw [this, zmh, ← zot]
 simp only [obs]
 cases l.findSome? (fun x => if x = 0 then none else some x) <;> rfl
def inB (n lo hi : Int) : Bool := decide (lo ≤ n) && decide (n ≤ hi)
theorem z5i (n lo hi : Int) : zep n lo hi = some (inB n lo hi) := by
 unfold zep inB
 cases decide (lo ≤ n) <;> rfl
theorem zjg (n lo hi : Int) : zi n lo hi = some (inB n lo hi) := by
 unfold zi inB
 cases decide (lo ≤ n) <;> rfl
theorem zrk (b : Bool) (e : Int) : za3 b e = some (cond b e 0) := by cases b <;> rfl
theorem ziu (b : Bool) : zbj b = some (cond b 1 0) := by cases b <;> rfl
def zfp (t : DataType) : Int :=
 if t.Kind = 0 then (if inB t.Length 1 256 then (if t.Scale = 0 then 0 else 3) else 18)
 else if t.Kind = 1 ∨ t.Kind = 2 then (if inB t.Length 1 15 then (if inB t.Scale 0 t.Length then 0 else 3) else 18)
 else if t.Kind = 3 then (if t.Length = 4 ∨ t.Length = 9 then (if inB t.Scale 0 t.Length then 0 else 3) else 18)
 else if t.Kind = 4 then (if t.Length = 0 then (if t.Scale = 0 then 0 else 3) else 18)
 else 4
theorem z2n (a b : Bool) (x y : Int) (hx : x ≠ 0) (hy : y ≠ 0) : zhe [cond a x 0, cond b y 0] = cond a x (cond b y 0) := by
 cases a <;> cases b <;> simp [zhe, hx, hy]
theorem zrg (N : Nat) (hN : 10 < N) (t : DataType) : zbo N t = some (zfp t) := by
 have f2 : ∀ a b : Int, zq N [a, b] = some (zhe [a, b]) := fun a b => zq3 N _ (by simp; omega) (by simp)
 unfold zbo zfp
 simp only [z5i, zrk, f2, obs, z2n _ _ 18 3 (by decide) (by decide)]
 by_cases h0 : t.Kind = 0
 · simp only [h0, bst, ctr, if_true]; cases inB t.Length 1 256 <;> by_cases hs : t.Scale = 0 <;> simp [zcn, hs]
 · simp only [beq_eq_false_iff_ne.2 h0, h0, cfa, if_false]
   by_cases h1 : t.Kind = 1
   · simp only [h1, bst, ctr, true_or, if_true, obs]; cases inB t.Length 1 15 <;> cases inB t.Scale 0 t.Length <;> simp
   · by_cases h2 : t.Kind = 2
     · simp only [h2, h1]; cases inB t.Length 1 15 <;> cases inB t.Scale 0 t.Length <;> simp
     · by_cases h3 : t.Kind = 3
       · simp only [h3]
         by_cases h4 : t.Length = 4 <;> by_cases h5 : t.Length = 9 <;> cases inB t.Scale 0 t.Length <;> simp [zcn, h4, h5]
       · by_cases h4 : t.Kind = 4
         · simp only [h4]
           by_cases h5 : t.Length = 0 <;> by_cases h6 : t.Scale = 0 <;> simp [zcn, h5, h6]
         · simp [zcn, h1, h2, h3, h4]
theorem zvk (k : Int) : zc4 k = some (inB k 1 3) := by simp only [zc4, zjg, obs]
theorem z2v (t : DataType) : zgq t = some (zfp t) := by
 have w0' : w6 0 = 0 := by decide
 have w1 : w6 3 = 3 := by decide
 have hz : inB t.Scale 0 0 = decide (t.Scale = 0) := by
  unfold inB
  by_cases h : t.Scale = 0
  · simp [h]
  · simp only [h, decide_false]
    by_cases h1 : 0 ≤ t.Scale
    · simp [h1, show ¬ t.Scale ≤ 0 by omega]
    · simp [h1]
 unfold zgq zfp
 simp only [zjg, zvk, ziu, obs, hz]
 by_cases h0 : t.Kind = 0
 · have e : inB (0 : Int) 0 4 = true := by decide
   have e' : inB (0 : Int) 1 3 = false := by decide
   simp only [h0, e, e']; cases inB t.Length 1 256 <;> by_cases hs : t.Scale = 0 <;> simp [zcn, hs, w0', w1]
 · by_cases h1 : t.Kind = 1
   · have e : inB (1 : Int) 0 4 = true := by decide
     have e' : inB (1 : Int) 1 3 = true := by decide
     simp only [h1, e, e']; cases inB t.Length 1 15 <;> cases inB t.Scale 0 t.Length <;> simp [w0', w1]
   · by_cases h2 : t.Kind = 2
     · have e : inB (2 : Int) 0 4 = true := by decide
       have e' : inB (2 : Int) 1 3 = true := by decide
       simp only [h2, e, e']; cases inB t.Length 1 15 <;> cases inB t.Scale 0 t.Length <;> simp [w0', w1]
     · by_cases h3 : t.Kind = 3
       · have e : inB (3 : Int) 0 4 = true := by decide
         have e' : inB (3 : Int) 1 3 = true := by decide
         simp only [h3, e, e']
         by_cases h4 : t.Length = 4 <;> by_cases h5 : t.Length = 9 <;> cases inB t.Scale 0 t.Length <;> simp [zcn, h4, h5, w0', w1]
       · by_cases h4 : t.Kind = 4
         · have e : inB (4 : Int) 0 4 = true := by decide
           have e' : inB (4 : Int) 1 3 = false := by decide
           simp only [h4, e, e']
           by_cases h5 : t.Length = 0 <;> by_cases h6 : t.Scale = 0 <;> simp [zcn, h5, h6, w0', w1]
         · have e : inB t.Kind 0 4 = false := by
            unfold inB
            by_cases hh : 0 ≤ t.Kind
            · simp only [hh, decide_true, Bool.true_and, decide_eq_false_iff_not]; omega
            · simp [hh]
           simp [zcn, h0, h1, h2, h3, h4, e]
theorem zbf {n lo hi : Int} : inB n lo hi = true ↔ lo ≤ n ∧ n ≤ hi := by simp [inB]
theorem zpr {t : DataType} (h : zfp t = 0) : (t.Kind = 0 ∧ 1 ≤ t.Length ∧ t.Length ≤ 256) ∨ ((t.Kind = 1 ∨ t.Kind = 2) ∧ 1 ≤ t.Length ∧ t.Length ≤ 15) ∨ (t.Kind = 3 ∧ (t.Length = 4 ∨ t.Length = 9)) ∨ (t.Kind = 4 ∧ t.Length = 0) := by
 unfold zfp at h
 split at h
 · rename_i h0; split at h
   · rename_i h1; exact .inl ⟨h0, (zbf.1 h1).1, (zbf.1 h1).2⟩
   · cases h
 · split at h
   · rename_i h0; split at h
     · rename_i h1; exact .inr (.inl ⟨h0, (zbf.1 h1).1, (zbf.1 h1).2⟩)
     · cases h
   · split at h
     · rename_i h0; split at h
       · rename_i h1; exact .inr (.inr (.inl ⟨h0, h1⟩))
       · cases h
     · split at h
       · rename_i h0; split at h
         · rename_i h1; exact .inr (.inr (.inr ⟨h0, h1⟩))
         · cases h
       · cases h
def szE (t : DataType) : Int := if t.Kind = 1 then t.Length / 2 + 1 else if t.Kind = 3 then (if t.Length = 9 then 4 else 2) else if t.Kind = 4 then 16 else t.Length
theorem zeu {t : DataType} (h : zfp t = 0) : 0 < szE t ∧ szE t ≤ 256 := by
 unfold szE
 rcases zpr h with ⟨h0, h1, h2⟩ | ⟨h0 | h0, h1, h2⟩ | ⟨h0, h1 | h1⟩ | ⟨h0, h1⟩ <;> simp only [h0] <;> simp <;> omega
theorem zs5 {t : DataType} (h : zfp t = 0) : zec t = some (szE t) := by
 unfold zec szE
 rcases zpr h with ⟨h0, h1, h2⟩ | ⟨h0 | h0, h1, h2⟩ | ⟨h0, h1 | h1⟩ | ⟨h0, h1⟩ <;> simp only [h0, h1, zcn, ziu] <;> simp
 · rw [tde, w6e (n := t.Length / 2), w6e]
 · decide
 · decide
theorem z26 {t : DataType} (h : zfp t = 0) : zhs t = some (szE t) := by
 unfold zhs szE
 rcases zpr h with ⟨h0, h1, h2⟩ | ⟨h0 | h0, h1, h2⟩ | ⟨h0, h1 | h1⟩ | ⟨h0, h1⟩ <;> simp only [h0, h1, zcn] <;> simp
 · rw [tde, w6e (n := t.Length / 2), w6e]
 · decide
 · decide
structure StoOk (s : Storage) : Prop where
 le : s.Bytes.size ≤ 1024
 quad : s.Bytes.size % 16 = 0
def zt5 (s : Storage) (a : Int) : Bool := decide (0 ≤ a) && (decide (a % 16 = 0) && decide (a < (s.Bytes.size : Int)))
theorem zafb {s : Storage} (ok : StoOk s) (a : Int) : zwh s a = some (zt5 s a) := by
 have h1 := ok.le
 have h2 := ok.quad
 unfold zwh zt5
 rw [w6e, zjg]
 simp only [obs]
 by_cases h : 0 ≤ a
 · rw [tme h]; simp only [inB, h, decide_true, Bool.true_and, zcn]
   by_cases h3 : a % 16 = 0
   · have e : decide (a ≤ (s.Bytes.size : Int) - 16) = decide (a < (s.Bytes.size : Int)) := by
      by_cases h4 : a < (s.Bytes.size : Int)
      · rw [dct h4]; exact dct (by omega)
      · rw [dcf h4]; exact dcf (by omega)
     simp only [h3, decide_true, Bool.true_and, e]; cases decide (a < (s.Bytes.size : Int)) <;> rfl
   · simp only [h3, decide_false, Bool.false_and]; cases decide (a ≤ (s.Bytes.size : Int) - 16) <;> rfl
 · simp [inB, h]
def z6p (n : Number) : Int := cond (inB n.N (-999999999999999) 999999999999999 && inB n.Scale 0 15) 0 3
theorem zrj (n : Number) : zbv n = some (z6p n) := by
 unfold zbv z6p
 simp only [z5i, zrk, obs]
 cases inB n.N (-999999999999999) 999999999999999 <;> cases inB n.Scale 0 15 <;> rfl
theorem z1q (n : Number) : zl8 n = some (z6p n) := by
 have w0 : w6 (3 * 0) = 0 := by decide
 have w1 : w6 (3 * 1) = 3 := by decide
 unfold zl8 z6p
 simp only [zjg, ziu, obs]
 cases inB n.N (-999999999999999) 999999999999999 <;> cases inB n.Scale 0 15 <;> simp [w0, w1, ziu] <;> decide
theorem orB (a b : Bool) : (cond a (some true) (some b)) = some (a || b) := by cases a <;> rfl
theorem zxw (a b : Bool) : (cond a (some b) (some false)) = some (a && b) := by cases a <;> rfl
theorem bbeq (a b : ByteArray) : (a == b) = decide (a = b) := by
 cases a with | mk x =>
 cases b with | mk y =>
 show ByteArray.beq _ _ = _
 unfold ByteArray.beq
 by_cases h : x = y
 · simp [h]
 · simp [h]
theorem eD (t : DataType) : (⟨t.Kind, t.Length, t.Scale⟩ : DataType) = t := rfl
theorem eS (t : Storage) : (⟨t.Bytes, t.Tags⟩ : Storage) = t := rfl
theorem eN (t : Number) : (⟨t.N, t.Scale⟩ : Number) = t := rfl
theorem zaep (n lo hi : Int) : zfl n lo hi = some (inB n lo hi) := by
 unfold zfl inB
 cases decide (lo ≤ n) <;> rfl
theorem zdf (b : ByteArray) (i j : Nat) (h : j ≤ b.size) (hij : i ≤ j) : (b.extract i j).size = j - i := by
 rw [ByteArray.size_extract]
 omega
theorem zn6 {α : Type} {f : α → Option (Stp α)} (I : α → Prop) (m : α → Nat) (Q : α → Prop) (h : ∀ s, I s → (∃ s', f s = some (.again s') ∧ I s' ∧ m s' < m s) ∨ ∃ s', f s = some (.leave s') ∧ Q s') : ∀ {N : Nat} {s : α}, I s → m s < N → ∃ s', zl f N s = some s' ∧ Q s' := by
 intro N
 induction N with
 | zero => intro s _ h0; omega
 | succ N ih =>
  intro s hs hN; rcases h s hs with ⟨s1, h1, h2, h3⟩ | ⟨s', h1, h2⟩
  · obtain ⟨s', h4, h5⟩ := ih h2 (show m s1 < N by omega); exact ⟨s', by simp only [zl, h1, obs]; exact h4, h5⟩
  · exact ⟨s', by simp only [zl, h1, obs], h2⟩
theorem zacw {R α : Type} {f : α → Option (Round R α)} (I : α → Prop) (m : α → Nat) (J : R → Prop) (Q : α → Prop) (h : ∀ s, I s → (∃ s', f s = some (.again s') ∧ I s' ∧ m s' < m s) ∨ (∃ s', f s = some (.leave s') ∧ Q s') ∨ ∃ r, f s = some (.result r) ∧ J r) : ∀ {N : Nat} {s : α}, I s → m s < N → (∃ s', zj f N s = some (.inr s') ∧ Q s') ∨ ∃ r, zj f N s = some (.inl r) ∧ J r := by
 intro N
 induction N with
 | zero => intro s _ h0; omega
 | succ N ih =>
  intro s hs hN; rcases h s hs with ⟨s1, h1, h2, h3⟩ | ⟨s', h1, h2⟩ | ⟨r, h1, h2⟩
  · rcases ih h2 (show m s1 < N by omega) with ⟨s', h4, h5⟩ | ⟨r, h4, h5⟩
    · exact .inl ⟨s', by simp only [zj, h1, obs]; exact h4, h5⟩
    · exact .inr ⟨r, by simp only [zj, h1, obs]; exact h4, h5⟩
  · exact .inl ⟨s', by simp only [zj, h1, obs], h2⟩
  · exact .inr ⟨r, by simp only [zj, h1, obs], h2⟩
theorem zaeo {n : Int} (h1 : 0 ≤ n) (h2 : n < 18446744073709551616) : IntKind.wrap .u64 n = n := by
 have e : (2 : Int) ^ (IntKind.u64.bits) = 18446744073709551616 := by decide
 unfold IntKind.wrap
 simp only [e, show IntKind.u64.signed = false from rfl, Bool.false_and]
 simp only [Bool.false_eq_true, if_false]
 omega
theorem zom {n : Int} (h1 : 0 ≤ n) (h2 : n < 256) : IntKind.wrap .u8 n = n := by
 have e : (2 : Int) ^ (IntKind.u8.bits) = 256 := by decide
 unfold IntKind.wrap
 simp only [e, show IntKind.u8.signed = false from rfl, Bool.false_and]
 simp only [Bool.false_eq_true, if_false]
 omega
theorem orU (x y : Nat) (hx : x < 2 ^ 64) (hy : y < 2 ^ 64) : orI .u64 (x : Int) (y : Int) = ((x ||| y : Nat) : Int) := by
 have h := Nat.or_lt_two_pow hx hy
 unfold orI
 have e : (BitVec.ofInt IntKind.u64.bits (x : Int) ||| BitVec.ofInt IntKind.u64.bits (y : Int)).toNat = (x ||| y) := by
  show (BitVec.ofInt 64 (x : Int) ||| BitVec.ofInt 64 (y : Int)).toNat = _; rw [BitVec.toNat_or, BitVec.ofInt_natCast, BitVec.ofInt_natCast, BitVec.toNat_ofNat, BitVec.toNat_ofNat, mel hx, mel hy]
 rw [e]
 exact zaeo (by omega) (by omega)
theorem andU (x y : Nat) (hx : x < 2 ^ 64) (hy : y < 2 ^ 64) : zf7 .u64 (x : Int) (y : Int) = ((x &&& y : Nat) : Int) := by
 have h := Nat.and_lt_two_pow x hy
 unfold zf7
 have e : (BitVec.ofInt IntKind.u64.bits (x : Int) &&& BitVec.ofInt IntKind.u64.bits (y : Int)).toNat = (x &&& y) := by
  show (BitVec.ofInt 64 (x : Int) &&& BitVec.ofInt 64 (y : Int)).toNat = _; rw [BitVec.toNat_and, BitVec.ofInt_natCast, BitVec.ofInt_natCast, BitVec.toNat_ofNat, BitVec.toNat_ofNat, mel hx, mel hy]
 rw [e]
 exact zaeo (by omega) (by omega)
def wn (n : Nat) : zH := ⟨(n % 18446744073709551616 : Nat), (n / 18446744073709551616 % 18446744073709551616 : Nat), (n / 18446744073709551616 / 18446744073709551616 % 18446744073709551616 : Nat), (n / 18446744073709551616 / 18446744073709551616 / 18446744073709551616 % 18446744073709551616 : Nat)⟩
def zm6 : Nat := 115792089237316195423570985008687907853269984665640564039457584007913129639936
theorem zab5 {x y : zH} (h0 : x.e0 = y.e0) (h1 : x.e1 = y.e1) (h2 : x.e2 = y.e2) (h3 : x.e3 = y.e3) : x = y := by
 cases x; cases y; simp_all
theorem z7g {n : Nat} (h : n < 18446744073709551616) : zbx (n : Int) = some (wn n) := by
 unfold zbx wn
 congr 2 <;> omega
theorem zah0 (N : Nat) (a b w o : zH) : zy.r0 N (0, 0, a, b, w, o) = some (.again (((a.e0.toNat + b.e0.toNat + 0) / 2 ^ 64 : Nat), 1, a, b, w, ⟨((a.e0.toNat + b.e0.toNat + 0) % 2 ^ 64 : Nat), o.e1, o.e2, o.e3⟩)) := by kernel_rfl
theorem zahz (N c : Nat) (hc : ¬ c > 1) (a b w o : zH) : zy.r0 N (c, 1, a, b, w, o) = some (.again (((a.e1.toNat + b.e1.toNat + c) / 2 ^ 64 : Nat), 2, a, b, w, ⟨o.e0, ((a.e1.toNat + b.e1.toNat + c) % 2 ^ 64 : Nat), o.e2, o.e3⟩)) := by
 have : zy.r0 N (c, 1, a, b, w, o) = if c > 1 then none else some (.again (((a.e1.toNat + b.e1.toNat + c) / 2 ^ 64 : Nat), 2, a, b, w, ⟨o.e0, ((a.e1.toNat + b.e1.toNat + c) % 2 ^ 64 : Nat), o.e2, o.e3⟩)) := by kernel_rfl
 rw [this, ifn hc]
theorem zahy (N c : Nat) (hc : ¬ c > 1) (a b w o : zH) : zy.r0 N (c, 2, a, b, w, o) = some (.again (((a.e2.toNat + b.e2.toNat + c) / 2 ^ 64 : Nat), 3, a, b, w, ⟨o.e0, o.e1, ((a.e2.toNat + b.e2.toNat + c) % 2 ^ 64 : Nat), o.e3⟩)) := by
 have : zy.r0 N (c, 2, a, b, w, o) = if c > 1 then none else some (.again (((a.e2.toNat + b.e2.toNat + c) / 2 ^ 64 : Nat), 3, a, b, w, ⟨o.e0, o.e1, ((a.e2.toNat + b.e2.toNat + c) % 2 ^ 64 : Nat), o.e3⟩)) := by kernel_rfl
 rw [this, ifn hc]
theorem zahx (N c : Nat) (hc : ¬ c > 1) (a b w o : zH) : zy.r0 N (c, 3, a, b, w, o) = some (.again (((a.e3.toNat + b.e3.toNat + c) / 2 ^ 64 : Nat), 4, a, b, w, ⟨o.e0, o.e1, o.e2, ((a.e3.toNat + b.e3.toNat + c) % 2 ^ 64 : Nat)⟩)) := by
 have : zy.r0 N (c, 3, a, b, w, o) = if c > 1 then none else some (.again (((a.e3.toNat + b.e3.toNat + c) / 2 ^ 64 : Nat), 4, a, b, w, ⟨o.e0, o.e1, o.e2, ((a.e3.toNat + b.e3.toNat + c) % 2 ^ 64 : Nat)⟩)) := by kernel_rfl
 rw [this, ifn hc]
theorem zahw (N : Nat) (c : Int) (a b w o : zH) : zy.r0 N (c, 4, a, b, w, o) = some (.leave (c, 4, a, b, w, o)) := by kernel_rfl
theorem addc (x y c : Nat) : (x % 18446744073709551616 + y % 18446744073709551616 + c) % 2 ^ 64 = (x + y + c) % 18446744073709551616 ∧ x / 18446744073709551616 + y / 18446744073709551616 + (x % 18446744073709551616 + y % 18446744073709551616 + c) / 2 ^ 64 = (x + y + c) / 18446744073709551616 ∧ (c ≤ 1 → ¬ (x % 18446744073709551616 + y % 18446744073709551616 + c) / 2 ^ 64 > 1) := by omega
theorem z27 (N : Nat) (hN : 10 < N) (a b : Nat) : zy N (wn a) (wn b) = some (wn (a + b)) := by
 obtain ⟨n, rfl⟩ : ∃ n, N = n + 5 := ⟨N - 5, by omega⟩
 obtain ⟨l0, m0, c0⟩ := addc a b 0
 have c0' := c0 (by omega)
 obtain ⟨l1, m1, c1⟩ := addc (a / 18446744073709551616) (b / 18446744073709551616) ((a % 18446744073709551616 + b % 18446744073709551616 + 0) / 2 ^ 64)
 have c1' := c1 (by omega)
 rw [m0] at l1 m1
 obtain ⟨l2, m2, c2⟩ := addc (a / 18446744073709551616 / 18446744073709551616) (b / 18446744073709551616 / 18446744073709551616) ((a / 18446744073709551616 % 18446744073709551616 + b / 18446744073709551616 % 18446744073709551616 + (a % 18446744073709551616 + b % 18446744073709551616 + 0) / 2 ^ 64) / 2 ^ 64)
 have c2' := c2 (by omega)
 rw [m1] at l2 m2
 obtain ⟨l3, _, _⟩ := addc (a / 18446744073709551616 / 18446744073709551616 / 18446744073709551616) (b / 18446744073709551616 / 18446744073709551616 / 18446744073709551616) ((a / 18446744073709551616 / 18446744073709551616 % 18446744073709551616 + b / 18446744073709551616 / 18446744073709551616 % 18446744073709551616 + (a / 18446744073709551616 % 18446744073709551616 + b / 18446744073709551616 % 18446744073709551616 + (a % 18446744073709551616 + b % 18446744073709551616 + 0) / 2 ^ 64) / 2 ^ 64) / 2 ^ 64)
 rw [m2] at l3
 unfold zy
 simp only [zl, zah0, obs]
 simp only [wn, itn]
 rw [zahz _ _ c0']
 simp only [obs, itn]
 rw [zahy _ _ c1']
 simp only [obs, itn]
 rw [zahx _ _ c2']
 simp only [obs, itn]
 rw [zahw, l0, l1, l2, l3]
 rfl
theorem zagy (N : Nat) (a b w o : zH) : zx.r0 N (0, 0, a, b, w, o) = some (.again (((if a.e0.toNat < b.e0.toNat + 0 then 1 else 0 : Nat) : Int), 1, a, b, w, ⟨((a.e0.toNat + 2 ^ 64 - b.e0.toNat - 0) % 2 ^ 64 : Nat), o.e1, o.e2, o.e3⟩)) := by kernel_rfl
theorem zagx (N c : Nat) (hc : ¬ c > 1) (a b w o : zH) : zx.r0 N (c, 1, a, b, w, o) = some (.again (((if a.e1.toNat < b.e1.toNat + c then 1 else 0 : Nat) : Int), 2, a, b, w, ⟨o.e0, ((a.e1.toNat + 2 ^ 64 - b.e1.toNat - c) % 2 ^ 64 : Nat), o.e2, o.e3⟩)) := by
 have : zx.r0 N (c, 1, a, b, w, o) = if c > 1 then none else some (.again (((if a.e1.toNat < b.e1.toNat + c then 1 else 0 : Nat) : Int), 2, a, b, w, ⟨o.e0, ((a.e1.toNat + 2 ^ 64 - b.e1.toNat - c) % 2 ^ 64 : Nat), o.e2, o.e3⟩)) := by kernel_rfl
 rw [this, ifn hc]
theorem zagw (N c : Nat) (hc : ¬ c > 1) (a b w o : zH) : zx.r0 N (c, 2, a, b, w, o) = some (.again (((if a.e2.toNat < b.e2.toNat + c then 1 else 0 : Nat) : Int), 3, a, b, w, ⟨o.e0, o.e1, ((a.e2.toNat + 2 ^ 64 - b.e2.toNat - c) % 2 ^ 64 : Nat), o.e3⟩)) := by
 have : zx.r0 N (c, 2, a, b, w, o) = if c > 1 then none else some (.again (((if a.e2.toNat < b.e2.toNat + c then 1 else 0 : Nat) : Int), 3, a, b, w, ⟨o.e0, o.e1, ((a.e2.toNat + 2 ^ 64 - b.e2.toNat - c) % 2 ^ 64 : Nat), o.e3⟩)) := by kernel_rfl
 rw [this, ifn hc]
theorem zagv (N c : Nat) (hc : ¬ c > 1) (a b w o : zH) : zx.r0 N (c, 3, a, b, w, o) = some (.again (((if a.e3.toNat < b.e3.toNat + c then 1 else 0 : Nat) : Int), 4, a, b, w, ⟨o.e0, o.e1, o.e2, ((a.e3.toNat + 2 ^ 64 - b.e3.toNat - c) % 2 ^ 64 : Nat)⟩)) := by
 have : zx.r0 N (c, 3, a, b, w, o) = if c > 1 then none else some (.again (((if a.e3.toNat < b.e3.toNat + c then 1 else 0 : Nat) : Int), 4, a, b, w, ⟨o.e0, o.e1, o.e2, ((a.e3.toNat + 2 ^ 64 - b.e3.toNat - c) % 2 ^ 64 : Nat)⟩)) := by kernel_rfl
 rw [this, ifn hc]
theorem zagu (N : Nat) (c : Int) (a b w o : zH) : zx.r0 N (c, 4, a, b, w, o) = some (.leave (c, 4, a, b, w, o)) := by kernel_rfl
theorem z5u (p : Prop) [Decidable p] : (if p then 1 else 0 : Nat) ≤ 1 := by split <;> omega
theorem subc (x y c k : Nat) (hk : k = c) (hc : c ≤ 1) : ((x + y + c) % 18446744073709551616 + 2 ^ 64 - y % 18446744073709551616 - k) % 2 ^ 64 = x % 18446744073709551616 ∧ (if (x + y + c) % 18446744073709551616 < y % 18446744073709551616 + k then 1 else 0 : Nat) = (x % 18446744073709551616 + y % 18446744073709551616 + c) / 2 ^ 64 ∧ (x % 18446744073709551616 + y % 18446744073709551616 + c) / 2 ^ 64 ≤ 1 ∧ (x + y + c) / 18446744073709551616 = x / 18446744073709551616 + y / 18446744073709551616 + (x % 18446744073709551616 + y % 18446744073709551616 + c) / 2 ^ 64 := by
 subst hk
 refine ⟨by omega, ?_, by omega, by omega⟩
 split <;> omega
theorem z2l (N : Nat) (hN : 10 < N) (a b : Nat) : ∃ r, zx N (wn a) (wn b) = some r ∧ (b ≤ a → r = wn (a - b)) := by
 obtain ⟨n, rfl⟩ : ∃ n, N = n + 5 := ⟨N - 5, by omega⟩
 unfold zx
 simp only [zl, zagy, obs]
 have t1 : ¬ (if (wn a).e0.toNat < (wn b).e0.toNat + 0 then 1 else 0 : Nat) > 1 := by have := z5u ((wn a).e0.toNat < (wn b).e0.toNat + 0); omega
 rw [zagx _ _ t1]
 simp only [obs]
 have t2 := z5u ((wn a).e1.toNat < (wn b).e1.toNat + (if (wn a).e0.toNat < (wn b).e0.toNat + 0 then 1 else 0 : Nat))
 rw [zagw _ _ (by omega)]
 simp only [obs]
 have t3 := z5u ((wn a).e2.toNat < (wn b).e2.toNat + (if (wn a).e1.toNat < (wn b).e1.toNat + (if (wn a).e0.toNat < (wn b).e0.toNat + 0 then 1 else 0 : Nat) then 1 else 0 : Nat))
 rw [zagv _ _ (by omega)]
 simp only [obs]
 rw [zagu]
 refine ⟨_, rfl, fun hb => ?_⟩
 obtain ⟨d, rfl⟩ : ∃ d, a = d + b := ⟨a - b, by omega⟩
 clear t1 t2 t3
 rw [Nat.add_sub_cancel]
 obtain ⟨s0, u0, v0, w0⟩ := subc d b 0 0 rfl (by omega)
 rw [Nat.add_zero (d + b)] at s0 u0 w0
 obtain ⟨s1, u1, v1, w1⟩ := subc (d / 18446744073709551616) (b / 18446744073709551616) _ _ u0 v0
 rw [← w0] at s1 u1 w1
 obtain ⟨s2, u2, v2, w2⟩ := subc (d / 18446744073709551616 / 18446744073709551616) (b / 18446744073709551616 / 18446744073709551616) _ _ u1 v1
 rw [← w1] at s2 u2 w2
 obtain ⟨s3, u3, v3, w3⟩ := subc (d / 18446744073709551616 / 18446744073709551616 / 18446744073709551616) (b / 18446744073709551616 / 18446744073709551616 / 18446744073709551616) _ _ u2 v2
 rw [← w2] at s3
 refine zab5 ?_ ?_ ?_ ?_
 · exact congrArg Int.ofNat s0
 · exact congrArg Int.ofNat s1
 · exact congrArg Int.ofNat s2
 · exact congrArg Int.ofNat s3
theorem z4l (N : Nat) (hN : 10 < N) {a b : Nat} (h : b ≤ a) : zx N (wn a) (wn b) = some (wn (a - b)) := by
 obtain ⟨r, h1, h2⟩ := z2l N hN a b
 rw [h1, h2 h]
def zkb (a b : Nat) : Int := if a < b then -1 else if b < a then 1 else 0
theorem cmp3 (N : Nat) (a b : zH) : zk.r0 N (3, a, b) = cond (decide (a.e3 < b.e3)) (some (.result (-1))) (cond (decide (a.e3 > b.e3)) (some (.result 1)) (some (.again (2, a, b)))) := by kernel_rfl
theorem cmp2 (N : Nat) (a b : zH) : zk.r0 N (2, a, b) = cond (decide (a.e2 < b.e2)) (some (.result (-1))) (cond (decide (a.e2 > b.e2)) (some (.result 1)) (some (.again (1, a, b)))) := by kernel_rfl
theorem cmp1 (N : Nat) (a b : zH) : zk.r0 N (1, a, b) = cond (decide (a.e1 < b.e1)) (some (.result (-1))) (cond (decide (a.e1 > b.e1)) (some (.result 1)) (some (.again (0, a, b)))) := by kernel_rfl
theorem cmp0 (N : Nat) (a b : zH) : zk.r0 N (0, a, b) = cond (decide (a.e0 < b.e0)) (some (.result (-1))) (cond (decide (a.e0 > b.e0)) (some (.result 1)) (some (.again ((-1), a, b)))) := by kernel_rfl
theorem cmpE (N : Nat) (a b : zH) : zk.r0 N ((-1), a, b) = some (.leave ((-1), a, b)) := by kernel_rfl
def zti (x y R : Int) : Int := if x < y then -1 else if y < x then 1 else R
theorem zac5 (n : Nat) (a b : zH) : zk (n + 5) a b = some (zti a.e3 b.e3 (zti a.e2 b.e2 (zti a.e1 b.e1 (zti a.e0 b.e0 0)))) := by
 unfold zk zti
 simp only [zj, cmp3]
 by_cases h3 : a.e3 < b.e3
 · rw [ifp h3, dct h3]; rfl
 · rw [ifn h3, dcf h3]
   by_cases g3 : b.e3 < a.e3
   · rw [ifp g3, dct g3]; rfl
   · rw [ifn g3, dcf g3]; simp only [cfa, obs, cmp2]
     by_cases h2 : a.e2 < b.e2
     · rw [ifp h2, dct h2]; rfl
     · rw [ifn h2, dcf h2]
       by_cases g2 : b.e2 < a.e2
       · rw [ifp g2, dct g2]; rfl
       · rw [ifn g2, dcf g2]; simp only [cfa, obs, cmp1]
         by_cases h1 : a.e1 < b.e1
         · rw [ifp h1, dct h1]; rfl
         · rw [ifn h1, dcf h1]
           by_cases g1 : b.e1 < a.e1
           · rw [ifp g1, dct g1]; rfl
           · rw [ifn g1, dcf g1]; simp only [cfa, obs, cmp0]
             by_cases h0 : a.e0 < b.e0
             · rw [ifp h0, dct h0]; rfl
             · rw [ifn h0, dcf h0]
               by_cases g0 : b.e0 < a.e0
               · rw [ifp g0, dct g0]; rfl
               · rw [ifn g0, dcf g0]; simp only [cfa, obs, cmpE]; rfl
theorem zp9 (N : Nat) (hN : 10 < N) {a b : Nat} (ha : a < zm6) (hb : b < zm6) : zk N (wn a) (wn b) = some (zkb a b) := by
 obtain ⟨n, rfl⟩ : ∃ n, N = n + 5 := ⟨N - 5, by omega⟩
 unfold zm6 at ha hb
 rw [zac5]
 have k0 : ∀ x y : Nat, zti (x : Int) (y : Int) 0 = zkb x y := fun x y => by
  unfold zti zkb
  repeat' split
  all_goals first | rfl | (exfalso; omega)
 have top : a / 18446744073709551616 / 18446744073709551616 / 18446744073709551616 < 18446744073709551616 := by omega
 have top2 : b / 18446744073709551616 / 18446744073709551616 / 18446744073709551616 < 18446744073709551616 := by omega
 have s1 : ∀ (x y : Nat) (R : Int), zti ((x : Nat) : Int) ((y : Nat) : Int) R = if zkb x y = 0 then R else zkb x y := fun x y R => by
  unfold zti zkb
  repeat' split
  all_goals first | rfl | (exfalso; omega) | contradiction
 have s2 : ∀ x y : Nat, zkb x y = if zkb (x / 18446744073709551616) (y / 18446744073709551616) = 0 then zkb (x % 18446744073709551616) (y % 18446744073709551616) else zkb (x / 18446744073709551616) (y / 18446744073709551616) := fun x y => by
  unfold zkb
  repeat' split
  all_goals first | rfl | (exfalso; omega) | contradiction
 show some (zti (((a / 18446744073709551616 / 18446744073709551616 / 18446744073709551616 % 18446744073709551616 : Nat) : Int)) (((b / 18446744073709551616 / 18446744073709551616 / 18446744073709551616 % 18446744073709551616 : Nat) : Int)) (zti (((a / 18446744073709551616 / 18446744073709551616 % 18446744073709551616 : Nat) : Int)) (((b / 18446744073709551616 / 18446744073709551616 % 18446744073709551616 : Nat) : Int)) (zti (((a / 18446744073709551616 % 18446744073709551616 : Nat) : Int)) (((b / 18446744073709551616 % 18446744073709551616 : Nat) : Int)) (zti (((a % 18446744073709551616 : Nat) : Int)) (((b % 18446744073709551616 : Nat) : Int)) 0)))) = _
 rw [mel top, mel top2, s1, s1, s1, s1]
 have r3 := s2 (a / 18446744073709551616 / 18446744073709551616) (b / 18446744073709551616 / 18446744073709551616)
 have r2 := s2 (a / 18446744073709551616) (b / 18446744073709551616)
 have r1 := s2 a b
 clear s1 s2 top top2 ha hb k0
 generalize zkb (a / 18446744073709551616 / 18446744073709551616 / 18446744073709551616) (b / 18446744073709551616 / 18446744073709551616 / 18446744073709551616) = o3 at *
 generalize zkb (a / 18446744073709551616 / 18446744073709551616 % 18446744073709551616) (b / 18446744073709551616 / 18446744073709551616 % 18446744073709551616) = m2 at *
 generalize zkb (a / 18446744073709551616 % 18446744073709551616) (b / 18446744073709551616 % 18446744073709551616) = m1 at *
 generalize zkb (a % 18446744073709551616) (b % 18446744073709551616) = m0 at *
 rw [r1, r2, r3]
 congr 1
 by_cases h3 : o3 = 0
 · by_cases h2 : m2 = 0
   · by_cases h1 : m1 = 0
     · by_cases h0 : m0 = 0
       · simp only [h3, h2, h1, h0, if_true]
       · simp only [h3, h2, h1, h0, if_true, if_false]
     · simp only [h3, h2, h1, if_true, if_false]
   · simp only [h3, h2, if_true, if_false]
 · simp only [h3, if_true, if_false]
theorem zxz (m : Nat) : IntKind.wrap .u64 (m : Int) = ((m % 18446744073709551616 : Nat) : Int) := by
 have e : (2 : Int) ^ (IntKind.u64.bits) = 18446744073709551616 := by decide
 unfold IntKind.wrap
 simp only [e, show IntKind.u64.signed = false from rfl, Bool.false_and]
 simp only [Bool.false_eq_true, if_false]
 omega
theorem z0k (p q : Nat) : (p : Int).fdiv (q : Int) = ((p / q : Nat) : Int) := by
 rw [Int.fdiv_eq_ediv_of_nonneg _ (by omega)]
 exact (Int.natCast_ediv p q).symm
theorem z9r (p : Nat) : (p : Int).fdiv (2 ^ (min (32 : Int).toNat 64)) = ((p / 4294967296 : Nat) : Int) := z0k p 4294967296
theorem zab3 (p : Nat) (h : p < 18446744073709551616) : zf7 .u64 (p : Int) 4294967295 = ((p % 4294967296 : Nat) : Int) := by
 rw [show (4294967295 : Int) = ((4294967295 : Nat) : Int) from rfl, andU p 4294967295 h (by decide)]
 rw [show (4294967295 : Nat) = 2 ^ 32 - 1 from rfl, Nat.and_two_pow_sub_one_eq_mod]
theorem z5l (p q : Nat) (hp : p < 18446744073709551616) (hq : q < 18446744073709551616) : zdr (p : Int) (q : Int) = some (((p * q / 18446744073709551616 : Nat) : Int), ((p * q % 18446744073709551616 : Nat) : Int)) := by
 unfold zdr
 simp only [z9r, zab3 p hp, zab3 q hq, ← Int.natCast_mul, zxz, ← Int.natCast_add, z9r]
 rw [zab3 _ (Nat.mod_lt _ (by decide))]
 simp only [z9r, ← Int.natCast_mul, zxz, ← Int.natCast_add]
 have e1 := Nat.div_add_mod p 4294967296
 have e2 := Nat.div_add_mod q 4294967296
 have b1 : p / 4294967296 ≤ 4294967295 := by omega
 have b2 : q / 4294967296 ≤ 4294967295 := by omega
 have b3 : p % 4294967296 ≤ 4294967295 := by omega
 have b4 : q % 4294967296 ≤ 4294967295 := by omega
 have m : p * q = 18446744073709551616 * ((p / 4294967296) * (q / 4294967296)) + 4294967296 * ((p / 4294967296) * (q % 4294967296)) + (4294967296 * ((p % 4294967296) * (q / 4294967296)) + (p % 4294967296) * (q % 4294967296)) := by
  conv => lhs; rw [← e1, ← e2]
  rw [Nat.add_mul, Nat.mul_add, Nat.mul_add, Nat.mul_mul_mul_comm, Nat.mul_assoc 4294967296 (p / 4294967296) (q % 4294967296), Nat.mul_left_comm (p % 4294967296) 4294967296 (q / 4294967296)]
 have c1 := Nat.mul_le_mul b1 b2
 have c2 := Nat.mul_le_mul b1 b4
 have c3 := Nat.mul_le_mul b3 b2
 have c4 := Nat.mul_le_mul b3 b4
 rw [m]
 clear m e1 e2 b1 b2 b3 b4
 generalize (p / 4294967296) * (q / 4294967296) = A at *
 generalize (p / 4294967296) * (q % 4294967296) = B at *
 generalize (p % 4294967296) * (q / 4294967296) = C at *
 generalize (p % 4294967296) * (q % 4294967296) = D at *
 simp only [Option.some.injEq, Prod.mk.injEq, Int.natCast_inj]
 refine ⟨?_, trivial⟩
 omega
theorem zagb (N : Nat) (n c : Int) (a w o : zH) : za4.r0 N (n, c, 0, a, w, o) = (zdr a.e0 n).bind fun r => some (.again (n, (IntKind.wrap .u64 (r.1 + (((r.2.toNat + c.toNat + 0) / 2 ^ 64 : Nat) : Int))), 1, a, w, ⟨((r.2.toNat + c.toNat + 0) % 2 ^ 64 : Nat), o.e1, o.e2, o.e3⟩)) := by kernel_rfl
theorem zaga (N : Nat) (n c : Int) (a w o : zH) : za4.r0 N (n, c, 1, a, w, o) = (zdr a.e1 n).bind fun r => some (.again (n, (IntKind.wrap .u64 (r.1 + (((r.2.toNat + c.toNat + 0) / 2 ^ 64 : Nat) : Int))), 2, a, w, ⟨o.e0, ((r.2.toNat + c.toNat + 0) % 2 ^ 64 : Nat), o.e2, o.e3⟩)) := by kernel_rfl
theorem zaf9 (N : Nat) (n c : Int) (a w o : zH) : za4.r0 N (n, c, 2, a, w, o) = (zdr a.e2 n).bind fun r => some (.again (n, (IntKind.wrap .u64 (r.1 + (((r.2.toNat + c.toNat + 0) / 2 ^ 64 : Nat) : Int))), 3, a, w, ⟨o.e0, o.e1, ((r.2.toNat + c.toNat + 0) % 2 ^ 64 : Nat), o.e3⟩)) := by kernel_rfl
theorem zaf8 (N : Nat) (n c : Int) (a w o : zH) : za4.r0 N (n, c, 3, a, w, o) = (zdr a.e3 n).bind fun r => some (.again (n, (IntKind.wrap .u64 (r.1 + (((r.2.toNat + c.toNat + 0) / 2 ^ 64 : Nat) : Int))), 4, a, w, ⟨o.e0, o.e1, o.e2, ((r.2.toNat + c.toNat + 0) % 2 ^ 64 : Nat)⟩)) := by kernel_rfl
theorem zaf7 (N : Nat) (n c : Int) (a w o : zH) : za4.r0 N (n, c, 4, a, w, o) = some (.leave (n, c, 4, a, w, o)) := by kernel_rfl
theorem word (x c n : Nat) (hn : n < 18446744073709551616) (hc : c ≤ n) : IntKind.wrap .u64 ((((x % 18446744073709551616) * n / 18446744073709551616 : Nat) : Int) + ((((x % 18446744073709551616) * n % 18446744073709551616 + c + 0) / 2 ^ 64 : Nat) : Int)) = ((((x % 18446744073709551616) * n + c) / 18446744073709551616 : Nat) : Int) ∧ ((x % 18446744073709551616) * n % 18446744073709551616 + c + 0) % 2 ^ 64 = (x * n + c) % 18446744073709551616 ∧ ((x % 18446744073709551616) * n + c) / 18446744073709551616 ≤ n ∧ x / 18446744073709551616 * n + ((x % 18446744073709551616) * n + c) / 18446744073709551616 = (x * n + c) / 18446744073709551616 := by
 have hp : (x % 18446744073709551616) * n ≤ 18446744073709551615 * n := Nat.mul_le_mul_right n (by omega)
 have e : x * n = (x % 18446744073709551616) * n + 18446744073709551616 * (x / 18446744073709551616 * n) := by
  have := Nat.mod_add_div x 18446744073709551616
  conv => lhs; rw [← this]
  rw [Nat.add_mul, Nat.mul_assoc]
 rw [e]
 generalize (x % 18446744073709551616) * n = p at *
 generalize x / 18446744073709551616 * n = q at *
 refine ⟨?_, by omega, by omega, by omega⟩
 rw [← Int.natCast_add, zxz]
 omega
theorem z9b (N : Nat) (hN : 10 < N) (a n : Nat) (hn : n < 18446744073709551616) : za4 N (wn a) (n : Int) = some (wn (a * n)) := by
 obtain ⟨k, rfl⟩ : ∃ k, N = k + 5 := ⟨N - 5, by omega⟩
 have hB : ∀ x : Nat, x % 18446744073709551616 < 18446744073709551616 := fun x => Nat.mod_lt _ (by decide)
 obtain ⟨w1, w2, w3, w4⟩ := word a 0 n hn (Nat.zero_le _)
 rw [Nat.add_zero (a * n)] at w2 w4
 obtain ⟨x1, x2, x3, x4⟩ := word (a / 18446744073709551616) _ n hn w3
 rw [w4] at x2 x4
 obtain ⟨y1, y2, y3, y4⟩ := word (a / 18446744073709551616 / 18446744073709551616) _ n hn x3
 rw [x4] at y2 y4
 obtain ⟨z1, z2, z3, z4⟩ := word (a / 18446744073709551616 / 18446744073709551616 / 18446744073709551616) _ n hn y3
 rw [y4] at z2
 unfold za4
 simp only [zl, zagb]
 rw [show (wn a).e0 = ((a % 18446744073709551616 : Nat) : Int) from rfl, z5l _ _ (hB _) hn]
 simp only [obs, itn, zaga]
 rw [show (wn a).e1 = ((a / 18446744073709551616 % 18446744073709551616 : Nat) : Int) from rfl, z5l _ _ (hB _) hn]
 simp only [obs, itn, zaf9]
 rw [show (wn a).e2 = ((a / 18446744073709551616 / 18446744073709551616 % 18446744073709551616 : Nat) : Int) from rfl, z5l _ _ (hB _) hn]
 simp only [obs, itn, zaf8]
 rw [show (wn a).e3 = ((a / 18446744073709551616 / 18446744073709551616 / 18446744073709551616 % 18446744073709551616 : Nat) : Int) from rfl, z5l _ _ (hB _) hn]
 simp only [obs, itn, zaf7]
 rw [show Int.toNat 0 = 0 from rfl, w1, itn, x1, itn, y1, itn, w2, x2, y2, z2]
 rfl
theorem zzs (N : Nat) (hN : 100 < N) (a k : Nat) (hk : k < 100) : zg N (wn a) (k : Int) = some (wn (a * 10 ^ k)) := by
 unfold zg
 have := za1 (f := zg.r0 N) (fun i => ((k : Int), (i : Int), wn (a * 10 ^ i), (⟨0, 0, 0, 0⟩ : zH))) k
  (fun i hi => by
   simp only [zg.r0, zg.b0, dct (show (i : Int) < (k : Int) by omega), ctr]; rw [show (10 : Int) = ((10 : Nat) : Int) from rfl, z9b N (by omega) _ 10 (by decide), w6e]; simp only [obs, Nat.mul_assoc, ← Nat.pow_succ, Int.natCast_add, Int.natCast_one])
  (by simp only [zg.r0, zg.b0, dcf (show ¬ (k : Int) < (k : Int) by omega), cfa]) (N := N) (by omega)
 simp only [Nat.pow_zero, Nat.mul_one, nc0] at this
 rw [this]
 rfl
theorem zaaf (a j r : Nat) (hr : r < 64) : (a / 2 ^ (64 * j) % 2 ^ 64 / 2 ^ r) &&& 1 = a / 2 ^ (64 * j + r) % 2 := by
 rw [Nat.and_one_is_mod]
 have h : (a / 2 ^ (64 * j) % 2 ^ 64 / 2 ^ r).testBit 0 = (a / 2 ^ (64 * j) % 2 ^ 64).testBit (r + 0) := by rw [Nat.testBit_div_two_pow, Nat.add_comm]
 have h1 : Nat.testBit (a / 2 ^ (64 * j) % 2 ^ 64) (r + 0) = Nat.testBit (a / 2 ^ (64 * j + r)) 0 := by
  rw [Nat.testBit_mod_two_pow, Nat.testBit_div_two_pow, Nat.testBit_div_two_pow]; simp [hr, Nat.add_comm, Nat.add_left_comm]
 rw [Nat.testBit_zero] at h
 rw [h1, Nat.testBit_zero] at h
 have := Nat.mod_two_eq_zero_or_one (a / 2 ^ (64 * j) % 2 ^ 64 / 2 ^ r)
 have := Nat.mod_two_eq_zero_or_one (a / 2 ^ (64 * j + r))
 simp only [decide_eq_decide] at h
 omega
theorem zae0 (Q i j : Nat) (h : Q % 2 ^ (i + 1) = 0) : (Q + 2 ^ i) / 2 ^ (64 * j) % 2 ^ 64 = if i / 64 = j then (Q / 2 ^ (64 * j) % 2 ^ 64) ||| 2 ^ (i % 64) else Q / 2 ^ (64 * j) % 2 ^ 64 := by
 have e : Q + 2 ^ i = Q ||| 2 ^ i := by
  have := Nat.two_pow_add_eq_or_of_lt (i := i + 1) (b := 2 ^ i) (Nat.pow_lt_pow_right (by decide) (by omega)) (Q / 2 ^ (i + 1)); have e2 : 2 ^ (i + 1) * (Q / 2 ^ (i + 1)) = Q := by
   have := Nat.div_add_mod Q (2 ^ (i + 1)); omega
  rw [e2] at this; exact this
 rw [e]
 refine Nat.eq_of_testBit_eq fun k => ?_
 split
 · rename_i hj; simp only [Nat.testBit_mod_two_pow, Nat.testBit_div_two_pow, Nat.testBit_or, Nat.testBit_two_pow]
   by_cases hk : k < 64
   · simp only [hk, decide_true, Bool.true_and]
     congr 1
     simp only [decide_eq_decide]; omega
   · simp only [hk, decide_false, Bool.false_and, Bool.false_or]; rw [dcf (by omega)]
 · rename_i hj; simp only [Nat.testBit_mod_two_pow, Nat.testBit_div_two_pow, Nat.testBit_or, Nat.testBit_two_pow]
   by_cases hk : k < 64
   · simp only [hk, decide_true, Bool.true_and]; rw [dcf (by omega), Bool.or_false]
   · simp only [hk, decide_false, Bool.false_and]
def z90 (a : zH) (s : Int) : Int := zf7 .u64 (((zaq [a.e0, a.e1, a.e2, a.e3] ((w6 (s.tdiv 64)).toNat)) : Int).fdiv (2 ^ (min (s.tmod 64).toNat 64))) 1
def dsh (x : zH) (t : Int) : zH := ⟨orI .u64 x.e0 t, x.e1, x.e2, x.e3⟩
def dset (q : zH) (j : Nat) (v : Int) : zH := ⟨if j = 0 then v else q.e0, if j = 1 then v else q.e1, if j = 2 then v else q.e2, if j = 3 then v else q.e3⟩
theorem z77 (N : Nat) (s : Int) (a b q r : zH) : za7.r0 N (s, a, b, q, r) =
 cond (decide (s ≥ 0)) ((zy N r r).bind fun x => if 0 ≤ w6 (s.tdiv 64) then (if w6 (s.tdiv 64) < 4 then (if (s.tmod 64) < 0 then none else (zk N (dsh x (z90 a s)) b).bind fun c =>
  cond (decide (c ≥ 0)) ((zx N (dsh x (z90 a s)) b).bind fun y => if 0 ≤ w6 (s.tdiv 64) then (if w6 (s.tdiv 64) < 4 then (if (s.tmod 64) < 0 then none else if 0 ≤ w6 (s.tdiv 64) then (if w6 (s.tdiv 64) < 4 then
   (some (.again (w6 (s - 1), a, b, dset q (w6 (s.tdiv 64)).toNat (orI .u64 (zaq [q.e0, q.e1, q.e2, q.e3] ((w6 (s.tdiv 64)).toNat)) (IntKind.wrap .u64 (1 * 2 ^ (min (s.tmod 64).toNat 64)))), y))) else none) else none) else none) else none)
   (some (.again (w6 (s - 1), a, b, q, dsh x (z90 a s))))) else none) else none)
  (some (.leave (s, a, b, q, r))) := by kernel_rfl
theorem div2 (a : Nat) : a / 18446744073709551616 / 18446744073709551616 = a / 340282366920938463463374607431768211456 := Nat.div_div_eq_div_mul _ _ _
theorem div3 (a : Nat) : a / 18446744073709551616 / 18446744073709551616 / 18446744073709551616 = a / 6277101735386680763835789423207666416102355444464034512896 := by rw [div2]; exact Nat.div_div_eq_div_mul _ _ _
theorem limb (a j : Nat) (hj : j < 4) : zaq [(wn a).e0, (wn a).e1, (wn a).e2, (wn a).e3] j = ((a / 2 ^ (64 * j) % 2 ^ 64 : Nat) : Int) := by
 match j, hj with
 | 0, _ => show ((a % 18446744073709551616 : Nat) : Int) = ((a / 1 % 18446744073709551616 : Nat) : Int); rw [Nat.div_one]
 | 1, _ => rfl
 | 2, _ => show ((a / 18446744073709551616 / 18446744073709551616 % 18446744073709551616 : Nat) : Int) = ((a / 340282366920938463463374607431768211456 % 18446744073709551616 : Nat) : Int); rw [div2]
 | 3, _ => show ((a / 18446744073709551616 / 18446744073709551616 / 18446744073709551616 % 18446744073709551616 : Nat) : Int) = ((a / 6277101735386680763835789423207666416102355444464034512896 % 18446744073709551616 : Nat) : Int); rw [div3]
theorem zafo (a i : Nat) (hi : i < 256) : z90 (wn a) (i : Int) = ((a / 2 ^ i % 2 : Nat) : Int) := by
 unfold z90
 have e1 : w6 ((i : Int).tdiv 64) = ((i / 64 : Nat) : Int) := by
  rw [tde, w6e]; omega
 have e2 : ((i : Int).tmod 64) = ((i % 64 : Nat) : Int) := by
  rw [tme]; omega
 rw [e1, e2, itn, itn, limb a _ (by omega), Nat.min_eq_left (by omega)]
 rw [show (2 : Int) ^ (i % 64) = ((2 ^ (i % 64) : Nat) : Int) by rw [Int.natCast_pow]; rfl, z0k]
 have hb : a / 2 ^ (64 * (i / 64)) % 2 ^ 64 / 2 ^ (i % 64) < 2 ^ 64 := Nat.lt_of_le_of_lt (Nat.div_le_self _ _) (Nat.mod_lt _ (by decide))
 rw [show (1 : Int) = ((1 : Nat) : Int) from rfl, andU _ 1 hb (by decide), zaaf a _ _ (by omega), show 64 * (i / 64) + i % 64 = i by omega]
theorem zag6 (x t : Nat) (ht : t < 2) : dsh (wn (x + x)) (t : Int) = wn (2 * x + t) := by
 have h0 : (x + x) % 18446744073709551616 ||| t = (2 * x + t) % 18446744073709551616 := by
  have := Nat.two_pow_add_eq_or_of_lt (i := 1) (b := t) (by omega) ((x + x) % 18446744073709551616 / 2); have e : 2 ^ 1 * ((x + x) % 18446744073709551616 / 2) = (x + x) % 18446744073709551616 := by omega
  rw [e] at this; rw [← this]; omega
 unfold dsh
 simp only [wn]
 have h1 : (x + x) / 18446744073709551616 = (2 * x + t) / 18446744073709551616 := by omega
 rw [orU _ t (Nat.mod_lt _ (by decide)) (by omega), h0, h1]
theorem zafn (Q i : Nat) (hi : i < 256) (h : Q % 2 ^ (i + 1) = 0) :
 dset (wn Q) (w6 ((i : Int).tdiv 64)).toNat (orI .u64 (zaq [(wn Q).e0, (wn Q).e1, (wn Q).e2, (wn Q).e3] ((w6 ((i : Int).tdiv 64)).toNat)) (IntKind.wrap .u64 (1 * 2 ^ (min ((i : Int).tmod 64).toNat 64)))) = wn (Q + 2 ^ i) := by
 have e1 : w6 ((i : Int).tdiv 64) = ((i / 64 : Nat) : Int) := by
  rw [tde, w6e]; omega
 have e2 : ((i : Int).tmod 64) = ((i % 64 : Nat) : Int) := by
  rw [tme]; omega
 have e3 : IntKind.wrap .u64 (1 * 2 ^ (i % 64)) = ((2 ^ (i % 64) : Nat) : Int) := by
  rw [Int.one_mul, show (2 : Int) ^ (i % 64) = ((2 ^ (i % 64) : Nat) : Int) by rw [Int.natCast_pow]; rfl, zxz, mel]; exact Nat.pow_lt_pow_right (a := 2) (n := 64) (m := i % 64) (by decide) (by omega)
 rw [e1, e2, itn, itn, limb Q _ (by omega), Nat.min_eq_left (by omega), e3]
 rw [orU (Q / 2 ^ (64 * (i / 64)) % 2 ^ 64) (2 ^ (i % 64)) (Nat.mod_lt _ (by decide)) (Nat.pow_lt_pow_right (a := 2) (n := 64) (m := i % 64) (by decide) (by omega))]
 have w := fun j => zae0 Q i j h
 have w0 := w 0
 rw [show 2 ^ (64 * 0) = 1 from rfl, Nat.div_one, Nat.div_one] at w0
 have w1 := w 1
 have w2 := w 2
 have w3 := w 3
 have k1 : (2 : Nat) ^ (64 * 1) = 18446744073709551616 := by decide
 have k2 : (2 : Nat) ^ (64 * 2) = 340282366920938463463374607431768211456 := by decide
 have k3 : (2 : Nat) ^ (64 * 3) = 6277101735386680763835789423207666416102355444464034512896 := by decide
 have k0 : (2 : Nat) ^ 64 = 18446744073709551616 := by decide
 simp only [k1, k0] at w1
 simp only [k2, k0] at w2
 simp only [k3, k0] at w3
 simp only [k0] at w0
 unfold dset
 refine zab5 ?_ ?_ ?_ ?_
 · simp only [wn]; rw [w0]
   by_cases hj : i / 64 = 0
   · rw [ifp hj, ifp hj, hj, show 64 * 0 = 0 from rfl, Nat.pow_zero, Nat.div_one, k0]
   · rw [ifn hj, ifn hj]
 · simp only [wn]; rw [w1]
   by_cases hj : i / 64 = 1
   · rw [ifp hj, ifp hj, hj]
   · rw [ifn hj, ifn hj]
 · simp only [wn, div2]; rw [w2]
   by_cases hj : i / 64 = 2
   · rw [ifp hj, ifp hj, hj]
   · rw [ifn hj, ifn hj]
 · simp only [wn, div3]; rw [w3]
   by_cases hj : i / 64 = 3
   · rw [ifp hj, ifp hj, hj]
   · rw [ifn hj, ifn hj]
theorem zx3 (a b : Nat) : decide (zkb a b ≥ 0) = decide (b ≤ a) := by
 unfold zkb
 by_cases h : a < b
 · rw [ifp h, dcf (show ¬ b ≤ a by omega)]; rfl
 · rw [ifn h, dct (show b ≤ a by omega)]
   by_cases h2 : b < a
   · rw [ifp h2]; rfl
   · rw [ifn h2]; rfl
theorem zac3 (N : Nat) (hN : 10 < N) (i : Nat) (hi : i < 256) (a d : Nat) (hd : 0 < d) (hd2 : d ≤ 57896044618658097711785492504343953926634992332820282019728792003956564819968) :
 za7.r0 N ((i : Int), wn a, wn d, wn (a / 2 ^ (i + 1) / d * 2 ^ (i + 1)), wn (a / 2 ^ (i + 1) % d)) = some (.again ((i : Int) - 1, wn a, wn d, wn (a / 2 ^ i / d * 2 ^ i), wn (a / 2 ^ i % d))) := by
 have e1 : w6 ((i : Int).tdiv 64) = ((i / 64 : Nat) : Int) := by
  rw [tde, w6e]; omega
 have e2 : ((i : Int).tmod 64) = ((i % 64 : Nat) : Int) := by
  rw [tme]; omega
 have c1 : 0 ≤ w6 ((i : Int).tdiv 64) := by rw [e1]; omega
 have c2 : w6 ((i : Int).tdiv 64) < 4 := by rw [e1]; omega
 have c3 : ¬ (i : Int).tmod 64 < 0 := by rw [e2]; omega
 have hp : a / 2 ^ i = 2 * (a / 2 ^ (i + 1)) + a / 2 ^ i % 2 := by
  rw [Nat.pow_succ, ← Nat.div_div_eq_div_mul]; omega
 have hbit : a / 2 ^ i % 2 < 2 := Nat.mod_lt _ (by decide)
 have hdm := Nat.div_add_mod (a / 2 ^ (i + 1)) d
 have hr := Nat.mod_lt (a / 2 ^ (i + 1)) hd
 rw [z77, dct (show (i : Int) ≥ 0 by omega), ctr, z27 N hN, obs, ifp c1, ifp c2, ifn c3, zafo a i hi, zag6 _ _ hbit]
 rw [zp9 N hN (by unfold zm6; omega) (by unfold zm6; omega), obs, zx3]
 rw [w6e (n := (i : Int) - 1)]
 generalize hq : a / 2 ^ (i + 1) / d = q at *
 generalize hs : a / 2 ^ (i + 1) % d = r at *
 generalize hb : a / 2 ^ i % 2 = t at *
 have hp2 : a / 2 ^ i = d * (2 * q) + (2 * r + t) := by
  rw [hp, ← hdm, Nat.mul_left_comm]; omega
 by_cases h : d ≤ 2 * r + t
 · rw [dct h, ctr, z4l N hN h, obs, ifp c1, ifp c2, ifn c3, ifp c1, ifp c2]; rw [zafn _ i hi (Nat.mul_mod_left _ _)]; have hp3 : a / 2 ^ i = d * (2 * q + 1) + (2 * r + t - d) := by rw [hp2, Nat.mul_add d]; omega
   rw [hp3, Nat.mul_add_div hd, Nat.mul_add_mod, Nat.div_eq_of_lt (show 2 * r + t - d < d by omega), mel (show 2 * r + t - d < d by omega)]; have : q * 2 ^ (i + 1) + 2 ^ i = (2 * q + 1 + 0) * 2 ^ i := by
    rw [Nat.pow_succ, Nat.add_zero, Nat.add_mul, Nat.one_mul, Nat.mul_comm (2 ^ i) 2, ← Nat.mul_assoc, Nat.mul_comm q 2]
   rw [this]
 · rw [dcf h, cfa]; rw [hp2, Nat.mul_add_div hd, Nat.mul_add_mod, Nat.div_eq_of_lt (show 2 * r + t < d by omega), mel (show 2 * r + t < d by omega)]; have : q * 2 ^ (i + 1) = (2 * q + 0) * 2 ^ i := by
    rw [Nat.pow_succ, Nat.add_zero, Nat.mul_comm (2 ^ i) 2, ← Nat.mul_assoc, Nat.mul_comm q 2]
   rw [this]
theorem z5j (N : Nat) (hN : 300 < N) (a d : Nat) (ha : a < zm6) (hd : 0 < d) (hd2 : d ≤ 57896044618658097711785492504343953926634992332820282019728792003956564819968) :
 za7 N (wn a) (wn d) = some (wn (a / d), wn (a % d)) := by
 unfold za7
 have := za1 (f := za7.r0 N) (fun k => ((255 : Int) - (k : Int), wn a, wn d, wn (a / 2 ^ (256 - k) / d * 2 ^ (256 - k)), wn (a / 2 ^ (256 - k) % d))) 256
  (fun k hk => by
   have e := zac3 N (by omega) (255 - k) (by omega) a d hd hd2; rw [show 255 - k + 1 = 256 - k by omega, show ((255 - k : Nat) : Int) = (255 : Int) - (k : Int) by omega] at e; rw [e, show 256 - (k + 1) = 255 - k by omega, show (255 : Int) - (k : Int) - 1 = (255 : Int) - ((k + 1 : Nat) : Int) by omega])
  (by rw [z77]; rfl) (N := N) (by omega)
 have z : a / 2 ^ (256 - 0) = 0 := Nat.div_eq_of_lt (by unfold zm6 at ha; exact Nat.lt_of_lt_of_le ha (by decide))
 simp only [z, Nat.zero_div, Nat.zero_mul, Nat.zero_mod] at this
 have z2 : a / 2 ^ (256 - 256) = a := Nat.div_one a
 simp only [z2] at this
 rw [show ((255 : Int) - ((0 : Nat) : Int)) = 255 from rfl, show wn 0 = (⟨0, 0, 0, 0⟩ : zH) from rfl] at this
 rw [this, obs, show a / d * 2 ^ (256 - 256) = a / d from Nat.mul_one _]
def zdq (x : Number) : Prop := (-999999999999999 ≤ x.N ∧ x.N ≤ 999999999999999) ∧ 0 ≤ x.Scale ∧ x.Scale ≤ 15
theorem zp8 {x : Number} : z6p x = 0 ↔ zdq x := by
 unfold z6p zdq
 cases h : (inB x.N (-999999999999999) 999999999999999 && inB x.Scale 0 15) with
 | true =>
  rw [Bool.and_eq_true, zbf, zbf] at h; simp [h]
 | false =>
  simp only [cfa]; constructor
  · intro h2; cases h2
  · intro h2; rw [show (inB x.N (-999999999999999) 999999999999999) = true from zbf.2 h2.1, show inB x.Scale 0 15 = true from zbf.2 h2.2] at h; cases h
def zkh (t : DataType) : Prop := zfp t = 0 ∧ 1 ≤ t.Kind ∧ t.Kind ≤ 3
theorem zgc {t : DataType} (h : zkh t) : (1 ≤ t.Length ∧ t.Length ≤ 15) ∧ 0 ≤ t.Scale ∧ t.Scale ≤ t.Length := by
 obtain ⟨h0, h1, h2⟩ := h
 unfold zfp at h0
 rw [ifn] at h0
 by_cases hk : t.Kind = 3
 · rw [ifn, ifp hk] at h0; split at h0
   · split at h0
     · rename_i h3 h4; have := zbf.1 h4; omega
     · cases h0
   · cases h0
 · rw [ifp] at h0; split at h0
   · split at h0
     · rename_i h3 h4; have := zbf.1 h4; have := zbf.1 h3; omega
     · cases h0
   · cases h0
theorem zcs {k m : Nat} (h : k ≤ m) : 10 ^ k ≤ 10 ^ m := Nat.pow_le_pow_right (by decide) h
theorem zcx (k : Nat) : 0 < 10 ^ k := Nat.pow_pos (by decide)
theorem zu0 (N : Nat) (hN : 300 < N) {x : Number} (hx : zdq x) (k : Nat) (hk : k < 100) : zc5 N x (k : Int) = some (wn (x.N.natAbs * 10 ^ k)) := by
 obtain ⟨⟨h1, h2⟩, _⟩ := hx
 unfold zc5
 have e : (if w6 (0 - x.N) > x.N then w6 (0 - x.N) else x.N) = ((x.N.natAbs : Nat) : Int) := by
  rw [w6e]; split <;> omega
 rw [e, zxz, mel (by omega), z7g (by omega), obs, zzs N (by omega) _ k hk]
 rfl
theorem z5k (N : Nat) (hN : 300 < N) {x : Number} (hx : zdq x) : zc5 N x 0 = some (wn x.N.natAbs) := by
 have := zu0 N hN hx 0 (by decide)
 rw [Nat.pow_zero, Nat.mul_one] at this
 exact this
theorem zwo : zbx 1 = some (wn 1) := z7g (n := 1) (by decide)
theorem z2k (N : Nat) (hN : 300 < N) {k : Int} (h0 : 0 ≤ k) (h1 : k < 100) : zg N (wn 1) k = some (wn (10 ^ k.toNat)) := by
 have := zzs N (by omega) 1 k.toNat (by omega)
 rw [Nat.one_mul, Int.toNat_of_nonneg h0] at this
 exact this
def zjt (b : Bool) (p q : Nat) (t : DataType) (half : Bool) : Value × Int :=
 if 10 ^ t.Length.toNat ≤ p * 10 ^ t.Scale.toNat / q + cond (half && decide (q ≤ p * 10 ^ t.Scale.toNat % q + p * 10 ^ t.Scale.toNat % q)) 1 0 then (⟨0, ⟨#[]⟩⟩, 19)
 else (⟨cond b (-((p * 10 ^ t.Scale.toNat / q + cond (half && decide (q ≤ p * 10 ^ t.Scale.toNat % q + p * 10 ^ t.Scale.toNat % q)) 1 0 : Nat) : Int)) ((p * 10 ^ t.Scale.toNat / q + cond (half && decide (q ≤ p * 10 ^ t.Scale.toNat % q + p * 10 ^ t.Scale.toNat % q)) 1 0 : Nat) : Int), ⟨#[]⟩⟩, 0)
theorem eW (a : zH) : (⟨a.e0, a.e1, a.e2, a.e3⟩ : zH) = a := rfl
theorem zaan (N : Nat) (hN : 300 < N) (b : Bool) (Q : Nat) (hQ : Q < zm6) {t : DataType} (ht : zkh t) :
 ((zbx 1).bind fun r11 => (zg N r11 t.Length).bind fun r12 => (zk N (wn Q) r12).bind fun r13 => cond (decide (r13 ≥ 0)) (some ((⟨0, (⟨#[]⟩ : ByteArray)⟩ : Value), (19 : Int)))
 (cond b (some ((⟨(w6 (0 - (w6 (zaq [(wn Q).e0, (wn Q).e1, (wn Q).e2, (wn Q).e3] 0)))), (⟨#[]⟩ : ByteArray)⟩ : Value), (0 : Int)))
 (some ((⟨(w6 (zaq [(wn Q).e0, (wn Q).e1, (wn Q).e2, (wn Q).e3] 0)), (⟨#[]⟩ : ByteArray)⟩ : Value), (0 : Int))))) =
 some (if 10 ^ t.Length.toNat ≤ Q then (⟨0, ⟨#[]⟩⟩, 19) else (⟨cond b (-(Q : Int)) (Q : Int), ⟨#[]⟩⟩, 0)) := by
 obtain ⟨⟨l1, l2⟩, l3, l4⟩ := zgc ht
 have hp : 10 ^ t.Length.toNat ≤ 10 ^ 15 := zcs (by omega)
 rw [zwo, obs, z2k N hN (by omega) (by omega), obs, zp9 N (by omega) hQ (by unfold zm6; omega), obs, zx3]
 by_cases h : 10 ^ t.Length.toNat ≤ Q
 · rw [dct h, ifp h]; rfl
 · rw [dcf h, ifn h, cfa]; have e : zaq [(wn Q).e0, (wn Q).e1, (wn Q).e2, (wn Q).e3] 0 = (Q : Int) := by
    show ((Q % 18446744073709551616 : Nat) : Int) = Q; rw [mel (by omega)]
   rw [e, w6e (n := (Q : Int)), w6e]; cases b
   · rfl
   · simp only [ctr, Int.zero_sub]
theorem zx4 (N : Nat) (hN : 300 < N) (b : Bool) (p q : Nat) (hp : p ≤ 10 ^ 46) (hq : 0 < q) (hq2 : q ≤ 10 ^ 46) {t : DataType} (ht : zkh t) (half : Bool) : zd6 N ⟨b, wn p, wn q⟩ t half = some (zjt b p q t half) := by
 obtain ⟨⟨l1, l2⟩, l3, l4⟩ := zgc ht
 have hs : p * 10 ^ t.Scale.toNat ≤ 10 ^ 46 * 10 ^ 15 := Nat.mul_le_mul hp (zcs (by omega))
 have hd : p * 10 ^ t.Scale.toNat / q ≤ 10 ^ 46 * 10 ^ 15 := Nat.le_trans (Nat.div_le_self _ _) hs
 have hm : p * 10 ^ t.Scale.toNat % q < q := Nat.mod_lt _ hq
 unfold zd6 zjt
 try simp only [eW]
 have e1 := zzs N (by omega) p t.Scale.toNat (by omega)
 rw [Int.toNat_of_nonneg l3] at e1
 rw [e1, obs, z5j N hN _ q (by unfold zm6; omega) hq (by omega)]
 simp only [obs]
 rw [z27 N (by omega), obs, zp9 N (by omega) (by unfold zm6; omega) (by unfold zm6; omega)]
 simp only [obs, zx3]
 have k : (cond half (some (decide (q ≤ p * 10 ^ t.Scale.toNat % q + p * 10 ^ t.Scale.toNat % q))) (some false)) = some (half && decide (q ≤ p * 10 ^ t.Scale.toNat % q + p * 10 ^ t.Scale.toNat % q)) := by cases half <;> rfl
 rw [k, obs]
 cases hc : (half && decide (q ≤ p * 10 ^ t.Scale.toNat % q + p * 10 ^ t.Scale.toNat % q)) with
 | true =>
  simp only [ctr]; rw [zwo, obs, z27 N (by omega), obs, ← zwo]; exact zaan N hN b _ (by unfold zm6; omega) ht
 | false =>
  simp only [cfa, Nat.add_zero]; exact zaan N hN b _ (by unfold zm6; omega) ht
theorem z5c (b : Bool) (p q k : Nat) (hk : 0 < k) (hq : 0 < q) (t : DataType) (half : Bool) : zjt b (p * k) (q * k) t half = zjt b p q t half := by
 have e : p * k * 10 ^ t.Scale.toNat = p * 10 ^ t.Scale.toNat * k := Nat.mul_right_comm _ _ _
 have e2 : p * k * 10 ^ t.Scale.toNat / (q * k) = p * 10 ^ t.Scale.toNat / q := by rw [e, Nat.mul_div_mul_right _ _ hk]
 have e3 : decide (q * k ≤ p * k * 10 ^ t.Scale.toNat % (q * k) + p * k * 10 ^ t.Scale.toNat % (q * k)) = decide (q ≤ p * 10 ^ t.Scale.toNat % q + p * 10 ^ t.Scale.toNat % q) := by
  rw [e, Nat.mul_mod_mul_right, ← Nat.add_mul]; simp only [decide_eq_decide]; exact ⟨fun h => Nat.le_of_mul_le_mul_right h hk, fun h => Nat.mul_le_mul_right k h⟩
 unfold zjt
 rw [e2, e3]
theorem z7f (b b' : Bool) (p q : Nat) (hq : 0 < q) (t : DataType) (half : Bool) (h : p ≠ 0 → b = b') : zjt b p q t half = zjt b' p q t half := by
 by_cases hp : p = 0
 · subst hp; unfold zjt; simp only [Nat.zero_mul, Nat.zero_div, Nat.zero_mod, Nat.zero_add, dcf (show ¬ q ≤ 0 by omega), Bool.and_false, cfa]; cases b <;> cases b' <;> rfl
 · rw [h hp]
def z14 (p : Int) (q : Nat) (t : DataType) (half : Bool) : Value × Int := zjt (decide (p < 0)) p.natAbs q t half
theorem z80 (b : Bool) (p q : Nat) (hq : 0 < q) (t : DataType) (half : Bool) : zjt b p q t half = z14 (cond b (-(p : Int)) p) q t half := by
 unfold z14
 have : (cond b (-(p : Int)) (p : Int)).natAbs = p := by cases b <;> simp
 rw [this]
 refine z7f _ _ _ _ hq _ _ fun h => ?_
 cases b
 · symm; simp
 · symm; simp; omega
theorem zacq {t : DataType} (ht : zkh t) : zf6 t = some true := by
 obtain ⟨_, h1, h2⟩ := ht
 unfold zf6
 rcases (by omega : t.Kind = 1 ∨ t.Kind = 2 ∨ t.Kind = 3) with h | h | h <;> rw [h] <;> rfl
def zol (x : Number) (t : DataType) (half : Bool) : Value × Int := z14 x.N (10 ^ x.Scale.toNat) t half
theorem zaas (N : Nat) (hN : 300 < N) {x : Number} (hx : zdq x) {t : DataType} (ht : zkh t) (half : Bool) : zdw N x t half = some (zol x t half) := by
 have f3 : ∀ a b c : Int, zq N [a, b, c] = some (zhe [a, b, c]) := fun a b c => zq3 N _ (by simp; omega) (by simp)
 have hx' := hx
 obtain ⟨⟨h1, h2⟩, h3, h4⟩ := hx'
 have hp : 10 ^ x.Scale.toNat ≤ 10 ^ 15 := zcs (by omega)
 unfold zdw zr8
 try simp only [eN, eD, eW]
 rw [zrj, zp8.2 hx]
 simp only [obs]
 rw [zrg N (by omega), ht.1]
 simp only [obs]
 rw [zacq ht]
 simp only [obs, zrk, f3]
 rw [z5k N hN hx, zwo]
 simp only [obs]
 rw [z2k N hN h3 (by omega)]
 simp only [obs]
 rw [show zhe [0, 0, cond (!true) 17 0] = 0 from rfl]
 simp only [bsf, cfa]
 rw [zx4 N hN _ _ _ (by omega) (zcx _) (by omega) ht]
 simp only [obs]
 rfl
def zal (x : Number) (s : Int) : Int := x.N * 10 ^ (s - x.Scale).toNat
def zf (a b : Number) : Int := if b.Scale > a.Scale then b.Scale else a.Scale
theorem zkl (x : Number) (s : Int) : (zal x s).natAbs = x.N.natAbs * 10 ^ (s - x.Scale).toNat := by
 unfold zal
 rw [Int.natAbs_mul, Int.natAbs_pow]
 rfl
theorem z5f (k : Nat) : (0 : Int) < 10 ^ k := Int.pow_pos (by decide)
theorem zrw (x : Number) (s : Int) : (zal x s < 0) ↔ x.N < 0 := by
 unfold zal
 have := z5f (s - x.Scale).toNat
 constructor
 · intro h; refine cbc fun h2 => ?_; have := Int.mul_nonneg (show 0 ≤ x.N by omega) (Int.le_of_lt this); omega
 · intro h; exact Int.mul_neg_of_neg_of_pos h this
theorem z3v (x : Number) (s : Int) : zal x s = 0 ↔ x.N = 0 := by
 unfold zal
 have := z5f (s - x.Scale).toNat
 constructor
 · intro h; rcases Int.mul_eq_zero.1 h with h | h
   · exact h
   · omega
 · intro h; rw [h, Int.zero_mul]
theorem zzt (N : Nat) (hN : 300 < N) {a b : Number} (ha : zdq a) (hb : zdq b) : ze4 N a b = some (wn (zal a (zf a b)).natAbs, wn (zal b (zf a b)).natAbs, zf a b) := by
 have ha' := ha
 have hb' := hb
 obtain ⟨_, a3, a4⟩ := ha'
 obtain ⟨_, b3, b4⟩ := hb'
 unfold ze4
 have hs : (if b.Scale > a.Scale then b.Scale else a.Scale) = zf a b := rfl
 have h1 : a.Scale ≤ zf a b ∧ b.Scale ≤ zf a b ∧ zf a b ≤ 15 := by unfold zf; split <;> omega
 rw [hs, w6e, w6e]
 have e1 := zu0 N hN ha (zf a b - a.Scale).toNat (by omega)
 have e2 := zu0 N hN hb (zf a b - b.Scale).toNat (by omega)
 rw [Int.toNat_of_nonneg (by omega)] at e1 e2
 rw [e1, obs, e2, obs, zkl, zkl]
theorem zkt {x : Number} (hx : zdq x) {s : Int} (hs : s ≤ 15) : (zal x s).natAbs ≤ 10 ^ 30 := by
 obtain ⟨⟨h1, h2⟩, h3, h4⟩ := hx
 rw [zkl]
 have := Nat.mul_le_mul (show x.N.natAbs ≤ 10 ^ 15 by omega) (zcs (k := (s - x.Scale).toNat) (m := 15) (by omega))
 exact Nat.le_trans this (by decide)
theorem zps {a b : Number} (ha : zdq a) (hb : zdq b) : a.Scale ≤ zf a b ∧ b.Scale ≤ zf a b ∧ 0 ≤ zf a b ∧ zf a b ≤ 15 := by
 obtain ⟨_, a3, a4⟩ := ha
 obtain ⟨_, b3, b4⟩ := hb
 unfold zf; split <;> omega
def z86 (a b : Int) : Int := if a < b then -1 else if b < a then 1 else 0
theorem zxt (N : Nat) (hN : 300 < N) {a b : Number} (ha : zdq a) (hb : zdq b) : zju N a b = some (z86 (zal a (zf a b)) (zal b (zf a b)), 0) := by
 have f2 : ∀ a b : Int, zq N [a, b] = some (zhe [a, b]) := fun a b => zq3 N _ (by simp; omega) (by simp)
 obtain ⟨s1, s2, s3, s4⟩ := zps ha hb
 have la := zkt ha s4
 have lb := zkt hb s4
 have na := zrw a (zf a b)
 have nb := zrw b (zf a b)
 unfold zju
 rw [zrj, zrj, zp8.2 ha, zp8.2 hb]
 simp only [obs, f2]
 rw [zzt N hN ha hb]
 simp only [show zhe [0, 0] = 0 from rfl, bsf, cfa, obs]
 rw [zp9 N (by omega) (by unfold zm6; omega) (by unfold zm6; omega), zp9 N (by omega) (by unfold zm6; omega) (by unfold zm6; omega)]
 generalize zal a (zf a b) = A at *
 generalize zal b (zf a b) = B at *
 have k : ∀ x y, (cond (decide (a.N < 0)) x y : Option (Int × Int)) = if A < 0 then x else y := fun x y => by
  by_cases h : A < 0
  · rw [ifp h, dct (na.1 h), ctr]
  · rw [ifn h, dcf (fun h2 => h (na.2 h2)), cfa]
 have k2 : ∀ x y, (cond (decide (b.N < 0)) x y : Option (Int × Int)) = if B < 0 then x else y := fun x y => by
  by_cases h : B < 0
  · rw [ifp h, dct (nb.1 h), ctr]
  · rw [ifn h, dcf (fun h2 => h (nb.2 h2)), cfa]
 rw [show (cond (decide (a.N < 0)) (some (decide (b.N < 0))) (some false)) = some (decide (A < 0 ∧ B < 0)) by
  by_cases h : A < 0
  · rw [dct (na.1 h), ctr]
    by_cases h2 : B < 0
    · rw [dct (nb.1 h2), dct ⟨h, h2⟩]
    · rw [dcf (fun h3 => h2 (nb.2 h3)), dcf (fun h3 => h2 h3.2)]
  · rw [dcf (fun h2 => h (na.2 h2)), cfa, dcf (fun h3 => h h3.1)]]
 simp only [obs, k, k2]
 unfold zkb z86
 by_cases h1 : A < 0 ∧ B < 0
 · rw [dct h1]; simp only [ctr, Option.some.injEq, Prod.mk.injEq, and_true]
   repeat' split
   all_goals first | rfl | omega
 · rw [dcf h1]; simp only [cfa]
   repeat' split
   all_goals first | rfl | (exfalso; omega)
theorem zaco (N : Nat) (hN : 300 < N) {a b : Number} (ha : zdq a) (hb : zdq b) : ∃ s p, zm5 N a b = some ⟨s, wn p, wn (10 ^ (zf a b).toNat)⟩ ∧ p ≤ 10 ^ 31 ∧ cond s (-(p : Int)) p = zal a (zf a b) + zal b (zf a b) := by
 obtain ⟨s1, s2, s3, s4⟩ := zps ha hb
 have la := zkt ha s4
 have lb := zkt hb s4
 have na := zrw a (zf a b)
 have nb := zrw b (zf a b)
 unfold zm5
 rw [zzt N hN ha hb]
 simp only [obs]
 rw [z27 N (by omega), zwo]
 simp only [obs]
 rw [z2k N hN s3 (by omega)]
 simp only [obs]
 obtain ⟨r, hr1, hr2⟩ := z2l N (by omega) (zal a (zf a b)).natAbs (zal b (zf a b)).natAbs
 rw [hr1]
 simp only [obs]
 rw [zp9 N (by omega) (by unfold zm6; omega) (by unfold zm6; omega)]
 simp only [obs]
 generalize zal a (zf a b) = A at *
 generalize zal b (zf a b) = B at *
 rw [show decide (a.N < 0) = decide (A < 0) by simp only [decide_eq_decide]; exact na.symm, show decide (b.N < 0) = decide (B < 0) by simp only [decide_eq_decide]; exact nb.symm]
 by_cases hA : A < 0
 · by_cases hB : B < 0
   · rw [dct hA, dct hB]; refine ⟨true, _, rfl, by omega, ?_⟩; simp only [ctr]; omega
   · rw [dct hA, dcf hB]; unfold zkb
     by_cases h : A.natAbs < B.natAbs
     · rw [ifp h, z4l N (by omega) (Nat.le_of_lt h)]; refine ⟨false, _, rfl, by omega, ?_⟩; simp only [cfa]; omega
     · rw [ifn h, hr2 (by omega)]; refine ⟨true, A.natAbs - B.natAbs, ?_, by omega, ?_⟩
       · split <;> rfl
       · simp only [ctr]; omega
 · by_cases hB : B < 0
   · rw [dcf hA, dct hB]; unfold zkb
     by_cases h : A.natAbs < B.natAbs
     · rw [ifp h, z4l N (by omega) (Nat.le_of_lt h)]; refine ⟨true, _, rfl, by omega, ?_⟩; simp only [ctr]; omega
     · rw [ifn h, hr2 (by omega)]; refine ⟨false, A.natAbs - B.natAbs, ?_, by omega, ?_⟩
       · split <;> rfl
       · simp only [cfa]; omega
   · rw [dcf hA, dcf hB]; refine ⟨false, _, rfl, by omega, ?_⟩; simp only [cfa]; omega
def zlu (op : Int) (a b : Number) (t : DataType) (half : Bool) : Value × Int :=
 if (op = 3 ∨ op = 4) ∧ b.N = 0 then (⟨0, ⟨#[]⟩⟩, 20)
 else if op = 0 then z14 (zal a (zf a b) + zal b (zf a b)) (10 ^ (zf a b).toNat) t half
 else if op = 1 then z14 (zal a (zf a b) - zal b (zf a b)) (10 ^ (zf a b).toNat) t half
 else if op = 2 then zjt (decide (a.N < 0) != decide (b.N < 0)) (a.N.natAbs * b.N.natAbs) (10 ^ (a.Scale + b.Scale).toNat) t half
 else if op = 3 then zjt (decide (a.N < 0) != decide (b.N < 0)) (a.N.natAbs * 10 ^ b.Scale.toNat) (b.N.natAbs * 10 ^ a.Scale.toNat) t half
 else zjt (decide (a.N < 0)) ((zal a (zf a b)).natAbs % (zal b (zf a b)).natAbs) (10 ^ (zf a b).toNat) t half
theorem zafj (N : Nat) (hN : 300 < N) {op : Int} (hop : 0 ≤ op ∧ op ≤ 4) {a b : Number} (ha : zdq a) (hb : zdq b) {t : DataType} (ht : zkh t) (half : Bool) : zgj N op a b t half = some (zlu op a b t half) := by
 have f5 : ∀ a b c d e : Int, zq N [a, b, c, d, e] = some (zhe [a, b, c, d, e]) := fun a b c d e => zq3 N _ (by simp; omega) (by simp)
 obtain ⟨s1, s2, s3, s4⟩ := zps ha hb
 have ha' := ha
 have hb' := hb
 obtain ⟨⟨a1, a2⟩, a3, a4⟩ := ha'
 obtain ⟨⟨b1, b2⟩, b3, b4⟩ := hb'
 have p15 : ∀ k : Int, k ≤ 15 → 10 ^ k.toNat ≤ 10 ^ 15 := fun k hk => zcs (by omega)
 have q1 := p15 _ s4
 have q2 := p15 _ a4
 have q3 := p15 _ b4
 unfold zgj zpi zkc zmq
 simp only [z5i, zrk, obs]
 rw [zrj, zrj, zp8.2 ha, zp8.2 hb, show inB op 0 4 = true from zbf.2 hop]
 simp only [obs]
 rw [zrg N (by omega), ht.1]
 simp only [obs]
 rw [zacq ht]
 simp only [obs, f5, show zhe [cond (!true) 4 0, 0, 0, 0, cond (!true) 17 0] = 0 from rfl, bsf, cfa]
 have g : ((cond (op == 3) (some true) (some (op == 4))).bind fun g1 => some g1) = some (decide (op = 3 ∨ op = 4)) := by
  rw [zcn, zcn]
  by_cases h : op = 3
  · rw [dct h, dct (Or.inl h)]; rfl
  · rw [dcf h]
    by_cases h2 : op = 4
    · rw [dct h2, dct (Or.inr h2)]; rfl
    · rw [dcf h2, dcf (by omega)]; rfl
 rw [g]
 simp only [obs]
 rw [show (cond (decide (op = 3 ∨ op = 4)) (some (b.N == 0)) (some false)) = some (decide ((op = 3 ∨ op = 4) ∧ b.N = 0)) by
  rw [zcn]
  by_cases h : op = 3 ∨ op = 4
  · rw [dct h, ctr]; congr 1; simp [h]
  · rw [dcf h, cfa]; congr 1; simp [h]]
 simp only [obs]
 unfold zlu
 by_cases hz : (op = 3 ∨ op = 4) ∧ b.N = 0
 · rw [dct hz, ifp hz]; rfl
 · rw [dcf hz, ifn hz, cfa]; unfold znp
   by_cases o0 : op = 0
   · obtain ⟨s, p, h1, h2, h3⟩ := zaco N hN ha hb; rw [ifp o0, o0, h1]; simp only [bst, ctr, obs]; rw [zx4 N hN _ _ _ (by omega) (zcx _) (by omega) ht, ← h3, z80 _ _ _ (zcx _)]; rfl
   · rw [ifn o0, zcn, dcf o0, cfa]
     by_cases o1 : op = 1
     · have hb2 : zdq ⟨-b.N, b.Scale⟩ := ⟨⟨by show -999999999999999 ≤ -b.N; omega, by show -b.N ≤ 999999999999999; omega⟩, b3, b4⟩; obtain ⟨s, p, h1, h2, h3⟩ := zaco N hN ha hb2; rw [ifp o1, zcn, dct o1, ctr, w6e, Int.zero_sub, h1]; simp only [obs]; have e1 : zf a ⟨-b.N, b.Scale⟩ = zf a b := rfl; have e2 : zal ⟨-b.N, b.Scale⟩ (zf a b) = -zal b (zf a b) := by unfold zal; exact Int.neg_mul _ _
       rw [e1] at h3 ⊢; rw [e2] at h3; rw [zx4 N hN _ _ _ (by omega) (zcx _) (by omega) ht, Int.sub_eq_add_neg, ← h3, z80 _ _ _ (zcx _)]; rfl
     · rw [ifn o1, zcn, dcf o1, cfa]
       by_cases o2 : op = 2
       · rw [ifp o2, zcn, dct o2, ctr, z5k N hN ha, obs]; have e : (if w6 (0 - b.N) > b.N then w6 (0 - b.N) else b.N) = ((b.N.natAbs : Nat) : Int) := by
          rw [w6e]; split <;> omega
         rw [e, zxz, mel (by omega), z9b N (by omega) _ _ (by omega), obs, zwo, obs, w6e, z2k N hN (by omega) (by omega)]; simp only [obs]; have hm : a.N.natAbs * b.N.natAbs ≤ 10 ^ 15 * 10 ^ 15 := Nat.mul_le_mul (by omega) (by omega); have hm2 : 10 ^ (a.Scale + b.Scale).toNat ≤ 10 ^ 30 := zcs (by omega); rw [zx4 N hN _ _ _ (by omega) (zcx _) (by omega) ht]; rfl
       · rw [ifn o2, zcn, dcf o2, cfa]
         by_cases o3 : op = 3
         · have hb0 : b.N ≠ 0 := fun h => hz ⟨.inl o3, h⟩; have e1 := zu0 N hN ha b.Scale.toNat (by omega); have e2 := zu0 N hN hb a.Scale.toNat (by omega); rw [Int.toNat_of_nonneg (by omega)] at e1 e2; have hm : a.N.natAbs * 10 ^ b.Scale.toNat ≤ 10 ^ 15 * 10 ^ 15 := Nat.mul_le_mul (by omega) (by omega); have hm2 : b.N.natAbs * 10 ^ a.Scale.toNat ≤ 10 ^ 15 * 10 ^ 15 := Nat.mul_le_mul (by omega) (by omega); rw [ifp o3, zcn, dct o3, ctr, e1, obs, e2, obs, obs]; rw [zx4 N hN _ _ _ (by omega) (Nat.mul_pos (by omega) (zcx _)) (by omega) ht]; rfl
         · have hb0 : b.N ≠ 0 := fun h => hz ⟨by omega, h⟩; have la := zkt ha s4; have lb := zkt hb s4; have hb1 : (zal b (zf a b)).natAbs ≠ 0 := fun h => hb0 ((z3v b (zf a b)).1 (Int.natAbs_eq_zero.1 h)); have hm := Nat.mod_lt (zal a (zf a b)).natAbs (show 0 < (zal b (zf a b)).natAbs by omega); rw [ifn o3, zcn, dcf o3, cfa, zzt N hN ha hb, obs]; simp only []; rw [z5j N hN _ _ (by unfold zm6; omega) (by omega) (by omega), obs, zwo, obs]; rw [z2k N hN s3 (by omega)]; simp only [obs]; rw [zx4 N hN _ _ _ (by omega) (zcx _) (by omega) ht]; rfl
def dv : List Int → Nat
 | [] => 0
 | d :: l => d.toNat + 10 * dv l
def dok (l : List Int) : Prop := ∀ d ∈ l, 0 ≤ d ∧ d < 10
def zq6 (l : List Int) : Prop := l.getLast? ≠ some 0
def dg (n : Nat) : List Int := if n = 0 then [] else ((n % 10 : Nat) : Int) :: dg (n / 10)
termination_by n
decreasing_by omega
theorem znz : dg 0 = [] := by rw [dg]; rfl
theorem zsp {n : Nat} (h : n ≠ 0) : dg n = ((n % 10 : Nat) : Int) :: dg (n / 10) := by rw [dg, ifn h]
theorem z4q (n : Nat) : dv (dg n) = n ∧ dok (dg n) ∧ zq6 (dg n) ∧ (dg n = [] ↔ n = 0) := by
 induction n using Nat.strongRecOn with
 | _ n ih =>
  by_cases h : n = 0
  · subst h; rw [znz]; exact ⟨rfl, fun d hd => (List.not_mem_nil hd).elim, by unfold zq6; simp, by simp⟩
  · obtain ⟨h1, h2, h3, h4⟩ := ih (n / 10) (by omega); rw [zsp h]; refine ⟨?_, ?_, ?_, by simp [h]⟩
    · simp only [dv, h1, itn]; omega
    · intro d hd; rcases List.mem_cons.1 hd with rfl | hd
      · omega
      · exact h2 d hd
    · unfold zq6 at h3 ⊢; cases hl : dg (n / 10) with
      | nil =>
       have := h4.1 hl; simp only [List.getLast?_singleton, ne_eq, Option.some.injEq]; omega
      | cons x l =>
       rw [hl] at h3; rw [List.getLast?_cons_cons]; exact h3
theorem zm9 (n : Nat) : dv (dg n) = n := (z4q n).1
theorem zmx (n : Nat) : dok (dg n) := (z4q n).2.1
theorem zaa5 (n : Nat) : zq6 (dg n) := (z4q n).2.2.1
theorem z54 : ∀ {l : List Int}, dok l → zq6 l → dg (dv l) = l
 | [], _, _ => znz
 | d :: l, h, hc => by
  have hl : dok l := fun x hx => h x (List.mem_cons_of_mem _ hx); obtain ⟨h0, h1⟩ := h d List.mem_cons_self; cases l with
  | nil =>
   unfold zq6 at hc; simp only [List.getLast?_singleton, ne_eq, Option.some.injEq] at hc; have e : dv [d] = d.toNat := by simp [dv]
   rw [e, zsp (by omega), show d.toNat / 10 = 0 by omega, znz, show ((d.toNat % 10 : Nat) : Int) = d by omega]
  | cons x l =>
   have hcl : zq6 (x :: l) := by
    unfold zq6 at hc ⊢; rw [List.getLast?_cons_cons] at hc; exact hc
   have ih := z54 hl hcl; have hn : dv (x :: l) ≠ 0 := fun h => by rw [h, znz] at ih; cases ih
   have e : dv (d :: x :: l) = d.toNat + 10 * dv (x :: l) := rfl; rw [e, zsp (by omega), show (d.toNat + 10 * dv (x :: l)) / 10 = dv (x :: l) by omega, ih, show (((d.toNat + 10 * dv (x :: l)) % 10 : Nat) : Int) = d by omega]
theorem zxf : ∀ (a b : List Int), dv (a ++ b) = dv a + 10 ^ a.length * dv b
 | [], b => by simp [dv]
 | d :: a, b => by
  simp only [List.cons_append, dv, zxf a b, lnc, Nat.pow_succ]; rw [Nat.mul_add, Nat.add_assoc, Nat.mul_comm (10 ^ a.length) 10, Nat.mul_assoc]
theorem zwt : ∀ k : Nat, dv (List.replicate k (0 : Int)) = 0
 | 0 => rfl
 | k + 1 => by simp only [List.replicate_succ, dv, zwt k]; rfl
theorem zu9 (k : Nat) : dok (List.replicate k (0 : Int)) := fun d hd => by
 obtain ⟨_, rfl⟩ := List.mem_replicate.1 hd
 omega
theorem z0n {a b : List Int} (ha : dok a) (hb : dok b) : dok (a ++ b) := fun d hd => (List.mem_append.1 hd).elim (ha d) (hb d)
theorem z50 : ∀ {l : List Int}, dok l → dv l < 10 ^ l.length
 | [], _ => by simp [dv]
 | d :: l, h => by
  have ih := z50 (l := l) fun x hx => h x (List.mem_cons_of_mem _ hx); obtain ⟨h0, h1⟩ := h d List.mem_cons_self; simp only [dv, lnc, Nat.pow_succ]; omega
theorem zji (n k : Nat) : (dg n).length ≤ k ↔ n < 10 ^ k := by
 induction k generalizing n with
 | zero =>
  by_cases h : n = 0
  · rw [h, znz]; simp
  · rw [zsp h]; simp; omega
 | succ k ih =>
  by_cases h : n = 0
  · rw [h, znz]; simp [zcx]
  · rw [zsp h, lnc, Nat.add_le_add_iff_right, ih (n / 10), Nat.pow_succ]; omega
theorem z9z (l : List Int) (i : Nat) (hi : i < l.length) : dv l = dv (l.take i) + 10 ^ i * (l[i].toNat + 10 * dv (l.drop (i + 1))) := by
 have h := List.take_append_drop i l
 have e : l.drop i = l[i] :: l.drop (i + 1) := List.drop_eq_getElem_cons hi
 conv => lhs; rw [← h, zxf, e]
 simp only [dv, lnt, Nat.min_eq_left (Nat.le_of_lt hi)]
theorem z4o {l : List Int} (h : dok l) (i : Nat) : dok (l.take i) := fun d hd => h d (List.mem_of_mem_take hd)
theorem zaeg {l : List Int} (h : dok l) (i : Nat) : dok (l.drop i) := fun d hd => h d (List.mem_of_mem_drop hd)
theorem zac2 {a b : List Int} (ha : dok a) (hb : dok b) (i : Nat) (hi : i < a.length) (hj : i < b.length) (h : a.drop (i + 1) = b.drop (i + 1)) (hlt : a[i] < b[i]) : dv a < dv b := by
 rw [z9z a i hi, z9z b i hj, h]
 have l1 := z50 (z4o ha i)
 rw [lnt, Nat.min_eq_left (Nat.le_of_lt hi)] at l1
 obtain ⟨x0, _⟩ := ha a[i] (List.getElem_mem hi)
 have : 10 ^ i * (a[i].toNat + 10 * dv (b.drop (i + 1))) + 10 ^ i ≤ 10 ^ i * (b[i].toNat + 10 * dv (b.drop (i + 1))) := by
  rw [← Nat.mul_succ]; exact Nat.mul_le_mul_left _ (by omega)
 omega
theorem z52 {a b : Nat} (h : (dg a).length < (dg b).length) : a < b := by
 have h1 := (zji a (dg a).length).1 (Nat.le_refl _)
 refine Nat.lt_of_lt_of_le h1 (cbc fun h2 => ?_)
 have := (zji b (dg a).length).2 (by omega)
 omega
def bl (b : ByteArray) : List UInt8 := b.data.toList
theorem zax (b : ByteArray) : (bl b).length = b.size := rfl
theorem zi0 {a b : ByteArray} (h : bl a = bl b) : a = b := by
 cases a; cases b
 unfold bl at h
 simp only at h
 congr 1
 exact Array.toList_inj.1 h
theorem zjv (b : ByteArray) (i : Nat) : zhl b (i : Int) = (bl b)[i]? := by
 unfold zhl bl
 rw [ifp]
 show b[i]? = _
 by_cases h : i < b.size
 · rw [getElem?_pos b i h, lge (by simpa using h)]
   congr 1
 · rw [getElem?_neg b i h, List.getElem?_eq_none (by simpa using h)]
theorem zfi (b : ByteArray) (i j : Nat) : bl (b.extract i j) = ((bl b).take j).drop i := by
 unfold bl
 rw [ByteArray.data_extract, Array.toList_extract, List.extract_eq_drop_take', List.drop_take]
theorem zdl (a b : ByteArray) : bl (a ++ b) = bl a ++ bl b := by
 unfold bl
 rw [ByteArray.data_append, Array.toList_append]
theorem zaew (l : List UInt8) : bl ⟨l.toArray⟩ = l := rfl
def beV (l : List UInt8) : Nat := l.foldl (fun n c => n * 256 + c.toNat) 0
theorem zwy (l : List UInt8) (x : UInt8) : beV (l ++ [x]) = beV l * 256 + x.toNat := by
 unfold beV; rw [List.foldl_append]; rfl
theorem z56 (l : List UInt8) : beV l < 256 ^ l.length := by
 have key : ∀ (l r : List UInt8), l = r.reverse → beV l < 256 ^ l.length := by
  intro l r
  induction r generalizing l with
  | nil => intro h; subst h; decide
  | cons x r ih =>
   intro h; rw [List.reverse_cons] at h; subst h; have := ih _ rfl; rw [zwy, lna, lns, Nat.pow_succ]; have := x.toNat_lt; omega
 exact key l l.reverse (by simp)
theorem zel {α : Type} (l : List α) (i : Nat) {x : α} (h : l[i]? = some x) : l.take (i + 1) = l.take i ++ [x] := by
 obtain ⟨h1, h2⟩ := gei h
 rw [List.take_succ_eq_append_getElem h1, h2]
theorem zfh {α : Type} {l : List α} {i : Nat} (h : i < l.length) : ∃ x, l[i]? = some x := ⟨_, lge h⟩
theorem or8 (n : Int) (c : Nat) (h1 : -36028797018963968 ≤ n) (h2 : n < 36028797018963968) (hc : c < 256) : orI .i64 (n * 256) (c : Int) = n * 256 + c := by
 unfold orI
 have e : (BitVec.ofInt IntKind.i64.bits (n * 256) ||| BitVec.ofInt IntKind.i64.bits (c : Int)).toNat = ((n * 256) % 18446744073709551616).toNat + c := by
  show (BitVec.ofInt 64 (n * 256) ||| BitVec.ofInt 64 (c : Int)).toNat = _; rw [BitVec.toNat_or, BitVec.ofInt_natCast, BitVec.toNat_ofNat, BitVec.toNat_ofInt, mel (by omega)]; show ((n * 256) % 18446744073709551616).toNat ||| c = _; have := Nat.two_pow_add_eq_or_of_lt (i := 8) (b := c) hc (((n * 256) % 18446744073709551616).toNat / 256); rw [show 2 ^ 8 * (((n * 256) % 18446744073709551616).toNat / 256) = ((n * 256) % 18446744073709551616).toNat by omega] at this; exact this.symm
 rw [e]
 have k : (2 : Int) ^ (IntKind.i64.bits) = 18446744073709551616 := by decide
 have k' : (2 : Int) ^ (IntKind.i64.bits - 1) = 9223372036854775808 := by decide
 unfold IntKind.wrap
 simp only [k, k', show IntKind.i64.signed = true from rfl, Bool.true_and, decide_eq_true_eq, ge_iff_le]
 split <;> omega
theorem z8l (N : Nat) (hN : 20 < N) (b : ByteArray) (hb : b.size ≤ 6) : zck N b = some (beV (bl b) : Int) := by
 unfold zck
 have := za1 (f := zck.r0 N) (fun i => (b, ((beV ((bl b).take i) : Nat) : Int), (b.size : Int), (i : Int))) b.size
  (fun i hi => by
   obtain ⟨x, hx⟩ : ∃ x, (bl b)[i]? = some x := zfh (by rw [zax]; exact hi); have hl := z56 ((bl b).take i); have hl2 : 256 ^ ((bl b).take i).length ≤ 256 ^ 6 := Nat.pow_le_pow_right (by decide) (by rw [lnt, zax]; omega); have hc := x.toNat_lt; simp only [zck.r0, zck.b0, dct (show (i : Int) < (b.size : Int) by omega), ctr, zjv, hx, obs]; rw [show (2 : Int) ^ (min (8 : Int).toNat 64) = 256 from rfl, w6e (n := ((beV ((bl b).take i) : Nat) : Int) * 256), w6e (n := (x.toNat : Int)), w6e (n := (i : Int) + 1), or8 _ _ (by omega) (by omega) hc, zel _ _ hx, zwy]; simp only [Int.natCast_add, Int.natCast_mul, Int.natCast_one]; rfl)
  (by simp only [zck.r0, zck.b0, dcf (show ¬ (b.size : Int) < (b.size : Int) by omega), cfa]) (N := N) (by omega)
 simp only [List.take_zero, nc0] at this
 rw [show ((beV [] : Nat) : Int) = 0 from rfl] at this
 rw [this, ← zax, List.take_length]
 rfl
theorem z2w (N : Nat) (hN : 20 < N) (b : ByteArray) (k n : Nat) (hn : n ≤ 6) (hk : k + n ≤ b.size) (hb : b.size < 1000000) : zfj N b (k : Int) (n : Int) = some (beV (((bl b).drop k).take n) : Int) := by
 unfold zfj
 have := za1 (f := zfj.r0 N) (fun i => (b, (k : Int), (n : Int), ((beV (((bl b).drop k).take i) : Nat) : Int), (i : Int))) n
  (fun i hi => by
   have hlen : i < ((bl b).drop k).length := by rw [List.length_drop, zax]; omega
   obtain ⟨x, hy⟩ : ∃ x, ((bl b).drop k)[i]? = some x := zfh hlen; have hx : (bl b)[k + i]? = some x := by rw [← List.getElem?_drop]; exact hy
   have hl := z56 (((bl b).drop k).take i); have hl2 : 256 ^ (((bl b).drop k).take i).length ≤ 256 ^ 6 := Nat.pow_le_pow_right (by decide) (by rw [lnt]; omega); have hc := x.toNat_lt; simp only [zfj.r0, zfj.b0, dct (show (i : Int) < (n : Int) by omega), ctr]; rw [w6e (n := (k : Int) + (i : Int)), ← Int.natCast_add, zjv, hx]; simp only [obs]; rw [w6e (n := ((beV (((bl b).drop k).take i) : Nat) : Int) * 256), w6e (n := (x.toNat : Int)), w6e (n := (i : Int) + 1), w6e, zel _ _ hy, zwy]; simp only [Int.natCast_add, Int.natCast_mul, Int.natCast_one]; rfl)
  (by simp only [zfj.r0, zfj.b0, dcf (show ¬ (n : Int) < (n : Int) by omega), cfa]) (N := N) (by omega)
 simp only [List.take_zero, nc0] at this
 rw [show ((beV [] : Nat) : Int) = 0 from rfl] at this
 rw [this]
 rfl
def zbp (v k : Nat) : List Int := (List.range k).map fun j => ((v / 256 ^ (k - 1 - j) % 256 : Nat) : Int)
theorem z4s (v k : Nat) : (zbp v k).length = k := by simp [zbp]
def zir (f : Nat → Int) (k i : Nat) : List Int := (List.range k).map fun j => if k - i ≤ j then f (k - 1 - j) else 0
theorem zwm (f : Nat → Int) (k i : Nat) : (zir f k i).length = k := by simp [zir]
theorem zuo (f : Nat → Int) (k : Nat) : zir f k 0 = List.replicate k (0 : Int) := by
 unfold zir
 refine List.ext_getElem? fun j => ?_
 rw [List.getElem?_map, List.getElem?_replicate]
 by_cases h : j < k
 · rw [lge (by simpa using h), ifp h]; simp only [List.getElem_range, Option.map_some]; rw [ifn]
 · rw [List.getElem?_eq_none (by simpa using h), ifn h]; rfl
theorem zuu (f : Nat → Int) (k : Nat) : zir f k k = (List.range k).map fun j => f (k - 1 - j) := by
 unfold zir
 refine List.map_congr_left fun j _ => ?_
 rw [ifp]
theorem zus (f : Nat → Int) (k i : Nat) (h : i < k) : (zir f k i).set (k - 1 - i) (f i) = zir f k (i + 1) := by
 refine List.ext_getElem? fun j => ?_
 rw [List.getElem?_set]
 unfold zir
 simp only [lnm, List.length_range, List.getElem?_map]
 by_cases hj : j < k
 · rw [lge (by simpa using hj)]; simp only [List.getElem_range, Option.map_some]
   by_cases he : k - 1 - i = j
   · rw [ifp he, ifp, ifp, show k - 1 - j = i by omega]
   · rw [ifn he]
     congr 1
     by_cases h2 : k - i ≤ j
     · rw [ifp h2, ifp]
     · rw [ifn h2, ifn]
 · rw [List.getElem?_eq_none (by simpa using hj)]
   by_cases he : k - 1 - i = j
   · omega
   · rw [ifn he]; rfl
def z64 (v k i : Nat) : List Int := zir (fun e => ((v / 256 ^ e % 256 : Nat) : Int)) k i
theorem zadb (v k : Nat) : z64 v k 0 = List.replicate k (0 : Int) := zuo _ k
theorem zadd (v k : Nat) : z64 v k k = zbp v k := zuu _ k
theorem zadc (v k i : Nat) (h : i < k) : (z64 v k i).set (k - 1 - i) ((v / 256 ^ i % 256 : Nat) : Int) = z64 v k (i + 1) := zus _ k i h
theorem zaez (m : Nat) : IntKind.wrap .u8 (m : Int) = ((m % 256 : Nat) : Int) := by
 have e : (2 : Int) ^ (IntKind.u8.bits) = 256 := by decide
 unfold IntKind.wrap
 simp only [e, show IntKind.u8.signed = false from rfl, Bool.false_and]
 simp only [Bool.false_eq_true, if_false]
 omega
theorem zagd (N : Nat) (hN : 20 < N) (v k : Nat) (hk : k ≤ 8) : zcj N (v : Int) (k : Int) = some (zbp v k) := by
 unfold zcj
 have := za1 (f := zcj.r0 N) (fun i => ((v : Int), (k : Int), z64 v k i, (k : Int), (i : Int))) k
  (fun i hi => by
   have hl : (z64 v k i).length = k := zwm _ _ _; simp only [zcj.r0, zcj.b0, dct (show (i : Int) < (k : Int) by omega), ctr, hl]; rw [w6e (n := 8 * (i : Int)), w6e (n := (k : Int) - 1), w6e (n := (k : Int) - 1 - (i : Int)), ifn, ifp, ifp]; have e0 : ((k : Int) - 1 - (i : Int)).toNat = k - 1 - i := by omega
   rw [e0, lge (by omega), obs, w6e (n := (i : Int) + 1)]; have e1 : ((v : Int).fdiv (2 ^ (min (8 * (i : Int)).toNat 64))) = ((v / 256 ^ i : Nat) : Int) := by
    rw [show (8 * (i : Int)).toNat = 8 * i by omega, Nat.min_eq_left (by omega), show (2 : Int) ^ (8 * i) = ((256 ^ i : Nat) : Int) by
     rw [show (256 : Nat) = 2 ^ 8 from rfl, ← Nat.pow_mul, Int.natCast_pow]; rfl, z0k]
   rw [e1, zaez, zadc v k i hi]; rfl)
  (by simp only [zcj.r0, zcj.b0, dcf (show ¬ (k : Int) < (k : Int) by omega), cfa]) (N := N) (by omega)
 rw [ifp, ifp]
 have hr : Nat.ble ((k : Int).toNat * 1) zbr = true := by
  rw [Nat.ble_eq]; unfold zbr; omega
 rw [hr, ctr, itn, lnr]
 simp only [zadb, nc0] at this
 rw [this, obs, zadd]
def z40 : Pointer := ⟨0, ⟨0, 0⟩, 0⟩
def zka (off : Int) : Pointer := ⟨0, ⟨1, off⟩, 0⟩
def zve (p : Pointer) : Int := cond (!inB p.Kind 0 2) 4 (cond (!inB p.Address.zU 0 1099511627775 || (!inB p.Address.Offset 0 16777215 || !inB p.Authority 0 1023)) 3 (cond (p.Authority != 0 && p.Kind != 1) 5 0))
theorem z66 (p : Pointer) : zem p = some (zve p) := by
 unfold zem zve
 simp only [zaep, obs, zxw]
 generalize inB p.Kind 0 2 = a
 generalize inB p.Address.zU 0 1099511627775 = b
 generalize inB p.Address.Offset 0 16777215 = c
 generalize inB p.Authority 0 1023 = d
 generalize (p.Authority != 0 && p.Kind != 1) = e
 cases a <;> cases b <;> cases c <;> cases d <;> cases e <;> rfl
theorem zaci (p : Pointer) : zq0 p = some (zve p) := by
 unfold zq0 zve
 rw [Bool.and_comm (p.Authority != 0) (p.Kind != 1)]
 simp only [zjg, obs, zxw, orB]
 generalize inB p.Kind 0 2 = a
 generalize inB p.Address.zU 0 1099511627775 = b
 generalize inB p.Address.Offset 0 16777215 = c
 generalize inB p.Authority 0 1023 = d
 generalize (p.Kind != 1 && p.Authority != 0) = e
 cases a <;> cases b <;> cases c <;> cases d <;> cases e <;> rfl
def zzl (l : List UInt8) : Pointer := ⟨((l.getD 0 0).toNat : Nat), ⟨(beV ((l.drop 4).take 6) : Nat), (beV ((l.drop 10).take 6) : Nat)⟩, (beV ((l.drop 2).take 2) : Nat)⟩
def zoj (l : List UInt8) : Pointer × Int := if (l.getD 1 0).toNat ≠ 0 then (z40, 5) else if zve (zzl l) ≠ 0 then (z40, zve (zzl l)) else (zzl l, 0)
theorem zwd {l : List UInt8} {i : Nat} (h : i < l.length) : l[i]? = some (l.getD i 0) := by
 rw [gdd, lge h]; rfl
theorem z8j (N : Nat) (hN : 20 < N) (b : ByteArray) (hb : b.size = 16) : zgg N b = some (zoj (bl b)) := by
 have hl : (bl b).length = 16 := hb
 have i1 : zhl b 1 = some ((bl b).getD 1 0) := by rw [show (1 : Int) = ((1 : Nat) : Int) from rfl, zjv, zwd (by omega)]
 have i0 : zhl b 0 = some ((bl b).getD 0 0) := by rw [show (0 : Int) = ((0 : Nat) : Int) from rfl, zjv, zwd (by omega)]
 have z1 : (b.extract (2 : Int).toNat (4 : Int).toNat).size = 2 := zdf b 2 4 (by omega) (by omega)
 have z2 : (b.extract (4 : Int).toNat (10 : Int).toNat).size = 6 := zdf b 4 10 (by omega) (by omega)
 have z3 : (b.extract (10 : Int).toNat b.size).size = 6 := (zdf b 10 b.size (by omega) (by omega)).trans (by omega)
 have e1 := z8l N hN (b.extract (2 : Int).toNat (4 : Int).toNat) (by omega)
 have e2 := z8l N hN (b.extract (4 : Int).toNat (10 : Int).toNat) (by omega)
 have e3 := z8l N hN (b.extract (10 : Int).toNat b.size) (by omega)
 rw [zfi, show (2 : Int).toNat = 2 from rfl, show (4 : Int).toNat = 4 from rfl, List.drop_take] at e1
 rw [zfi, show (4 : Int).toNat = 4 from rfl, show (10 : Int).toNat = 10 from rfl, List.drop_take] at e2
 rw [zfi, show (10 : Int).toNat = 10 from rfl, List.drop_take, hb] at e3
 unfold zgg
 rw [show ((b.size : Int) != 16) = false by rw [hb]; rfl]
 simp only [cfa, i1, i0, obs]
 by_cases h : ((bl b).getD 1 0).toNat = 0
 · rw [h, show ((((0 : Nat) : Int)) != 0) = false from rfl, cfa]; rw [ifp, ifp, show (2 : Int).toNat = 2 from rfl, show (4 : Int).toNat = 4 from rfl, e1]; simp only [obs]; rw [ifp, ifp, show (10 : Int).toNat = 10 from rfl, e2]; simp only [obs]; rw [ifp, hb, e3]; simp only [obs]; have hx := ((bl b).getD 0 0).toNat_lt; rw [w6e]; rw [show (⟨(((bl b).getD 0 0).toNat : Int), ⟨(beV (((bl b).drop 4).take (10 - 4)) : Int), (beV (((bl b).drop 10).take (16 - 10)) : Int)⟩, (beV (((bl b).drop 2).take (4 - 2)) : Int)⟩ : Pointer) = zzl (bl b) from rfl, z66]; simp only [obs]; unfold zoj; rw [ifn]
   by_cases h2 : zve (zzl (bl b)) = 0
   · rw [h2]; rfl
   · rw [ifp h2, zd1, dct h2]; rfl
 · unfold zoj; rw [ifp h, zd1, dct (by omega)]; rfl
theorem zacd (N : Nat) (hN : 20 < N) (b : ByteArray) (hb : b.size = 16) : zyr N b = some (zoj (bl b)) := by
 have hl : (bl b).length = 16 := hb
 have i1 : zhl b 1 = some ((bl b).getD 1 0) := by rw [show (1 : Int) = ((1 : Nat) : Int) from rfl, zjv, zwd (by omega)]
 have i0 : zhl b 0 = some ((bl b).getD 0 0) := by rw [show (0 : Int) = ((0 : Nat) : Int) from rfl, zjv, zwd (by omega)]
 have e1 : zfj N b 2 2 = _ := z2w N hN b 2 2 (by omega) (by omega) (by omega)
 have e2 : zfj N b 4 6 = _ := z2w N hN b 4 6 (by omega) (by omega) (by omega)
 have e3 : zfj N b 10 6 = _ := z2w N hN b 10 6 (by omega) (by omega) (by omega)
 unfold zyr
 rw [show ((b.size : Int) != 16) = false by rw [hb]; rfl]
 simp only [cfa, i1, i0, obs]
 by_cases h : ((bl b).getD 1 0).toNat = 0
 · rw [h, show ((((0 : Nat) : Int)) != 0) = false from rfl, cfa]; rw [e1, e2, e3]; simp only [obs]; have hx := ((bl b).getD 0 0).toNat_lt; rw [w6e]; rw [show (⟨(((bl b).getD 0 0).toNat : Int), ⟨(beV (((bl b).drop 4).take 6) : Int), (beV (((bl b).drop 10).take 6) : Int)⟩, (beV (((bl b).drop 2).take 2) : Int)⟩ : Pointer) = zzl (bl b) from rfl, zaci]; simp only [obs]; unfold zoj; rw [ifn]
   by_cases h2 : zve (zzl (bl b)) = 0
   · rw [h2]; rfl
   · rw [ifp h2, zd1, dct h2]; rfl
 · unfold zoj; rw [ifp h, zd1, dct (by omega)]; rfl
def zmg (s : Storage) (i : Nat) : List UInt8 := ((bl s.Bytes).drop (16 * i)).take 16
def gS (s : Storage) (i : Nat) : Option (Int × Int) := (s.Tags[i]?).bind fun t => if t = true ∧ (zoj (zmg s i)).2 ≠ 0 then some ((i : Int), 22) else none
def zvc (s : Storage) : Int × Int :=
 if s.Bytes.size > 1024 then (0, 2) else if s.Bytes.size % 16 ≠ 0 then (0, 18) else if s.Tags.length ≠ s.Bytes.size / 16 then (0, 6)
 else match (List.range s.Tags.length).findSome? (gS s) with | some r => r | none => ((s.Tags.length : Int), 0)
theorem zph (s : Storage) (i : Nat) : bl (s.Bytes.extract (16 * i) (16 * i + 16)) = zmg s i := by
 rw [zfi, List.drop_take, zmg, show 16 * i + 16 - 16 * i = 16 by omega]
theorem zs2 (N : Nat) (hN : 2000 < N) (s : Storage) : zaa N s = some (zvc s) ∧ zhq N s = some (zvc s) := by
 unfold zaa zhq zvc
 by_cases h1 : (s.Bytes.size : Int) > 1024
 · rw [dct h1, ifp]; exact ⟨rfl, rfl⟩
 · rw [dcf h1, ifn]; have hm : (s.Bytes.size : Int).tmod 16 = (s.Bytes.size : Int) % 16 := tme; have hd : (s.Bytes.size : Int).tdiv 16 = (s.Bytes.size : Int) / 16 := tde
   by_cases h2 : (s.Bytes.size : Int) % 16 = 0
   · rw [hm, hd, w6e, ifn]
     by_cases h3 : (s.Tags.length : Int) = (s.Bytes.size : Int) / 16
     · rw [show (((s.Bytes.size : Int) % 16) != 0) = false by rw [h2]; rfl, show ((s.Tags.length : Int) != (s.Bytes.size : Int) / 16) = false by rw [← h3]; exact bsf _, ifn]; simp only [cfa]; have hw : ∀ i : Nat, i < s.Tags.length → w6 ((i : Int) * 16) = (i : Int) * 16 ∧ w6 ((i : Int) * 16 + 16) = (i : Int) * 16 + 16 := fun i hi => ⟨w6e, w6e⟩; have hx : ∀ i : Nat, i < s.Tags.length → s.Bytes.extract ((i : Int) * 16).toNat ((i : Int) * 16 + 16).toNat = s.Bytes.extract (16 * i) (16 * i + 16) := fun i hi => by
        rw [show ((i : Int) * 16).toNat = 16 * i by omega, show ((i : Int) * 16 + 16).toNat = 16 * i + 16 by omega]
       have hz : ∀ i : Nat, i < s.Tags.length → (s.Bytes.extract (16 * i) (16 * i + 16)).size = 16 := fun i hi => by
        rw [zdf _ _ _ (by omega) (by omega)]; omega
       constructor
       · have l1 := zbh (f := zaa.r1 N) (fun i => (s.Tags, (s.Tags.length : Int), (i : Int), s)) (gS s) s.Tags.length
          (fun i hi => by
           obtain ⟨w1, w2⟩ := hw i hi; have hx1 := lge hi; simp only [zaa.r1, zaa.b1, zai, hx1, obs, dct (show (i : Int) < (s.Tags.length : Int) by omega), ctr, gS]; rw [w6e (n := (i : Int) + 1)]; cases hb : s.Tags[i] with
           | false => simp
           | true =>
            simp only [bnt, cfa, w1, w2]; rw [ifp, ifp, hx i hi, z8j N (by omega) _ (hz i hi), zph]; simp only [obs]
            by_cases hq : (zoj (zmg s i)).2 = 0
            · rw [hq]; simp
            · rw [zd1, dct hq, ifp ⟨trivial, hq⟩]; rfl)
          (by simp only [zaa.r1, zaa.b1, dcf (show ¬ (s.Tags.length : Int) < (s.Tags.length : Int) by omega), cfa]) (N := N) (by omega)
         simp only [nc0] at l1; rw [l1]; simp only [obs]; cases (List.range s.Tags.length).findSome? (gS s) <;> rfl
       · have l1 := zbh (f := zhq.r0 N) (fun i => ((s.Bytes.size : Int) / 16, (i : Int), s)) (gS s) s.Tags.length
          (fun i hi => by
           obtain ⟨w1, w2⟩ := hw i hi; have hx1 := lge hi; simp only [zhq.r0, zhq.b0, zai, hx1, obs, dct (show (i : Int) < (s.Bytes.size : Int) / 16 by omega), ctr, gS]; rw [w6e (n := (i : Int) + 1)]; cases hb : s.Tags[i] with
           | false => simp
           | true =>
            simp only [ctr, zvn, w1, w2]; rw [ifp, ifp]; simp only [obs]; rw [hx i hi, zacd N (by omega) _ (hz i hi), zph]; simp only [obs]
            by_cases hq : (zoj (zmg s i)).2 = 0
            · rw [hq]; simp
            · rw [zd1, dct hq, ifp ⟨trivial, hq⟩]; rfl)
          (by simp only [zhq.r0, zhq.b0, dcf (show ¬ (s.Tags.length : Int) < (s.Bytes.size : Int) / 16 by omega), cfa]) (N := N) (by omega)
         simp only [nc0] at l1; rw [l1]; simp only [obs]; cases (List.range s.Tags.length).findSome? (gS s) with
         | some r => rfl
         | none => simp only [zb5, ← h3]
     · rw [show (((s.Bytes.size : Int) % 16) != 0) = false by rw [h2]; rfl, show ((s.Tags.length : Int) != (s.Bytes.size : Int) / 16) = true by rw [zd1]; exact dct h3, ifp]; exact ⟨rfl, rfl⟩
   · rw [hm, show (((s.Bytes.size : Int) % 16) != 0) = true by rw [zd1]; exact dct h2, ifp]; exact ⟨rfl, rfl⟩
structure zo9 (s : Storage) : Prop where
 le : s.Bytes.size ≤ 1024
 quad : s.Bytes.size % 16 = 0
 tags : s.Tags.length = s.Bytes.size / 16
 ptr : ∀ i, s.Tags[i]? = some true → ∃ off : Int, (0 ≤ off ∧ off ≤ 16777215) ∧ zoj (zmg s i) = (zka off, 0)
theorem zo9.err {s : Storage} (h : zo9 s) : zvc s = ((s.Tags.length : Int), 0) := by
 obtain ⟨h1, h2, h3, h4⟩ := h
 unfold zvc
 rw [ifn, ifn, ifn]
 have : (List.range s.Tags.length).findSome? (gS s) = none := by
  rw [List.findSome?_eq_none_iff]; intro i _; unfold gS; cases ht : s.Tags[i]? with
  | none => rfl
  | some t =>
   rw [obs]; split
   · rename_i h5; rw [h5.1] at ht; obtain ⟨off, _, h6⟩ := h4 i ht; rw [h6] at h5; exact absurd rfl h5.2
   · rfl
 rw [this]
theorem zo9.ok {s : Storage} (h : zo9 s) : StoOk s := ⟨h.le, h.quad⟩
def ldV (s : Storage) (at_ : Int) : Option Int := if s.Tags[(at_ / 16).toNat]? = some true then some (zoj (zmg s (at_ / 16).toNat)).1.Address.Offset else none
theorem z2m {s : Storage} (h : zo9 s) {at_ o : Int} (hl : ldV s at_ = some o) : 0 ≤ o ∧ o ≤ 16777215 := by
 unfold ldV at hl
 split at hl
 · rename_i ht; obtain ⟨off, h1, h2⟩ := h.ptr _ ht; rw [h2] at hl; cases hl; exact h1
 · cases hl
theorem zt4 {s : Storage} {a : Int} (h : zt5 s a = true) : 0 ≤ a ∧ a % 16 = 0 ∧ a < (s.Bytes.size : Int) := by
 unfold zt5 at h
 simpa using h
theorem zae4 (N : Nat) (hN : 2000 < N) {s : Storage} (h : zo9 s) {a : Int} (ha : zt5 s a = true) :
 zdj N s a = some (match ldV s a with | some o => (zka o, 0) | none => (z40, 22)) := by
 obtain ⟨a1, a2, a3⟩ := zt4 ha
 have hl := h.le
 have hq := h.quad
 have ht := h.tags
 unfold zdj zis
 rw [(zs2 N hN s).1, h.err]
 simp only [obs, bsf, cfa]
 rw [dcf (show ¬ a < 0 by omega), dcf (show ¬ a ≥ (s.Bytes.size : Int) by omega), tme a1, a2]
 simp only [bsf, cfa, obs]
 have ed : w6 (a.tdiv 16) = (((a / 16).toNat : Nat) : Int) := by
  rw [tde a1, w6e]; omega
 have hi : (a / 16).toNat < s.Tags.length := by omega
 rw [ed, zai, lge hi]
 simp only [obs]
 unfold ldV
 rw [lge hi]
 cases hb : s.Tags[(a / 16).toNat] with
 | false => rfl
 | true =>
  simp only [bnt, cfa, if_true]; rw [w6e, ifp, ifp]; have e : s.Bytes.extract a.toNat (a + 16).toNat = s.Bytes.extract (16 * (a / 16).toNat) (16 * (a / 16).toNat + 16) := by
   rw [show a.toNat = 16 * (a / 16).toNat by omega, show (a + 16).toNat = 16 * (a / 16).toNat + 16 by omega]
  rw [e, z8j N (by omega) _ (by rw [zdf _ _ _ (by omega) (by omega)]; omega), zph]; obtain ⟨off, _, h2⟩ := h.ptr (a / 16).toNat (by rw [lge hi, hb]); rw [h2]; rfl
theorem zao {n : Nat} (h : n ≤ 1000000) : Nat.ble n zbr = true := by
 rw [Nat.ble_eq]; unfold zbr; omega
def spl (l : List UInt8) (a : Nat) (d : List UInt8) : List UInt8 := l.take a ++ d ++ l.drop (a + d.length)
theorem zae7 {l : List UInt8} {a : Nat} {d : List UInt8} (h : a + d.length ≤ l.length) : (spl l a d).length = l.length := by
 unfold spl
 simp only [lna, lnt, List.length_drop]
 omega
def clr (t : List Bool) (a n : Nat) : List Bool := (List.range t.length).map fun k => if 16 * k < a + n ∧ a < 16 * k + 16 then false else t.getD k false
theorem z3p (t : List Bool) (a n : Nat) : (clr t a n).length = t.length := by simp [clr]
theorem zyg (t : List Bool) (a n k : Nat) : (clr t a n)[k]? = if 16 * k < a + n ∧ a < 16 * k + 16 then (if k < t.length then some false else none) else t[k]? := by
 unfold clr
 rw [List.getElem?_map]
 by_cases h : k < t.length
 · rw [lge (by simpa using h)]; simp only [List.getElem_range, Option.map_some]; split
   · simp [h]
   · rw [lge h, gdd, lge h]; rfl
 · rw [List.getElem?_eq_none (by simpa using h), List.getElem?_eq_none (by simpa using h)]; simp [h]
def wrV (s : Storage) (a : Nat) (d : ByteArray) : Storage := ⟨⟨(spl (bl s.Bytes) a (bl d)).toArray⟩, clr s.Tags a d.size⟩
theorem zyo {s : Storage} {a : Nat} {d : ByteArray} (h : a + d.size ≤ s.Bytes.size) : (wrV s a d).Bytes.size = s.Bytes.size := zae7 (l := bl s.Bytes) (d := bl d) h
theorem zaef {l : List UInt8} {a : Nat} {d : List UInt8} (h : a + d.length ≤ l.length) (i n : Nat) (hi : i + n ≤ a ∨ a + d.length ≤ i) : ((spl l a d).drop i).take n = (l.drop i).take n := by
 refine List.ext_getElem? fun k => ?_
 rw [List.getElem?_take, List.getElem?_take]
 by_cases hk : k < n
 · rw [ifp hk, ifp hk, List.getElem?_drop, List.getElem?_drop]; unfold spl; rcases hi with hi | hi
   · rw [List.append_assoc, List.getElem?_append_left (by rw [lnt]; omega), List.getElem?_take, ifp]
   · rw [List.getElem?_append_right (by rw [lna, lnt]; omega), lna, lnt, List.getElem?_drop]
     congr 1
     omega
 · rw [ifn hk, ifn hk]
theorem zagh {l : List UInt8} {a : Nat} {d : List UInt8} (h : a + d.length ≤ l.length) : ((spl l a d).drop a).take d.length = d := by
 unfold spl
 rw [List.append_assoc, List.drop_append_of_le_length (by rw [lnt]; omega), List.drop_of_length_le (by rw [lnt]; omega), List.nil_append, List.take_append_of_le_length (Nat.le_refl _), List.take_length]
theorem z8g {s : Storage} (h : zo9 s) {a : Nat} {d : ByteArray} (hd : a + d.size ≤ s.Bytes.size) (hd0 : 0 < d.size) : zo9 (wrV s a d) := by
 have hs := zyo hd
 refine ⟨by rw [hs]; exact h.le, by rw [hs]; exact h.quad, by rw [hs]; exact (z3p _ _ _).trans h.tags, fun i hi => ?_⟩
 have hi' : (clr s.Tags a d.size)[i]? = some true := hi
 rw [zyg] at hi'
 split at hi'
 · split at hi' <;> cases hi'
 · rename_i hn; obtain ⟨off, h1, h2⟩ := h.ptr i hi'; refine ⟨off, h1, ?_⟩; have : zmg (wrV s a d) i = zmg s i := zaef (l := bl s.Bytes) (d := bl d) hd _ _ (by rw [zax]; omega); rw [this]; exact h2
theorem zn0 (b : ByteArray) : b.toList = bl b := ByteArray.toList_eq b
theorem zab6 {s : Storage} (h : zo9 s) {a : Nat} {d : ByteArray} (hd : a + d.size ≤ s.Bytes.size) (hd0 : 0 < d.size) : zl1 s (a : Int) d = some (wrV s a d) := by
 have hl := h.le
 have hq := h.quad
 have ht := h.tags
 have hmax : IntKind.i64.max = 9223372036854775807 := by decide
 unfold zl1
 rw [hmax]
 have z1 : (s.Bytes.extract (0 : Int).toNat (a : Int).toNat).size = a := by rw [zdf _ _ _ (by omega) (by omega)]; omega
 rw [ifp, ifp, ifn (by rw [z1]; omega), w6e (n := (a : Int) + (d.size : Int)), ifp]
 have z2 : (s.Bytes.extract ((a : Int) + (d.size : Int)).toNat s.Bytes.size).size = s.Bytes.size - (a + d.size) := by rw [zdf _ _ _ (by omega) (by omega)]; omega
 rw [ifn (by rw [z2, bsa, z1]; omega)]
 have hc : zki 1 s.Tags = some s.Tags := by unfold zki; rw [zao (by omega)]; rfl
 rw [hc]
 simp only [obs]
 have hne : (d.toList == (⟨#[]⟩ : ByteArray).toList) = false := by
  rw [zn0, zn0]; refine beq_eq_false_iff_ne.2 fun h => ?_; have := congrArg List.length h; rw [zax, zax] at this; have : d.size = 0 := this; omega
 rw [hne]
 simp only [Bool.not_false, ctr]
 have e1 : w6 ((w6 ((w6 ((a : Int) + (d.size : Int) - 1)).tdiv 16)) + 1) = (((a + d.size - 1) / 16 + 1 : Nat) : Int) := by
  rw [w6e (n := (a : Int) + (d.size : Int) - 1), tde, w6e (n := ((a : Int) + (d.size : Int) - 1) / 16), w6e]; omega
 have e2 : w6 ((a : Int).tdiv 16) = ((a / 16 : Nat) : Int) := by
  rw [tde, w6e]; omega
 rw [e1, e2, ifp, ifp]
 simp only [itn]
 have f1 : ((s.Bytes.extract (0 : Int).toNat a) ++ d) ++ (s.Bytes.extract ((a : Int) + (d.size : Int)).toNat s.Bytes.size) = (wrV s a d).Bytes := by
  refine zi0 ?_; rw [zdl, zdl, zfi, zfi, show (0 : Int).toNat = 0 from rfl, dr0, show ((a : Int) + (d.size : Int)).toNat = a + d.size by omega, ← zax s.Bytes, List.take_length]; rfl
 have f2 : s.Tags.take (a / 16) ++ List.replicate ((a + d.size - 1) / 16 + 1 - a / 16) false ++ s.Tags.drop (a / 16 + ((a + d.size - 1) / 16 + 1 - a / 16)) = (wrV s a d).Tags := by
  refine List.ext_getElem? fun k => ?_; show _ = (clr s.Tags a d.size)[k]?; rw [zyg]
  by_cases h1 : k < a / 16
  · rw [List.append_assoc, List.getElem?_append_left (by rw [lnt]; omega), List.getElem?_take, ifp h1, ifn]
  · by_cases h2 : k < (a + d.size - 1) / 16 + 1
    · rw [List.append_assoc, List.getElem?_append_right (by rw [lnt]; omega), List.getElem?_append_left (by rw [lnt, lnr]; omega), List.getElem?_replicate, ifp (by rw [lnt]; omega), ifp, ifp]
    · rw [List.getElem?_append_right (by rw [lna, lnt, lnr]; omega), lna, lnt, lnr, List.getElem?_drop, ifn]
      congr 1
      omega
 rw [f1, f2]
theorem z8i (N : Nat) (hN : 2000 < N) {s : Storage} (h : zo9 s) {a : Nat} {d : ByteArray} (hd : a + d.size ≤ s.Bytes.size) (hd0 : 0 < d.size) : zf3 N s (a : Int) d = some (wrV s a d, 0) := by
 have hl := h.le
 unfold zf3 zoo
 rw [(zs2 N hN s).1, h.err]
 simp only [obs, bsf, cfa]
 rw [dcf (show ¬ (a : Int) < 0 by omega), dcf (show ¬ (d.size : Int) < 0 by omega), dcf (show ¬ (a : Int) > (s.Bytes.size : Int) by omega), w6e, dcf (show ¬ (d.size : Int) > (s.Bytes.size : Int) - (a : Int) by omega)]
 simp only [cfa, obs, bsf]
 rw [zab6 h hd hd0]
 rfl
def pbV (off : Nat) : ByteArray := zd3 (zbp 0 1 ++ zbp 0 1 ++ zbp 0 2 ++ zbp 1 6 ++ zbp off 6)
theorem zhz (l : List Int) : bl (zd3 l) = l.map fun n => UInt8.ofNat n.toNat := rfl
theorem zok (off : Nat) : (pbV off).size = 16 := by
 show (bl (pbV off)).length = 16
 unfold pbV
 rw [zhz]
 simp only [lnm, lna, z4s]
theorem z94 (v k : Nat) : beV ((zbp v k).map fun n => UInt8.ofNat n.toNat) = v % 256 ^ k := by
 induction k generalizing v with
 | zero => rw [Nat.pow_zero, Nat.mod_one]; rfl
 | succ k ih =>
  have e : zbp v (k + 1) = zbp (v / 256) k ++ [((v % 256 : Nat) : Int)] := by
   unfold zbp; rw [List.range_succ, List.map_append]
   congr 1
   · refine List.map_congr_left fun j hj => ?_; have := List.mem_range.1 hj; rw [Nat.div_div_eq_div_mul, ← Nat.pow_succ', show k + 1 - 1 - j = k - 1 - j + 1 by omega]
   · simp
  rw [e, List.map_append, List.map_singleton, zwy, ih, itn, UInt8.toNat_ofNat', show 256 ^ (k + 1) = 256 * 256 ^ k from Nat.pow_succ', Nat.mod_mul]; omega
theorem zaff (off : Nat) (h : off ≤ 16777215) : zoj (bl (pbV off)) = (zka off, 0) := by
 have e : bl (pbV off) = (zbp 0 1).map (fun n => UInt8.ofNat n.toNat) ++ ((zbp 0 1).map (fun n => UInt8.ofNat n.toNat) ++ ((zbp 0 2).map (fun n => UInt8.ofNat n.toNat) ++ ((zbp 1 6).map (fun n => UInt8.ofNat n.toNat) ++ (zbp off 6).map (fun n => UInt8.ofNat n.toNat)))) := by
  unfold pbV; rw [zhz]; simp only [List.map_append, List.append_assoc]
 have l6 : ∀ v, ((zbp v 6).map (fun n => UInt8.ofNat n.toNat)).length = 6 := fun v => by simp [z4s]
 have e2 : bl (pbV off) = 0 :: 0 :: 0 :: 0 :: ((zbp 1 6).map (fun n => UInt8.ofNat n.toNat) ++ (zbp off 6).map (fun n => UInt8.ofNat n.toNat)) := e
 have hp : zzl (bl (pbV off)) = zka off := by
  unfold zzl zka; rw [e2]; simp only [List.drop_succ_cons, dr0, List.take_succ_cons, List.take_zero, List.getD_cons_zero]; rw [List.take_append_of_le_length (by rw [l6]; omega), List.take_of_length_le (by rw [l6]; omega), z94, List.drop_append_of_le_length (by rw [l6]; omega), List.drop_of_length_le (by rw [l6]; omega), List.nil_append, List.take_of_length_le (by rw [l6]; omega), z94, mel (show off < 256 ^ 6 by omega)]; rfl
 have h1 : ((bl (pbV off)).getD 1 0).toNat = 0 := by rw [e2]; rfl
 have hc : zve (zka off) = 0 := by
  unfold zve zka; rw [show inB (off : Int) 0 16777215 = true from zbf.2 ⟨by omega, by omega⟩]; rfl
 unfold zoj
 rw [ifn (by rw [h1]; exact fun h => h rfl), hp, hc]
 rfl
def stV (s : Storage) (a : Nat) (off : Nat) : Storage := ⟨(wrV s a (pbV off)).Bytes, (wrV s a (pbV off)).Tags.set (a / 16) true⟩
theorem zadk {s : Storage} {a off : Nat} (h : a + 16 ≤ s.Bytes.size) : (stV s a off).Bytes.size = s.Bytes.size := zyo (d := pbV off) (by rw [zok]; exact h)
theorem zagg {s : Storage} (h : zo9 s) {a off : Nat} (ha : a + 16 ≤ s.Bytes.size) (hq : a % 16 = 0) (ho : off ≤ 16777215) : zo9 (stV s a off) := by
 have hw := z8g h (a := a) (d := pbV off) (by rw [zok]; exact ha) (by rw [zok]; omega)
 refine ⟨hw.le, hw.quad, ?_, fun i hi => ?_⟩
 · show ((wrV s a (pbV off)).Tags.set (a / 16) true).length = _; rw [List.length_set]; exact hw.tags
 · have hi' : ((wrV s a (pbV off)).Tags.set (a / 16) true)[i]? = some true := hi; rw [List.getElem?_set] at hi'; split at hi'
   · rename_i he; refine ⟨off, ⟨by omega, by omega⟩, ?_⟩; have : zmg (stV s a off) i = bl (pbV off) := by
      have := zagh (l := bl s.Bytes) (a := a) (d := bl (pbV off)) (by rw [zax, zax, zok]; exact ha); rw [zax, zok] at this; unfold zmg; rw [← he, show 16 * (a / 16) = a by omega]; exact this
     rw [this]; exact zaff off ho
   · obtain ⟨o, h1, h2⟩ := hw.ptr i hi'; exact ⟨o, h1, h2⟩
theorem zabb (N : Nat) (hN : 100 < N) (off : Nat) (h : off ≤ 16777215) : zku N (zka off) = some (pbV off) := by
 unfold zku zka
 have b := fun v k hk => zagd N (by omega) v k hk
 rw [show zcj N 0 1 = _ from b 0 1 (by decide), show zcj N 0 2 = _ from b 0 2 (by decide), show zcj N 1 6 = _ from b 1 6 (by decide), show zcj N (off : Int) 6 = _ from b off 6 (by decide)]
 simp only [obs]
 unfold zbg
 obtain ⟨n, rfl⟩ : ∃ n, N = n + 10 := ⟨N - 10, by omega⟩
 have c1 : zl (zbg.r0 (n + 10)) (n + 10) ([zbp 0 1, zbp 0 1, zbp 0 2, zbp 1 6, zbp off 6], 0, [zbp 0 1, zbp 0 1, zbp 0 2, zbp 1 6, zbp off 6], (([zbp 0 1, zbp 0 1, zbp 0 2, zbp 1 6, zbp off 6] : List (List Int)).length : Int), 0) = some ([zbp 0 1, zbp 0 1, zbp 0 2, zbp 1 6, zbp off 6], 16, [zbp 0 1, zbp 0 1, zbp 0 2, zbp 1 6, zbp off 6], 5, 5) := by rfl
 rw [c1]
 simp only [obs]
 have c2 : zla () 16 = some [] := by rfl
 rw [c2]
 simp only [obs]
 have c3 : zl (zbg.r2 (n + 10)) (n + 10) ([], [zbp 0 1, zbp 0 1, zbp 0 2, zbp 1 6, zbp off 6], (([zbp 0 1, zbp 0 1, zbp 0 2, zbp 1 6, zbp off 6] : List (List Int)).length : Int), 0) = some ((((([] ++ zbp 0 1) ++ zbp 0 1) ++ zbp 0 2) ++ zbp 1 6) ++ zbp off 6, [zbp 0 1, zbp 0 1, zbp 0 2, zbp 1 6, zbp off 6], 5, 5) := by rfl
 rw [c3]
 rfl
theorem zafp (off : Nat) (h : off ≤ 16777215) : zve (zka off) = 0 := by
 unfold zve zka
 rw [show inB (off : Int) 0 16777215 = true from zbf.2 ⟨by omega, by omega⟩]
 rfl
theorem zadh (N : Nat) (hN : 2000 < N) {s : Storage} (h : zo9 s) {a : Int} (ha : zt5 s a = true) (off : Nat) (ho : off ≤ 16777215) : zcz N s a (zka off) = some (stV s a.toNat off, 0) := by
 obtain ⟨a1, a2, a3⟩ := zt4 ha
 have hl := h.le
 have hq := h.quad
 have ht := h.tags
 have hA : a = ((a.toNat : Nat) : Int) := by omega
 have hw : a.toNat + (pbV off).size ≤ s.Bytes.size := by rw [zok]; omega
 unfold zcz zis
 rw [(zs2 N hN s).1, h.err]
 simp only [obs, bsf, cfa]
 rw [dcf (show ¬ a < 0 by omega), dcf (show ¬ a ≥ (s.Bytes.size : Int) by omega), tme a1, a2]
 simp only [bsf, cfa, obs]
 rw [z66, zafp off ho]
 simp only [obs, bsf, cfa]
 rw [zabb N (by omega) off ho]
 simp only [obs, eS]
 have hp := zab6 h hw (by rw [zok]; omega)
 rw [← hA] at hp
 rw [hp]
 simp only [obs]
 have ed : w6 (a.tdiv 16) = ((a.toNat / 16 : Nat) : Int) := by
  rw [tde a1, w6e]; omega
 have hlen : (wrV s a.toNat (pbV off)).Tags.length = s.Tags.length := z3p _ _ _
 rw [ed, ifp, ifp (by rw [hlen]; omega), itn, lge (by rw [hlen]; omega)]
 rfl
def zgd (l : List Int) : Int := l.foldl (fun n d => n * 10 + d) 0
theorem zsm (l : List Int) (x : Int) : zgd (l ++ [x]) = zgd l * 10 + x := by
 unfold zgd; rw [List.foldl_append]; rfl
theorem zqg : ∀ (l r : List Int), l = r.reverse → (∀ d ∈ l, 0 ≤ d ∧ d ≤ 15) → 0 ≤ zgd l ∧ zgd l ≤ 2 * (10 ^ l.length : Nat) - 2 := by
 intro l r
 induction r generalizing l with
 | nil => intro h _; subst h; decide
 | cons x r ih =>
  intro h hd; rw [List.reverse_cons] at h; subst h; have h1 := ih _ rfl fun d hd' => hd d (List.mem_append_left _ hd'); have h2 := hd x (List.mem_append_right _ List.mem_cons_self); rw [zsm, lna, lns, Nat.pow_succ]; omega
def zkd (l : List UInt8) : List Int := l.flatMap fun b => [((b.toNat / 16 : Nat) : Int), ((b.toNat % 16 : Nat) : Int)]
def zgl (l : List UInt8) : List Int := l.map fun b => ((b.toNat % 16 : Nat) : Int)
def zeh (l : List UInt8) : List Int := zgl l ++ [(((l.getD (l.length - 1) 0).toNat / 16 : Nat) : Int)]
def zks (l : List Int) (len : Int) (i : Nat) : Bool := decide (l.getD i 0 > 9) || (decide (l.getD i 0 > 0) && decide ((i : Int) < (l.length : Int) - 1 - len))
def zna (l : List Int) : Int := l.getD (l.length - 1) 0
def z2o (l : List Int) (len : Int) : Option Int :=
 if (List.range (l.length - 1)).any (zks l len) = true ∨ zna l < 10 then none
 else some (if zna l = 11 ∨ zna l = 13 then -zgd (l.take (l.length - 1)) else zgd (l.take (l.length - 1)))
def zo6 (l : List UInt8) : Int := if 128 ≤ (l.getD 0 0).toNat then (beV l : Int) - (256 ^ l.length : Nat) else (beV l : Int)
def zpm (t : DataType) (b : ByteArray) : Option Int :=
 if t.Kind = 3 then (if -((10 ^ t.Length.toNat : Nat) : Int) < zo6 (bl b) ∧ zo6 (bl b) < ((10 ^ t.Length.toNat : Nat) : Int) then some (zo6 (bl b)) else none)
 else z2o (if t.Kind = 1 then zkd (bl b) else zeh (bl b)) t.Length
theorem ztj (l : List UInt8) : (zkd l).length = 2 * l.length := by
 unfold zkd
 induction l with
 | nil => rfl
 | cons x l ih => simp only [List.flatMap_cons, lna, lnc, ln0, ih]; omega
theorem zu3 {l : List UInt8} : (∀ d ∈ zkd l, 0 ≤ d ∧ d ≤ 15) ∧ (∀ d ∈ zeh l, 0 ≤ d ∧ d ≤ 15) := by
 constructor
 · intro d hd; obtain ⟨b, _, hb⟩ := List.mem_flatMap.1 hd; have := b.toNat_lt; rcases List.mem_cons.1 hb with rfl | hb
   · omega
   · rcases List.mem_cons.1 hb with rfl | hb
     · omega
     · cases hb
 · intro d hd; rcases List.mem_append.1 hd with hd | hd
   · obtain ⟨b, _, rfl⟩ := List.mem_map.1 hd; omega
   · rcases List.mem_cons.1 hd with rfl | hd
     · have := (l.getD (l.length - 1) 0).toNat_lt; omega
     · cases hd
theorem zaex (x : UInt8) : zf7 .u8 (x.toNat : Int) 15 = ((x.toNat % 16 : Nat) : Int) := by
 have hx := x.toNat_lt
 unfold zf7
 have e : (BitVec.ofInt IntKind.u8.bits (x.toNat : Int) &&& BitVec.ofInt IntKind.u8.bits 15).toNat = x.toNat % 16 := by
  show (BitVec.ofInt 8 (x.toNat : Int) &&& BitVec.ofInt 8 ((15 : Nat) : Int)).toNat = _; rw [BitVec.toNat_and, BitVec.ofInt_natCast, BitVec.ofInt_natCast, BitVec.toNat_ofNat, BitVec.toNat_ofNat, mel (by omega), mel (by omega)]; exact Nat.and_two_pow_sub_one_eq_mod _ 4
 rw [e]
 exact zom (by omega) (by omega)
theorem zac0 (x : UInt8) : ((x.toNat : Int).fdiv (2 ^ (min (4 : Int).toNat 8))) = ((x.toNat / 16 : Nat) : Int) := z0k x.toNat 16
def z16 (n : Nat) : List Int := (List.range n).flatMap fun (i : Nat) => [(i : Int), (i : Int)]
def zze (n : Nat) : List Int := (List.range n).map fun (i : Nat) => (i : Int)
theorem z81 (n : Nat) : (z16 n).length = 2 * n := by
 unfold z16
 induction n with
 | zero => rfl
 | succ n ih => rw [List.range_succ, List.flatMap_append, lna, ih]; simp; omega
theorem zacr (N : Nat) (hN : 2000 < N) (t : DataType) (hk : t.Kind = 1 ∨ t.Kind = 2) (b : ByteArray) (hb : 0 < b.size) (hb2 : b.size ≤ 1000) :
 ∃ pl, zbl N t b = some (if t.Kind = 1 then zkd (bl b) else zeh (bl b), pl) ∧ pl.length = (if t.Kind = 1 then zkd (bl b) else zeh (bl b)).length := by
 unfold zbl
 rcases hk with hk | hk
 · have := za1 (f := zbl.r0 N) (fun i => (b, zkd ((bl b).take i), z16 i, (b.size : Int), (i : Int), t)) b.size
    (fun i hi => by
     obtain ⟨x, hx⟩ : ∃ x, (bl b)[i]? = some x := zfh (by rw [zax]; exact hi); simp only [zbl.r0, zbl.b0, dct (show (i : Int) < (b.size : Int) by omega), ctr, zjv, hx, obs, hk, bst, zac0, zaex]; have hl := ztj ((bl b).take i); rw [lnt, zax] at hl; rw [zao (by rw [hl]; simp only [lnc, ln0]; omega), zao (by rw [z81]; simp only [lnc, ln0]; omega)]; simp only [ctr]; rw [w6e, zel _ _ hx]; have e1 : zkd ((bl b).take i ++ [x]) = zkd ((bl b).take i) ++ [((x.toNat / 16 : Nat) : Int), ((x.toNat % 16 : Nat) : Int)] := by
      unfold zkd; rw [List.flatMap_append]; rfl
     have e2 : z16 (i + 1) = z16 i ++ [(i : Int), (i : Int)] := by
      unfold z16; rw [List.range_succ, List.flatMap_append]; rfl
     rw [e1, e2]; rfl)
    (by simp only [zbl.r0, zbl.b0, dcf (show ¬ (b.size : Int) < (b.size : Int) by omega), cfa]) (N := N) (by omega)
   simp only [List.take_zero, nc0] at this; rw [show zkd [] = [] from rfl, show z16 0 = [] from rfl] at this; rw [this]; simp only [obs, hk, if_true]; refine ⟨z16 b.size, ?_, by rw [z81, ztj, zax]⟩; rw [show ((1 : Int) == 2) = false from rfl, cfa, ← zax, List.take_length]
 · have := za1 (f := zbl.r0 N) (fun i => (b, zgl ((bl b).take i), zze i, (b.size : Int), (i : Int), t)) b.size
    (fun i hi => by
     obtain ⟨x, hx⟩ : ∃ x, (bl b)[i]? = some x := zfh (by rw [zax]; exact hi); simp only [zbl.r0, zbl.b0, dct (show (i : Int) < (b.size : Int) by omega), ctr, zjv, hx, obs, hk, show ((2 : Int) == 1) = false from rfl, cfa, zaex]; have hl : (zgl ((bl b).take i)).length = i := by unfold zgl; rw [lnm, lnt, zax]; omega
     have hl2 : (zze i).length = i := by simp [zze]
     rw [zao (by rw [hl]; simp only [lnc, ln0]; omega), zao (by rw [hl2]; simp only [lnc, ln0]; omega)]; simp only [ctr]; rw [w6e, zel _ _ hx]; have e1 : zgl ((bl b).take i ++ [x]) = zgl ((bl b).take i) ++ [((x.toNat % 16 : Nat) : Int)] := by
      unfold zgl; rw [List.map_append]; rfl
     have e2 : zze (i + 1) = zze i ++ [(i : Int)] := by
      unfold zze; rw [List.range_succ, List.map_append]; rfl
     rw [e1, e2]; rfl)
    (by simp only [zbl.r0, zbl.b0, dcf (show ¬ (b.size : Int) < (b.size : Int) by omega), cfa]) (N := N) (by omega)
   simp only [List.take_zero, nc0] at this; rw [show zgl [] = [] from rfl, show zze 0 = [] from rfl] at this; rw [this]; have hx : (bl b)[b.size - 1]? = some ((bl b).getD (b.size - 1) 0) := zwd (by rw [zax]; omega); have hl : (zgl (bl b)).length = b.size := by unfold zgl; rw [lnm, zax]
   have hl2 : (zze b.size).length = b.size := by simp [zze]
   simp only [obs, hk, bst, ctr]; rw [← zax, List.take_length, zax, w6e, show (b.size : Int) - 1 = ((b.size - 1 : Nat) : Int) by omega, zjv, hx]; simp only [obs, zac0]; rw [zao (by rw [hl]; simp only [lnc, ln0]; omega), zao (by rw [hl2]; simp only [lnc, ln0]; omega)]; simp only [ctr]; rw [ifn]; refine ⟨_, rfl, ?_⟩; unfold zeh; rw [lna, lna, hl, hl2]; rfl
theorem zabp (N : Nat) (hN : 2000 < N) (t : DataType) (hk : t.Kind = 1 ∨ t.Kind = 2) (b : ByteArray) (hb : 0 < b.size) (hb2 : (if t.Kind = 1 then zkd (bl b) else zeh (bl b)).length ≤ 17) (hb3 : b.size ≤ 16) (hlen : 0 ≤ t.Length ∧ t.Length ≤ 15) :
 ∃ n a e, zb1 N t b = some (n, a, e) ∧ (match zpm t b with | some v => n = v ∧ e = 0 | none => e ≠ 0) := by
 obtain ⟨pl, h1, h2⟩ := zacr N hN t hk b hb (by omega)
 have hr : ∀ d ∈ (if t.Kind = 1 then zkd (bl b) else zeh (bl b)), 0 ≤ d ∧ d ≤ 15 := by
  split
  · exact zu3.1
  · exact zu3.2
 have hpos : 0 < (if t.Kind = 1 then zkd (bl b) else zeh (bl b)).length := by
  split
  · rw [ztj, zax]; omega
  · unfold zeh; rw [lna, lns]; omega
 have hd : zpm t b = z2o (if t.Kind = 1 then zkd (bl b) else zeh (bl b)) t.Length := by
  unfold zpm; rw [ifn]
 rw [hd]
 unfold zb1
 rw [h1]
 simp only [obs]
 generalize (if t.Kind = 1 then zkd (bl b) else zeh (bl b)) = l at *
 have hi2 : w6 ((l.length : Int) - 1) = ((l.length - 1 : Nat) : Int) := by rw [w6e]; omega
 rw [hi2, ifp, ifp]
 rw [show (0 : Int).toNat = 0 from rfl, dr0, itn]
 have hlt : (l.take (l.length - 1)).length = l.length - 1 := by rw [lnt]; omega
 have lp := zbh (f := zb1.r0 N) (fun i => (l, pl, ((l.length - 1 : Nat) : Int), zgd (l.take i), l.take (l.length - 1), ((l.length - 1 : Nat) : Int), (i : Int), t))
  (fun i => if zks l t.Length i = true then some ((0 : Int), pl.getD i 0, (21 : Int)) else none) (l.length - 1)
  (fun i hi => by
   have hx : l[i]? = some (l.getD i 0) := by rw [gdd, lge (by omega)]; rfl
   have hx2 : (l.take (l.length - 1))[i]? = some (l.getD i 0) := by rw [List.getElem?_take, ifp hi, hx]
   have hp : pl[i]? = some (pl.getD i 0) := by rw [gdd, lge (by omega)]; rfl
   have hxr := hr (l.getD i 0) (lmg hx); have hf := zqg (l.take i) _ (List.reverse_reverse _).symm fun d hd => hr d (List.mem_of_mem_take hd); have hpow : 10 ^ (l.take i).length ≤ 10 ^ 16 := zcs (by rw [lnt]; omega); simp only [zb1.r0, zb1.b0, dct (show (i : Int) < ((l.length - 1 : Nat) : Int) by omega), ctr, zai, hx2, hp, obs]; rw [w6e (n := ((l.length - 1 : Nat) : Int) - t.Length), w6e (n := (i : Int) + 1), w6e (n := l.getD i 0), w6e (n := zgd (l.take i) * 10), w6e]; have e : (cond (decide (l.getD i 0 > 9)) (some true) ((cond (decide (l.getD i 0 > 0)) (some (decide ((i : Int) < ((l.length - 1 : Nat) : Int) - t.Length))) (some false)).bind fun g1002 => some g1002)) = some (zks l t.Length i) := by
    unfold zks; rw [show ((l.length - 1 : Nat) : Int) = (l.length : Int) - 1 by omega]; cases decide (l.getD i 0 > 9) <;> cases decide (l.getD i 0 > 0) <;> rfl
   rw [e]; simp only [obs]; rw [zel l i hx, zsm]; cases zks l t.Length i with
   | true => rfl
   | false => simp)
  (by simp only [zb1.r0, zb1.b0, dcf (show ¬ ((l.length - 1 : Nat) : Int) < ((l.length - 1 : Nat) : Int) by omega), cfa]) (N := N) (by omega)
 simp only [List.take_zero, nc0] at lp
 rw [show zgd [] = 0 from rfl] at lp
 rw [hlt, lp]
 simp only [obs]
 have hany : (List.range (l.length - 1)).any (zks l t.Length) = ((List.range (l.length - 1)).findSome? (fun i => if zks l t.Length i = true then some ((0 : Int), pl.getD i 0, (21 : Int)) else none)).isSome := by
  rw [Bool.eq_iff_iff, List.any_eq_true, List.findSome?_isSome_iff]; constructor
  · rintro ⟨x, hx, hb⟩
    exact ⟨x, hx, by rw [ifp hb]; rfl⟩
  · rintro ⟨x, hx, hb⟩
    refine ⟨x, hx, ?_⟩; split at hb
    · assumption
    · cases hb
 unfold z2o
 rw [hany]
 cases hf : (List.range (l.length - 1)).findSome? (fun i => if zks l t.Length i = true then some ((0 : Int), pl.getD i 0, (21 : Int)) else none) with
 | some r =>
  obtain ⟨i, _, hi⟩ := eof hf; split at hi
  · cases hi; exact ⟨_, _, _, rfl, by simp⟩
  · cases hi
 | none =>
  have hx : l[l.length - 1]? = some (zna l) := by unfold zna; rw [gdd, lge (by omega)]; rfl
  have hp : pl[l.length - 1]? = some (pl.getD (l.length - 1) 0) := by rw [gdd, lge (by omega)]; rfl
  have hb := zqg (l.take (l.length - 1)) _ (List.reverse_reverse _).symm fun d hd => hr d (List.mem_of_mem_take hd); have hpow : 10 ^ (l.take (l.length - 1)).length ≤ 10 ^ 16 := zcs (by omega); simp only [zb5, zai, hx, hp, obs, Option.isSome_none, Bool.false_eq_true, false_or]
  by_cases hs : zna l < 10
  · rw [dct hs, ifp hs]; exact ⟨_, _, _, rfl, by decide⟩
  · rw [dcf hs, ifn hs, cfa, w6e, zcn, zcn]
    by_cases h11 : zna l = 11
    · rw [dct h11, ifp (.inl h11)]; exact ⟨_, _, _, rfl, by omega, rfl⟩
    · rw [dcf h11]
      by_cases h13 : zna l = 13
      · rw [dct h13, ifp (.inr h13)]; exact ⟨_, _, _, rfl, by omega, rfl⟩
      · rw [dcf h13, ifn]; exact ⟨_, _, _, rfl, rfl, rfl⟩
theorem z9c (N : Nat) (hN : 100 < N) (k : Nat) (hk : k ≤ 18) : zc2 N (k : Int) = some ((10 ^ k : Nat) : Int) := by
 unfold zc2
 have := za1 (f := zc2.r0 N) (fun i => (((10 ^ i : Nat) : Int), (k : Int), (i : Int))) k
  (fun i hi => by
   have : 10 ^ (i + 1) ≤ 10 ^ 18 := zcs (by omega); rw [Nat.pow_succ] at this; simp only [zc2.r0, zc2.b0, dct (show (i : Int) < (k : Int) by omega), ctr]; rw [w6e (n := ((10 ^ i : Nat) : Int) * 10), w6e, Nat.pow_succ]; simp only [Int.natCast_add, Int.natCast_mul, Int.natCast_one]; rfl)
  (by simp only [zc2.r0, zc2.b0, dcf (show ¬ (k : Int) < (k : Int) by omega), cfa]) (N := N) (by omega)
 simp only [Nat.pow_zero, nc0] at this
 rw [ifn, show (1 : Int) = ((1 : Nat) : Int) from rfl, this]
 rfl
theorem z04 (N : Nat) (hN : 100 < N) {t : DataType} (ht : zkh t) (n : Int) : zb3 N t ⟨n, ⟨#[]⟩⟩ = some (if -((10 ^ t.Length.toNat : Nat) : Int) < n ∧ n < ((10 ^ t.Length.toNat : Nat) : Int) then 0 else 19) := by
 have f2 : ∀ a b : Int, zq N [a, b] = some (zhe [a, b]) := fun a b => zq3 N _ (by simp; omega) (by simp)
 obtain ⟨⟨l1, l2⟩, l3, l4⟩ := zgc ht
 have hp := z9c N hN t.Length.toNat (by omega)
 rw [Int.toNat_of_nonneg (by omega)] at hp
 have hp2 : 10 ^ t.Length.toNat ≤ 10 ^ 15 := zcs (by omega)
 have hp3 := zcx t.Length.toNat
 obtain ⟨h0, h1, h2⟩ := ht
 unfold zb3
 rw [zrg N (by omega), h0, zcn, zcn, dcf (show ¬ t.Kind = 4 by omega), dcf (show ¬ t.Kind = 0 by omega)]
 simp only [zrk, cfa, obs, f2, show zhe [0, 0] = 0 from rfl, bsf]
 rw [hp]
 simp only [obs, bst, bnt, cfa, z5i, zrk]
 generalize 10 ^ t.Length.toNat = P at *
 rw [w6e (n := (P : Int) - 1), w6e]
 by_cases h : -(P : Int) < n ∧ n < (P : Int)
 · rw [ifp h, show inB n (0 - ((P : Int) - 1)) ((P : Int) - 1) = true from zbf.2 ⟨by omega, by omega⟩]; rfl
 · rw [ifn h, show inB n (0 - ((P : Int) - 1)) ((P : Int) - 1) = false by
    cases hb : inB n (0 - ((P : Int) - 1)) ((P : Int) - 1) with
    | false => rfl
    | true => have := zbf.1 hb; omega]
   rfl
theorem zada {l : List UInt8} (h : l ≠ []) (x : UInt8) : zo6 (l ++ [x]) = zo6 l * 256 + x.toNat := by
 cases l with
 | nil => exact absurd rfl h
 | cons y l =>
  unfold zo6; rw [List.cons_append, List.getD_cons_zero, List.getD_cons_zero, ← List.cons_append, zwy, lna, lns, Nat.pow_succ]; split
  · simp only [Int.natCast_add, Int.natCast_mul]; omega
  · simp only [Int.natCast_add, Int.natCast_mul]; omega
theorem zab2 {l : List UInt8} (h : l.length ≤ 4) : -4294967296 ≤ zo6 l ∧ zo6 l < 4294967296 := by
 have h1 := z56 l
 have h2 : 256 ^ l.length ≤ 256 ^ 4 := Nat.pow_le_pow_right (by decide) h
 unfold zo6
 split <;> omega
theorem zacu (N : Nat) (hN : 100 < N) (b : ByteArray) (h0 : 0 < b.size) (h4 : b.size ≤ 4) : zcc N b = some (zo6 (bl b)) := by
 obtain ⟨x0, hx0⟩ : ∃ x, (bl b)[0]? = some x := zfh (by rw [zax]; exact h0)
 have i0 : zhl b 0 = some x0 := by rw [show (0 : Int) = ((0 : Nat) : Int) from rfl, zjv, hx0]
 have hL : zex (b.extract (1 : Int).toNat b.size) = ((bl b).drop 1).map fun x => (x.toNat : Int) := by
  unfold zex; have := zfi b 1 b.size; unfold bl at this ⊢; rw [show (1 : Int).toNat = 1 from rfl, this]
  congr 2
  exact List.take_of_length_le (Nat.le_of_eq rfl)
 have hlen : (((bl b).drop 1).map fun x => (x.toNat : Int)).length = b.size - 1 := by rw [lnm, List.length_drop, zax]
 have hx00 := x0.toNat_lt
 unfold zcc
 rw [i0]
 simp only [obs]
 rw [ifp, hL, hlen]
 have hw : w6 (IntKind.wrap .i8 (x0.toNat : Int)) = zo6 ((bl b).take 1) := by
  have e : (bl b).take 1 = [x0] := by rw [zel _ _ hx0]; rfl
  have e8 : (2 : Int) ^ (IntKind.i8.bits) = 256 := by decide
  have e8' : (2 : Int) ^ (IntKind.i8.bits - 1) = 128 := by decide
  have : IntKind.wrap .i8 (x0.toNat : Int) = if 128 ≤ x0.toNat then (x0.toNat : Int) - 256 else x0.toNat := by
   unfold IntKind.wrap; simp only [e8, e8', show IntKind.i8.signed = true from rfl, Bool.true_and, decide_eq_true_eq, ge_iff_le]
   repeat' split
   all_goals omega
  rw [this, e, w6e (by split <;> omega) (by split <;> omega)]; unfold zo6; rw [List.getD_cons_zero, show beV [x0] = x0.toNat by unfold beV; simp]; rfl
 rw [hw]
 have := za1 (f := zcc.r0 N) (fun i => (zo6 ((bl b).take (i + 1)), ((bl b).drop 1).map (fun x => (x.toNat : Int)), ((b.size - 1 : Nat) : Int), (i : Int))) (b.size - 1)
  (fun i hi => by
   obtain ⟨x, hx⟩ : ∃ x, (bl b)[i + 1]? = some x := zfh (by rw [zax]; omega); have hm : (((bl b).drop 1).map (fun x => (x.toNat : Int)))[i]? = some (x.toNat : Int) := by
    rw [List.getElem?_map, List.getElem?_drop, Nat.add_comm 1 i, hx]; rfl
   have hb := zab2 (l := (bl b).take (i + 1)) (by rw [lnt]; omega); have hxl := x.toNat_lt; simp only [zcc.r0, zcc.b0, dct (show (i : Int) < ((b.size - 1 : Nat) : Int) by omega), ctr, hlen]; rw [ifp, ifp, itn, hm]; simp only [obs]; rw [show (2 : Int) ^ (min (8 : Int).toNat 64) = 256 from rfl, w6e (n := zo6 ((bl b).take (i + 1)) * 256), w6e (n := (x.toNat : Int)), w6e (n := (i : Int) + 1), or8 _ _ (by omega) (by omega) hxl, zel _ _ hx, zada]
   · rfl
   · intro h; have := congrArg List.length h; rw [lnt, zax] at this; simp only [ln0] at this; omega)
  (by simp only [zcc.r0, zcc.b0, dcf (show ¬ ((b.size - 1 : Nat) : Int) < ((b.size - 1 : Nat) : Int) by omega), cfa]) (N := N) (by omega)
 simp only [Nat.zero_add, nc0] at this
 rw [this, show b.size - 1 + 1 = (bl b).length by rw [zax]; omega, List.take_length]
 rfl
theorem zv3 {t : DataType} (ht : zkh t) : szE t = (if t.Kind = 1 then t.Length / 2 + 1 else if t.Kind = 3 then (if t.Length = 9 then 4 else 2) else t.Length) := by
 obtain ⟨_, h1, h2⟩ := ht
 unfold szE
 split
 · rfl
 · split
   · rfl
   · rw [ifn]
theorem zact (N : Nat) (hN : 2000 < N) {t : DataType} (ht : zkh t) {b : ByteArray} (hb : (b.size : Int) = szE t) :
 ∃ v a e, zkz N t b = some (v, a, e) ∧ (match zpm t b with | some n => v.N = n ∧ e = 0 | none => e ≠ 0) := by
 have f2 : ∀ a b : Int, zq N [a, b] = some (zhe [a, b]) := fun a b => zq3 N _ (by simp; omega) (by simp)
 obtain ⟨⟨l1, l2⟩, l3, l4⟩ := zgc ht
 have hsz := zv3 ht
 have ht' := ht
 obtain ⟨h0, h1, h2⟩ := ht'
 unfold zkz
 rw [zrg N (by omega), h0, zcn, zcn, zcn, dcf (show ¬ t.Kind = 4 by omega), dcf (show ¬ t.Kind = 0 by omega)]
 simp only [zrk, cfa, obs, f2, show zhe [0, 0] = 0 from rfl, bst, ctr]
 rw [z26 h0]
 simp only [obs]
 rw [hb]
 simp only [bsf, cfa, eD]
 by_cases hk : t.Kind = 3
 · rw [dct hk, ctr]; have hs4 : b.size ≤ 4 ∧ 0 < b.size := by
    rw [hsz, ifn, ifp hk] at hb; split at hb <;> omega
   rw [zacu N (by omega) b hs4.2 hs4.1]; simp only [obs]; rw [z04 N (by omega) ht]; simp only [obs]; unfold zpm; rw [ifp hk]
   by_cases hr : -((10 ^ t.Length.toNat : Nat) : Int) < zo6 (bl b) ∧ zo6 (bl b) < ((10 ^ t.Length.toNat : Nat) : Int)
   · rw [ifp hr, ifp hr]; exact ⟨_, _, _, rfl, rfl, rfl⟩
   · rw [ifn hr, ifn hr]; exact ⟨_, _, _, rfl, by decide⟩
 · rw [dcf hk, cfa]; have hs : 0 < b.size ∧ b.size ≤ 15 ∧ (t.Kind = 1 → b.size ≤ 8) := by
    rw [hsz] at hb
    by_cases h1 : t.Kind = 1
    · rw [ifp h1] at hb; omega
    · rw [ifn h1, ifn hk] at hb; omega
   have hn : (if t.Kind = 1 then zkd (bl b) else zeh (bl b)).length ≤ 17 := by
    split
    · rename_i hk1; have := hs.2.2 hk1; rw [ztj, zax]; omega
    · unfold zeh zgl; rw [lna, lnm, lns, zax]; omega
   obtain ⟨n, a, e, g1, g2⟩ := zabp N hN t (by omega) b hs.1 hn (by omega) ⟨by omega, l2⟩; rw [g1]; exact ⟨_, _, _, rfl, g2⟩
def zww (n len : Nat) : List Int := (List.range len).map fun j => ((n / 10 ^ (len - 1 - j) % 10 : Nat) : Int)
theorem z0t (n len : Nat) : (zww n len).length = len := by simp [zww]
theorem z0s {n len : Nat} : ∀ d ∈ zww n len, 0 ≤ d ∧ d ≤ 9 := by
 intro d hd
 obtain ⟨j, _, rfl⟩ := List.mem_map.1 hd
 omega
def z8f (l : List Int) (neg : Bool) : List Int := (l.take (l.length - 1)).map (· + 240) ++ [l.getD (l.length - 1) 0 + cond neg 208 240]
def zmo : List Int → List Int
 | a :: b :: l => (16 * a + b) :: zmo l
 | _ => []
def encB (n : Int) (k : Nat) : List Int := (List.range k).map fun j => n / 256 ^ (k - 1 - j) % 256
def zxs (t : DataType) (n : Int) : List Int := (if t.Length % 2 = 0 then [0] else []) ++ zww n.natAbs t.Length.toNat ++ [if n < 0 then 13 else 15]
def z0l (t : DataType) (n : Int) : ByteArray :=
 zd3 (if t.Kind = 3 then encB n (szE t).toNat else if t.Kind = 2 then z8f (zww n.natAbs t.Length.toNat) (decide (n < 0)) else zmo (zxs t n))
theorem zacs (N : Nat) (hN : 100 < N) (n len : Nat) (hn : n ≤ 1000000000000000000) (hl : len ≤ 20) : zba N (n : Int) (len : Int) = some (zww n len) := by
 unfold zba
 have := za1 (f := zba.r0 N) (fun i => (((n / 10 ^ i : Nat) : Int), zir (fun e => ((n / 10 ^ e % 10 : Nat) : Int)) len i, (len : Int) - 1 - (i : Int))) len
  (fun i hi => by
   have hl2 : n / 10 ^ i ≤ n := Nat.div_le_self _ _; have hl : (zir (fun e => ((n / 10 ^ e % 10 : Nat) : Int)) len i).length = len := zwm _ _ _; have e1 : n / 10 ^ (i + 1) = n / 10 ^ i / 10 := by rw [Nat.pow_succ, ← Nat.div_div_eq_div_mul]
   have e2 : (zir (fun e => ((n / 10 ^ e % 10 : Nat) : Int)) len i).set (len - 1 - i) ((n / 10 ^ i % 10 : Nat) : Int) = zir (fun e => ((n / 10 ^ e % 10 : Nat) : Int)) len (i + 1) := zus _ len i hi; rw [e1, ← e2]; generalize (zir (fun e => ((n / 10 ^ e % 10 : Nat) : Int)) len i) = P at *; generalize n / 10 ^ i = q at *; simp only [zba.r0, zba.b0, dct (show (len : Int) - 1 - (i : Int) ≥ 0 by omega), ctr, hl]; rw [ifp, ifp]; obtain ⟨x, hx⟩ : ∃ x, P[((len : Int) - 1 - (i : Int)).toNat]? = some x := zfh (by omega); rw [hx]; simp only [obs]
   rw [tde, tme, w6e (n := (q : Int) / 10), w6e (n := (len : Int) - 1 - (i : Int) - 1), zom (by omega) (by omega), show ((len : Int) - 1 - (i : Int)).toNat = len - 1 - i by omega, show (q : Int) % 10 = ((q % 10 : Nat) : Int) by omega, show (q : Int) / 10 = ((q / 10 : Nat) : Int) by omega, show (len : Int) - 1 - (i : Int) - 1 = (len : Int) - 1 - ((i + 1 : Nat) : Int) by omega])
  (by simp only [zba.r0, zba.b0, dcf (show ¬ (len : Int) - 1 - (len : Int) ≥ 0 by omega), cfa]) (N := N) (by omega)
 rw [ifp, ifp, zao (by omega), ctr, itn, w6e]
 simp only [Nat.pow_zero, Nat.div_one, zuo, nc0, Int.sub_zero, zuu] at this
 rw [this]
 rfl
theorem or4 (x y : Nat) (hx : x < 16) (hy : y < 16) : orI .u8 (IntKind.wrap .u8 ((x : Int) * 2 ^ (min (4 : Int).toNat 8))) (y : Int) = ((16 * x + y : Nat) : Int) := by
 rw [show (2 : Int) ^ (min (4 : Int).toNat 8) = 16 from rfl, zom (by omega) (by omega)]
 unfold orI
 have e : (BitVec.ofInt IntKind.u8.bits ((x : Int) * 16) ||| BitVec.ofInt IntKind.u8.bits (y : Int)).toNat = 16 * x + y := by
  show (BitVec.ofInt 8 ((x : Int) * 16) ||| BitVec.ofInt 8 (y : Int)).toNat = _; rw [show (x : Int) * 16 = ((16 * x : Nat) : Int) by omega, BitVec.toNat_or, BitVec.ofInt_natCast, BitVec.ofInt_natCast, BitVec.toNat_ofNat, BitVec.toNat_ofNat, mel (by omega), mel (by omega)]; exact (Nat.two_pow_add_eq_or_of_lt (i := 4) (b := y) hy x).symm
 rw [e]
 exact zom (by omega) (by omega)
theorem zzq : ∀ (n : Nat) (l : List Int) (x y : Int), l.length = 2 * n → zmo (l ++ [x, y]) = zmo l ++ [16 * x + y]
 | 0, l, x, y, h => by
  obtain rfl := List.length_eq_zero_iff.1 (by omega : l.length = 0); rfl
 | n + 1, [], x, y, h => by simp at h
 | n + 1, [a], x, y, h => by simp at h; omega
 | n + 1, a :: b :: l, x, y, h => by
  simp only [List.cons_append, zmo]; rw [zzq n l x y (by simp only [lnc] at h; omega)]
theorem zuw : ∀ (n : Nat) (l : List Int), l.length = 2 * n → (zmo l).length = n
 | 0, l, h => by
  obtain rfl := List.length_eq_zero_iff.1 (by omega : l.length = 0); rfl
 | n + 1, [], h => by simp at h
 | n + 1, [a], h => by simp at h; omega
 | n + 1, a :: b :: l, h => by
  simp only [zmo, lnc]; rw [zuw n l (by simp only [lnc] at h; omega)]
theorem zacp (N : Nat) (hN : 100 < N) (l : List Int) (n : Nat) (hl : l.length = 2 * n) (hn : n ≤ 20) (hd : ∀ d ∈ l, 0 ≤ d ∧ d < 16) : zby N l = some (zd3 (zmo l)) := by
 unfold zby
 have := za1 (f := zby.r0 N) (fun i => (l, zmo (l.take (2 * i)), 2 * (i : Int))) n
  (fun i hi => by
   obtain ⟨x, hx⟩ : ∃ x, l[2 * i]? = some x := zfh (by omega); obtain ⟨y, hy⟩ : ∃ y, l[2 * i + 1]? = some y := zfh (by omega); obtain ⟨x1, x2⟩ := hd x (lmg hx); obtain ⟨y1, y2⟩ := hd y (lmg hy); have hlt : (l.take (2 * i)).length = 2 * i := by rw [lnt]; omega
   simp only [zby.r0, zby.b0, dct (show 2 * (i : Int) < (l.length : Int) by omega), ctr]; rw [w6e (n := 2 * (i : Int) + 1), w6e (n := 2 * (i : Int) + 2), show 2 * (i : Int) = ((2 * i : Nat) : Int) by omega, show ((2 * i : Nat) : Int) + 1 = ((2 * i + 1 : Nat) : Int) by omega, zai, zai, hx, hy]; simp only [obs]; obtain ⟨u, rfl⟩ : ∃ u : Nat, x = (u : Int) := ⟨x.toNat, by omega⟩; obtain ⟨v, rfl⟩ : ∃ v : Nat, y = (v : Int) := ⟨y.toNat, by omega⟩; rw [or4 u v (by omega) (by omega), zao (by rw [zuw i _ hlt]; simp only [lnc, ln0]; omega), ctr]; rw [show 2 * (i + 1) = 2 * i + 1 + 1 by omega, zel _ _ hy, zel _ _ hx, List.append_assoc, show ([(u : Int)] ++ [(v : Int)] : List Int) = [(u : Int), (v : Int)] from rfl, zzq i _ _ _ hlt]
   congr 4)
  (by simp only [zby.r0, zby.b0, dcf (show ¬ 2 * (n : Int) < (l.length : Int) by omega), cfa]) (N := N) (by omega)
 simp only [Nat.mul_zero, List.take_zero, nc0, Int.mul_zero] at this
 rw [show zmo [] = [] from rfl] at this
 rw [this, obs, ← hl, List.take_length]
theorem zae8 (f : Int → Int) (l : List Int) (i : Nat) {x : Int} (hx : l[i]? = some x) : ((l.take i).map f ++ l.drop i)[i]? = some x ∧ ((l.take i).map f ++ l.drop i).set i (f x) = (l.take (i + 1)).map f ++ l.drop (i + 1) := by
 obtain ⟨h1, h2⟩ := gei hx
 have hl : ((l.take i).map f).length = i := by rw [lnm, lnt]; omega
 have hd : l.drop i = x :: l.drop (i + 1) := by rw [List.drop_eq_getElem_cons h1, h2]
 constructor
 · rw [List.getElem?_append_right (by omega), hl, Nat.sub_self, hd]; rfl
 · rw [List.set_append_right _ _ (by omega), hl, Nat.sub_self, hd, zel l i hx, List.map_append, List.append_assoc]; rfl
theorem zabs {l : List Int} (h : 0 < l.length) : l = l.take (l.length - 1) ++ [l.getD (l.length - 1) 0] := by
 have hx : l[l.length - 1]? = some (l.getD (l.length - 1) 0) := by rw [gdd, lge (by omega)]; rfl
 have := zel l (l.length - 1) hx
 rw [show l.length - 1 + 1 = l.length by omega, List.take_length] at this
 exact this
theorem zaey (z : Int) : IntKind.wrap .u8 z = z % 256 := by
 have e : (2 : Int) ^ (IntKind.u8.bits) = 256 := by decide
 unfold IntKind.wrap
 simp only [e, show IntKind.u8.signed = false from rfl, Bool.false_and]
 simp only [Bool.false_eq_true, if_false]
theorem zvi {l : List Int} (h : 0 < l.length) : l.map (· + 240) = z8f l false := by
 conv => lhs; rw [zabs h]
 rw [List.map_append]
 rfl
theorem zsq {n : Int} (h1 : -9223372036854775807 ≤ n) (h2 : n ≤ 9223372036854775807) : (if w6 (0 - n) > n then w6 (0 - n) else n) = ((n.natAbs : Nat) : Int) := by
 rw [w6e]
 split <;> omega
theorem zzr {t : DataType} (h1 : 1 ≤ t.Length) (n : Int) : (zxs t n).length = 2 * (t.Length.toNat / 2 + 1) ∧ ∀ d ∈ zxs t n, 0 ≤ d ∧ d < 16 := by
 unfold zxs
 constructor
 · rw [lna, lna, z0t, lns]; split
   · rw [lns]; omega
   · rw [ln0]; omega
 · intro d hd; rcases List.mem_append.1 hd with hd | hd
   · rcases List.mem_append.1 hd with hd | hd
     · split at hd
       · rcases List.mem_cons.1 hd with rfl | hd
         · omega
         · cases hd
       · cases hd
     · have := z0s d hd; omega
   · rcases List.mem_cons.1 hd with rfl | hd
     · split <;> omega
     · cases hd
theorem zabo (N : Nat) (hN : 100 < N) {t : DataType} (ht : zkh t) (n : Int) (hn : -((10 ^ t.Length.toNat : Nat) : Int) < n ∧ n < ((10 ^ t.Length.toNat : Nat) : Int)) : zac N t ⟨n, ⟨#[]⟩⟩ = some (z0l t n) := by
 obtain ⟨⟨l1, l2⟩, l3, l4⟩ := zgc ht
 have hp2 : 10 ^ t.Length.toNat ≤ 10 ^ 15 := zcs (by omega)
 have hsz := zv3 ht
 have ht' := ht
 obtain ⟨h0, h1, h2⟩ := ht'
 have hd := zacs N hN n.natAbs t.Length.toNat (by omega) (by omega)
 rw [Int.toNat_of_nonneg (by omega)] at hd
 unfold zac z0l
 try simp only [eD]
 rw [zsq (by omega) (by omega), hd]
 simp only [obs]
 have hlen := z0t n.natAbs t.Length.toNat
 have hrange := z0s (n := n.natAbs) (len := t.Length.toNat)
 have hpac := zzr (t := t) l1 n
 have epac : zxs t n = (if t.Length % 2 = 0 then [0] else []) ++ zww n.natAbs t.Length.toNat ++ [if n < 0 then 13 else 15] := rfl
 generalize zww n.natAbs t.Length.toNat = d at *
 simp only [zcn]
 by_cases k2 : t.Kind = 2
 · rw [dct k2, ctr, ifn, ifp k2]; have lp := za1 (f := zac.r1 N) (fun i => ((d.take i).map (· + 240) ++ d.drop i, (d.length : Int), (i : Int), (⟨n, ⟨#[]⟩⟩ : Value))) d.length
    (fun i hi => by
     obtain ⟨x, hx⟩ : ∃ x, d[i]? = some x := zfh hi; obtain ⟨e1, e2⟩ := zae8 (· + 240) d i hx; have hxr := hrange x (lmg hx); have hl : ((d.take i).map (· + 240) ++ d.drop i).length = d.length := by rw [lna, lnm, lnt, List.length_drop]; omega
     simp only [zac.r1, zac.b1, dct (show (i : Int) < (d.length : Int) by omega), ctr, hl]; rw [ifp, ifp, itn, e1]; simp only [obs]; rw [ifp, ifp, zom (by omega) (by omega), w6e, e2]; rfl)
    (by simp only [zac.r1, zac.b1, dcf (show ¬ (d.length : Int) < (d.length : Int) by omega), cfa]) (N := N) (by omega)
   simp only [List.take_zero, nc0, dr0, List.map_nil, List.nil_append, List.take_length, List.drop_length, List.append_nil] at lp; rw [lp]; simp only [obs, lnm]
   by_cases hneg : n < 0
   · rw [dct hneg, ctr, w6e, ifp, ifp]; have hi : (d.length : Int) - 1 = ((d.length - 1 : Nat) : Int) := by omega
     have hx : d[d.length - 1]? = some (d.getD (d.length - 1) 0) := by rw [gdd, lge (by omega)]; rfl
     have hxr := hrange _ (lmg hx); rw [hi, itn, List.getElem?_map, hx]; simp only [Option.map_some, obs]; rw [ifp, ifp, zom (by omega) (by omega)]
     congr 2
     conv => lhs; rw [show d.map (· + 240) = (d.take (d.length - 1)).map (· + 240) ++ [d.getD (d.length - 1) 0 + 240] from zvi (by omega)]
     have hl : ((d.take (d.length - 1)).map (· + 240)).length = d.length - 1 := by rw [lnm, lnt]; omega
     rw [List.set_append_right _ _ (by omega), hl, Nat.sub_self]; unfold z8f
     congr 1
     show [_] = [_]
     congr 1
     simp only [ctr]; omega
   · rw [dcf hneg, cfa, zvi (by omega)]
 · rw [dcf k2, cfa, ifn (c := t.Kind = 2) k2]
   by_cases k1 : t.Kind = 1
   · rw [dct k1, ctr, ifn]; have pk := zacp N hN (zxs t n) _ hpac.1 (by omega) hpac.2; have ev : decide ((d.length : Int).tmod 2 = 0) = decide (t.Length % 2 = 0) := by
      rw [tme]; simp only [decide_eq_decide]; omega
     rw [ev]; rw [epac] at pk ⊢
     by_cases hneg : n < 0
     · rw [dct hneg, ctr]; rw [ifp hneg] at pk ⊢
       by_cases he : t.Length % 2 = 0
       · rw [dct he, ctr]; rw [ifp he] at pk ⊢; rw [zao (by simp only [lnc, ln0]; omega), ctr, zao (by simp only [lna, lnc, ln0]; omega), ctr, pk]; rfl
       · rw [dcf he, cfa]; rw [ifn he, List.nil_append] at pk ⊢; rw [zao (by simp only [lnc, ln0]; omega), ctr, pk]; rfl
     · rw [dcf hneg, cfa]; rw [ifn hneg] at pk ⊢
       by_cases he : t.Length % 2 = 0
       · rw [dct he, ctr]; rw [ifp he] at pk ⊢; rw [zao (by simp only [lnc, ln0]; omega), ctr, zao (by simp only [lna, lnc, ln0]; omega), ctr, pk]; rfl
       · rw [dcf he, cfa]; rw [ifn he, List.nil_append] at pk ⊢; rw [zao (by simp only [lnc, ln0]; omega), ctr, pk]; rfl
   · have k3 : t.Kind = 3 := by omega
     rw [dcf k1, cfa, dct k3, ctr, ifp k3, z26 h0]; have hs : (szE t).toNat ≤ 4 ∧ 0 < (szE t).toNat ∧ szE t = ((szE t).toNat : Int) := by
      rw [hsz, ifn k1, ifp k3]; split <;> decide
     obtain ⟨s1, s2, s3⟩ := hs; generalize (szE t).toNat = k at *; rw [s3]; simp only [obs]; rw [ifp, ifp, zao (by omega), ctr, itn, lnr, w6e]; have lp := za1 (f := zac.r3 N) (fun i => (zir (fun e => n / 256 ^ e % 256) k i, (k : Int) - 1 - (i : Int), n / 256 ^ i)) k
      (fun i hi => by
       have e2 : (zir (fun e => n / 256 ^ e % 256) k i).set (k - 1 - i) (n / 256 ^ i % 256) = zir (fun e => n / 256 ^ e % 256) k (i + 1) := zus _ k i hi; have hl : (zir (fun e => n / 256 ^ e % 256) k i).length = k := zwm _ _ _; have e1 : n / 256 ^ (i + 1) = n / 256 ^ i / 256 := by rw [Int.pow_succ, Int.ediv_ediv_of_nonneg (Int.le_of_lt (Int.pow_pos (by decide)))]
       rw [e1, ← e2]; generalize zir (fun e => n / 256 ^ e % 256) k i = P at *; simp only [zac.r3, zac.b3, dct (show (k : Int) - 1 - (i : Int) ≥ 0 by omega), ctr, hl]; rw [ifp, ifp]; obtain ⟨x, hx⟩ : ∃ x, P[((k : Int) - 1 - (i : Int)).toNat]? = some x := zfh (by omega); rw [hx]; simp only [obs]; rw [zaey, w6e, show (2 : Int) ^ (min (8 : Int).toNat 64) = 256 from rfl, Int.fdiv_eq_ediv_of_nonneg _ (by decide), show ((k : Int) - 1 - (i : Int)).toNat = k - 1 - i by omega, show (k : Int) - 1 - (i : Int) - 1 = (k : Int) - 1 - ((i + 1 : Nat) : Int) by omega])
      (by simp only [zac.r3, zac.b3, dcf (show ¬ (k : Int) - 1 - (k : Int) ≥ 0 by omega), cfa]) (N := N) (by omega)
     simp only [Int.pow_zero, Int.ediv_one, zuo, nc0, Int.sub_zero, zuu] at lp; rw [lp]; rfl
theorem z7j (N : Nat) (hN : 100 < N) {t : DataType} (ht : zkh t) (n : Int) (hn : -((10 ^ t.Length.toNat : Nat) : Int) < n ∧ n < ((10 ^ t.Length.toNat : Nat) : Int)) : zc8 N t ⟨n, ⟨#[]⟩⟩ = some (z0l t n, 0) := by
 unfold zc8
 rw [z04 N hN ht, ifp hn]
 simp only [obs, bsf, cfa, eD]
 rw [zabo N hN ht n hn]
 rfl
theorem z71 {t : DataType} (ht : zkh t) (n : Int) : ((z0l t n).size : Int) = szE t := by
 obtain ⟨⟨l1, l2⟩, l3, l4⟩ := zgc ht
 have hsz := zv3 ht
 obtain ⟨h0, h1, h2⟩ := ht
 rw [← zax]
 unfold z0l
 rw [zhz, lnm]
 by_cases k3 : t.Kind = 3
 · rw [ifp k3]; unfold encB; rw [lnm, List.length_range]; rw [hsz, ifn, ifp k3]; split <;> rfl
 · rw [ifn k3]
   by_cases k2 : t.Kind = 2
   · rw [ifp k2]; unfold z8f; rw [lna, lnm, lnt, z0t, lns, hsz, ifn, ifn k3]; omega
   · rw [ifn k2, zuw _ _ (zzr l1 n).1, hsz, ifp]; omega
theorem z4a (N : Nat) (hN : 100 < N) (k : Nat) (hk : k ≤ 18) : zed N (k : Int) = some ((10 ^ k : Nat) : Int) := by
 unfold zed
 have := za1 (f := zed.r0 N) (fun i => ((k : Int), ((10 ^ i : Nat) : Int), (i : Int))) k
  (fun i hi => by
   have : 10 ^ (i + 1) ≤ 10 ^ 18 := zcs (by omega); rw [Nat.pow_succ] at this; simp only [zed.r0, zed.b0, dct (show (i : Int) < (k : Int) by omega), ctr]; rw [w6e (n := ((10 ^ i : Nat) : Int) * 10), w6e, Nat.pow_succ]; simp only [Int.natCast_add, Int.natCast_mul, Int.natCast_one]; rfl)
  (by simp only [zed.r0, zed.b0, dcf (show ¬ (k : Int) < (k : Int) by omega), cfa]) (N := N) (by omega)
 simp only [Nat.pow_zero, nc0] at this
 rw [show (1 : Int) = ((1 : Nat) : Int) from rfl, this]
 rfl
theorem zacg (N : Nat) (hN : 100 < N) (n len : Nat) (hn : n ≤ 1000000000000000000) (hl : len ≤ 20) : zfm N (n : Int) (len : Int) = some (zww n len) := by
 unfold zfm
 have := za1 (f := zfm.r0 N) (fun i => (((n / 10 ^ i : Nat) : Int), zir (fun e => ((n / 10 ^ e % 10 : Nat) : Int)) len i, (len : Int) - 1 - (i : Int))) len
  (fun i hi => by
   have hl2 : n / 10 ^ i ≤ n := Nat.div_le_self _ _; have hl : (zir (fun e => ((n / 10 ^ e % 10 : Nat) : Int)) len i).length = len := zwm _ _ _; have e1 : n / 10 ^ (i + 1) = n / 10 ^ i / 10 := by rw [Nat.pow_succ, ← Nat.div_div_eq_div_mul]
   have e2 : (zir (fun e => ((n / 10 ^ e % 10 : Nat) : Int)) len i).set (len - 1 - i) ((n / 10 ^ i % 10 : Nat) : Int) = zir (fun e => ((n / 10 ^ e % 10 : Nat) : Int)) len (i + 1) := zus _ len i hi; rw [e1, ← e2]; generalize (zir (fun e => ((n / 10 ^ e % 10 : Nat) : Int)) len i) = P at *; generalize n / 10 ^ i = q at *; simp only [zfm.r0, zfm.b0, dct (show (len : Int) - 1 - (i : Int) ≥ 0 by omega), ctr, hl]; rw [ifp, ifp]; obtain ⟨x, hx⟩ : ∃ x, P[((len : Int) - 1 - (i : Int)).toNat]? = some x := zfh (by omega); rw [hx]; simp only [obs]; rw [tde, tme, w6e (n := (q : Int) / 10), w6e (n := (len : Int) - 1 - (i : Int) - 1), show ((len : Int) - 1 - (i : Int)).toNat = len - 1 - i by omega, show (q : Int) % 10 = ((q % 10 : Nat) : Int) by omega, show (q : Int) / 10 = ((q / 10 : Nat) : Int) by omega, show (len : Int) - 1 - (i : Int) - 1 = (len : Int) - 1 - ((i + 1 : Nat) : Int) by omega])
  (by simp only [zfm.r0, zfm.b0, dcf (show ¬ (len : Int) - 1 - (len : Int) ≥ 0 by omega), cfa]) (N := N) (by omega)
 rw [ifp, ifp, zao (by omega), ctr, itn, w6e]
 simp only [Nat.pow_zero, Nat.div_one, zuo, nc0, Int.sub_zero, zuu] at this
 rw [this]
 rfl
theorem zxn (N : Nat) (hN : 100 < N) (v k : Nat) (hv : v < 9223372036854775807) (hk : k ≤ 8) : zbt N (v : Int) (k : Int) = some (zd3 (zbp v k)) := by
 unfold zbt
 have := za1 (f := zbt.r0 N) (fun i => (((v / 256 ^ i : Nat) : Int), (k : Int), zir (fun e => ((v / 256 ^ e % 256 : Nat) : Int)) k i, (i : Int))) k
  (fun i hi => by
   have hl2 : v / 256 ^ i ≤ v := Nat.div_le_self _ _; have hl : (zir (fun e => ((v / 256 ^ e % 256 : Nat) : Int)) k i).length = k := zwm _ _ _; have e1 : v / 256 ^ (i + 1) = v / 256 ^ i / 256 := by rw [Nat.pow_succ, ← Nat.div_div_eq_div_mul]
   have e2 : (zir (fun e => ((v / 256 ^ e % 256 : Nat) : Int)) k i).set (k - 1 - i) ((v / 256 ^ i % 256 : Nat) : Int) = zir (fun e => ((v / 256 ^ e % 256 : Nat) : Int)) k (i + 1) := zus _ k i hi; rw [e1, ← e2]; generalize (zir (fun e => ((v / 256 ^ e % 256 : Nat) : Int)) k i) = P at *; generalize v / 256 ^ i = q at *; simp only [zbt.r0, zbt.b0, dct (show (i : Int) < (k : Int) by omega), ctr, hl]; rw [w6e (n := (k : Int) - 1), w6e (n := (k : Int) - 1 - (i : Int)), ifp, ifp]; obtain ⟨x, hx⟩ : ∃ x, P[((k : Int) - 1 - (i : Int)).toNat]? = some x := zfh (by omega); rw [hx]; simp only [obs]; rw [tde, tme, w6e (n := (q : Int) / 256), w6e (n := (i : Int) + 1), zom (by omega) (by omega), show ((k : Int) - 1 - (i : Int)).toNat = k - 1 - i by omega, show (q : Int) % 256 = ((q % 256 : Nat) : Int) by omega, show (q : Int) / 256 = ((q / 256 : Nat) : Int) by omega]; rfl)
  (by simp only [zbt.r0, zbt.b0, dcf (show ¬ (k : Int) < (k : Int) by omega), cfa]) (N := N) (by omega)
 rw [ifp, ifp, zao (by omega), ctr, itn]
 simp only [Nat.pow_zero, Nat.div_one, zuo, nc0] at this
 rw [this, obs, zuu]
 rfl
theorem zadm (f : Int → Int) (l : List Int) (m i : Nat) {x : Int} (hx : l[i]? = some x) (hm : i < m) : ((l.take i).map f ++ List.replicate (m - i) 0)[i]? = some 0 ∧ ((l.take i).map f ++ List.replicate (m - i) 0).set i (f x) = (l.take (i + 1)).map f ++ List.replicate (m - (i + 1)) 0 := by
 obtain ⟨h1, h2⟩ := gei hx
 have hl : ((l.take i).map f).length = i := by rw [lnm, lnt]; omega
 have hd : List.replicate (m - i) (0 : Int) = 0 :: List.replicate (m - (i + 1)) 0 := by rw [show m - i = m - (i + 1) + 1 by omega, List.replicate_succ]
 constructor
 · rw [List.getElem?_append_right (by omega), hl, Nat.sub_self, hd]; rfl
 · rw [List.set_append_right _ _ (by omega), hl, Nat.sub_self, hd, zel l i hx, List.map_append, List.append_assoc]; rfl
theorem z9t (n : Int) (k : Nat) (m : Nat) (h : (m : Int) = n ∨ (m : Int) = n + (256 ^ k : Nat)) : zbp m k = encB n k := by
 unfold zbp encB
 refine List.map_congr_left fun j hj => ?_
 have hjk := List.mem_range.1 hj
 have hc : (256 : Int) ^ (k - 1 - j) = ((256 ^ (k - 1 - j) : Nat) : Int) := by rw [Int.natCast_pow]; rfl
 rw [hc]
 rcases h with h | h
 · rw [← h]; rfl
 · have hk : (256 ^ k : Nat) = 256 ^ (k - 1 - j) * (256 * 256 ^ j) := by
    rw [← Nat.pow_succ', ← Nat.pow_add]; congr 1; omega
   have hp : ((256 ^ (k - 1 - j) : Nat) : Int) ≠ 0 := by
    have : 0 < 256 ^ (k - 1 - j) := Nat.pow_pos (by decide); omega
   have e : ((m / 256 ^ (k - 1 - j) % 256 : Nat) : Int) = (m : Int) / ((256 ^ (k - 1 - j) : Nat) : Int) % 256 := rfl; rw [e, h, hk, Int.natCast_mul, Int.add_mul_ediv_left _ _ hp, Int.natCast_mul]; exact Int.add_mul_emod_self_left _ _ _
theorem z8u (N : Nat) (hN : 100 < N) {t : DataType} (ht : zkh t) (n : Int) (hn : -((10 ^ t.Length.toNat : Nat) : Int) < n ∧ n < ((10 ^ t.Length.toNat : Nat) : Int)) : zbe N t ⟨n, ⟨#[]⟩⟩ = some (z0l t n) := by
 obtain ⟨⟨l1, l2⟩, l3, l4⟩ := zgc ht
 have hp2 : 10 ^ t.Length.toNat ≤ 10 ^ 15 := zcs (by omega)
 have hsz := zv3 ht
 have ht' := ht
 obtain ⟨h0, h1, h2⟩ := ht'
 have hd := zacg N hN n.natAbs t.Length.toNat (by omega) (by omega)
 rw [Int.toNat_of_nonneg (by omega)] at hd
 unfold zbe z0l znf
 simp only [eD, zcn]
 rw [dcf (show ¬ t.Kind = 0 by omega), cfa]
 by_cases k3 : t.Kind = 3
 · rw [dct k3, ctr, ifp k3, zs5 h0]; have hs : (szE t).toNat ≤ 4 ∧ 0 < (szE t).toNat ∧ szE t = ((szE t).toNat : Int) ∧ ((szE t).toNat = 2 ∨ (szE t).toNat = 4) ∧ ((szE t).toNat = 2 → t.Length = 4) := by
    have h9 := h0; unfold zfp at h9; rw [ifn, ifn, ifp k3] at h9; rw [hsz, ifn, ifp k3]; split at h9
    · split
      · exact ⟨by decide, by decide, by decide, by decide, fun h => by cases h⟩
      · exact ⟨by decide, by decide, by decide, by decide, fun _ => by omega⟩
    · cases h9
   obtain ⟨s1, s2, s3, s4, s5⟩ := hs; generalize (szE t).toNat = k at *; rw [s3]; simp only [obs]
   by_cases hneg : n < 0
   · rw [dct hneg, ctr, w6e (n := 8 * (k : Int)), ifn]; have hpow : (1 : Int) * 2 ^ (min (8 * (k : Int)).toNat 64) = ((256 ^ k : Nat) : Int) := by
      rcases s4 with rfl | rfl <;> decide
     have hlow : -((256 ^ k : Nat) : Int) ≤ n := by
      rcases s4 with rfl | rfl
      · have := s5 rfl; rw [this] at hn; have : (10 ^ (4 : Int).toNat : Nat) = 10000 := by decide
        rw [this] at hn; have : (256 ^ 2 : Nat) = 65536 := by decide
        omega
      · have hl9 : 10 ^ t.Length.toNat ≤ 10 ^ 9 := by
         refine zcs ?_; unfold zfp at h0; rw [ifn, ifn, ifp k3] at h0; split at h0
         · omega
         · cases h0
        have : (256 ^ 4 : Nat) = 4294967296 := by decide
        omega
     have hup : 256 ^ k ≤ 4294967296 := by rcases s4 with rfl | rfl <;> decide
     rw [hpow, w6e (n := ((256 ^ k : Nat) : Int)), w6e]; obtain ⟨m, hm⟩ : ∃ m : Nat, (m : Int) = n + (256 ^ k : Nat) := ⟨(n + (256 ^ k : Nat)).toNat, by omega⟩; rw [← hm, zxn N hN m k (by omega) (by omega), z9t n k m (.inr hm)]; rfl
   · rw [dcf hneg, cfa]; obtain ⟨m, hm⟩ : ∃ m : Nat, (m : Int) = n := ⟨n.toNat, by omega⟩; rw [← hm, zxn N hN m k (by omega) (by omega), z9t (m : Int) k m (.inl rfl)]; rfl
 · rw [dcf k3, cfa, ifn k3, zsq (by omega) (by omega)]; simp only [obs]; rw [hd]; simp only [obs]; have hlen := z0t n.natAbs t.Length.toNat; have hrange := z0s (n := n.natAbs) (len := t.Length.toNat); have hpac := zzr (t := t) l1 n; have epac : zxs t n = (if t.Length % 2 = 0 then [0] else []) ++ zww n.natAbs t.Length.toNat ++ [if n < 0 then 13 else 15] := rfl; generalize zww n.natAbs t.Length.toNat = d at *
   by_cases k2 : t.Kind = 2
   · rw [dct k2, ctr, ifp k2, ifp, ifp, zao (by omega), ctr]; have lp := za1 (f := zbe.r1 N) (fun i => (d, (d.take i).map (· + 240) ++ List.replicate (d.length - i) 0, (i : Int), t, (⟨n, ⟨#[]⟩⟩ : Value))) d.length
      (fun i hi => by
       obtain ⟨x, hx⟩ : ∃ x, d[i]? = some x := zfh hi; obtain ⟨e1, e2⟩ := zadm (· + 240) d d.length i hx hi; have hxr := hrange x (lmg hx); have hl : ((d.take i).map (· + 240) ++ List.replicate (d.length - i) 0).length = d.length := by rw [lna, lnm, lnt, lnr]; omega
       simp only [zbe.r1, zbe.b1, dct (show (i : Int) < t.Length by omega), ctr, hl]; rw [ifp, ifp, itn, hx]; simp only [obs]; rw [ifp, ifp, e1]; simp only [obs]; rw [w6e (n := 240 + x), zom (by omega) (by omega), w6e, Int.add_comm 240 x, e2]; rfl)
      (by simp only [zbe.r1, zbe.b1, dcf (show ¬ (d.length : Int) < t.Length by omega), cfa]) (N := N) (by omega)
     simp only [List.take_zero, nc0, List.map_nil, List.nil_append, List.take_length, Nat.sub_self, Nat.sub_zero, List.replicate_zero, List.append_nil] at lp; rw [← hlen, lp]; simp only [obs, lnm]
     by_cases hneg : n < 0
     · rw [dct hneg, ctr, w6e (n := t.Length - 1), ifp, ifp]; have hi : t.Length - 1 = ((d.length - 1 : Nat) : Int) := by omega
       have hx : d[d.length - 1]? = some (d.getD (d.length - 1) 0) := by rw [gdd, lge (by omega)]; rfl
       have hxr := hrange _ (lmg hx); rw [hi, itn, hx]; simp only [obs]; rw [ifp, ifp, List.getElem?_map, hx]; simp only [Option.map_some, obs]; rw [w6e, zom (by omega) (by omega)]
       congr 2
       conv => lhs; rw [show d.map (· + 240) = (d.take (d.length - 1)).map (· + 240) ++ [d.getD (d.length - 1) 0 + 240] from zvi (by omega)]
       have hl : ((d.take (d.length - 1)).map (· + 240)).length = d.length - 1 := by rw [lnm, lnt]; omega
       rw [List.set_append_right _ _ (by omega), hl, Nat.sub_self]; unfold z8f
       congr 1
       show [_] = [_]
       congr 1
       simp only [ctr]; omega
     · rw [dcf hneg, cfa, zvi (by omega)]
   · rw [dcf k2, cfa, ifn k2]; have lp : ∀ (l : List Int) (m : Nat), l.length = 2 * m → m ≤ 20 → (∀ d ∈ l, 0 ≤ d ∧ d < 16) → zl (zbe.r3 N) N (l, List.replicate m 0, 0) = some (l, zmo l, (m : Int)) := fun l m hl hm hr => by
      have := za1 (f := zbe.r3 N) (fun i => (l, zmo (l.take (2 * i)) ++ List.replicate (m - i) 0, (i : Int))) m
       (fun i hi => by
        obtain ⟨x, hx⟩ : ∃ x, l[2 * i]? = some x := zfh (by omega); obtain ⟨y, hy⟩ : ∃ y, l[2 * i + 1]? = some y := zfh (by omega); obtain ⟨x1, x2⟩ := hr x (lmg hx); obtain ⟨y1, y2⟩ := hr y (lmg hy); have hlt : (l.take (2 * i)).length = 2 * i := by rw [lnt]; omega
        have hpl := zuw i _ hlt; have hl2 : (zmo (l.take (2 * i)) ++ List.replicate (m - i) 0).length = m := by rw [lna, hpl, lnr]; omega
        have hd : List.replicate (m - i) (0 : Int) = 0 :: List.replicate (m - (i + 1)) 0 := by rw [show m - i = m - (i + 1) + 1 by omega, List.replicate_succ]
        have e1 : (zmo (l.take (2 * i)) ++ List.replicate (m - i) 0)[i]? = some 0 := by rw [List.getElem?_append_right (by omega), hpl, Nat.sub_self, hd]; rfl
        have e2 : (zmo (l.take (2 * i)) ++ List.replicate (m - i) 0).set i (16 * x + y) = zmo (l.take (2 * (i + 1))) ++ List.replicate (m - (i + 1)) 0 := by
         rw [List.set_append_right _ _ (by omega), hpl, Nat.sub_self, hd, show 2 * (i + 1) = 2 * i + 1 + 1 by omega, zel _ _ hy, zel _ _ hx, List.append_assoc, show ([x] ++ [y] : List Int) = [x, y] from rfl, zzq i _ _ _ hlt, List.append_assoc]; rfl
        simp only [zbe.r3, zbe.b3, hl2, dct (show (i : Int) < (m : Int) by omega), ctr]; rw [w6e (n := 2 * (i : Int)), w6e (n := 2 * (i : Int) + 1), ifp, ifp, show (2 * (i : Int)).toNat = 2 * i by omega, hx]; simp only [obs]; rw [ifp, ifp, show (2 * (i : Int) + 1).toNat = 2 * i + 1 by omega, hy]; simp only [obs]; rw [ifp, ifp, itn, e1]; simp only [obs]; rw [w6e (n := 16 * x), w6e (n := 16 * x + y), zom (by omega) (by omega), w6e, e2]; rfl)
       (by simp only [zbe.r3, zbe.b3]; rw [lna, zuw m _ (by rw [lnt]; omega), Nat.sub_self, lnr, Nat.add_zero, dcf (show ¬ (m : Int) < (m : Int) by omega), cfa]) (N := N) (by omega)
      simp only [Nat.mul_zero, List.take_zero, nc0, Nat.sub_zero, Nat.sub_self, List.replicate_zero, List.append_nil] at this; rw [show zmo [] = [] from rfl, List.nil_append, ← hl, List.take_length] at this; exact this
     have lpp := lp (zxs t n) _ hpac.1 (by omega) hpac.2; have hpl := hpac.1; rw [ziu, show decide (t.Length.tmod 2 = 0) = decide (t.Length % 2 = 0) by rw [tme]]; simp only [obs]; have hsg : w6 (15 - w6 (2 * cond (decide (n < 0)) 1 0)) = if n < 0 then 13 else 15 := by
      by_cases hneg : n < 0
      · rw [dct hneg, ifp hneg]; decide
      · rw [dcf hneg, ifn hneg]; decide
     rw [hsg]
     by_cases he : t.Length % 2 = 0
     · rw [ifp he] at epac; rw [dct he, ctr, zao (by simp only [lnc, ln0]; omega), ctr, ← epac, zao (by simp only [lna, lnc, ln0]; omega), ctr, tde, w6e, ifp, ifp, zao (by omega), ctr, show ((zxs t n).length : Int) / 2 = ((t.Length.toNat / 2 + 1 : Nat) : Int) by omega, itn, lpp]; rfl
     · rw [ifn he, List.nil_append] at epac; rw [dcf he, cfa, zao (by simp only [lnc, ln0]; omega), ctr, ← epac, tde, w6e, ifp, ifp, zao (by omega), ctr, show ((zxs t n).length : Int) / 2 = ((t.Length.toNat / 2 + 1 : Nat) : Int) by omega, itn, lpp]; rfl
end
end Go.Proofs.YtmifhmfokbigiaaGreatDoor.M
