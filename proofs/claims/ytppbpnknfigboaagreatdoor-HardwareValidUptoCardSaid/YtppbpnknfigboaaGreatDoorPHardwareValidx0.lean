/- The plain law of HardwareValid: part 0. -/
import Derived.Test.YtppbpnknfigboaaGreatDoorF1
import Derived.Test.YtppbpnknfigboaaGreatDoorA3
import Derived.Lib.Strings
namespace Go.Proofs.YtppbpnknfigboaaGreatDoor.M
open Go Go.Amx
set_option linter.unusedVariables false
set_option linter.unusedSimpArgs false
set_option maxRecDepth 100000
noncomputable section
theorem obs {α β : Type} (a : α) (f : α → Option β) : (some a).bind f = f a := rfl
theorem dct {p : Prop} [Decidable p] (h : p) : decide p = true := decide_eq_true h
theorem dcf {p : Prop} [Decidable p] (h : ¬ p) : decide p = false := decide_eq_false h
theorem lna {α : Type} {a b : List α} : (a ++ b).length = a.length + b.length := List.length_append
theorem lns {α : Type} {a : α} : [a].length = 1 := List.length_singleton
theorem lge {α : Type} {l : List α} {i : Nat} (h : i < l.length) : l[i]? = some l[i] := List.getElem?_eq_getElem h
theorem itn (n : Nat) : Int.toNat (n : Int) = n := Int.toNat_natCast n
theorem ctr {α : Sort _} (a b : α) : cond true a b = a := rfl
theorem cfa {α : Sort _} (a b : α) : cond false a b = b := rfl
theorem ifp {c : Prop} {h : Decidable c} (hc : c := by omega) {α : Sort _} {t e : α} : ite c t e = t := if_pos hc
theorem ifn {c : Prop} {h : Decidable c} (hc : ¬c := by omega) {α : Sort _} {t e : α} : ite c t e = e := if_neg hc
theorem bsf {α : Type _} [BEq α] [LawfulBEq α] (a : α) : (a != a) = false := bne_self_eq_false a
theorem tde {a b : Int} (h : 0 ≤ a := by omega) : a.tdiv b = a / b := Int.tdiv_eq_ediv_of_nonneg h
theorem tme {a b : Int} (h : 0 ≤ a := by omega) : a.tmod b = a % b := Int.tmod_eq_emod_of_nonneg h
theorem lnt {α : Type _} {i : Nat} {l : List α} : (l.take i).length = min i l.length := List.length_take
theorem lnr {α : Type _} {n : Nat} {a : α} : (List.replicate n a).length = n := List.length_replicate
theorem gdd {α : Type _} {l : List α} {i : Nat} {a : α} : l.getD i a = l[i]?.getD a := List.getD_eq_getElem?_getD
theorem cbc {p : Prop} (h : ¬p → False) : p := Classical.byContradiction h
theorem lnc {α : Type _} {a : α} {l : List α} : (a :: l).length = l.length + 1 := List.length_cons
theorem gei {α : Type _} {i : Nat} {a : α} {l : List α} (h : l[i]? = some a) : ∃ h : i < l.length, l[i] = a := List.getElem?_eq_some_iff.1 h
theorem eof {α β : Type _} {b : β} {f : α → Option β} {l : List α} (h : l.findSome? f = some b) : ∃ a, a ∈ l ∧ f a = some b := List.exists_of_findSome?_eq_some h
theorem ln0 {α : Type _} : ([] : List α).length = 0 := rfl
theorem lnm {α β : Type _} {l : List α} (f : α → β) : (l.map f).length = l.length := List.length_map f
theorem dr0 {α : Type _} {l : List α} : l.drop 0 = l := rfl
theorem bsa {a b : ByteArray} : (a ++ b).size = a.size + b.size := ByteArray.size_append
theorem bnt : (!true) = false := rfl
theorem mel {a b : Nat} (h : a < b) : a % b = a := Nat.mod_eq_of_lt h
theorem nc0 : ((0 : Nat) : Int) = 0 := Int.natCast_zero
theorem bst {α : Type _} [BEq α] [ReflBEq α] (a : α) : (a == a) = true := beq_self_eq_true a
theorem lmg {α : Type _} {l : List α} {i : Nat} {a : α} (h : l[i]? = some a) : a ∈ l := List.mem_of_getElem? h
theorem w6e {n : Int} (h1 : -9223372036854775808 ≤ n := by omega) (h2 : n ≤ 9223372036854775807 := by omega) : w6 n = n := zade h1 h2
def z4y (a0 : zI) (a1 : zF) : Option zA :=
 if 0 ≤ a0.Registers then (if a0.Registers ≤ a0.Registers then (cond (Nat.ble (a0.Registers.toNat * 16) zac) ((zdw a1.Storage).bind fun r1 =>
  some (⟨(List.replicate a0.Registers.toNat ((⟨0, 0⟩ : Number) : Number)), 0, r1, 0, [], [], 0, 0, 0, 0⟩ : zA)) none) else none) else none
def zj9 (a0 : Int) : Option Int :=
 some (if (w6 (0 - a0)) > a0 then (w6 (0 - a0)) else a0)
def zd2.b0 (N : Nat) (s0 : List Int) : Option (Stp (List Int)) :=
 (cond (decide ((s0.length : Int) > 0)) ((idx s0 (w6 ((s0.length : Int) - 1))).bind fun x1001 => some (x1001 == 0)) (some false)).bind fun g1002 =>
  cond g1002 (if 0 ≤ (w6 ((s0.length : Int) - 1)) ∧ (w6 ((s0.length : Int) - 1)) ≤ (s0.length : Int) then (if 0 ≤ (0 : Int) ∧ (0 : Int) ≤ (w6 ((s0.length : Int) - 1)) then (some (.again ((s0.take (w6 ((s0.length : Int) - 1)).toNat).drop (0 : Int).toNat))) else none) else none)
  (some (.leave s0))
def zd2.r0 (N : Nat) (x : (List Int)) := zd2.b0 N x
def zd2 (N : Nat) (a0 : List Int) : Option ((List Int)) :=
 (zq (zd2.r0 N) N a0).bind fun y1 => some y1
def zep.b0 (N : Nat) (s0 : Int) (s5 : List Int) (s6 : Int) (b4 : zJ) : Option (Stp (Int × (List Int) × Int × zJ)) :=
 cond (decide (s6 > 0)) (cond (Nat.ble ((s5.length + ([(s6.tmod 10)] : List Int).length) * 8) zac)
  (some (.again (s0, (s5 ++ ([(s6.tmod 10)] : List Int)), (w6 (s6.tdiv 10)), b4))) none) (some (.leave (s0, s5, s6, b4)))
def zep.r0 (N : Nat) (x : Int × (List Int) × Int × zJ) := zep.b0 N x.1 x.2.1 x.2.2.1 x.2.2.2
def zep (N : Nat) (a0 : Int) (a1 : Int) : Option zJ :=
 if 0 ≤ a1 then (if a1 ≤ a1 then (cond (Nat.ble (a1.toNat * 8) zac) ((zj9 a0).bind fun r1 =>
  (zq (zep.r0 N) N (a0, (List.replicate a1.toNat (0 : Int)), r1, (⟨false, []⟩ : zJ))).bind fun y2 => (zd2 N y2.2.1).bind fun r3 =>
  some (⟨(decide (y2.1 < 0)), r3⟩ : zJ)) none) else none) else none
def zmq (N : Nat) (a0 : Number) (a1 : Number) : Option (zJ × zJ × Int) :=
 (zep N a0.N (w6 ((if a1.Scale > a0.Scale then a1.Scale else a0.Scale) - a0.Scale))).bind fun r1 =>
  (zep N a1.N (w6 ((if a1.Scale > a0.Scale then a1.Scale else a0.Scale) - a1.Scale))).bind fun r2 =>
  some (r1, r2, (if a1.Scale > a0.Scale then a1.Scale else a0.Scale))
def ze1.b0 (N : Nat) (s0 : List Int) (s1 : List Int) (s5 : List Int) (s6 : Int) (s7 : Int) : Option (Stp ((List Int) × (List Int) × (List Int) × Int × Int)) :=
 (cond (decide (s7 < (s0.length : Int))) (some true) (some (decide (s7 < (s1.length : Int))))).bind fun g1001 => (cond g1001 (some true) (some (decide (s6 > 0)))).bind fun g1002 =>
  cond g1002 (cond (decide (s7 < (s0.length : Int))) ((idx s0 s7).bind fun x1003 => cond (decide (s7 < (s1.length : Int))) ((idx s1 s7).bind fun x1004 =>
  cond (Nat.ble ((s5.length + ([((w6 ((w6 (s6 + x1003)) + x1004)).tmod 10)] : List Int).length) * 8) zac)
  (some (.again (s0, s1, (s5 ++ ([((w6 ((w6 (s6 + x1003)) + x1004)).tmod 10)] : List Int)), (w6 ((w6 ((w6 (s6 + x1003)) + x1004)).tdiv 10)), (w6 (s7 + 1))))) none)
  (cond (Nat.ble ((s5.length + ([((w6 (s6 + x1003)).tmod 10)] : List Int).length) * 8) zac)
  (some (.again (s0, s1, (s5 ++ ([((w6 (s6 + x1003)).tmod 10)] : List Int)), (w6 ((w6 (s6 + x1003)).tdiv 10)), (w6 (s7 + 1))))) none))
  (cond (decide (s7 < (s1.length : Int))) ((idx s1 s7).bind fun x1005 => cond (Nat.ble ((s5.length + ([((w6 (s6 + x1005)).tmod 10)] : List Int).length) * 8) zac)
  (some (.again (s0, s1, (s5 ++ ([((w6 (s6 + x1005)).tmod 10)] : List Int)), (w6 ((w6 (s6 + x1005)).tdiv 10)), (w6 (s7 + 1))))) none)
  (cond (Nat.ble ((s5.length + ([(s6.tmod 10)] : List Int).length) * 8) zac)
  (some (.again (s0, s1, (s5 ++ ([(s6.tmod 10)] : List Int)), (w6 (s6.tdiv 10)), (w6 (s7 + 1))))) none))) (some (.leave (s0, s1, s5, s6, s7)))
def ze1.r0 (N : Nat) (x : (List Int) × (List Int) × (List Int) × Int × Int) := ze1.b0 N x.1 x.2.1 x.2.2.1 x.2.2.2.1 x.2.2.2.2
def ze1 (N : Nat) (a0 : List Int) (a1 : List Int) : Option ((List Int)) :=
 (zq (ze1.r0 N) N (a0, a1, [], 0, 0)).bind fun y1 => some y1.2.2.1
def zfj.b0 (N : Nat) (s0 : List Int) (s1 : List Int) (s5 : Int) : Option (Round Int ((List Int) × (List Int) × Int)) :=
 cond (decide (s5 ≥ 0)) ((idx s0 s5).bind fun x1001 => (idx s1 s5).bind fun x1002 => cond (x1001 != x1002) ((idx s0 s5).bind fun x1003 => (idx s1 s5).bind fun x1004 =>
  (zbo (decide (x1003 > x1004))).bind fun r1005 => some (.result (w6 ((w6 (2 * r1005)) - 1))))
  (some (.again (s0, s1, (w6 (s5 - 1)))))) (some (.leave (s0, s1, s5)))
def zfj.r0 (N : Nat) (x : (List Int) × (List Int) × Int) := zfj.b0 N x.1 x.2.1 x.2.2
def zfj (N : Nat) (a0 : List Int) (a1 : List Int) : Option Int :=
 cond ((a0.length : Int) != (a1.length : Int)) ((zbo (decide ((a0.length : Int) > (a1.length : Int)))).bind fun r1 =>
  some (w6 ((w6 (2 * r1)) - 1))) ((zn (zfj.r0 N) N (a0, a1, (w6 ((a0.length : Int) - 1)))).bind fun z3 => zb3 z3 (fun z =>
  some z) (fun y2 => some 0))
def zfk.b0 (N : Nat) (s0 : List Int) (s1 : List Int) (s5 : List Int) (s6 : Int) (s7 : Int) : Option (Stp ((List Int) × (List Int) × (List Int) × Int × Int)) :=
 cond (decide (s7 < (s0.length : Int))) ((idx s0 s7).bind fun x1001 => cond (decide (s7 < (s1.length : Int))) ((idx s1 s7).bind fun x1002 =>
  (zbo (decide ((w6 ((w6 (x1001 - s6)) - x1002)) < 0))).bind fun r1003 =>
  cond (Nat.ble ((s5.length + ([(w6 ((w6 ((w6 (x1001 - s6)) - x1002)) + (w6 (10 * r1003))))] : List Int).length) * 8) zac)
  (some (.again (s0, s1, (s5 ++ ([(w6 ((w6 ((w6 (x1001 - s6)) - x1002)) + (w6 (10 * r1003))))] : List Int)), r1003, (w6 (s7 + 1))))) none)
  ((zbo (decide ((w6 (x1001 - s6)) < 0))).bind fun r1004 =>
  cond (Nat.ble ((s5.length + ([(w6 ((w6 (x1001 - s6)) + (w6 (10 * r1004))))] : List Int).length) * 8) zac)
  (some (.again (s0, s1, (s5 ++ ([(w6 ((w6 (x1001 - s6)) + (w6 (10 * r1004))))] : List Int)), r1004, (w6 (s7 + 1))))) none))
  (some (.leave (s0, s1, s5, s6, s7)))
def zfk.r0 (N : Nat) (x : (List Int) × (List Int) × (List Int) × Int × Int) := zfk.b0 N x.1 x.2.1 x.2.2.1 x.2.2.2.1 x.2.2.2.2
def zfk (N : Nat) (a0 : List Int) (a1 : List Int) : Option ((List Int)) :=
 (zq (zfk.r0 N) N (a0, a1, [], 0, 0)).bind fun y1 => (zd2 N y1.2.2.1).bind fun r2 => some r2
def zpk (N : Nat) (a0 : zJ) (a1 : zJ) : Option zJ :=
 cond (a0.Below == a1.Below) ((ze1 N a0.zU a1.zU).bind fun r1 => some (⟨a0.Below, r1⟩ : zJ)) ((zfj N a0.zU a1.zU).bind fun r2 =>
  cond (decide (r2 < 0)) ((zfk N a1.zU a0.zU).bind fun r3 => (cond a1.Below (some (decide ((r3.length : Int) > 0))) (some false)).bind fun g4 =>
  some (⟨g4, r3⟩ : zJ)) ((zfk N a0.zU a1.zU).bind fun r5 => (cond a0.Below (some (decide ((r5.length : Int) > 0))) (some false)).bind fun g6 =>
  some (⟨g6, r5⟩ : zJ)))
def zk2 (N : Nat) (a0 : Number) (a1 : Number) : Option Int :=
 (zmq N a0 a1).bind fun r1 => (zpk N r1.1 (⟨(!r1.2.1.Below), r1.2.1.zU⟩ : zJ)).bind fun r2 => cond ((r2.zU.length : Int) == 0) (some 0)
  ((zbo r2.Below).bind fun r3 => some (w6 (1 - (w6 (2 * r3)))))
def zgu (a0 : Int) : Option Int :=
 cond (decide (a0 < 0)) (some 1) (cond (a0 == 0) (some 2) (some 4))
def zfr.b0 (N : Nat) (s0 : Int) (s3 : Int) (s4 : Int) : Option (Stp (Int × Int × Int)) :=
 cond (decide (s4 < s0)) (some (.again (s0, (w6 (s3 * 10)), (w6 (s4 + 1))))) (some (.leave (s0, s3, s4)))
def zfr.r0 (N : Nat) (x : Int × Int × Int) := zfr.b0 N x.1 x.2.1 x.2.2
def zfr (N : Nat) (a0 : Int) : Option Int :=
 (zq (zfr.r0 N) N (a0, 1, 0)).bind fun y1 => some y1.2.1
def zjq (N : Nat) (a0 : Number) : Option Int :=
 (zfr N a0.Scale).bind fun r1 => if r1 = 0 then none else some (w6 ((a0.N : Int).tdiv r1))
def zla : Nat → Int → Option ByteArray
 | 0, _ => none
 | N + 1, a0 =>
 cond (decide (a0 < (-9))) ((zla N (w6 (0 - (w6 (a0.tdiv 10))))).bind fun r1 =>
  if (((⟨#[45]⟩ : ByteArray).size + r1.size : Nat) : Int) > IntKind.i64.max then none else (zla N (w6 (0 - (a0.tmod 10)))).bind fun r2 =>
  if ((((⟨#[45]⟩ : ByteArray) ++ r1).size + r2.size : Nat) : Int) > IntKind.i64.max then none else some (((⟨#[45]⟩ : ByteArray) ++ r1) ++ r2)) (cond (decide (a0 < 0))
  ((zla N (w6 (0 - a0))).bind fun r3 =>
  if (((⟨#[45]⟩ : ByteArray).size + r3.size : Nat) : Int) > IntKind.i64.max then none else some ((⟨#[45]⟩ : ByteArray) ++ r3)) (cond (decide (a0 < 10))
  (some (zc2 ([(IntKind.wrap .u8 (w6 (48 + a0)))] : List Int))) ((zla N (w6 (a0.tdiv 10))).bind fun r4 =>
  if ((r4.size + (zc2 ([(IntKind.wrap .u8 (w6 (48 + (a0.tmod 10))))] : List Int)).size : Nat) : Int) > IntKind.i64.max then none else some (r4 ++ (zc2 ([(IntKind.wrap .u8 (w6 (48 + (a0.tmod 10))))] : List Int))))))
def zfo.b0 (N : Nat) (s3 : ByteArray) (b1 : Number) : Option (Stp (ByteArray × Number)) :=
 cond (decide ((s3.size : Int) ≤ b1.Scale))
  (if (((⟨#[48]⟩ : ByteArray).size + s3.size : Nat) : Int) > IntKind.i64.max then none else some (.again (((⟨#[48]⟩ : ByteArray) ++ s3), b1))) (some (.leave (s3, b1)))
def zfo.r0 (N : Nat) (x : ByteArray × Number) := zfo.b0 N x.1 x.2
def zfo (N : Nat) (a0 : Number) : Option ByteArray :=
 (zj9 a0.N).bind fun r1 => (zla N r1).bind fun r2 => (zq (zfo.r0 N) N (r2, a0)).bind fun y3 => cond (decide (y3.2.Scale > 0))
  (if 0 ≤ (w6 ((y3.1.size : Int) - y3.2.Scale)) ∧ (w6 ((y3.1.size : Int) - y3.2.Scale)) ≤ (y3.1.size : Int) then (if 0 ≤ (0 : Int) ∧ (0 : Int) ≤ (w6 ((y3.1.size : Int) - y3.2.Scale)) then (if (((y3.1.extract (0 : Int).toNat (w6 ((y3.1.size : Int) - y3.2.Scale)).toNat).size + (⟨#[46]⟩ : ByteArray).size : Nat) : Int) > IntKind.i64.max then none else if 0 ≤ (w6 ((y3.1.size : Int) - y3.2.Scale)) ∧ (w6 ((y3.1.size : Int) - y3.2.Scale)) ≤ (y3.1.size : Int) then (if ((((y3.1.extract (0 : Int).toNat (w6 ((y3.1.size : Int) - y3.2.Scale)).toNat) ++ (⟨#[46]⟩ : ByteArray)).size + (y3.1.extract (w6 ((y3.1.size : Int) - y3.2.Scale)).toNat y3.1.size).size : Nat) : Int) > IntKind.i64.max then none else cond (decide (y3.2.N < 0))
  (if (((⟨#[45]⟩ : ByteArray).size + (((y3.1.extract (0 : Int).toNat (w6 ((y3.1.size : Int) - y3.2.Scale)).toNat) ++ (⟨#[46]⟩ : ByteArray)) ++ (y3.1.extract (w6 ((y3.1.size : Int) - y3.2.Scale)).toNat y3.1.size)).size : Nat) : Int) > IntKind.i64.max then none else some ((⟨#[45]⟩ : ByteArray) ++ (((y3.1.extract (0 : Int).toNat (w6 ((y3.1.size : Int) - y3.2.Scale)).toNat) ++ (⟨#[46]⟩ : ByteArray)) ++ (y3.1.extract (w6 ((y3.1.size : Int) - y3.2.Scale)).toNat y3.1.size))))
  (some (((y3.1.extract (0 : Int).toNat (w6 ((y3.1.size : Int) - y3.2.Scale)).toNat) ++ (⟨#[46]⟩ : ByteArray)) ++ (y3.1.extract (w6 ((y3.1.size : Int) - y3.2.Scale)).toNat y3.1.size)))) else none) else none) else none)
  (cond (decide (y3.2.N < 0)) (if (((⟨#[45]⟩ : ByteArray).size + y3.1.size : Nat) : Int) > IntKind.i64.max then none else some ((⟨#[45]⟩ : ByteArray) ++ y3.1)) (some y3.1))
def zie (N : Nat) (a0 : Storage) (a1 : Int) : Option (Pointer × Int) :=
 (zen a0 a1).bind fun r1 => cond (!r1) (some ((⟨0, (⟨0, 0⟩ : Address), 0⟩ : Pointer), 3)) ((idx a0.Tags (w6 (a1.tdiv 16))).bind fun x2 => cond (!x2)
  (some ((⟨0, (⟨0, 0⟩ : Address), 0⟩ : Pointer), 22)) ((zkq a0 (w6 (a1.tdiv 16))).bind fun r3 => (zmy N r3).bind fun r4 => some (r4.1, 0)))
def zc3 (N : Nat) (a0 : zA) (a1 : zO) (a2 : Int) : Option (Int × Int) :=
 cond (!a1.Based) (some (a1.Offset, 0)) ((zie N a0.Storage a1.Pointer).bind fun r1 => cond (r1.2 != 0) (some (0, 4))
  ((zh6 a0.Storage (w6 (r1.1.Address.Offset + a1.Offset)) a2).bind fun r2 => cond (!r2) (some (0, 5))
  (some ((w6 (r1.1.Address.Offset + a1.Offset)), 0))))
def ze0 (N : Nat) (a0 : zA) (a1 : zO) (a2 : DataType) : Option (ByteArray × Int) :=
 (zbi a2).bind fun r1 => (zc3 N a0 a1 r1).bind fun r2 => cond (r2.2 != 0) (some ((⟨#[]⟩ : ByteArray), r2.2)) ((zbi a2).bind fun r3 =>
  if 0 ≤ (w6 (r2.1 + r3)) ∧ (w6 (r2.1 + r3)) ≤ (a0.Storage.Bytes.size : Int) then (if 0 ≤ r2.1 ∧ r2.1 ≤ (w6 (r2.1 + r3)) then (some ((a0.Storage.Bytes.extract r2.1.toNat (w6 (r2.1 + r3)).toNat), 0)) else none) else none)
def z1f (N : Nat) (a0 : zA) (a1 : zB) : Option (Int × zA) :=
 cond (a1.Op == 22) (if 0 ≤ a1.R then (if a1.R < (a0.Registers.length : Int) then ((a0.Registers[a1.R.toNat]?).bind fun x1 => (zfo N x1).bind fun r2 =>
  cond ((a0.Lines.length : Int) == 40) (some (0, (⟨a0.Registers, a0.Condition, a0.Storage, a0.At, a0.Stack, a0.Lines, 3, a0.Exception, a0.Marks, a0.Steps⟩ : zA)))
  (cond (Nat.ble ((a0.Lines.length + ([r2] : List ByteArray).length) * 16) zac)
  (some (0, (⟨a0.Registers, a0.Condition, a0.Storage, a0.At, a0.Stack, (a0.Lines ++ ([r2] : List ByteArray)), a0.Status, a0.Exception, a0.Marks, a0.Steps⟩ : zA))) none)) else none) else none)
  (cond (a1.Op == 23) ((ze0 N a0 a1.Place a1.zG).bind fun r3 => cond (r3.2 != 0) (some (r3.2, a0)) (cond ((a0.Lines.length : Int) == 40)
  (some (0, (⟨a0.Registers, a0.Condition, a0.Storage, a0.At, a0.Stack, a0.Lines, 3, a0.Exception, a0.Marks, a0.Steps⟩ : zA)))
  (cond (Nat.ble ((a0.Lines.length + ([r3.1] : List ByteArray).length) * 16) zac)
  (some (0, (⟨a0.Registers, a0.Condition, a0.Storage, a0.At, a0.Stack, (a0.Lines ++ ([r3.1] : List ByteArray)), a0.Status, a0.Exception, a0.Marks, a0.Steps⟩ : zA))) none)))
  (cond ((a0.Lines.length : Int) == 40) (some (0, (⟨a0.Registers, a0.Condition, a0.Storage, a0.At, a0.Stack, a0.Lines, 3, a0.Exception, a0.Marks, a0.Steps⟩ : zA)))
  (cond (Nat.ble ((a0.Lines.length + ([a1.Text] : List ByteArray).length) * 16) zac)
  (some (0, (⟨a0.Registers, a0.Condition, a0.Storage, a0.At, a0.Stack, (a0.Lines ++ ([a1.Text] : List ByteArray)), a0.Status, a0.Exception, a0.Marks, a0.Steps⟩ : zA))) none)))
def zbc.b0 (N : Nat) (s0 : Int) (s1 : Int) (s5 : List Int) (s6 : Int) : Option (Stp (Int × Int × (List Int) × Int)) :=
 cond (decide (s6 < s1))
  (if 0 ≤ (w6 ((w6 (s1 - 1)) - s6)) then (if (w6 ((w6 (s1 - 1)) - s6)) < (s5.length : Int) then ((s5[(w6 ((w6 (s1 - 1)) - s6)).toNat]?).bind fun x1001 =>
  some (.again ((w6 (s0.tdiv 256)), s1, (s5.set ((w6 ((w6 (s1 - 1)) - s6)).toNat)
  (IntKind.wrap .u8 (s0.tmod 256))), (w6 (s6 + 1))))) else none) else none) (some (.leave (s0, s1, s5, s6)))
def zbc.r0 (N : Nat) (x : Int × Int × (List Int) × Int) := zbc.b0 N x.1 x.2.1 x.2.2.1 x.2.2.2
def zbc (N : Nat) (a0 : Int) (a1 : Int) : Option ByteArray :=
 if 0 ≤ a1 then (if a1 ≤ a1 then (cond (Nat.ble (a1.toNat * 1) zac) ((zq (zbc.r0 N) N (a0, a1, (List.replicate a1.toNat (0 : Int)), 0)).bind fun y1 =>
  some (zc2 y1.2.2.1)) none) else none) else none
def zse (N : Nat) (a0 : Pointer) : Option ByteArray :=
 (zbc N a0.Kind 1).bind fun r1 => if ((r1.size + (⟨#[0]⟩ : ByteArray).size : Nat) : Int) > IntKind.i64.max then none else (zbc N a0.Authority 2).bind fun r2 =>
  if (((r1 ++ (⟨#[0]⟩ : ByteArray)).size + r2.size : Nat) : Int) > IntKind.i64.max then none else (zbc N a0.Address.zY 6).bind fun r3 =>
  if ((((r1 ++ (⟨#[0]⟩ : ByteArray)) ++ r2).size + r3.size : Nat) : Int) > IntKind.i64.max then none else (zbc N a0.Address.Offset 6).bind fun r4 =>
  if (((((r1 ++ (⟨#[0]⟩ : ByteArray)) ++ r2) ++ r3).size + r4.size : Nat) : Int) > IntKind.i64.max then none else some ((((r1 ++ (⟨#[0]⟩ : ByteArray)) ++ r2) ++ r3) ++ r4)
def zv4 (a0 : ByteArray) (a1 : Int) (a2 : ByteArray) : Option ByteArray :=
 if 0 ≤ a1 ∧ a1 ≤ (a0.size : Int) then (if 0 ≤ (0 : Int) ∧ (0 : Int) ≤ a1 then (if (((a0.extract (0 : Int).toNat a1.toNat).size + a2.size : Nat) : Int) > IntKind.i64.max then none else if 0 ≤ (w6 (a1 + (a2.size : Int))) ∧ (w6 (a1 + (a2.size : Int))) ≤ (a0.size : Int) then (if ((((a0.extract (0 : Int).toNat a1.toNat) ++ a2).size + (a0.extract (w6 (a1 + (a2.size : Int))).toNat a0.size).size : Nat) : Int) > IntKind.i64.max then none else some (((a0.extract (0 : Int).toNat a1.toNat) ++ a2) ++ (a0.extract (w6 (a1 + (a2.size : Int))).toNat a0.size))) else none) else none) else none
def zb8.b0 (N : Nat) (s1 : Int) (s2 : ByteArray) (s8 : Int) (b6 : Storage) (b7 : Storage) : Option (Stp (Int × ByteArray × Int × Storage × Storage)) :=
 cond (decide (s8 < (s2.size : Int)))
  (if 0 ≤ (w6 ((w6 (s1 + s8)).tdiv 16)) then (if (w6 ((w6 (s1 + s8)).tdiv 16)) < (b7.Tags.length : Int) then ((b7.Tags[(w6 ((w6 (s1 + s8)).tdiv 16)).toNat]?).bind fun x1001 =>
  some (.again (s1, s2, (w6 (s8 + 1)), b6, (⟨b7.Bytes, (b7.Tags.set ((w6 ((w6 (s1 + s8)).tdiv 16)).toNat) false)⟩ : Storage)))) else none) else none)
  (some (.leave (s1, s2, s8, b6, b7)))
def zb8.r0 (N : Nat) (x : Int × ByteArray × Int × Storage × Storage) := zb8.b0 N x.1 x.2.1 x.2.2.1 x.2.2.2.1 x.2.2.2.2
def zb8 (N : Nat) (a0 : Storage) (a1 : Int) (a2 : ByteArray) : Option Storage :=
 (zdw a0).bind fun r1 => (zv4 a0.Bytes a1 a2).bind fun r2 =>
  (zq (zb8.r0 N) N (a1, a2, 0, (⟨(⟨#[]⟩ : ByteArray), []⟩ : Storage), (⟨r2, r1.Tags⟩ : Storage))).bind fun y3 => some y3.2.2.2.2
def zgr (N : Nat) (a0 : Storage) (a1 : Int) (a2 : Pointer) : Option Storage :=
 (zse N a2).bind fun r1 => (zb8 N a0 a1 r1).bind fun r2 =>
  if 0 ≤ (w6 (a1.tdiv 16)) then (if (w6 (a1.tdiv 16)) < (r2.Tags.length : Int) then ((r2.Tags[(w6 (a1.tdiv 16)).toNat]?).bind fun x3 =>
  some (⟨r2.Bytes, (r2.Tags.set ((w6 (a1.tdiv 16)).toNat) true)⟩ : Storage)) else none) else none
def z1g (N : Nat) (a0 : zA) (a1 : zB) : Option (Int × zA) :=
 cond (a1.Op == 14) ((zbi a1.zG).bind fun r1 => (zc3 N a0 a1.Place r1).bind fun r2 => cond (r2.2 != 0) (some (r2.2, a0))
  ((zgr N a0.Storage a1.Pointer (⟨0, (⟨1, r2.1⟩ : Address), 0⟩ : Pointer)).bind fun r3 =>
  some (0, (⟨a0.Registers, a0.Condition, r3, a0.At, a0.Stack, a0.Lines, a0.Status, a0.Exception, a0.Marks, a0.Steps⟩ : zA)))) (cond (a1.Op == 15)
  ((zie N a0.Storage a1.Source).bind fun r4 => cond (r4.2 != 0) (some (4, a0)) (cond (a1.Op == 15) ((zgr N a0.Storage a1.Pointer r4.1).bind fun r5 =>
  some (0, (⟨a0.Registers, a0.Condition, r5, a0.At, a0.Stack, a0.Lines, a0.Status, a0.Exception, a0.Marks, a0.Steps⟩ : zA))) (cond (a1.Op == 16)
  (if 0 ≤ a1.R then (if a1.R < (a0.Registers.length : Int) then ((a0.Registers[a1.R.toNat]?).bind fun x6 => (zjq N x6).bind fun r7 =>
  (zg (w6 (r4.1.Address.Offset + r7)) 0 16777215).bind fun r8 => cond (!r8) (some (5, a0))
  ((zgr N a0.Storage a1.Pointer (⟨r4.1.Kind, (⟨r4.1.Address.zY, (w6 (r4.1.Address.Offset + r7))⟩ : Address), r4.1.Authority⟩ : Pointer)).bind fun r9 =>
  some (0, (⟨a0.Registers, a0.Condition, r9, a0.At, a0.Stack, a0.Lines, a0.Status, a0.Exception, a0.Marks, a0.Steps⟩ : zA)))) else none) else none) (some (0, a0)))))
  ((zie N a0.Storage a1.Pointer).bind fun r10 => cond (r10.2 != 0) (some (4, a0)) (cond (a1.Op == 15) ((zgr N a0.Storage a1.Pointer r10.1).bind fun r11 =>
  some (0, (⟨a0.Registers, a0.Condition, r11, a0.At, a0.Stack, a0.Lines, a0.Status, a0.Exception, a0.Marks, a0.Steps⟩ : zA))) (cond (a1.Op == 16)
  (if 0 ≤ a1.R then (if a1.R < (a0.Registers.length : Int) then ((a0.Registers[a1.R.toNat]?).bind fun x12 => (zjq N x12).bind fun r13 =>
  (zg (w6 (r10.1.Address.Offset + r13)) 0 16777215).bind fun r14 => cond (!r14) (some (5, a0))
  ((zgr N a0.Storage a1.Pointer (⟨r10.1.Kind, (⟨r10.1.Address.zY, (w6 (r10.1.Address.Offset + r13))⟩ : Address), r10.1.Authority⟩ : Pointer)).bind fun r15 =>
  some (0, (⟨a0.Registers, a0.Condition, r15, a0.At, a0.Stack, a0.Lines, a0.Status, a0.Exception, a0.Marks, a0.Steps⟩ : zA)))) else none) else none) (some (0, a0))))))
def zgb (N : Nat) (a0 : ByteArray) (a1 : Int) : Option ByteArray :=
 cond (decide ((a0.size : Int) ≥ a1))
  (if 0 ≤ a1 ∧ a1 ≤ (a0.size : Int) then (if 0 ≤ (0 : Int) ∧ (0 : Int) ≤ a1 then (some (a0.extract (0 : Int).toNat a1.toNat)) else none) else none)
  ((zc0 N 32 (w6 (a1 - (a0.size : Int)))).bind fun r1 => if ((a0.size + r1.size : Nat) : Int) > IntKind.i64.max then none else some (a0 ++ r1))
def zil (N : Nat) (a0 : ByteArray) (a1 : ByteArray) : Option Int :=
 (zgb N a0 (if (a1.size : Int) > (a0.size : Int) then (a1.size : Int) else (a0.size : Int))).bind fun r1 =>
  (zgb N a1 (if (a1.size : Int) > (a0.size : Int) then (a1.size : Int) else (a0.size : Int))).bind fun r2 =>
  (zbo (!((Op.bytesLess r1.toList r2.toList) || (r1.toList == r2.toList)))).bind fun r3 => (zbo (Op.bytesLess r1.toList r2.toList)).bind fun r4 =>
  (zgu (w6 (r3 - r4))).bind fun r5 => some r5
def zz3 (N : Nat) (a0 : zA) (a1 : zB) : Option (Int × zA) :=
 (zbi a1.zG).bind fun r1 => cond (a1.Op == 13) ((zil N a1.Text a1.Other).bind fun r2 =>
  some (0, (⟨a0.Registers, r2, a0.Storage, a0.At, a0.Stack, a0.Lines, a0.Status, a0.Exception, a0.Marks, a0.Steps⟩ : zA))) (cond (a1.Op == 12)
  ((ze0 N a0 a1.Place a1.zG).bind fun r3 => cond (r3.2 != 0) (some (r3.2, a0)) ((zil N r3.1 a1.Text).bind fun r4 =>
  some (0, (⟨a0.Registers, r4, a0.Storage, a0.At, a0.Stack, a0.Lines, a0.Status, a0.Exception, a0.Marks, a0.Steps⟩ : zA)))) (cond (a1.Op == 11)
  ((ze0 N a0 a1.Place a1.zG).bind fun r5 => cond (r5.2 != 0) (some (r5.2, a0)) ((ze0 N a0 a1.From a1.Second).bind fun r6 => cond (r6.2 != 0) (some (r6.2, a0))
  ((zil N r5.1 r6.1).bind fun r7 => some (0, (⟨a0.Registers, r7, a0.Storage, a0.At, a0.Stack, a0.Lines, a0.Status, a0.Exception, a0.Marks, a0.Steps⟩ : zA)))))
  (cond (a1.Op == 9) ((ze0 N a0 a1.From a1.Second).bind fun r8 => cond (r8.2 != 0) (some (r8.2, a0)) ((zc3 N a0 a1.Place r1).bind fun r9 => cond (r9.2 != 0)
  (some (r9.2, a0)) ((zgb N r8.1 r1).bind fun r10 => (zb8 N a0.Storage r9.1 r10).bind fun r11 =>
  some (0, (⟨a0.Registers, a0.Condition, r11, a0.At, a0.Stack, a0.Lines, a0.Status, a0.Exception, a0.Marks, a0.Steps⟩ : zA)))))
  ((zc3 N a0 a1.Place r1).bind fun r12 => cond (r12.2 != 0) (some (r12.2, a0)) ((zgb N a1.Text r1).bind fun r13 =>
  (zb8 N a0.Storage r12.1 r13).bind fun r14 =>
  some (0, (⟨a0.Registers, a0.Condition, r14, a0.At, a0.Stack, a0.Lines, a0.Status, a0.Exception, a0.Marks, a0.Steps⟩ : zA)))))))
def znu (N : Nat) (a0 : DataType) : Option Int :=
 (zfr N a0.Length).bind fun r1 => some (w6 (r1 - 1))
def zi5 (a0 : Int) (a1 : Int) : Option (Int × Bool) :=
 (cond (a1 == 11) (some true) (some (a1 == 13))).bind fun g1 => cond g1 (some ((w6 (0 - a0)), (decide (a1 ≥ 10)))) (some (a0, (decide (a1 ≥ 10))))
def zcf.b0 (N : Nat) (s0 : ByteArray) (s5 : Int) (s6 : Int) (s7 : Int) (b2 : Value) : Option (Round (Value × Int × Int) (ByteArray × Int × Int × Int × Value)) :=
 cond (decide (s7 < (s0.size : Int))) (cond (s7 == (w6 ((s0.size : Int) - 1))) ((zgw s0 s7).bind fun x1001 =>
  (cond (decide ((w6 ((w6 (x1001.toNat : Int)).tdiv 16)) < 10)) (some true) ((zgw s0 s7).bind fun x1002 =>
  some (decide (((x1002.toNat : Int).tmod 16) > 9)))).bind fun g1003 => cond g1003 (some (.result ((⟨0, (⟨#[]⟩ : ByteArray)⟩ : Value), s7, 21))) ((zgw s0 s7).bind fun x1004 =>
  some (.again (s0, (w6 ((w6 (10 * s5)) + ((w6 (x1004.toNat : Int)).tmod 16))), (w6 ((w6 (x1001.toNat : Int)).tdiv 16)), (w6 (s7 + 1)), b2))))
  ((cond (decide (s6 < 10)) (some true) ((zgw s0 s7).bind fun x1005 => some (decide (((x1005.toNat : Int).tmod 16) > 9)))).bind fun g1006 =>
  cond g1006 (some (.result ((⟨0, (⟨#[]⟩ : ByteArray)⟩ : Value), s7, 21))) ((zgw s0 s7).bind fun x1007 =>
  some (.again (s0, (w6 ((w6 (10 * s5)) + ((w6 (x1007.toNat : Int)).tmod 16))), s6, (w6 (s7 + 1)), b2)))))
  (some (.leave (s0, s5, s6, s7, b2)))
def zcf.r0 (N : Nat) (x : ByteArray × Int × Int × Int × Value) := zcf.b0 N x.1 x.2.1 x.2.2.1 x.2.2.2.1 x.2.2.2.2
def zcf (N : Nat) (a0 : ByteArray) : Option (Value × Int × Int) :=
 (zn (zcf.r0 N) N (a0, 0, 15, 0, (⟨0, (⟨#[]⟩ : ByteArray)⟩ : Value))).bind fun z2 => zb3 z2 (fun z => some z) (fun y1 =>
  (zi5 y1.2.1 y1.2.2.1).bind fun r3 => some ((⟨r3.1, (⟨#[]⟩ : ByteArray)⟩ : Value), 0, 0))
def zb7.b0 (N : Nat) (s1 : ByteArray) (s7 : Int) (s8 : Int) (b2 : DataType) (b4 : Value) : Option (Round (Value × Int × Int) (ByteArray × Int × Int × DataType × Value)) :=
 cond (decide (s8 < (w6 (2 * (s1.size : Int))))) ((zgw s1 (w6 (s8.tdiv 2))).bind fun x1001 => cond ((s8.tmod 2) == 1)
  ((zgw s1 (w6 (s8.tdiv 2))).bind fun x1002 => cond (s8 == (w6 ((w6 (2 * (s1.size : Int))) - 1)))
  ((cond (decide (((w6 (x1002.toNat : Int)).tmod 16) < 10)) (some true) ((cond (s8 == 0) (some ((b2.Length.tmod 2) == 0)) (some false)).bind fun g1003 =>
  (cond g1003 (some (((w6 (x1002.toNat : Int)).tmod 16) != 0)) (some false)).bind fun g1004 => some g1004)).bind fun g1005 =>
  cond g1005 (some (.result ((⟨0, (⟨#[]⟩ : ByteArray)⟩ : Value), (w6 (s8.tdiv 2)), 21)))
  (cond (s8 == (w6 ((w6 (2 * (s1.size : Int))) - 1))) ((zi5 s7 ((w6 (x1002.toNat : Int)).tmod 16)).bind fun r1006 =>
  some (.again (s1, r1006.1, (w6 (s8 + 1)), b2, b4)))
  (some (.again (s1, (w6 ((w6 (10 * s7)) + ((w6 (x1002.toNat : Int)).tmod 16))), (w6 (s8 + 1)), b2, b4)))))
  ((cond (decide (((w6 (x1002.toNat : Int)).tmod 16) > 9)) (some true) ((cond (s8 == 0) (some ((b2.Length.tmod 2) == 0)) (some false)).bind fun g1007 =>
  (cond g1007 (some (((w6 (x1002.toNat : Int)).tmod 16) != 0)) (some false)).bind fun g1008 => some g1008)).bind fun g1009 =>
  cond g1009 (some (.result ((⟨0, (⟨#[]⟩ : ByteArray)⟩ : Value), (w6 (s8.tdiv 2)), 21)))
  (cond (s8 == (w6 ((w6 (2 * (s1.size : Int))) - 1))) ((zi5 s7 ((w6 (x1002.toNat : Int)).tmod 16)).bind fun r1010 =>
  some (.again (s1, r1010.1, (w6 (s8 + 1)), b2, b4)))
  (some (.again (s1, (w6 ((w6 (10 * s7)) + ((w6 (x1002.toNat : Int)).tmod 16))), (w6 (s8 + 1)), b2, b4))))))
  (cond (s8 == (w6 ((w6 (2 * (s1.size : Int))) - 1))) ((cond (decide ((w6 ((w6 (x1001.toNat : Int)).tdiv 16)) < 10))
  (some true) ((cond (s8 == 0) (some ((b2.Length.tmod 2) == 0)) (some false)).bind fun g1011 =>
  (cond g1011 (some ((w6 ((w6 (x1001.toNat : Int)).tdiv 16)) != 0)) (some false)).bind fun g1012 => some g1012)).bind fun g1013 =>
  cond g1013 (some (.result ((⟨0, (⟨#[]⟩ : ByteArray)⟩ : Value), (w6 (s8.tdiv 2)), 21)))
  (cond (s8 == (w6 ((w6 (2 * (s1.size : Int))) - 1)))
  ((zi5 s7 (w6 ((w6 (x1001.toNat : Int)).tdiv 16))).bind fun r1014 => some (.again (s1, r1014.1, (w6 (s8 + 1)), b2, b4)))
  (some (.again (s1, (w6 ((w6 (10 * s7)) + (w6 ((w6 (x1001.toNat : Int)).tdiv 16)))), (w6 (s8 + 1)), b2, b4)))))
  ((cond (decide ((w6 ((w6 (x1001.toNat : Int)).tdiv 16)) > 9)) (some true) ((cond (s8 == 0) (some ((b2.Length.tmod 2) == 0))
  (some false)).bind fun g1015 => (cond g1015 (some ((w6 ((w6 (x1001.toNat : Int)).tdiv 16)) != 0)) (some false)).bind fun g1016 =>
  some g1016)).bind fun g1017 => cond g1017 (some (.result ((⟨0, (⟨#[]⟩ : ByteArray)⟩ : Value), (w6 (s8.tdiv 2)), 21)))
  (cond (s8 == (w6 ((w6 (2 * (s1.size : Int))) - 1)))
  ((zi5 s7 (w6 ((w6 (x1001.toNat : Int)).tdiv 16))).bind fun r1018 => some (.again (s1, r1018.1, (w6 (s8 + 1)), b2, b4)))
  (some (.again (s1, (w6 ((w6 (10 * s7)) + (w6 ((w6 (x1001.toNat : Int)).tdiv 16)))), (w6 (s8 + 1)), b2, b4)))))))
  (some (.leave (s1, s7, s8, b2, b4)))
def zb7.r0 (N : Nat) (x : ByteArray × Int × Int × DataType × Value) := zb7.b0 N x.1 x.2.1 x.2.2.1 x.2.2.2.1 x.2.2.2.2
def zb7 (N : Nat) (a0 : DataType) (a1 : ByteArray) : Option (Value × Int × Int) :=
 (zn (zb7.r0 N) N (a1, 0, 0, a0, (⟨0, (⟨#[]⟩ : ByteArray)⟩ : Value))).bind fun z2 => zb3 z2 (fun z => some z) (fun y1 =>
  some ((⟨y1.2.1, (⟨#[]⟩ : ByteArray)⟩ : Value), 0, 0))
def zq3 (N : Nat) (a0 : DataType) (a1 : ByteArray) : Option (Value × Int × Int) :=
 (zg5 a0).bind fun r1 => cond (r1 != 0) (some ((⟨0, (⟨#[]⟩ : ByteArray)⟩ : Value), 0, r1)) (cond (a0.Kind == 4) (some ((⟨0, (⟨#[]⟩ : ByteArray)⟩ : Value), 0, 17))
  ((zbi a0).bind fun r2 => cond ((a1.size : Int) != r2) (some ((⟨0, (⟨#[]⟩ : ByteArray)⟩ : Value), 0, 18)) (cond (a0.Kind == 0) (some ((⟨0, a1⟩ : Value), 0, 0))
  (cond (a0.Kind == 3) ((zdc N a1 0 (a1.size : Int)).bind fun r3 => (zgw a1 0).bind fun x4 => cond (decide ((x4.toNat : Int) ≥ 128))
  (if (w6 (8 * (a1.size : Int))) < 0 then none else (znu N a0).bind fun r5 => (znu N a0).bind fun r6 =>
  (zg (w6 (r3 - (w6 (1 * 2 ^ (min (w6 (8 * (a1.size : Int))).toNat 64))))) (w6 (0 - r5)) r6).bind fun r7 =>
  cond (!r7) (some ((⟨0, (⟨#[]⟩ : ByteArray)⟩ : Value), 0, 19))
  (some ((⟨(w6 (r3 - (w6 (1 * 2 ^ (min (w6 (8 * (a1.size : Int))).toNat 64))))), (⟨#[]⟩ : ByteArray)⟩ : Value), 0, 0)))
  ((znu N a0).bind fun r8 => (znu N a0).bind fun r9 => (zg r3 (w6 (0 - r8)) r9).bind fun r10 => cond (!r10)
  (some ((⟨0, (⟨#[]⟩ : ByteArray)⟩ : Value), 0, 19)) (some ((⟨r3, (⟨#[]⟩ : ByteArray)⟩ : Value), 0, 0)))) (cond (a0.Kind == 2) ((zcf N a1).bind fun r11 =>
  some (r11.1, r11.2.1, r11.2.2)) ((zb7 N a0 a1).bind fun r12 => some (r12.1, r12.2.1, r12.2.2)))))))
def zi4 (N : Nat) (a0 : zA) (a1 : zO) (a2 : DataType) : Option (Number × Int) :=
 (ze0 N a0 a1 a2).bind fun r1 => cond (r1.2 != 0) (some ((⟨0, 0⟩ : Number), r1.2)) ((zq3 N a2 r1.1).bind fun r2 => cond (r2.2.2 != 0) (some ((⟨0, 0⟩ : Number), 1))
  (some ((⟨r2.1.N, a2.Scale⟩ : Number), 0)))
def zkr (a0 : DataType) : Option Int :=
 (zg5 a0).bind fun r1 => cond (r1 != 0) (some r1) ((zc4 a0.Kind).bind fun r2 => (zbo (!r2)).bind fun r3 => some (w6 (17 * r3)))
def zjs (a0 : Int) : Option ((List Int)) :=
 if 0 ≤ a0 then (if a0 ≤ a0 then (cond (Nat.ble (a0.toNat * 8) zac) (cond (Nat.ble (((List.replicate a0.toNat (0 : Int)).length + ([1] : List Int).length) * 8) zac)
  (some ((List.replicate a0.toNat (0 : Int)) ++ ([1] : List Int))) none) none) else none) else none
def zq2 (N : Nat) (a0 : Number) : Option zS :=
 (zep N a0.N 0).bind fun r1 => (zjs a0.Scale).bind fun r2 => some (⟨r1, r2⟩ : zS)
def zbq.b2 (N : Nat) (s0 : List Int) (s1 : List Int) (s6 : List Int) (s7 : List Int) (s8 : Int) : Option (Stp ((List Int) × (List Int) × (List Int) × (List Int) × Int)) :=
 (zfj N s7 s1).bind fun r3001 => cond (decide (r3001 ≥ 0)) ((zfk N s7 s1).bind fun r3002 =>
  if 0 ≤ s8 then (if s8 < (s6.length : Int) then ((s6[s8.toNat]?).bind fun x3003 => if 0 ≤ s8 then (if s8 < (s6.length : Int) then ((s6[s8.toNat]?).bind fun x3004 =>
  some (.again (s0, s1, (s6.set s8.toNat (w6 (x3003 + 1))), r3002, s8))) else none) else none) else none) else none) (some (.leave (s0, s1, s6, s7, s8)))
def zbq.r2 (N : Nat) (x : (List Int) × (List Int) × (List Int) × (List Int) × Int) := zbq.b2 N x.1 x.2.1 x.2.2.1 x.2.2.2.1 x.2.2.2.2
def zbq.b0 (N : Nat) (s0 : List Int) (s1 : List Int) (s6 : List Int) (s7 : List Int) (s8 : Int) : Option (Stp ((List Int) × (List Int) × (List Int) × (List Int) × Int)) :=
 cond (decide (s8 ≥ 0)) ((idx s0 s8).bind fun x1001 => cond (Nat.ble ((([x1001] : List Int).length + s7.length) * 8) zac)
  ((zd2 N (([x1001] : List Int) ++ s7)).bind fun r1002 => (zq (zbq.r2 N) N (s0, s1, s6, r1002, s8)).bind fun y1003 =>
  some (.again (y1003.1, y1003.2.1, y1003.2.2.1, y1003.2.2.2.1, (w6 (y1003.2.2.2.2 - 1))))) none) (some (.leave (s0, s1, s6, s7, s8)))
def zbq.r0 (N : Nat) (x : (List Int) × (List Int) × (List Int) × (List Int) × Int) := zbq.b0 N x.1 x.2.1 x.2.2.1 x.2.2.2.1 x.2.2.2.2
def zbq (N : Nat) (a0 : List Int) (a1 : List Int) : Option ((List Int) × (List Int)) :=
 if 0 ≤ (a0.length : Int) then (if (a0.length : Int) ≤ (a0.length : Int) then (cond (Nat.ble ((a0.length : Int).toNat * 8) zac)
  ((zq (zbq.r0 N) N (a0, a1, (List.replicate (a0.length : Int).toNat (0 : Int)), [], (w6 ((a0.length : Int) - 1)))).bind fun y1 =>
  (zd2 N y1.2.2.1).bind fun r2 => some (r2, y1.2.2.2.1)) none) else none) else none
def zo7 (N : Nat) (a0 : zS) (a1 : Int) (a2 : Bool) : Option zJ :=
 if 0 ≤ a1 then (if a1 ≤ a1 then (cond (Nat.ble (a1.toNat * 8) zac) (cond (Nat.ble (((List.replicate a1.toNat (0 : Int)).length + a0.Top.zU.length) * 8) zac)
  ((zd2 N ((List.replicate a1.toNat (0 : Int)) ++ a0.Top.zU)).bind fun r1 => (zbq N r1 a0.yJ).bind fun r2 =>
  (cond a2 ((ze1 N r2.2 r2.2).bind fun r3 => (zfj N r3 a0.yJ).bind fun r4 => some (decide (r4 ≥ 0))) (some false)).bind fun g5 =>
  cond g5 ((ze1 N r2.1 ([1] : List Int)).bind fun r6 => (cond a0.Top.Below (some (decide ((r6.length : Int) > 0))) (some false)).bind fun g7 => some (⟨g7, r6⟩ : zJ))
  ((cond a0.Top.Below (some (decide ((r2.1.length : Int) > 0))) (some false)).bind fun g8 => some (⟨g8, r2.1⟩ : zJ))) none) none) else none) else none
def zev.b0 (N : Nat) (s3 : Int) (s4 : Int) (b1 : zJ) : Option (Stp (Int × Int × zJ)) :=
 cond (decide (s4 ≥ 0)) ((idx b1.zU s4).bind fun x1001 => some (.again ((w6 ((w6 (10 * s3)) + x1001)), (w6 (s4 - 1)), b1)))
  (some (.leave (s3, s4, b1)))
def zev.r0 (N : Nat) (x : Int × Int × zJ) := zev.b0 N x.1 x.2.1 x.2.2
def zev (N : Nat) (a0 : zJ) : Option Int :=
 (zq (zev.r0 N) N (0, (w6 ((a0.zU.length : Int) - 1)), a0)).bind fun y1 => cond y1.2.2.Below (some (w6 (0 - y1.1))) (some y1.1)
def zm8 (N : Nat) (a0 : zS) (a1 : DataType) (a2 : Bool) : Option (Int × Int) :=
 (zo7 N a0 a1.Scale a2).bind fun r1 => cond (decide ((r1.zU.length : Int) > a1.Length)) (some (0, 19)) ((zev N r1).bind fun r2 => some (r2, 0))
def zle (N : Nat) (a0 : Number) (a1 : DataType) (a2 : Bool) : Option (Value × Int) :=
 (zcl a0).bind fun r1 => cond (r1 != 0) (some ((⟨0, (⟨#[]⟩ : ByteArray)⟩ : Value), r1)) ((zkr a1).bind fun r2 => cond (r2 != 0)
  (some ((⟨0, (⟨#[]⟩ : ByteArray)⟩ : Value), r2)) ((zq2 N a0).bind fun r3 => (zm8 N r3 a1 a2).bind fun r4 => some ((⟨r4.1, (⟨#[]⟩ : ByteArray)⟩ : Value), r4.2)))
def zeo.b0 (N : Nat) (s0 : Int) (s5 : List Int) (s6 : Int) : Option (Stp (Int × (List Int) × Int)) :=
 cond (decide (s6 ≥ 0)) (if 0 ≤ s6 then (if s6 < (s5.length : Int) then ((s5[s6.toNat]?).bind fun x1001 =>
  some (.again ((w6 (s0.tdiv 10)), (s5.set s6.toNat (s0.tmod 10)), (w6 (s6 - 1))))) else none) else none) (some (.leave (s0, s5, s6)))
def zeo.r0 (N : Nat) (x : Int × (List Int) × Int) := zeo.b0 N x.1 x.2.1 x.2.2
def zeo (N : Nat) (a0 : Int) (a1 : Int) : Option ((List Int)) :=
 if 0 ≤ a1 then (if a1 ≤ a1 then (cond (Nat.ble (a1.toNat * 8) zac)
  ((zq (zeo.r0 N) N (a0, (List.replicate a1.toNat (0 : Int)), (w6 (a1 - 1)))).bind fun y1 => some y1.2.1) none) else none) else none
def zbk.b1 (N : Nat) (s6 : List Int) (s7 : List Int) (s8 : Int) (b2 : DataType) (b3 : Value) : Option (Stp ((List Int) × (List Int) × Int × DataType × Value)) :=
 cond (decide (s8 < b2.Length)) (if 0 ≤ s8 then (if s8 < (s6.length : Int) then ((s6[s8.toNat]?).bind fun x2001 =>
  if 0 ≤ s8 then (if s8 < (s7.length : Int) then ((s7[s8.toNat]?).bind fun x2002 =>
  some (.again (s6, (s7.set s8.toNat (IntKind.wrap .u8 (w6 (240 + x2001)))), (w6 (s8 + 1)), b2, b3))) else none) else none) else none) else none)
  (some (.leave (s6, s7, s8, b2, b3)))
def zbk.r1 (N : Nat) (x : (List Int) × (List Int) × Int × DataType × Value) := zbk.b1 N x.1 x.2.1 x.2.2.1 x.2.2.2.1 x.2.2.2.2
def zbk.b3 (N : Nat) (s6 : List Int) (s9 : List Int) (s10 : Int) : Option (Stp ((List Int) × (List Int) × Int)) :=
 cond (decide (s10 < (s9.length : Int)))
  (if 0 ≤ (w6 (2 * s10)) then (if (w6 (2 * s10)) < (s6.length : Int) then ((s6[(w6 (2 * s10)).toNat]?).bind fun x4001 =>
  if 0 ≤ (w6 ((w6 (2 * s10)) + 1)) then (if (w6 ((w6 (2 * s10)) + 1)) < (s6.length : Int) then ((s6[(w6 ((w6 (2 * s10)) + 1)).toNat]?).bind fun x4002 =>
  if 0 ≤ s10 then (if s10 < (s9.length : Int) then ((s9[s10.toNat]?).bind fun x4003 =>
  some (.again (s6, (s9.set s10.toNat (IntKind.wrap .u8 (w6 ((w6 (16 * x4001)) + x4002)))), (w6 (s10 + 1))))) else none) else none) else none) else none) else none) else none)
  (some (.leave (s6, s9, s10)))
def zbk.r3 (N : Nat) (x : (List Int) × (List Int) × Int) := zbk.b3 N x.1 x.2.1 x.2.2
def zbk (N : Nat) (a0 : DataType) (a1 : Value) : Option ByteArray :=
 cond (a0.Kind == 0) (some a1.S) (cond (a0.Kind == 3) (cond (decide (a1.N < 0)) ((zbi a0).bind fun r1 =>
  if (w6 (8 * r1)) < 0 then none else (zbi a0).bind fun r2 =>
  (zbc N (w6 (a1.N + (w6 (1 * 2 ^ (min (w6 (8 * r1)).toNat 64))))) r2).bind fun r3 => some r3) ((zbi a0).bind fun r4 =>
  (zbc N a1.N r4).bind fun r5 => some r5)) ((zj9 a1.N).bind fun r6 => (zeo N r6 a0.Length).bind fun r7 => cond (a0.Kind == 2)
  (if 0 ≤ a0.Length then (if a0.Length ≤ a0.Length then (cond (Nat.ble (a0.Length.toNat * 1) zac)
  ((zq (zbk.r1 N) N (r7, (List.replicate a0.Length.toNat (0 : Int)), 0, a0, a1)).bind fun y8 => cond (decide (y8.2.2.2.2.N < 0))
  (if 0 ≤ (w6 (y8.2.2.2.1.Length - 1)) then (if (w6 (y8.2.2.2.1.Length - 1)) < (y8.1.length : Int) then ((y8.1[(w6 (y8.2.2.2.1.Length - 1)).toNat]?).bind fun x9 =>
  if 0 ≤ (w6 (y8.2.2.2.1.Length - 1)) then (if (w6 (y8.2.2.2.1.Length - 1)) < (y8.2.1.length : Int) then ((y8.2.1[(w6 (y8.2.2.2.1.Length - 1)).toNat]?).bind fun x10 =>
  some (zc2 (y8.2.1.set ((w6 (y8.2.2.2.1.Length - 1)).toNat) (IntKind.wrap .u8 (w6 (208 + x9)))))) else none) else none) else none) else none)
  (some (zc2 y8.2.1))) none) else none) else none) (cond ((a0.Length.tmod 2) == 0) (cond (Nat.ble ((([0] : List Int).length + r7.length) * 8) zac)
  ((zbo (decide (a1.N < 0))).bind fun r11 =>
  cond (Nat.ble (((([0] : List Int) ++ r7).length + ([(w6 (15 - (w6 (2 * r11))))] : List Int).length) * 8) zac)
  (if 0 ≤ (w6 ((((([0] : List Int) ++ r7) ++ ([(w6 (15 - (w6 (2 * r11))))] : List Int)).length : Int).tdiv 2)) then (if (w6 ((((([0] : List Int) ++ r7) ++ ([(w6 (15 - (w6 (2 * r11))))] : List Int)).length : Int).tdiv 2)) ≤ (w6 ((((([0] : List Int) ++ r7) ++ ([(w6 (15 - (w6 (2 * r11))))] : List Int)).length : Int).tdiv 2)) then (cond (Nat.ble ((w6 ((((([0] : List Int) ++ r7) ++ ([(w6 (15 - (w6 (2 * r11))))] : List Int)).length : Int).tdiv 2)).toNat * 1) zac)
  ((zq (zbk.r3 N) N (((([0] : List Int) ++ r7) ++ ([(w6 (15 - (w6 (2 * r11))))] : List Int)), (List.replicate (w6 ((((([0] : List Int) ++ r7) ++ ([(w6 (15 - (w6 (2 * r11))))] : List Int)).length : Int).tdiv 2)).toNat (0 : Int)), 0)).bind fun y12 =>
  some (zc2 y12.2.1)) none) else none) else none) none) none) ((zbo (decide (a1.N < 0))).bind fun r13 =>
  cond (Nat.ble ((r7.length + ([(w6 (15 - (w6 (2 * r13))))] : List Int).length) * 8) zac)
  (if 0 ≤ (w6 (((r7 ++ ([(w6 (15 - (w6 (2 * r13))))] : List Int)).length : Int).tdiv 2)) then (if (w6 (((r7 ++ ([(w6 (15 - (w6 (2 * r13))))] : List Int)).length : Int).tdiv 2)) ≤ (w6 (((r7 ++ ([(w6 (15 - (w6 (2 * r13))))] : List Int)).length : Int).tdiv 2)) then (cond (Nat.ble ((w6 (((r7 ++ ([(w6 (15 - (w6 (2 * r13))))] : List Int)).length : Int).tdiv 2)).toNat * 1) zac)
  ((zq (zbk.r3 N) N ((r7 ++ ([(w6 (15 - (w6 (2 * r13))))] : List Int)), (List.replicate (w6 (((r7 ++ ([(w6 (15 - (w6 (2 * r13))))] : List Int)).length : Int).tdiv 2)).toNat (0 : Int)), 0)).bind fun y14 =>
  some (zc2 y14.2.1)) none) else none) else none) none))))
def zb1.b2 (N : Nat) (s5 : List Int) (s6 : Int) (s7 : List Int) (s8 : Int) (s9 : Int) (b2 : zJ) (b3 : zJ) (b4 : zJ) : Option (Stp ((List Int) × Int × (List Int) × Int × Int × zJ × zJ × zJ)) :=
 (cond (decide (s9 < (b2.zU.length : Int))) (some true) (some (decide (s8 > 0)))).bind fun g3001 => cond g3001 (cond (decide (s9 < (b2.zU.length : Int)))
  ((idx b2.zU s9).bind fun x3002 => (idx b3.zU s6).bind fun x3003 =>
  cond (Nat.ble ((s7.length + ([((w6 (s8 + (w6 (x3002 * x3003)))).tmod 10)] : List Int).length) * 8) zac)
  (some (.again (s5, s6, (s7 ++ ([((w6 (s8 + (w6 (x3002 * x3003)))).tmod 10)] : List Int)), (w6 ((w6 (s8 + (w6 (x3002 * x3003)))).tdiv 10)), (w6 (s9 + 1)), b2, b3, b4))) none)
  (cond (Nat.ble ((s7.length + ([(s8.tmod 10)] : List Int).length) * 8) zac)
  (some (.again (s5, s6, (s7 ++ ([(s8.tmod 10)] : List Int)), (w6 (s8.tdiv 10)), (w6 (s9 + 1)), b2, b3, b4))) none))
  (some (.leave (s5, s6, s7, s8, s9, b2, b3, b4)))
def zb1.r2 (N : Nat) (x : (List Int) × Int × (List Int) × Int × Int × zJ × zJ × zJ) := zb1.b2 N x.1 x.2.1 x.2.2.1 x.2.2.2.1 x.2.2.2.2.1 x.2.2.2.2.2.1 x.2.2.2.2.2.2.1 x.2.2.2.2.2.2.2
def zb1.b0 (N : Nat) (s5 : List Int) (s6 : Int) (b2 : zJ) (b3 : zJ) (b4 : zJ) : Option (Stp ((List Int) × Int × zJ × zJ × zJ)) :=
 cond (decide (s6 < (b3.zU.length : Int))) (if 0 ≤ s6 then (if s6 ≤ s6 then (cond (Nat.ble (s6.toNat * 8) zac)
  ((zq (zb1.r2 N) N (s5, s6, (List.replicate s6.toNat (0 : Int)), 0, 0, b2, b3, b4)).bind fun y1001 => (ze1 N y1001.1 y1001.2.2.1).bind fun r1002 =>
  some (.again (r1002, (w6 (y1001.2.1 + 1)), y1001.2.2.2.2.2.1, y1001.2.2.2.2.2.2.1, y1001.2.2.2.2.2.2.2))) none) else none) else none)
  (some (.leave (s5, s6, b2, b3, b4)))
def zb1.r0 (N : Nat) (x : (List Int) × Int × zJ × zJ × zJ) := zb1.b0 N x.1 x.2.1 x.2.2.1 x.2.2.2.1 x.2.2.2.2
def zb1 (N : Nat) (a0 : zJ) (a1 : zJ) : Option zJ :=
 (zq (zb1.r0 N) N ([], 0, a0, a1, (⟨false, []⟩ : zJ))).bind fun y1 => (zd2 N y1.1).bind fun r2 => (cond (!(y1.2.2.1.Below == y1.2.2.2.1.Below))
  (some (decide ((r2.length : Int) > 0))) (some false)).bind fun g3 => some (⟨g3, r2⟩ : zJ)
def zva (N : Nat) (a0 : Int) (a1 : Number) (a2 : Number) : Option (zS × Int) :=
 (zmq N a1 a2).bind fun r1 => (cond (a0 == 3) (some true) (some (a0 == 4))).bind fun g2 => (cond g2 (some ((r1.2.1.zU.length : Int) == 0))
  (some false)).bind fun g3 => cond g3 (some ((⟨(⟨false, []⟩ : zJ), []⟩ : zS), 20)) (cond (a0 == 1) ((cond (!r1.2.1.Below)
  (some (decide ((r1.2.1.zU.length : Int) > 0))) (some false)).bind fun g4 => (zpk N r1.1 (⟨g4, r1.2.1.zU⟩ : zJ)).bind fun r5 =>
  (zjs r1.2.2).bind fun r6 => some ((⟨r5, r6⟩ : zS), 0)) (cond (a0 == 2) ((zb1 N r1.1 r1.2.1).bind fun r7 =>
  (zjs (w6 (2 * r1.2.2))).bind fun r8 => some ((⟨r7, r8⟩ : zS), 0)) (cond (a0 == 3)
  (some ((⟨(⟨(!(r1.1.Below == r1.2.1.Below)), r1.1.zU⟩ : zJ), r1.2.1.zU⟩ : zS), 0)) (cond (a0 == 4)
  ((zbq N r1.1.zU r1.2.1.zU).bind fun r9 => (zjs r1.2.2).bind fun r10 => some ((⟨(⟨r1.1.Below, r9.2⟩ : zJ), r10⟩ : zS), 0))
  ((zpk N r1.1 r1.2.1).bind fun r11 => (zjs r1.2.2).bind fun r12 => some ((⟨r11, r12⟩ : zS), 0))))))
def zfd (N : Nat) (a0 : zV) (a1 : Number) (a2 : Number) : Option (Value × Int) :=
 (zg a0.Op 0 4).bind fun r1 => cond (!r1) (some ((⟨0, (⟨#[]⟩ : ByteArray)⟩ : Value), 4)) ((zcl a1).bind fun r2 => cond (r2 != 0)
  (some ((⟨0, (⟨#[]⟩ : ByteArray)⟩ : Value), r2)) ((zcl a2).bind fun r3 => cond (r3 != 0) (some ((⟨0, (⟨#[]⟩ : ByteArray)⟩ : Value), r3))
  ((zkr a0.zG).bind fun r4 => cond (r4 != 0) (some ((⟨0, (⟨#[]⟩ : ByteArray)⟩ : Value), r4)) ((zva N a0.Op a1 a2).bind fun r5 => cond (r5.2 != 0)
  (some ((⟨0, (⟨#[]⟩ : ByteArray)⟩ : Value), r5.2)) ((zm8 N r5.1 a0.zG a0.Half).bind fun r6 => some ((⟨r6.1, (⟨#[]⟩ : ByteArray)⟩ : Value), r6.2))))))
def zz2 (N : Nat) (a0 : zA) (a1 : zB) : Option (Int × zA) :=
 cond (a1.Op == 0) ((zi4 N a0 a1.Place a1.zG).bind fun r1 => cond (r1.2 != 0) (some (r1.2, a0))
  (if 0 ≤ a1.R then (if a1.R < (a0.Registers.length : Int) then ((a0.Registers[a1.R.toNat]?).bind fun x2 =>
  some (0, (⟨(a0.Registers.set a1.R.toNat r1.1), a0.Condition, a0.Storage, a0.At, a0.Stack, a0.Lines, a0.Status, a0.Exception, a0.Marks, a0.Steps⟩ : zA))) else none) else none))
  (cond (a1.Op == 1) (if 0 ≤ a1.R then (if a1.R < (a0.Registers.length : Int) then ((a0.Registers[a1.R.toNat]?).bind fun x3 => (zle N x3 a1.zG a1.Half).bind fun r4 =>
  cond (r4.2 != 0) (some (2, a0)) ((zbi a1.zG).bind fun r5 => (zc3 N a0 a1.Place r5).bind fun r6 => cond (r6.2 != 0) (some (r6.2, a0))
  ((zbk N a1.zG r4.1).bind fun r7 => (zb8 N a0.Storage r6.1 r7).bind fun r8 =>
  some (0, (⟨a0.Registers, a0.Condition, r8, a0.At, a0.Stack, a0.Lines, a0.Status, a0.Exception, a0.Marks, a0.Steps⟩ : zA))))) else none) else none) (cond (a1.Op == 2)
  (if 0 ≤ a1.R then (if a1.R < (a0.Registers.length : Int) then ((a0.Registers[a1.R.toNat]?).bind fun x9 =>
  some (0, (⟨(a0.Registers.set a1.R.toNat a1.Number), a0.Condition, a0.Storage, a0.At, a0.Stack, a0.Lines, a0.Status, a0.Exception, a0.Marks, a0.Steps⟩ : zA))) else none) else none)
  (cond (a1.Op == 3) (if 0 ≤ a1.A then (if a1.A < (a0.Registers.length : Int) then ((a0.Registers[a1.A.toNat]?).bind fun x10 =>
  if 0 ≤ a1.R then (if a1.R < (a0.Registers.length : Int) then ((a0.Registers[a1.R.toNat]?).bind fun x11 =>
  some (0, (⟨(a0.Registers.set a1.R.toNat x10), a0.Condition, a0.Storage, a0.At, a0.Stack, a0.Lines, a0.Status, a0.Exception, a0.Marks, a0.Steps⟩ : zA))) else none) else none) else none) else none)
  (cond (a1.Op == 5) (if 0 ≤ a1.A then (if a1.A < (a0.Registers.length : Int) then ((a0.Registers[a1.A.toNat]?).bind fun x12 =>
  if 0 ≤ a1.B then (if a1.B < (a0.Registers.length : Int) then ((a0.Registers[a1.B.toNat]?).bind fun x13 => (zk2 N x12 x13).bind fun r14 =>
  (zgu r14).bind fun r15 =>
  some (0, (⟨a0.Registers, r15, a0.Storage, a0.At, a0.Stack, a0.Lines, a0.Status, a0.Exception, a0.Marks, a0.Steps⟩ : zA))) else none) else none) else none) else none)
  (cond (a1.Op == 21) (if 0 ≤ a1.R then (if a1.R < (a0.Registers.length : Int) then ((a0.Registers[a1.R.toNat]?).bind fun x16 =>
  some (0, (⟨(a0.Registers.set a1.R.toNat (⟨a0.Exception, 0⟩ : Number)), a0.Condition, a0.Storage, a0.At, a0.Stack, a0.Lines, a0.Status, a0.Exception, a0.Marks, a0.Steps⟩ : zA))) else none) else none)
  (cond (a1.Op == 4) (cond a1.zM ((zi4 N a0 a1.Place a1.Second).bind fun r17 => cond (r17.2 != 0) (some (r17.2, a0))
  (if 0 ≤ a1.A then (if a1.A < (a0.Registers.length : Int) then ((a0.Registers[a1.A.toNat]?).bind fun x18 =>
  (zfd N (⟨a1.zK, a1.zG, false⟩ : zV) x18 r17.1).bind fun r19 => cond (r19.2 == 20) (some (3, a0)) (cond (r19.2 != 0) (some (2, a0))
  (if 0 ≤ a1.R then (if a1.R < (a0.Registers.length : Int) then ((a0.Registers[a1.R.toNat]?).bind fun x20 =>
  some (0, (⟨(a0.Registers.set a1.R.toNat (⟨r19.1.N, a1.zG.Scale⟩ : Number)), a0.Condition, a0.Storage, a0.At, a0.Stack, a0.Lines, a0.Status, a0.Exception, a0.Marks, a0.Steps⟩ : zA))) else none) else none))) else none) else none))
  (if 0 ≤ a1.B then (if a1.B < (a0.Registers.length : Int) then ((a0.Registers[a1.B.toNat]?).bind fun x21 =>
  if 0 ≤ a1.A then (if a1.A < (a0.Registers.length : Int) then ((a0.Registers[a1.A.toNat]?).bind fun x22 =>
  (zfd N (⟨a1.zK, a1.zG, false⟩ : zV) x22 x21).bind fun r23 => cond (r23.2 == 20) (some (3, a0)) (cond (r23.2 != 0) (some (2, a0))
  (if 0 ≤ a1.R then (if a1.R < (a0.Registers.length : Int) then ((a0.Registers[a1.R.toNat]?).bind fun x24 =>
  some (0, (⟨(a0.Registers.set a1.R.toNat (⟨r23.1.N, a1.zG.Scale⟩ : Number)), a0.Condition, a0.Storage, a0.At, a0.Stack, a0.Lines, a0.Status, a0.Exception, a0.Marks, a0.Steps⟩ : zA))) else none) else none))) else none) else none) else none) else none))
  (some (0, a0))))))))
def ze (N : Nat) (a0 : zF) (a1 : zA) : Option (Int × Int × zA) :=
 (idx a0.zD a1.At).bind fun x1 => cond (x1.Op == 6) (cond ((zh .i64 x1.Mask a1.Condition) != 0) (some (x1.Target, 0, a1))
  (some ((w6 (a1.At + 1)), 0, a1))) (cond (x1.Op == 7) (if 0 ≤ x1.A then (if x1.A < (a1.Registers.length : Int) then ((a1.Registers[x1.A.toNat]?).bind fun x2 =>
  if 0 ≤ x1.B then (if x1.B < (a1.Registers.length : Int) then ((a1.Registers[x1.B.toNat]?).bind fun x3 => (zk2 N x2 x3).bind fun r4 => (zgu r4).bind fun r5 =>
  cond ((zh .i64 x1.Mask r5) != 0) (some (x1.Target, 0, a1)) (some ((w6 (a1.At + 1)), 0, a1))) else none) else none) else none) else none) (cond (x1.Op == 8)
  (some (x1.Target, 0, a1)) (cond (x1.Op == 18) (cond ((a1.Stack.length : Int) == 6) (some (0, 6, a1)) (cond (Nat.ble ((a1.Stack.length + ([a1.At] : List Int).length) * 8) zac)
  (some (x1.Target, 0, (⟨a1.Registers, a1.Condition, a1.Storage, a1.At, (a1.Stack ++ ([a1.At] : List Int)), a1.Lines, a1.Status, a1.Exception, a1.Marks, a1.Steps⟩ : zA))) none))
  (cond (x1.Op == 19) (cond ((a1.Stack.length : Int) == 0)
  (some ((w6 (a1.At + 1)), 0, (⟨a1.Registers, a1.Condition, a1.Storage, a1.At, a1.Stack, a1.Lines, 1, a1.Exception, a1.Marks, a1.Steps⟩ : zA)))
  (if 0 ≤ (w6 ((a1.Stack.length : Int) - 1)) then (if (w6 ((a1.Stack.length : Int) - 1)) < (a1.Stack.length : Int) then ((a1.Stack[(w6 ((a1.Stack.length : Int) - 1)).toNat]?).bind fun x6 =>
  if 0 ≤ (w6 ((a1.Stack.length : Int) - 1)) ∧ (w6 ((a1.Stack.length : Int) - 1)) ≤ (a1.Stack.length : Int) then (if 0 ≤ (0 : Int) ∧ (0 : Int) ≤ (w6 ((a1.Stack.length : Int) - 1)) then (some ((w6 (x6 + 1)), 0, (⟨a1.Registers, a1.Condition, a1.Storage, a1.At, ((a1.Stack.drop ((0 : Int).toNat)).take ((w6 ((a1.Stack.length : Int) - 1)).toNat - (0 : Int).toNat)), a1.Lines, a1.Status, a1.Exception, a1.Marks, a1.Steps⟩ : zA))) else none) else none) else none) else none))
  (cond (x1.Op == 20) (if 0 ≤ x1.R then (if x1.R < (a1.Registers.length : Int) then ((a1.Registers[x1.R.toNat]?).bind fun x7 => (zjq N x7).bind fun r8 =>
  (zg r8 100 999).bind fun r9 => cond r9 (some (0, r8, a1)) (some (0, 2, a1))) else none) else none) (cond (x1.Op == 25) (cond (a1.Marks == 300)
  (some ((w6 (a1.At + 1)), 0, (⟨a1.Registers, a1.Condition, a1.Storage, a1.At, a1.Stack, a1.Lines, 3, a1.Exception, a1.Marks, a1.Steps⟩ : zA)))
  (some ((w6 (a1.At + 1)), 0, (⟨a1.Registers, a1.Condition, a1.Storage, a1.At, a1.Stack, a1.Lines, a1.Status, a1.Exception, (w6 (a1.Marks + 1)), a1.Steps⟩ : zA))))
  (cond (x1.Op == 26)
  (some ((w6 (a1.At + 1)), 0, (⟨a1.Registers, a1.Condition, a1.Storage, a1.At, a1.Stack, a1.Lines, 1, a1.Exception, a1.Marks, a1.Steps⟩ : zA)))
  ((cond (x1.Op == 22) (some (x1.Op == 22)) (cond (x1.Op == 23) (some (x1.Op == 23)) (some (x1.Op == 24)))).bind fun q10 => cond q10 ((z1f N a1 x1).bind fun r11 =>
  some ((w6 (a1.At + 1)), r11.1, r11.2)) ((cond (x1.Op == 14) (some (x1.Op == 14)) (cond (x1.Op == 15) (some (x1.Op == 15)) (cond (x1.Op == 16) (some (x1.Op == 16))
  (some (x1.Op == 17))))).bind fun q12 => cond q12 ((z1g N a1 x1).bind fun r13 => some ((w6 (a1.At + 1)), r13.1, r13.2)) ((cond (x1.Op == 9)
  (some (x1.Op == 9)) (cond (x1.Op == 10) (some (x1.Op == 10)) (cond (x1.Op == 11) (some (x1.Op == 11)) (cond (x1.Op == 12) (some (x1.Op == 12))
  (some (x1.Op == 13)))))).bind fun q14 => cond q14 ((zz3 N a1 x1).bind fun r15 => some ((w6 (a1.At + 1)), r15.1, r15.2))
  ((zz2 N a1 x1).bind fun r16 => some ((w6 (a1.At + 1)), r16.1, r16.2))))))))))))
def zd5.b0 (N : Nat) (s1 : Int) (s2 : Int) (s7 : Int) (b3 : zF) : Option (Round Int (Int × Int × Int × zF)) :=
 cond (decide (s7 < (b3.zN.length : Int))) ((idx b3.zN s7).bind fun x1001 => (cond (decide (x1001.From ≤ s1)) (some (decide (s1 < x1001.To))) (some false)).bind fun g1002 =>
  (cond g1002 ((cond (x1001.Exception == 0) (some true) (some (x1001.Exception == s2))).bind fun g1003 => some g1003) (some false)).bind fun g1004 =>
  cond g1004 (some (.result x1001.Handler)) (some (.again (s1, s2, (w6 (s7 + 1)), b3)))) (some (.leave (s1, s2, s7, b3)))
def zd5.r0 (N : Nat) (x : Int × Int × Int × zF) := zd5.b0 N x.1 x.2.1 x.2.2.1 x.2.2.2
def zd5 (N : Nat) (a0 : zF) (a1 : Int) (a2 : Int) : Option Int :=
 (zn (zd5.r0 N) N (a1, a2, 0, a0)).bind fun z2 => zb3 z2 (fun z => some z) (fun y1 => some (-1))
def zf5.b0 (N : Nat) (s2 : Int) (b3 : zF) (b4 : zA) (b6 : zA) : Option (Round zA (Int × zF × zA × zA)) :=
 (zd5 N b3 b4.At s2).bind fun r1001 => cond (r1001 != (-1))
  (some (.result (⟨b4.Registers, b4.Condition, b4.Storage, r1001, b4.Stack, b4.Lines, b4.Status, b4.Exception, b4.Marks, b4.Steps⟩ : zA))) (cond ((b4.Stack.length : Int) == 0)
  (some (.result (⟨b4.Registers, b4.Condition, b4.Storage, b4.At, b4.Stack, b4.Lines, 2, b4.Exception, b4.Marks, b4.Steps⟩ : zA)))
  ((idx b4.Stack (w6 ((b4.Stack.length : Int) - 1))).bind fun x1002 =>
  if 0 ≤ (w6 ((b4.Stack.length : Int) - 1)) ∧ (w6 ((b4.Stack.length : Int) - 1)) ≤ (b4.Stack.length : Int) then (if 0 ≤ (0 : Int) ∧ (0 : Int) ≤ (w6 ((b4.Stack.length : Int) - 1)) then (some (.again (s2, b3, (⟨b4.Registers, b4.Condition, b4.Storage, x1002, ((b4.Stack.take (w6 ((b4.Stack.length : Int) - 1)).toNat).drop (0 : Int).toNat), b4.Lines, b4.Status, b4.Exception, b4.Marks, b4.Steps⟩ : zA), b6))) else none) else none))
def zf5.r0 (N : Nat) (x : Int × zF × zA × zA) := zf5.b0 N x.1 x.2.1 x.2.2.1 x.2.2.2
def zf5 (N : Nat) (a0 : zF) (a1 : zA) (a2 : Int) : Option zA :=
 (zn (zf5.r0 N) N (a2, a0, (⟨a1.Registers, a1.Condition, a1.Storage, a1.At, a1.Stack, a1.Lines, a1.Status, a2, a1.Marks, a1.Steps⟩ : zA), (⟨[], 0, (⟨(⟨#[]⟩ : ByteArray), []⟩ : Storage), 0, [], [], 0, 0, 0, 0⟩ : zA))).bind fun z2 =>
  zb3 z2 (fun z => some z) (fun y1 => some y1.2.2.2)
def ztm (N : Nat) (a0 : zF) (a1 : zA) : Option zA :=
 (zim a1).bind fun r1 =>
  (ze N a0 (⟨r1.Registers, r1.Condition, r1.Storage, r1.At, r1.Stack, r1.Lines, r1.Status, r1.Exception, r1.Marks, (w6 (r1.Steps + 1))⟩ : zA)).bind fun r2 =>
  cond (r2.2.1 != 0) ((zim a1).bind fun r3 =>
  (zf5 N a0 (⟨r3.Registers, r3.Condition, r3.Storage, r3.At, r3.Stack, r3.Lines, r3.Status, r3.Exception, r3.Marks, (w6 (r3.Steps + 1))⟩ : zA) r2.2.1).bind fun r4 =>
  (cond (r4.Status == 0) (some (r4.Steps == 3000)) (some false)).bind fun g5 =>
  cond g5 (some (⟨r4.Registers, r4.Condition, r4.Storage, r4.At, r4.Stack, r4.Lines, 3, r4.Exception, r4.Marks, r4.Steps⟩ : zA)) (some r4)) (cond (r2.2.2.Status == 0)
  (cond (r2.1 == (a0.zD.length : Int))
  (some (⟨r2.2.2.Registers, r2.2.2.Condition, r2.2.2.Storage, r2.2.2.At, r2.2.2.Stack, r2.2.2.Lines, 1, r2.2.2.Exception, r2.2.2.Marks, r2.2.2.Steps⟩ : zA))
  ((cond (r2.2.2.Status == 0) (some (r2.2.2.Steps == 3000)) (some false)).bind fun g6 =>
  cond g6 (some (⟨r2.2.2.Registers, r2.2.2.Condition, r2.2.2.Storage, r2.1, r2.2.2.Stack, r2.2.2.Lines, 3, r2.2.2.Exception, r2.2.2.Marks, r2.2.2.Steps⟩ : zA))
  (some (⟨r2.2.2.Registers, r2.2.2.Condition, r2.2.2.Storage, r2.1, r2.2.2.Stack, r2.2.2.Lines, r2.2.2.Status, r2.2.2.Exception, r2.2.2.Marks, r2.2.2.Steps⟩ : zA))))
  ((cond (r2.2.2.Status == 0) (some (r2.2.2.Steps == 3000)) (some false)).bind fun g7 =>
  cond g7 (some (⟨r2.2.2.Registers, r2.2.2.Condition, r2.2.2.Storage, r2.2.2.At, r2.2.2.Stack, r2.2.2.Lines, 3, r2.2.2.Exception, r2.2.2.Marks, r2.2.2.Steps⟩ : zA))
  (some r2.2.2)))
def zlp.b0 (N : Nat) (b3 : zF) (b4 : zR) (b5 : zA) : Option (Stp (zF × zR × zA)) :=
 cond (b5.Status == 0) ((ztm N b3 b5).bind fun r1001 => some (.again (b3, b4, r1001))) (some (.leave (b3, b4, b5)))
def zlp.r0 (N : Nat) (x : zF × zR × zA) := zlp.b0 N x.1 x.2.1 x.2.2
def zlp (N : Nat) (a0 : zI) (a1 : zF) : Option zR :=
 (z4y a0 a1).bind fun r1 => (zq (zlp.r0 N) N (a1, (⟨[], 0, 0, 0, 0, (⟨(⟨#[]⟩ : ByteArray), []⟩ : Storage)⟩ : zR), r1)).bind fun y2 =>
  some (⟨y2.2.2.Lines, y2.2.2.Status, y2.2.2.Exception, y2.2.2.Marks, y2.2.2.Steps, y2.2.2.Storage⟩ : zR)
def zp2.b0 (N : Nat) (s0 : List Int) (s1 : List Int) (s5 : Int) : Option (Round Bool ((List Int) × (List Int) × Int)) :=
 cond (decide (s5 < (s0.length : Int))) ((idx s0 s5).bind fun x1001 => (idx s1 s5).bind fun x1002 => cond (x1001 != x1002) (some (.result false))
  (some (.again (s0, s1, (w6 (s5 + 1)))))) (some (.leave (s0, s1, s5)))
def zp2.r0 (N : Nat) (x : (List Int) × (List Int) × Int) := zp2.b0 N x.1 x.2.1 x.2.2
def zp2 (N : Nat) (a0 : List Int) (a1 : List Int) : Option Bool :=
 cond ((a0.length : Int) != (a1.length : Int)) (some false) ((zn (zp2.r0 N) N (a0, a1, 0)).bind fun z2 => zb3 z2 (fun z => some z) (fun y1 => some true))
def zqg.b0 (N : Nat) (s5 : Int) (b2 : zA) (b3 : zA) : Option (Round Bool (Int × zA × zA)) :=
 cond (decide (s5 < (b2.Registers.length : Int))) ((idx b2.Registers s5).bind fun x1001 => (idx b3.Registers s5).bind fun x1002 =>
  cond (!(zfv [(x1001.N == x1002.N), (x1001.Scale == x1002.Scale)])) (some (.result false)) (some (.again ((w6 (s5 + 1)), b2, b3)))) (some (.leave (s5, b2, b3)))
def zqg.r0 (N : Nat) (x : Int × zA × zA) := zqg.b0 N x.1 x.2.1 x.2.2
def zqg (N : Nat) (a0 : zA) (a1 : zA) : Option Bool :=
 cond ((a0.Registers.length : Int) != (a1.Registers.length : Int)) (some false) ((zn (zqg.r0 N) N (0, a0, a1)).bind fun z2 => zb3 z2 (fun z => some z) (fun y1 =>
  (cond (y1.2.1.Condition == y1.2.2.Condition) ((zfh N y1.2.1.Storage y1.2.2.Storage).bind fun r3 => some r3) (some false)).bind fun g4 =>
  (cond g4 (some (y1.2.1.At == y1.2.2.At)) (some false)).bind fun g5 => (cond g5 ((zp2 N y1.2.1.Stack y1.2.2.Stack).bind fun r6 => some r6) (some false)).bind fun g7 =>
  (cond g7 ((zbx N y1.2.1.Lines y1.2.2.Lines).bind fun r8 => some r8) (some false)).bind fun g9 => (cond g9 (some (y1.2.1.Status == y1.2.2.Status))
  (some false)).bind fun g10 => (cond g10 (some (y1.2.1.Exception == y1.2.2.Exception)) (some false)).bind fun g11 => (cond g11 (some (y1.2.1.Marks == y1.2.2.Marks))
  (some false)).bind fun g12 => (cond g12 (some (y1.2.1.Steps == y1.2.2.Steps)) (some false)).bind fun g13 => some g13))
def zec.b0 (N : Nat) (s8 : Int) (b4 : zF) (b5 : zA) : Option (Round Int (Int × zF × zA)) :=
 cond (decide (s8 < (b5.Registers.length : Int))) ((idx b5.Registers s8).bind fun x1001 => (zcl x1001).bind fun r1002 => cond (r1002 != 0) (some (.result r1002))
  (some (.again ((w6 (s8 + 1)), b4, b5)))) (some (.leave (s8, b4, b5)))
def zec.r0 (N : Nat) (x : Int × zF × zA) := zec.b0 N x.1 x.2.1 x.2.2
def zec.b2 (N : Nat) (s11 : List Int) (s12 : Int) (b4 : zF) (b5 : zA) : Option (Round Int ((List Int) × Int × zF × zA)) :=
 cond (decide (s12 < (s11.length : Int))) ((idx s11 s12).bind fun x3001 => (zie N b5.Storage x3001).bind fun r3002 => (cond (r3002.1.Kind != 0) (some true)
  (some (r3002.1.Address.zY != 1))).bind fun g3003 => cond g3003 (some (.result 22)) (some (.again (s11, (w6 (s12 + 1)), b4, b5))))
  (some (.leave (s11, s12, b4, b5)))
def zec.r2 (N : Nat) (x : (List Int) × Int × zF × zA) := zec.b2 N x.1 x.2.1 x.2.2.1 x.2.2.2
def zec.b4 (N : Nat) (s15 : Int) (b4 : zF) (b5 : zA) : Option (Round Int (Int × zF × zA)) :=
 cond (decide (s15 < (b5.Stack.length : Int))) ((idx b5.Stack s15).bind fun x5001 =>
  (zg x5001 0 (w6 ((b4.zD.length : Int) - 1))).bind fun r5002 => (cond (!r5002) (some true) ((idx b5.Stack s15).bind fun x5003 =>
  (idx b4.zD x5003).bind fun x5004 => some (x5004.Op != 18))).bind fun g5005 => cond g5005 (some (.result 3)) (some (.again ((w6 (s15 + 1)), b4, b5))))
  (some (.leave (s15, b4, b5)))
def zec.r4 (N : Nat) (x : Int × zF × zA) := zec.b4 N x.1 x.2.1 x.2.2
def zec.b6 (N : Nat) (s16 : Int) (b5 : zA) : Option (Round Int (Int × zA)) :=
 cond (decide (s16 < (b5.Lines.length : Int))) ((idx b5.Lines s16).bind fun x7001 => cond (decide ((x7001.size : Int) > 256)) (some (.result 18))
  (some (.again ((w6 (s16 + 1)), b5)))) (some (.leave (s16, b5)))
def zec.r6 (N : Nat) (x : Int × zA) := zec.b6 N x.1 x.2
def zec (N : Nat) (a0 : zI) (a1 : zF) (a2 : zA) : Option Int :=
 (zh5 N a0 a1).bind fun r1 => cond (r1 != 0) (some r1) (cond ((a2.Registers.length : Int) != a0.Registers) (some 6) ((zn (zec.r0 N) N (0, a1, a2)).bind fun z3 =>
  zb3 z3 (fun z => some z) (fun y2 => (cond (y2.2.2.Condition != 0) (some (y2.2.2.Condition != 1)) (some false)).bind fun g4 => (cond g4 (some (y2.2.2.Condition != 2))
  (some false)).bind fun g5 => (cond g5 (some (y2.2.2.Condition != 4)) (some false)).bind fun g6 => cond g6 (some 3)
  (cond ((y2.2.2.Storage.Bytes.size : Int) != (y2.2.1.Storage.Bytes.size : Int)) (some 18) ((zkh N y2.2.2.Storage).bind fun r7 => cond (r7 != 0) (some r7)
  ((zbu N y2.2.2.Storage).bind fun r8 => (zn (zec.r2 N) N (r8, 0, y2.2.1, y2.2.2)).bind fun z10 => zb3 z10 (fun z => some z) (fun y9 =>
  (zg y9.2.2.2.At 0 (w6 ((y9.2.2.1.zD.length : Int) - 1))).bind fun r11 => cond (!r11) (some 3) ((cond (decide ((y9.2.2.2.Stack.length : Int) > 6))
  (some true) (some (decide ((y9.2.2.2.Lines.length : Int) > 40)))).bind fun g12 => cond g12 (some 2) ((zn (zec.r4 N) N (0, y9.2.2.1, y9.2.2.2)).bind fun z14 =>
  zb3 z14 (fun z => some z) (fun y13 => (zn (zec.r6 N) N (0, y13.2.2)).bind fun z16 => zb3 z16 (fun z => some z) (fun y15 =>
  (zg y15.2.Status 0 3).bind fun r17 => cond (!r17) (some 4) ((zg y15.2.Exception 0 999).bind fun r18 => (cond (!r18) (some true)
  ((zg y15.2.Marks 0 300).bind fun r19 => some (!r19))).bind fun g20 => (cond g20 (some true) ((zg y15.2.Steps 0 3000).bind fun r21 =>
  some (!r21))).bind fun g22 => cond g22 (some 3) (some 0)))))))))))))
def zha.b0 (N : Nat) (s9 : Int) (b5 : zA) (b7 : zA) : Option (Round Bool (Int × zA × zA)) :=
 cond (decide (s9 < (b5.Registers.length : Int))) ((idx b7.Registers s9).bind fun x1001 => (idx b5.Registers s9).bind fun x1002 =>
  cond (!(zfv [(x1001.N == x1002.N), (x1001.Scale == x1002.Scale)])) (some (.result false)) (some (.again ((w6 (s9 + 1)), b5, b7)))) (some (.leave (s9, b5, b7)))
def zha.r0 (N : Nat) (x : Int × zA × zA) := zha.b0 N x.1 x.2.1 x.2.2
def zha (N : Nat) (a0 : zI) (a1 : zF) (a2 : zA) : Option Bool :=
 (zk4 N).bind fun r1 => cond (!r1) (some false) ((zed N a1).bind fun r2 => (cond (!r2) (some true) ((zbw N a2).bind fun r3 => some (!r3))).bind fun g4 =>
  cond g4 (some true) ((zec N a0 a1 (⟨a2.Registers, a2.Condition, a2.Storage, a2.At, a2.Stack, a2.Lines, a2.Status, 0, a2.Marks, a2.Steps⟩ : zA)).bind fun r5 =>
  (cond (r5 != 0) (some true) (some (a2.Status != 0))).bind fun g6 => (cond g6 (some true) (some (a2.Steps == 3000))).bind fun g7 => cond g7 (some true)
  ((zfi a1).bind fun r8 => (zim (⟨a2.Registers, a2.Condition, a2.Storage, a2.At, a2.Stack, a2.Lines, a2.Status, 0, a2.Marks, a2.Steps⟩ : zA)).bind fun r9 =>
  (zh9 N a0 r8 r9).bind fun r10 => (cond (r10.2 != 0) (some true) (some ((r10.1.Registers.length : Int) != (a2.Registers.length : Int)))).bind fun g11 =>
  cond g11 (some false) (cond (r10.1.Exception == 0) (some true)
  ((zn (zha.r0 N) N (0, (⟨a2.Registers, a2.Condition, a2.Storage, a2.At, a2.Stack, a2.Lines, a2.Status, 0, a2.Marks, a2.Steps⟩ : zA), r10.1)).bind fun z13 =>
  zb3 z13 (fun z => some z) (fun y12 => (zfh N y12.2.2.Storage y12.2.1.Storage).bind fun r14 => (cond r14 ((zbx N y12.2.2.Lines y12.2.1.Lines).bind fun r15 =>
  some r15) (some false)).bind fun g16 => (cond g16 (some (y12.2.2.Condition == y12.2.1.Condition)) (some false)).bind fun g17 => some g17))))))
def zsw (a0 : Int) (a1 : zI) : Option Bool :=
 some (decide (a0 ≥ a1.Registers))
def zfa.b0 (N : Nat) (s0 : List Int) (s7 : Int) (s8 : Int) (b1000000 : zI) : Option (Round Int ((List Int) × Int × Int × zI)) :=
 cond (decide (s8 < s7)) ((idx s0 s8).bind fun x1001 => (zsw x1001 b1000000).bind fun r1002 => cond r1002 (some (.result s8))
  (some (.again (s0, s7, (w6 (s8 + 1)), b1000000)))) (some (.leave (s0, s7, s8, b1000000)))
def zfa.r0 (N : Nat) (x : (List Int) × Int × Int × zI) := zfa.b0 N x.1 x.2.1 x.2.2.1 x.2.2.2
def zfa (N : Nat) (a0 : List Int) (a1 : zI) : Option Int :=
 (zn (zfa.r0 N) N (a0, (a0.length : Int), 0, a1)).bind fun z2 => zb3 z2 (fun z => some z) (fun y1 => some (-1))
def zpi (N : Nat) (a0 : List Int) (a1 : zI) : Option Bool :=
 (zfa N a0 a1).bind fun r1 => some (decide (r1 ≥ 0))
def zvs (N : Nat) (a0 : zB) (a1 : zI) : Option Bool :=
 (zgx a1 a0).bind fun r1 => (cond (!r1) (some true) ((zt N a0).bind fun r2 => (zpi N r2 a1).bind fun r3 => some r3)).bind fun g4 =>
  some g4
def zdd.b0 (N : Nat) (s0 : List zB) (s7 : Int) (s8 : Int) (b1000000 : zI) : Option (Round Int ((List zB) × Int × Int × zI)) :=
 cond (decide (s8 < s7)) ((idx s0 s8).bind fun x1001 => (zvs N x1001 b1000000).bind fun r1002 => cond r1002 (some (.result s8))
  (some (.again (s0, s7, (w6 (s8 + 1)), b1000000)))) (some (.leave (s0, s7, s8, b1000000)))
def zdd.r0 (N : Nat) (x : (List zB) × Int × Int × zI) := zdd.b0 N x.1 x.2.1 x.2.2.1 x.2.2.2
def zdd (N : Nat) (a0 : List zB) (a1 : zI) : Option Int :=
 (zn (zdd.r0 N) N (a0, (a0.length : Int), 0, a1)).bind fun z2 => zb3 z2 (fun z => some z) (fun y1 => some (-1))
def znt.b0 (N : Nat) (s5 : Int) (b2 : zI) (b3 : zF) : Option (Round Int (Int × zI × zF)) :=
 cond (decide (s5 < (b3.zD.length : Int))) ((idx b3.zD s5).bind fun x1001 => (zjr b2 x1001).bind fun r1002 => (cond r1002 (some true)
  ((zeb b2 x1001).bind fun r1003 => some (!r1003))).bind fun g1004 => cond g1004 (some (.result s5)) (some (.again ((w6 (s5 + 1)), b2, b3))))
  (some (.leave (s5, b2, b3)))
def znt.r0 (N : Nat) (x : Int × zI × zF) := znt.b0 N x.1 x.2.1 x.2.2
def znt (N : Nat) (a0 : zI) (a1 : zF) : Option Int :=
 (zn (znt.r0 N) N (0, a0, a1)).bind fun z2 => zb3 z2 (fun z => some z) (fun y1 => some (y1.2.2.zD.length : Int))
theorem zor (N : Nat) (l : List Int) (h : l.length < N) (hl : l.length < 1000000000) : zw N l = some (zcv l) := by
 unfold zw
 have := zb9 (f := zw.r0 N) (fun i => (l, (l.length : Int), (i : Int))) (fun i => (l[i]?).bind fun x => if x = 0 then none else some x) l.length
  (fun i hi => by
   have hx := lge hi; simp only [zw.r0, zw.b0, za3, hx, obs, dct (show (i : Int) < (l.length : Int) by omega), ctr]
   by_cases h0 : l[i] = 0
   · simp only [h0, bsf, cfa, if_true]; rw [w6e]; rfl
   · simp only [h0, if_false]; rw [show (l[i] != 0) = true by simpa using h0]; rfl)
  (by simp only [zw.r0, zw.b0, dcf (show ¬ (l.length : Int) < (l.length : Int) by omega), cfa]) h
 simp only [nc0] at this
 rw [this, zsx, ← zvu]
 simp only [obs]
 cases l.findSome? (fun x => if x = 0 then none else some x) <;> rfl
theorem zom (N : Nat) (l : List Int) (h : l.length < N) (hl : l.length < 1000000000) : zp N l = some (zcv l) := by
 unfold zp
 have := zb9 (f := zp.r0 N) (fun i => (l, (l.length : Int), (i : Int))) (fun i => (l[i]?).bind fun x => if x = 0 then none else some x) l.length
  (fun i hi => by
   have hx := lge hi; simp only [zp.r0, zp.b0, za3, hx, obs, dct (show (i : Int) < (l.length : Int) by omega), ctr]
   by_cases h0 : l[i] = 0
   · simp only [h0, bsf, cfa, if_true]; rw [w6e]; rfl
   · simp only [h0, if_false]; rw [show (l[i] != 0) = true by simpa using h0]; rfl)
  (by simp only [zp.r0, zp.b0, dcf (show ¬ (l.length : Int) < (l.length : Int) by omega), cfa]) h
 simp only [nc0] at this
 rw [this, zsx, ← zvu]
 simp only [obs]
 cases l.findSome? (fun x => if x = 0 then none else some x) <;> rfl
def inB (n lo hi : Int) : Bool := decide (lo ≤ n) && decide (n ≤ hi)
theorem zl5 (n lo hi : Int) : z9 n lo hi = some (inB n lo hi) := by
 unfold z9 inB
 cases decide (lo ≤ n) <;> rfl
theorem z1l (n lo hi : Int) : zd3 n lo hi = some (inB n lo hi) := by
 unfold zd3 inB
 cases decide (lo ≤ n) <;> rfl
theorem zh2 (n lo hi : Int) : zg n lo hi = some (inB n lo hi) := by
 unfold zg inB
 cases decide (lo ≤ n) <;> rfl
theorem zne (b : Bool) (e : Int) : zad b e = some (cond b e 0) := by cases b <;> rfl
theorem zon (b : Bool) (e : Int) : zaq b e = some (cond b e 0) := by cases b <;> rfl
theorem zhf (b : Bool) : zbo b = some (cond b 1 0) := by cases b <;> rfl
theorem zzc (m : zI) : ∃ e, zf0 m = some e ∧ zit m = some e ∧ (e = 0 → 2 ≤ m.Registers ∧ m.Registers ≤ 8) := by
 refine ⟨cond (!inB m.Registers 2 8) 3 0, ?_, ?_, ?_⟩
 · simp only [zf0, zl5, zne, obs]
 · simp only [zit, zh2, obs]; cases inB m.Registers 2 8 <;> rfl
 · intro h; cases hb : inB m.Registers 2 8 with
   | false => rw [hb] at h; cases h
   | true => simpa [inB] using hb
def zdm (t : DataType) : Int :=
 if t.Kind = 0 then (if inB t.Length 1 256 then (if t.Scale = 0 then 0 else 3) else 18)
 else if t.Kind = 1 ∨ t.Kind = 2 then (if inB t.Length 1 15 then (if inB t.Scale 0 t.Length then 0 else 3) else 18)
 else if t.Kind = 3 then (if t.Length = 4 ∨ t.Length = 9 then (if inB t.Scale 0 t.Length then 0 else 3) else 18)
 else if t.Kind = 4 then (if t.Length = 0 then (if t.Scale = 0 then 0 else 3) else 18)
 else 4
theorem zaeq (a b : Bool) (x y : Int) (hx : x ≠ 0) (hy : y ≠ 0) : zcv [cond a x 0, cond b y 0] = cond a x (cond b y 0) := by
 cases a <;> cases b <;> simp [zcv, hx, hy]
theorem zqt (N : Nat) (hN : 10 < N) (t : DataType) : za9 N t = some (zdm t) := by
 have f2 : ∀ a b : Int, zp N [a, b] = some (zcv [a, b]) := fun a b => zom N _ (by simp; omega) (by simp)
 unfold za9 zdm
 simp only [z1l, zon, f2, obs, zaeq _ _ 18 3 (by decide) (by decide)]
 by_cases h0 : t.Kind = 0
 · simp only [h0, bst, ctr, if_true]; cases inB t.Length 1 256 <;> by_cases hs : t.Scale = 0 <;> simp [zat, hs]
 · simp only [beq_eq_false_iff_ne.2 h0, h0, cfa, if_false]
   by_cases h1 : t.Kind = 1
   · simp only [h1, bst, ctr, true_or, if_true, obs]; cases inB t.Length 1 15 <;> cases inB t.Scale 0 t.Length <;> simp
   · by_cases h2 : t.Kind = 2
     · simp only [h2, h1]; cases inB t.Length 1 15 <;> cases inB t.Scale 0 t.Length <;> simp
     · by_cases h3 : t.Kind = 3
       · simp only [h3]
         by_cases h4 : t.Length = 4 <;> by_cases h5 : t.Length = 9 <;> cases inB t.Scale 0 t.Length <;> simp [zat, h4, h5]
       · by_cases h4 : t.Kind = 4
         · simp only [h4]
           by_cases h5 : t.Length = 0 <;> by_cases h6 : t.Scale = 0 <;> simp [zat, h5, h6]
         · simp [zat, h1, h2, h3, h4]
theorem ztj (k : Int) : zc4 k = some (inB k 1 3) := by simp only [zc4, zh2, obs]
theorem zz0 (t : DataType) : zg5 t = some (zdm t) := by
 have w0' : w6 0 = 0 := by decide
 have w1 : w6 3 = 3 := by decide
 have hz : inB t.Scale 0 0 = decide (t.Scale = 0) := by
  unfold inB
  by_cases h : t.Scale = 0
  · simp [h]
  · simp only [h, decide_false]
    by_cases h1 : 0 ≤ t.Scale
    · simp [h1, show ¬ t.Scale ≤ 0 by omega]
    · simp [h1]
 unfold zg5 zdm
 simp only [zh2, ztj, zhf, obs, hz]
 by_cases h0 : t.Kind = 0
 · have e : inB (0 : Int) 0 4 = true := by decide
   have e' : inB (0 : Int) 1 3 = false := by decide
   simp only [h0, e, e']; cases inB t.Length 1 256 <;> by_cases hs : t.Scale = 0 <;> simp [zat, hs, w0', w1]
 · by_cases h1 : t.Kind = 1
   · have e : inB (1 : Int) 0 4 = true := by decide
     have e' : inB (1 : Int) 1 3 = true := by decide
     simp only [h1, e, e']; cases inB t.Length 1 15 <;> cases inB t.Scale 0 t.Length <;> simp [w0', w1]
   · by_cases h2 : t.Kind = 2
     · have e : inB (2 : Int) 0 4 = true := by decide
       have e' : inB (2 : Int) 1 3 = true := by decide
       simp only [h2, e, e']; cases inB t.Length 1 15 <;> cases inB t.Scale 0 t.Length <;> simp [w0', w1]
     · by_cases h3 : t.Kind = 3
       · have e : inB (3 : Int) 0 4 = true := by decide
         have e' : inB (3 : Int) 1 3 = true := by decide
         simp only [h3, e, e']
         by_cases h4 : t.Length = 4 <;> by_cases h5 : t.Length = 9 <;> cases inB t.Scale 0 t.Length <;> simp [zat, h4, h5, w0', w1]
       · by_cases h4 : t.Kind = 4
         · have e : inB (4 : Int) 0 4 = true := by decide
           have e' : inB (4 : Int) 1 3 = false := by decide
           simp only [h4, e, e']
           by_cases h5 : t.Length = 0 <;> by_cases h6 : t.Scale = 0 <;> simp [zat, h5, h6, w0', w1]
         · have e : inB t.Kind 0 4 = false := by
            unfold inB
            by_cases hh : 0 ≤ t.Kind
            · simp only [hh, decide_true, Bool.true_and, decide_eq_false_iff_not]; omega
            · simp [hh]
           simp [zat, h0, h1, h2, h3, h4, e]
theorem zay {n lo hi : Int} : inB n lo hi = true ↔ lo ≤ n ∧ n ≤ hi := by simp [inB]
theorem znl {t : DataType} (h : zdm t = 0) : (t.Kind = 0 ∧ 1 ≤ t.Length ∧ t.Length ≤ 256) ∨ ((t.Kind = 1 ∨ t.Kind = 2) ∧ 1 ≤ t.Length ∧ t.Length ≤ 15) ∨ (t.Kind = 3 ∧ (t.Length = 4 ∨ t.Length = 9)) ∨ (t.Kind = 4 ∧ t.Length = 0) := by
 unfold zdm at h
 split at h
 · rename_i h0; split at h
   · rename_i h1; exact .inl ⟨h0, (zay.1 h1).1, (zay.1 h1).2⟩
   · cases h
 · split at h
   · rename_i h0; split at h
     · rename_i h1; exact .inr (.inl ⟨h0, (zay.1 h1).1, (zay.1 h1).2⟩)
     · cases h
   · split at h
     · rename_i h0; split at h
       · rename_i h1; exact .inr (.inr (.inl ⟨h0, h1⟩))
       · cases h
     · split at h
       · rename_i h0; split at h
         · rename_i h1; exact .inr (.inr (.inr ⟨h0, h1⟩))
         · cases h
       · cases h
def szE (t : DataType) : Int := if t.Kind = 1 then t.Length / 2 + 1 else if t.Kind = 3 then (if t.Length = 9 then 4 else 2) else if t.Kind = 4 then 16 else t.Length
theorem zj5 {t : DataType} (h : zdm t = 0) : 0 < szE t ∧ szE t ≤ 256 := by
 unfold szE
 rcases znl h with ⟨h0, h1, h2⟩ | ⟨h0 | h0, h1, h2⟩ | ⟨h0, h1 | h1⟩ | ⟨h0, h1⟩ <;> simp only [h0] <;> simp <;> omega
theorem zje {t : DataType} (h : zdm t = 0) : zbi t = some (szE t) := by
 unfold zbi szE
 rcases znl h with ⟨h0, h1, h2⟩ | ⟨h0 | h0, h1, h2⟩ | ⟨h0, h1 | h1⟩ | ⟨h0, h1⟩ <;> simp only [h0, h1, zat, zhf] <;> simp
 · rw [tde, w6e (n := t.Length / 2), w6e]
 · decide
 · decide
theorem zz8 {t : DataType} (h : zdm t = 0) : zf6 t = some (szE t) := by
 unfold zf6 szE
 rcases znl h with ⟨h0, h1, h2⟩ | ⟨h0 | h0, h1, h2⟩ | ⟨h0, h1 | h1⟩ | ⟨h0, h1⟩ <;> simp only [h0, h1, zat] <;> simp
 · rw [tde, w6e (n := t.Length / 2), w6e]
 · decide
 · decide
theorem z0a (N : Nat) (hN : 10 < N) {t : DataType} (h : zdm t = 0) : zeq N t = some (szE t) := by
 unfold zeq zkb
 rw [zqt N hN, h]
 simp [zz8 h]
structure StoOk (s : Storage) : Prop where
 le : s.Bytes.size ≤ 1024
 quad : s.Bytes.size % 16 = 0
def zet (s : Storage) (a : Int) : Bool := decide (0 ≤ a) && (decide (a % 16 = 0) && decide (a < (s.Bytes.size : Int)))
theorem z5i (s : Storage) (a : Int) : zdv s a = some (zet s a) := by
 unfold zdv zet
 by_cases h : 0 ≤ a
 · rw [tme h]; simp only [ge_iff_le, h, decide_true, ctr, obs, zat, Bool.true_and]; cases decide (a % 16 = 0) <;> rfl
 · simp [h]
theorem zz1 {s : Storage} (ok : StoOk s) (a : Int) : zen s a = some (zet s a) := by
 have h1 := ok.le
 have h2 := ok.quad
 unfold zen zet
 rw [w6e, zh2]
 simp only [obs]
 by_cases h : 0 ≤ a
 · rw [tme h]; simp only [inB, h, decide_true, Bool.true_and, zat]
   by_cases h3 : a % 16 = 0
   · have e : decide (a ≤ (s.Bytes.size : Int) - 16) = decide (a < (s.Bytes.size : Int)) := by
      by_cases h4 : a < (s.Bytes.size : Int)
      · rw [dct h4]; exact dct (by omega)
      · rw [dcf h4]; exact dcf (by omega)
     simp only [h3, decide_true, Bool.true_and, e]; cases decide (a < (s.Bytes.size : Int)) <;> rfl
   · simp only [h3, decide_false, Bool.false_and]; cases decide (a ≤ (s.Bytes.size : Int) - 16) <;> rfl
 · simp [inB, h]
def zch (s : Storage) (p : zO) (n : Int) : Bool := if p.Based then zet s p.Pointer && inB p.Offset 0 256 else inB p.Offset 0 ((s.Bytes.size : Int) - n)
theorem z3j {s : Storage} (ok : StoOk s) (N : Nat) (hN : 10 < N) (p : zO) {t : DataType} (h : zdm t = 0) : zc9 N s p t = some (zch s p (szE t)) := by
 obtain ⟨h1, h2⟩ := zj5 h
 have h3 := ok.le
 unfold zc9 zch
 rw [z5i, z0a N hN h, zl5]
 simp only [obs]
 rw [w6e]
 simp only [zl5, obs]
 cases p.Based <;> cases zet s p.Pointer <;> simp
theorem z2l {s : Storage} (ok : StoOk s) {c : zF} (hc : c.Storage = s) (p : zO) (hp : -9223372036854775808 ≤ p.Offset ∧ p.Offset ≤ 9223372036854775807) {t : DataType} (h : zdm t = 0) : zem c p (szE t) = some (zch s p (szE t)) := by
 obtain ⟨h1, h2⟩ := zj5 h
 have h3 := ok.le
 unfold zem zch zh6
 rw [hc]
 simp only [zz1 ok, zh2, obs]
 cases p.Based with
 | true => cases zet s p.Pointer <;> simp
 | false =>
  simp only [cfa]
  by_cases h4 : inB p.Offset 0 (s.Bytes.size : Int) = true
  · obtain ⟨h5, h6⟩ := zay.1 h4; rw [w6e]; simp only [h4, ctr, obs, Bool.false_eq_true, if_false]
    congr 1
    unfold inB; simp only [h5, decide_true, Bool.true_and, show (0 : Int) ≤ szE t by omega]
    by_cases h7 : szE t ≤ (s.Bytes.size : Int) - p.Offset
    · rw [dct h7]; exact (dct (by omega)).symm
    · rw [dcf h7]; exact (dcf (by omega)).symm
  · have e : inB p.Offset 0 (s.Bytes.size : Int) = false := by simpa using h4
    simp only [e, cfa, obs, Bool.false_eq_true, if_false]
    congr 1
    cases h5 : inB p.Offset 0 ((s.Bytes.size : Int) - szE t) with
    | false => rfl
    | true =>
     obtain ⟨h6, h7⟩ := zay.1 h5; exact absurd (zay.2 ⟨h6, by omega⟩) h4
def zlv (n : Number) : Int := cond (inB n.N (-999999999999999) 999999999999999 && inB n.Scale 0 15) 0 3
theorem zkj (n : Number) : zan n = some (zlv n) := by
 unfold zan zlv
 simp only [z1l, zon, obs]
 cases inB n.N (-999999999999999) 999999999999999 <;> cases inB n.Scale 0 15 <;> rfl
theorem zrr (n : Number) : zcl n = some (zlv n) := by
 have w0 : w6 (3 * 0) = 0 := by decide
 have w1 : w6 (3 * 1) = 3 := by decide
 unfold zcl zlv
 simp only [zh2, zhf, obs]
 cases inB n.N (-999999999999999) 999999999999999 <;> cases inB n.Scale 0 15 <;> simp [w0, w1, zhf] <;> decide
def zabb (op : Int) (ins : Bool) : Option zP :=
 (idx z6w op).bind fun x1 => (cond (op == 4) (some ins) (some false)).bind fun g2 =>
  cond g2 (some (⟨(orI .i64 (orI .i64 (z5u .i64 x1.fields 4) 8) 64), x1.types⟩ : zP)) (some x1)
theorem zaer (x : zB) : zbt x = zabb x.Op x.zM := rfl
def z51 (op : Int) (ins : Bool) : Option zL := zfn ⟨op, 0, 0, 0, 0, ⟨false, 0, 0⟩, ⟨false, 0, 0⟩, ⟨0, 0, 0⟩, ⟨0, 0, 0⟩, false, ins, ⟨0, 0⟩, ⟨#[]⟩, ⟨#[]⟩, 0, 0, 0, 0⟩
theorem z7m (x : zB) : zfn x = z51 x.Op x.zM := rfl
structure Agree (f : zP) (u : zL) : Prop where
 R : (zh .i64 f.fields 1 != 0) = u.R
 A : (zh .i64 f.fields 2 != 0) = u.A
 B : (zh .i64 f.fields 4 != 0) = u.B
 Place : (zh .i64 f.fields 8 != 0) = u.Place
 From : (zh .i64 f.fields 16 != 0) = u.From
 zG : (zh .i64 f.fields 32 != 0) = (u.zG != 0)
 Second : (zh .i64 f.fields 64 != 0) = (u.Second != 0)
 Half : (zh .i64 f.fields 128 != 0) = u.Half
 Number : (zh .i64 f.fields 256 != 0) = u.Number
 Text : (zh .i64 f.fields 512 != 0) = u.Text
 Other : (zh .i64 f.fields 1024 != 0) = u.Other
 Mask : (zh .i64 f.fields 2048 != 0) = u.Mask
 Target : (zh .i64 f.fields 4096 != 0) = u.Target
 Pointer : (zh .i64 f.fields 8192 != 0) = u.Pointer
 Source : (zh .i64 f.fields 16384 != 0) = u.Source
 Calc : (zh .i64 f.fields 32768 != 0) = u.zK
 class1 : u.zG = 0 ∨ u.zG = f.types
 class2 : u.Second = 0 ∨ u.Second = f.types
 cls : f.types = 0 ∨ f.types = 1 ∨ f.types = 2 ∨ f.types = 3
def z4i (f : zP) (u : zL) : Bool :=
 ((zh .i64 f.fields 1 != 0) == u.R) && (((zh .i64 f.fields 2 != 0) == u.A) && (((zh .i64 f.fields 4 != 0) == u.B) && (((zh .i64 f.fields 8 != 0) == u.Place) && (((zh .i64 f.fields 16 != 0) == u.From) &&
 (((zh .i64 f.fields 32 != 0) == (u.zG != 0)) && (((zh .i64 f.fields 64 != 0) == (u.Second != 0)) && (((zh .i64 f.fields 128 != 0) == u.Half) && (((zh .i64 f.fields 256 != 0) == u.Number) && (((zh .i64 f.fields 512 != 0) == u.Text) &&
 (((zh .i64 f.fields 1024 != 0) == u.Other) && (((zh .i64 f.fields 2048 != 0) == u.Mask) && (((zh .i64 f.fields 4096 != 0) == u.Target) && (((zh .i64 f.fields 8192 != 0) == u.Pointer) && (((zh .i64 f.fields 16384 != 0) == u.Source) &&
 (((zh .i64 f.fields 32768 != 0) == u.zK) && ((u.zG == 0 || u.zG == f.types) && ((u.Second == 0 || u.Second == f.types) && (f.types == 0 || (f.types == 1 || (f.types == 2 || f.types == 3))))))))))))))))))))
theorem zaaw {f : zP} {u : zL} (h : z4i f u = true) : Agree f u := by
 simp only [z4i, Bool.and_eq_true, beq_iff_eq, Bool.or_eq_true] at h
 obtain ⟨h1, h2, h3, h4, h5, h6, h7, h8, h9, h10, h11, h12, h13, h14, h15, h16, h17, h18, h19⟩ := h
 exact ⟨h1, h2, h3, h4, h5, h6, h7, h8, h9, h10, h11, h12, h13, h14, h15, h16, h17, h18, h19⟩
def z6m (op : Int) (ins : Bool) : Bool := match zabb op ins, z51 op ins with
 | some f, some u => (z4i f u && ((!u.From || u.Second != 0) && (!u.Place || cond (op == 4) (u.Second != 0) (u.zG != 0)))) && (cond (op == 4) (u.R && u.A && u.zK && (u.Place == ins) && (u.Second != 0) == ins) (u.zK == false))
 | _, _ => false
theorem zad6 : ((List.range 27).all fun k => z6m (k : Int) true && z6m (k : Int) false) = true := by kernel_rfl
theorem z04 (x : zB) (h : inB x.Op 0 26 = true) : ∃ f u, zbt x = some f ∧ zfn x = some u ∧ Agree f u ∧ (x.Op = 4 → u.Place = x.zM) ∧ (u.From = true → u.Second ≠ 0) ∧ (u.Place = true → if x.Op = 4 then u.Second ≠ 0 else u.zG ≠ 0) := by
 obtain ⟨h1, h2⟩ := zay.1 h
 obtain ⟨k, hk⟩ : ∃ k : Nat, x.Op = (k : Int) := ⟨x.Op.toNat, by omega⟩
 have hlt : k < 27 := by omega
 have h3 := List.all_eq_true.1 zad6 k (by simpa using hlt)
 have h4 : z6m x.Op x.zM = true := by
  rw [hk]; cases x.zM
  · exact ((Bool.and_eq_true _ _).mp h3).2
  · exact ((Bool.and_eq_true _ _).mp h3).1
 rw [zaer, z7m]
 unfold z6m at h4
 split at h4
 · rename_i f u hf hu; obtain ⟨h5, h6⟩ := (Bool.and_eq_true _ _).mp h4; simp only [Bool.and_eq_true] at h5; obtain ⟨h5, h8, h9⟩ := h5; refine ⟨f, u, hf, hu, zaaw h5, fun h7 => ?_, fun h7 => ?_, fun h7 => ?_⟩
   · rw [h7] at h6; simp only [bst, ctr, Bool.and_eq_true, beq_iff_eq] at h6; exact h6.1.2
   · rw [h7] at h8; simpa using h8
   · rw [h7] at h9; split
     · rename_i h10; rw [h10] at h9; simpa using h9
     · rename_i h10; rw [zat, dcf h10] at h9; simpa using h9
 · cases h4
theorem zs8 (a b : Int) : (a == b) = !(a != b) := by simp [bne]
def zmn (x : zB) (u : zL) : Bool :=
 (!u.R && x.R != 0) || ((!u.A && x.A != 0) || ((!u.B && x.B != 0) || ((!u.zK && x.zK != 0) || ((!u.Place && !(!x.Place.Based && (x.Place.Pointer == 0 && x.Place.Offset == 0))) ||
 ((!u.From && !(!x.From.Based && (x.From.Pointer == 0 && x.From.Offset == 0))) || ((u.zG == 0 && !(x.zG.Kind == 0 && (x.zG.Length == 0 && x.zG.Scale == 0))) || ((u.Second == 0 && !(x.Second.Kind == 0 && (x.Second.Length == 0 && x.Second.Scale == 0))) ||
 ((!u.Half && x.Half) || ((x.Op != 4 && x.zM) || ((!u.Number && !(x.Number.N == 0 && x.Number.Scale == 0)) || ((!u.Text && !(x.Text.toList == [])) || ((!u.Other && !(x.Other.toList == [])) ||
 ((!u.Mask && x.Mask != 0) || ((!u.Target && x.Target != 0) || ((!u.Pointer && x.Pointer != 0) || ((!u.Source && x.Source != 0) || ((!x.Place.Based && x.Place.Pointer != 0) || (!x.From.Based && x.From.Pointer != 0))))))))))))))))))
theorem orB (a b : Bool) : (cond a (some true) (some b)) = some (a || b) := by cases a <;> rfl
theorem zme (a b : Bool) : (cond a (some b) (some false)) = some (a && b) := by cases a <;> rfl
theorem z90 (x : zB) (u : zL) : zis x u = some (zmn x u) := by
 unfold zis zmn
 have e : (⟨#[]⟩ : ByteArray).toList = [] := by kernel_rfl
 simp only [zme, orB, obs, zfv, Bool.and_true, e, Bool.or_assoc, beq_false]
def zpq (p : zO) (b : Bool) : zO := cond b (cond p.Based p ⟨p.Based, 0, p.Offset⟩) ⟨false, 0, 0⟩
theorem z8p (p : zO) (b : Bool) : zhk p b = some (zpq p b) := by
 unfold zhk zpq
 cases b <;> cases p.Based <;> rfl
theorem zag6 (k v fl : Int) : zcd k v fl = some (cond (zh .i64 fl k != 0) v 0) := by
 unfold zcd
 rw [zs8]
 cases (zh .i64 fl k != 0) <;> rfl
def z1n (x : zB) (u : zL) : zB :=
 ⟨x.Op, cond u.R x.R 0, cond u.A x.A 0, cond u.B x.B 0, cond u.zK x.zK 0, zpq x.Place u.Place, zpq x.From u.From, cond (u.zG != 0) x.zG ⟨0, 0, 0⟩, cond (u.Second != 0) x.Second ⟨0, 0, 0⟩,
  cond x.Half u.Half false, cond x.zM (x.Op == 4) false, cond u.Number x.Number ⟨0, 0⟩, cond u.Text x.Text ⟨#[]⟩, cond u.Other x.Other ⟨#[]⟩, cond u.Mask x.Mask 0, cond u.Target x.Target 0, cond u.Pointer x.Pointer 0, cond u.Source x.Source 0⟩
theorem zack {x : zB} {f : zP} {u : zL} (hf : zbt x = some f) (ag : Agree f u) : zjg x = some (z1n x u) := by
 have b2 : ∀ a b : Bool, (cond a (some b) (some false)) = some (cond a b false) := fun a b => by cases a <;> rfl
 unfold zjg z1n
 simp only [hf, zag6, z8p, b2, obs, zs8 (zh .i64 f.fields 32), zs8 (zh .i64 f.fields 64), zs8 (zh .i64 f.fields 256), zs8 (zh .i64 f.fields 512), zs8 (zh .i64 f.fields 1024),
  ag.R, ag.A, ag.B, ag.Place, ag.From, ag.zG, ag.Second, ag.Half, ag.Number, ag.Text, ag.Other, ag.Mask, ag.Target, ag.Pointer, ag.Source, ag.Calc]
 cases (u.zG != 0) <;> cases (u.Second != 0) <;> cases u.Number <;> cases u.Text <;> cases u.Other <;> rfl
theorem zagm (b : Bool) (n : Int) : (!(cond b n 0 == n)) = (!b && n != 0) := by
 cases b
 · by_cases h : n = 0
   · simp [h]
   · simp [h, zat, zcj, Ne.symm h]
 · simp
theorem bbeq (a b : ByteArray) : (a == b) = decide (a = b) := by
 cases a with | mk x =>
 cases b with | mk y =>
 show ByteArray.beq _ _ = _
 unfold ByteArray.beq
 by_cases h : x = y
 · simp [h]
 · simp [h]
theorem zagl (b : Bool) (t : ByteArray) : (!(cond b t (⟨#[]⟩ : ByteArray) == t)) = (!b && !(t.toList == [])) := by
 rw [bbeq]
 cases b
 · simp only [cfa, Bool.not_false, Bool.true_and]
   congr 1
   rw [Lib.toList_data]
   by_cases h : t = ⟨#[]⟩
   · subst h; rfl
   · rw [dcf (Ne.symm h)]
     symm
     rw [beq_eq_false_iff_ne]; intro hh; apply h; cases t with
     | mk d => simp at hh; rw [hh]
 · simp
theorem zago (a b : Bool) : (!(cond a b false == a)) = (!b && a) := by cases a <;> cases b <;> rfl
theorem zagn (a : Bool) (op : Int) : (!(cond a (op == 4) false == a)) = (op != 4 && a) := by
 cases a
 · simp
 · simp [bne]
theorem zaa5 (p : zO) (b r : Bool) : (!((zpq p b).Based == p.Based) || (!((zpq p b).Pointer == p.Pointer) || (!((zpq p b).Offset == p.Offset) || r))) =
 ((!b && !(!p.Based && (p.Pointer == 0 && p.Offset == 0))) || ((!p.Based && p.Pointer != 0) || r)) := by
 obtain ⟨ba, pt, of⟩ := p
 cases b <;> cases ba <;> by_cases h1 : pt = 0 <;> by_cases h2 : of = 0 <;> simp [zpq, zat, zcj, h1, h2, eq_comm (a := (0 : Int))]
theorem zaa6 (t : DataType) (b : Int) (r : Bool) : (!((cond (b != 0) t ⟨0, 0, 0⟩).Kind == t.Kind) || (!((cond (b != 0) t ⟨0, 0, 0⟩).Length == t.Length) || (!((cond (b != 0) t ⟨0, 0, 0⟩).Scale == t.Scale) || r))) =
 ((b == 0 && !(t.Kind == 0 && (t.Length == 0 && t.Scale == 0))) || r) := by
 obtain ⟨k, l, s⟩ := t
 by_cases h0 : b = 0 <;> by_cases h1 : k = 0 <;> by_cases h2 : l = 0 <;> by_cases h3 : s = 0 <;> simp [zat, zcj, h0, h1, h2, h3, eq_comm (a := (0 : Int))]
theorem zagk (t : Number) (b r : Bool) : (!((cond b t ⟨0, 0⟩).N == t.N) || (!((cond b t ⟨0, 0⟩).Scale == t.Scale) || r)) = ((!b && !(t.N == 0 && t.Scale == 0)) || r) := by
 obtain ⟨n, s⟩ := t
 cases b <;> by_cases h1 : n = 0 <;> by_cases h2 : s = 0 <;> simp [zat, zcj, h1, h2, eq_comm (a := (0 : Int))]
theorem z6t (x : zB) (u : zL) (r2 : zB) (h : r2 = z1n x u) :
 (!(zfv [(r2.Op == x.Op), (r2.R == x.R), (r2.A == x.A), (r2.B == x.B), (r2.zK == x.zK), (r2.Place.Based == x.Place.Based), (r2.Place.Pointer == x.Place.Pointer), (r2.Place.Offset == x.Place.Offset), (r2.From.Based == x.From.Based), (r2.From.Pointer == x.From.Pointer), (r2.From.Offset == x.From.Offset), (r2.zG.Kind == x.zG.Kind), (r2.zG.Length == x.zG.Length), (r2.zG.Scale == x.zG.Scale), (r2.Second.Kind == x.Second.Kind), (r2.Second.Length == x.Second.Length), (r2.Second.Scale == x.Second.Scale), (r2.Half == x.Half), (r2.zM == x.zM), (r2.Number.N == x.Number.N), (r2.Number.Scale == x.Number.Scale), (r2.Text == x.Text), (r2.Other == x.Other), (r2.Mask == x.Mask), (r2.Target == x.Target), (r2.Pointer == x.Pointer), (r2.Source == x.Source)])) = zmn x u := by
 subst h
 simp only [zfv, Bool.not_and, z1n]
 rw [zaa5 x.Place, zaa5 x.From, zaa6 x.zG, zaa6 x.Second, zagk x.Number]
 simp only [zagm, zagl, zago, zagn, bst, bnt, Bool.false_or, Bool.or_false, zmn, bne]
 ac_rfl
def zdx (t : DataType) (c : Int) : Int := if c = 0 then 0 else if zdm t = 0 then (if (c = 1 ∧ ¬ (1 ≤ t.Kind ∧ t.Kind ≤ 3)) ∨ (c = 2 ∧ t.Kind ≠ 0) ∨ (c = 3 ∧ t.Kind = 4) then 17 else 0) else zdm t
theorem zqb {t : DataType} {c : Int} (h : zdx t c = 0) (hc : c ≠ 0) : zdm t = 0 := by
 unfold zdx at h
 rw [ifn hc] at h
 by_cases h0 : zdm t = 0
 · exact h0
 · rw [ifn h0] at h; exact absurd h h0
theorem zzh (N : Nat) (hN : 10 < N) (t : DataType) (c : Int) (hc : c = 1 ∨ c = 2 ∨ c = 3) : zff N t c = some (zdx t c) := by
 have f2 : ∀ a b : Int, zw N [a, b] = some (zcv [a, b]) := fun a b => zor N _ (by simp; omega) (by simp)
 unfold zff zdx
 rw [zqt N hN]
 simp only [zne, f2, zme, orB, obs, zat, zcj]
 have hc0 : c ≠ 0 := by omega
 rw [ifn hc0]
 by_cases h : zdm t = 0
 · rw [ifp h, h]; simp only [zcv, if_true]; rcases znl h with ⟨h0, _⟩ | ⟨h0 | h0, _⟩ | ⟨h0, _⟩ | ⟨h0, _⟩ <;> rcases hc with rfl | rfl | rfl <;> simp [h0]
 · rw [ifn h]; simp only [zcv, h, if_false]
theorem zy2 (t : DataType) (c : Int) (hc : c = 0 ∨ c = 1 ∨ c = 2 ∨ c = 3) : zh4 t c = some (zdx t c) := by
 unfold zh4 zdx
 rw [zz0]
 simp only [ztj, zme, orB, obs, zat, zcj]
 by_cases hc0 : c = 0
 · simp [hc0]
 · rw [ifn hc0]; simp only [hc0, decide_false, cfa]
   by_cases h : zdm t = 0
   · rw [ifp h, h]; rcases znl h with ⟨h0, _⟩ | ⟨h0 | h0, _⟩ | ⟨h0, _⟩ | ⟨h0, _⟩ <;> rcases hc with rfl | rfl | rfl | rfl <;> first | exact absurd rfl hc0 | simp [h0, inB]
   · rw [ifn h]; simp [h]
theorem zaab (N : Nat) (hN : 10 < N) {x : zB} {f : zP} {u : zL} (ag : Agree f u) : zg3 N x f = some (zcv [zdx x.zG u.zG, zdx x.Second u.Second]) := by
 have w0 : ∀ t, zdx t 0 = 0 := fun t => by simp [zdx]
 have hcls : ∀ c, c ≠ 0 → (c = 0 ∨ c = f.types) → c = f.types ∧ (f.types = 1 ∨ f.types = 2 ∨ f.types = 3) := by
  intro c h0 h1; have := ag.cls; omega
 have eta : ∀ t : DataType, (⟨t.Kind, t.Length, t.Scale⟩ : DataType) = t := fun t => rfl
 unfold zg3
 rw [ag.zG, ag.Second]
 by_cases h1 : u.zG = 0
 · by_cases h2 : u.Second = 0
   · simp [h1, h2, w0, zcv]
   · obtain ⟨e2, c2⟩ := hcls _ h2 ag.class2; have ht := fun t => zzh N hN t f.types c2; have h0 : f.types ≠ 0 := by omega
     simp only [eta, ht, h1, e2, w0]
     by_cases h3 : zdx x.Second f.types = 0 <;> simp [h3, h0, zcv, zcj]
 · obtain ⟨e1, c1⟩ := hcls _ h1 ag.class1; have ht := fun t => zzh N hN t f.types c1; have h0 : f.types ≠ 0 := by omega
   by_cases h2 : u.Second = 0
   · simp only [eta, ht, h2, e1, w0]
     by_cases h3 : zdx x.zG f.types = 0 <;> simp [h3, h0, zcv, zcj]
   · obtain ⟨e2, c2⟩ := hcls _ h2 ag.class2; simp only [eta, ht, e2, e1]
     by_cases h3 : zdx x.zG f.types = 0 <;> by_cases h4 : zdx x.Second f.types = 0 <;> simp [h3, h4, h0, zcv, zcj]
def zns (x : zB) (u : zL) : List Int := cond u.R [x.R] [] ++ (cond u.A [x.A] [] ++ cond u.B [x.B] [])
theorem zaci (n : Nat) {x : zB} {f : zP} {u : zL} (hf : zbt x = some f) (ag : Agree f u) : zt (n + 10) x = some (zns x u) := by
 have s0 : w6 (1 * 2 ^ (min ((0 : Int).toNat) 64)) = 1 := by decide
 have s1 : w6 (1 * 2 ^ (min ((1 : Int).toNat) 64)) = 2 := by decide
 have s2 : w6 (1 * 2 ^ (min ((2 : Int).toNat) 64)) = 4 := by decide
 have a0 : w6 (0 + 1) = 1 := by decide
 have a1 : w6 (1 + 1) = 2 := by decide
 have a2 : w6 (2 + 1) = 3 := by decide
 have rm : ∀ k : Nat, k ≤ 3 → Nat.ble (k * 8) zac = true := fun k hk => Nat.ble_eq_true_of_le (by unfold zac; omega)
 unfold zt
 rw [hf]
 simp only [obs]
 have i0 : ∀ l, zt.r0 (n + 10) (l, f.fields, [x.R, x.A, x.B], (([x.R, x.A, x.B] : List Int).length : Int), 0) = some (.again (cond u.R (l ++ [x.R]) l, f.fields, [x.R, x.A, x.B], (([x.R, x.A, x.B] : List Int).length : Int), 1)) ∨ l.length > 2 := by
  intro l
  by_cases hl : l.length > 2
  · exact .inr hl
  · left; simp only [zt.r0, zt.b0, s0, a0, ag.R]; have := rm (l.length + 1) (by omega); cases u.R <;> simp [this]
 have i1 : ∀ l, zt.r0 (n + 10) (l, f.fields, [x.R, x.A, x.B], (([x.R, x.A, x.B] : List Int).length : Int), 1) = some (.again (cond u.A (l ++ [x.A]) l, f.fields, [x.R, x.A, x.B], (([x.R, x.A, x.B] : List Int).length : Int), 2)) ∨ l.length > 2 := by
  intro l
  by_cases hl : l.length > 2
  · exact .inr hl
  · left; simp only [zt.r0, zt.b0, s1, a1, ag.A]; have := rm (l.length + 1) (by omega); cases u.A <;> simp [this]
 have i2 : ∀ l, zt.r0 (n + 10) (l, f.fields, [x.R, x.A, x.B], (([x.R, x.A, x.B] : List Int).length : Int), 2) = some (.again (cond u.B (l ++ [x.B]) l, f.fields, [x.R, x.A, x.B], (([x.R, x.A, x.B] : List Int).length : Int), 3)) ∨ l.length > 2 := by
  intro l
  by_cases hl : l.length > 2
  · exact .inr hl
  · left; simp only [zt.r0, zt.b0, s2, a2, ag.B]; have := rm (l.length + 1) (by omega); cases u.B <;> simp [this]
 have i3 : ∀ l, zt.r0 (n + 10) (l, f.fields, [x.R, x.A, x.B], (([x.R, x.A, x.B] : List Int).length : Int), 3) = some (.leave (l, f.fields, [x.R, x.A, x.B], (([x.R, x.A, x.B] : List Int).length : Int), 3)) := by
  intro l; simp [zt.r0, zt.b0]
 have l1 : (cond u.R ([] ++ [x.R]) ([] : List Int)).length ≤ 1 := by cases u.R <;> simp
 have l2 : (cond u.A (cond u.R ([] ++ [x.R]) ([] : List Int) ++ [x.A]) (cond u.R ([] ++ [x.R]) ([] : List Int))).length ≤ 2 := by cases u.R <;> cases u.A <;> simp
 show (zq (zt.r0 (n + 10)) (n + 10) _).bind _ = _
 simp only [zq]
 rw [(i0 []).resolve_right (by simp)]
 simp only [obs]
 rw [(i1 _).resolve_right (by omega)]
 simp only [obs]
 rw [(i2 _).resolve_right (by omega)]
 simp only [obs]
 rw [i3]
 simp only [obs, zns]
 cases u.R <;> cases u.A <;> cases u.B <;> rfl
def zf4 (m : zI) (r : Int) : Bool := !inB r 0 (m.Registers - 1)
theorem z43 (N : Nat) (l : List Int) (h : l.length < N) (hl : l.length < 1000000000) (m : zI) (hm : 2 ≤ m.Registers ∧ m.Registers ≤ 8) : zc1 N l m = some (l.any (zf4 m)) := by
 unfold zc1 zah
 have c1 : ∀ r, zfy r m = some (zf4 m r) := fun r => by
  unfold zfy zf4; rw [w6e, zl5]; rfl
 have := zb9 (f := zah.r0 N) (fun i => (l, (l.length : Int), (i : Int), m)) (fun i => (l[i]?).bind fun x => if zf4 m x then some (i : Int) else none) l.length
  (fun i hi => by
   have hx := lge hi; simp only [zah.r0, zah.b0, za3, hx, obs, dct (show (i : Int) < (l.length : Int) by omega), ctr, c1]; rw [w6e]; cases hb : zf4 m l[i] <;> simp)
  (by simp only [zah.r0, zah.b0, dcf (show ¬ (l.length : Int) < (l.length : Int) by omega), cfa]) h
 simp only [nc0] at this
 rw [this]
 simp only [obs]
 cases hfs : (List.range l.length).findSome? (fun i : Nat => (l[i]?).bind fun x => if zf4 m x = true then some (i : Int) else none) with
 | some r =>
  simp only [zb3, obs]; obtain ⟨i, hi, hr⟩ := eof hfs; rw [Option.bind_eq_some_iff] at hr; obtain ⟨x, hx, hr⟩ := hr; split at hr
  · rename_i hb; cases hr; have : l.any (zf4 m) = true := List.any_eq_true.2 ⟨x, lmg hx, hb⟩; rw [this]; simp
  · cases hr
 | none =>
  simp only [zb3, obs]; rw [List.findSome?_eq_none_iff] at hfs; have : l.any (zf4 m) = false := by
   rw [List.any_eq_false]; intro x hx hb; obtain ⟨i, hi⟩ := List.getElem?_of_mem hx; have := hfs i (by simp; exact (gei hi).1); rw [hi] at this; simp [hb] at this
  rw [this]; rfl
theorem zab0 (m : zI) (hm : 2 ≤ m.Registers ∧ m.Registers ≤ 8) {x : zB} {u : zL} (hu : zfn x = some u) : zeb m x = some (!(zns x u).any (zf4 m)) := by
 have c1 : ∀ r, zfc m r = some (!zf4 m r) := fun r => by
  unfold zfc zf4; rw [w6e, zh2]; simp
 unfold zeb
 rw [hu]
 have aux : ∀ b r, (cond b [r] []).any (zf4 m) = (b && zf4 m r) := fun b r => by cases b <;> simp
 simp only [c1, obs, zns, List.any_append, aux]
 generalize zf4 m x.R = p
 generalize zf4 m x.A = q
 generalize zf4 m x.B = r
 cases u.R <;> cases u.A <;> cases u.B <;> cases p <;> cases q <;> cases r <;> rfl
def zgm (x : zB) : DataType := if x.Op = 4 then x.Second else x.zG
def zm0 (m : zI) (c : zF) (x : zB) (u : zL) : Bool :=
 (zns x u).any (zf4 m) || ((u.Target && !inB x.Target 0 ((c.zD.length : Int) - 1)) || ((u.Mask && !inB x.Mask 1 7) || ((u.Pointer && !zet c.Storage x.Pointer) || ((u.Source && !zet c.Storage x.Source) ||
  ((u.Place && !zch c.Storage x.Place (szE (zgm x))) || ((u.From && !zch c.Storage x.From (szE x.Second)) || (u.zK && !inB x.zK 0 4)))))))
theorem eD (t : DataType) : (⟨t.Kind, t.Length, t.Scale⟩ : DataType) = t := rfl
theorem eP (t : zO) : (⟨t.Based, t.Pointer, t.Offset⟩ : zO) = t := rfl
theorem eS (t : Storage) : (⟨t.Bytes, t.Tags⟩ : Storage) = t := rfl
theorem eN (t : Number) : (⟨t.N, t.Scale⟩ : Number) = t := rfl
theorem eM (t : zI) : (⟨t.Registers, t.yH, t.yF⟩ : zI) = t := rfl
theorem eC (t : zF) : (⟨t.Storage, t.zD, t.zN⟩ : zF) = t := rfl
theorem eX (t : zB) : (⟨t.Op, t.R, t.A, t.B, t.zK, t.Place, t.From, t.zG, t.Second, t.Half, t.zM, t.Number, t.Text, t.Other, t.Mask, t.Target, t.Pointer, t.Source⟩ : zB) = t := rfl
theorem eF (t : zP) : (⟨t.fields, t.types⟩ : zP) = t := rfl
theorem nF (a b : Bool) : (cond a (some (!b)) (some false)) = some (a && !b) := by cases a <;> rfl
structure InsOk (c : zF) (x : zB) (u : zL) : Prop where
 sto : StoOk c.Storage
 len : c.zD.length < 1000000000
 pt : u.Place = true → zdm (zgm x) = 0
 ft : u.From = true → zdm x.Second = 0
 po : -9223372036854775808 ≤ x.Place.Offset ∧ x.Place.Offset ≤ 9223372036854775807
 fo : -9223372036854775808 ≤ x.From.Offset ∧ x.From.Offset ≤ 9223372036854775807
theorem z7d {a b : Bool} {o : Option Bool} (h : a = true → o = some b) : (cond a o (some false)) = some (a && b) := by
 cases a
 · rfl
 · exact h rfl
theorem zaad (N : Nat) (hN : 20 < N) {m : zI} (hm : 2 ≤ m.Registers ∧ m.Registers ≤ 8) {c : zF} {x : zB} {f : zP} {u : zL} (hf : zbt x = some f) (ag : Agree f u) (ok : InsOk c x u) :
 zhl N m c x = some (!zm0 m c x u) := by
 obtain ⟨n, rfl⟩ : ∃ n, N = n + 10 := ⟨N - 10, by omega⟩
 have hl : (zns x u).length ≤ 3 := by unfold zns; cases u.R <;> cases u.A <;> cases u.B <;> simp
 have hlen := ok.len
 have g1 : ∀ p t, (u.Place = true → zdm t = 0) → (cond u.Place ((zc9 (n + 10) c.Storage p t).bind fun r => some (!r)) (some false)) = some (u.Place && !zch c.Storage p (szE t)) := fun p t h => z7d fun hp => by rw [z3j ok.sto _ (by omega) _ (h hp)]; rfl
 have g2 : ∀ p t, (u.From = true → zdm t = 0) → (cond u.From ((zc9 (n + 10) c.Storage p t).bind fun r => some (!r)) (some false)) = some (u.From && !zch c.Storage p (szE t)) := fun p t h => z7d fun hp => by rw [z3j ok.sto _ (by omega) _ (h hp)]; rfl
 unfold zhl
 try simp only [eD, eP, eS, eM, eC, eX]
 rw [hf, zaci n hf ag]
 simp only [obs]
 rw [z43 _ _ (by omega) (by omega) m hm]
 simp only [obs]
 unfold zm0
 cases hr : (zns x u).any (zf4 m) with
 | true => rfl
 | false =>
  simp only [cfa, Bool.false_or, ag.Place, ag.From, ag.Target, ag.Mask, ag.Pointer, ag.Source, ag.Calc, zme, zat, obs]; rw [w6e]; simp only [zl5, z5i, nF, obs]
  by_cases h4 : x.Op = 4
  · have hp : zgm x = x.Second := ifp h4; have k := ok.pt; rw [hp] at k ⊢; rw [g2 _ _ ok.ft]; cases hup : u.Place with
    | true =>
     simp only [h4, decide_true, Bool.and_true, ctr, Bool.true_and]; have := g1 x.Place x.Second k; rw [hup] at this; simp only [ctr, Bool.true_and] at this; rw [this]; simp only [orB, obs, Bool.or_assoc, Bool.true_and]
    | false =>
     simp only [h4, decide_true, Bool.false_and, cfa, obs, orB, Bool.or_assoc, Bool.false_or]
  · have hp : zgm x = x.zG := ifn h4; have k := ok.pt; rw [hp] at k ⊢; rw [g1 _ _ k, g2 _ _ ok.ft]; simp only [h4, decide_false, Bool.and_false, cfa, obs, orB, Bool.or_assoc]
def zpw (m : zI) (x : zB) : Bool := (decide (x.Op = 7) && !m.yH) || (x.zM && !m.yF)
def zo9 (x : zB) : Bool := decide ((x.Text.size : Int) > 256) || decide ((x.Other.size : Int) > 256)
theorem zaen (m : zI) (x : zB) (h : x.zM = true → x.Op = 4) : zgx m x = some (!zpw m x) := by
 unfold zgx zpw
 by_cases h7 : x.Op = 7
 · have h4 : x.zM = false := by
    cases hi : x.zM with
    | false => rfl
    | true => have := h hi; omega
   rw [h4]; simp only [h7, zcj]; cases m.yH <;> rfl
 · by_cases h4 : x.Op = 4
   · simp only [h4, zcj]; cases x.zM <;> cases m.yF <;> rfl
   · have h5 : x.zM = false := by
      cases hi : x.zM with
      | false => rfl
      | true => exact absurd (h hi) h4
     simp [h5, h7, h4, zcj]
theorem z9y (m : zI) (x : zB) : zjr m x = some (zpw m x) := by
 unfold zjr zpw
 simp only [zat]
 cases decide (x.Op = 7) <;> cases m.yH <;> cases x.zM <;> cases m.yF <;> rfl
def zyc (m : zI) (c : zF) (x : zB) (u : zL) : Int :=
 cond (zmn x u) 5 (cond (zpw m x) 39 (if zdx x.zG u.zG ≠ 0 then zdx x.zG u.zG else if zdx x.Second u.Second ≠ 0 then zdx x.Second u.Second else
  cond (zm0 m c x u) 3 (if zlv x.Number ≠ 0 then zlv x.Number else cond (zo9 x) 2 0)))
theorem zsk {x : zB} {u : zL} (h : zmn x u = false) : (x.zM = true → x.Op = 4) ∧ (u.Number = false → zlv x.Number = 0) := by
 unfold zmn at h
 simp only [Bool.or_eq_false_iff] at h
 obtain ⟨_, _, _, _, _, _, _, _, _, h10, h11, _⟩ := h
 constructor
 · intro hi; rw [hi] at h10; simpa using h10
 · intro hn; rw [hn] at h11; simp only [Bool.not_false, Bool.true_and, Bool.not_eq_eq_eq_not, bnt, Bool.and_eq_true, beq_iff_eq, Bool.not_eq_false'] at h11; obtain ⟨e1, e2⟩ : x.Number.N = 0 ∧ x.Number.Scale = 0 := by simpa using h11
   unfold zlv; rw [e1, e2]
   decide
theorem zaem (N : Nat) (hN : 20 < N) {m : zI} (hm : 2 ≤ m.Registers ∧ m.Registers ≤ 8) {c : zF} {x : zB} {f : zP} {u : zL} (hop : inB x.Op 0 26 = true) (hf : zbt x = some f) (ag : Agree f u)
 (ok : zdx x.zG u.zG = 0 → zdx x.Second u.Second = 0 → InsOk c x u) : zcp N m c x = some (zyc m c x u) := by
 have f3 : ∀ a b d : Int, zw N [a, b, d] = some (zcv [a, b, d]) := fun a b d => zor N _ (by simp; omega) (by simp)
 unfold zcp zyc
 try simp only [eD, eP, eS, eM, eC, eX, eN, eF]
 rw [zl5, hop, hf, zack hf ag]
 simp only [obs, bnt, cfa]
 rw [zaab N (by omega) ag]
 rw [z6t x u _ rfl]
 simp only [zne, zkj, obs, f3, orB]
 cases he : zmn x u with
 | true =>
  have hx : ∃ b, zgx m x = some b := by
   unfold zgx; cases (x.Op != 7) <;> cases m.yH <;> cases (x.Op != 4) <;> cases x.zM <;> cases m.yF <;> exact ⟨_, rfl⟩
  obtain ⟨b, hb⟩ := hx; rw [hb]; simp [zcv]
 | false =>
  obtain ⟨h1, h2⟩ := zsk he; rw [zaen m x h1]; simp only [obs, Bool.not_not, cfa]; cases zpw m x with
  | true => simp [zcv]
  | false =>
   simp only [cfa]
   by_cases e1 : zdx x.zG u.zG = 0
   · by_cases e2 : zdx x.Second u.Second = 0
     · rw [zaad N hN hm hf ag (ok e1 e2)]; simp only [e1, e2, zcv, if_true, obs, Bool.not_not]; cases zm0 m c x u with
       | true => simp
       | false =>
        by_cases e3 : zlv x.Number = 0
        · cases hl : zo9 x with
          | true => unfold zo9 at hl; simp [e3, hl]
          | false => unfold zo9 at hl; simp [e3, hl]
        · simp [e3]
     · simp [zcv, e1, e2, zcj]
   · simp [zcv, e1, zcj]
theorem zacu {f : zP} {u : zL} (ag : Agree f u) : (u.zG = 0 ∨ u.zG = 1 ∨ u.zG = 2 ∨ u.zG = 3) ∧ (u.Second = 0 ∨ u.Second = 1 ∨ u.Second = 2 ∨ u.Second = 3) := by
 have h1 := ag.class1
 have h2 := ag.class2
 have h3 := ag.cls
 omega
theorem zadw {m : zI} (hm : 2 ≤ m.Registers ∧ m.Registers ≤ 8) {c : zF} {x : zB} {f : zP} {u : zL} (hop : inB x.Op 0 26 = true) (hu : zfn x = some u) (ag : Agree f u)
 (ok : zdx x.zG u.zG = 0 → zdx x.Second u.Second = 0 → InsOk c x u) : zdq m c x = some (zyc m c x u) := by
 obtain ⟨c1, c2⟩ := zacu ag
 unfold zdq zyc
 try simp only [eD, eP, eS, eM, eC, eX, eN, eF]
 rw [zh2, hop, hu]
 simp only [obs, bnt, cfa]
 rw [z90, z9y, zy2 _ _ c1, zy2 _ _ c2, zab0 m hm hu]
 simp only [obs]
 cases he : zmn x u with
 | true => rfl
 | false =>
  obtain ⟨h1, h2⟩ := zsk he; simp only [cfa]; cases zpw m x with
  | true => rfl
  | false =>
   simp only [cfa]
   by_cases e1 : zdx x.zG u.zG = 0
   · by_cases e2 : zdx x.Second u.Second = 0
     · have o := ok e1 e2; have hlen := o.len; have hb : ∀ t, zdm t = 0 → zbi t = some (szE t) := fun t h => zje h; have g1 : ∀ t, (u.Place = true → zdm t = 0) → (cond u.Place ((zbi t).bind fun r => (zem c x.Place r).bind fun r => some (!r)) (some false)) = some (u.Place && !zch c.Storage x.Place (szE t)) := fun t h => z7d fun hp => by rw [zje (h hp)]; simp only [obs]; rw [z2l o.sto rfl _ o.po (h hp)]; rfl
       have g2 : (cond u.From ((zbi x.Second).bind fun r => (zem c x.From r).bind fun r => some (!r)) (some false)) = some (u.From && !zch c.Storage x.From (szE x.Second)) := z7d fun hp => by rw [zje (o.ft hp)]; simp only [obs]; rw [z2l o.sto rfl _ o.fo (o.ft hp)]; rfl
       have k := o.pt; have kn : ∀ e : Int, (u.Number = false → e = 0) → (cond (u.Number && e != 0) (some e) (cond (zo9 x) (some 2) (some 0))) = some (if e ≠ 0 then e else cond (zo9 x) 2 0) := by
        intro e h
        by_cases h0 : e = 0
        · subst h0; cases u.Number <;> cases zo9 x <;> rfl
        · cases hn : u.Number with
          | false => exact absurd (h hn) h0
          | true => simp [h0, zcj]
       simp only [e1, e2, bsf, cfa, ne_eq, not_true_eq_false, if_false, zat]; rw [w6e]; simp only [zh2, zz1 o.sto, zrr, nF, zme, orB, g2, obs, ← zo9.eq_def]; unfold zm0
       by_cases h4 : x.Op = 4
       · have hp : zgm x = x.Second := ifp h4; rw [hp] at k ⊢; rw [g1 _ k]; simp only [h4, decide_true, ctr, obs, kn _ h2]; generalize (zns x u).any (zf4 m) = t1; generalize (u.Target && !inB x.Target 0 ((c.zD.length : Int) - 1)) = t2; generalize (u.Mask && !inB x.Mask 1 7) = t3; generalize (u.Pointer && !zet c.Storage x.Pointer) = t4; generalize (u.Source && !zet c.Storage x.Source) = t5; generalize (u.Place && !zch c.Storage x.Place (szE x.Second)) = t6; generalize (u.From && !zch c.Storage x.From (szE x.Second)) = t7; generalize (u.zK && !inB x.zK 0 4) = t8; cases t1 <;> cases t2 <;> cases t3 <;> cases t4 <;> cases t5 <;> cases t6 <;> cases t7 <;> cases t8 <;> rfl
       · have hp : zgm x = x.zG := ifn h4; rw [hp] at k ⊢; rw [g1 _ k]; simp only [h4, decide_false, cfa, obs, kn _ h2]; generalize (zns x u).any (zf4 m) = t1; generalize (u.Target && !inB x.Target 0 ((c.zD.length : Int) - 1)) = t2; generalize (u.Mask && !inB x.Mask 1 7) = t3; generalize (u.Pointer && !zet c.Storage x.Pointer) = t4; generalize (u.Source && !zet c.Storage x.Source) = t5; generalize (u.Place && !zch c.Storage x.Place (szE x.zG)) = t6; generalize (u.From && !zch c.Storage x.From (szE x.Second)) = t7; generalize (u.zK && !inB x.zK 0 4) = t8; cases t1 <;> cases t2 <;> cases t3 <;> cases t4 <;> cases t5 <;> cases t6 <;> cases t7 <;> cases t8 <;> rfl
     · simp [e1, e2, zcj]
   · simp [e1, zcj]
theorem zoy {n : Nat} {c : zF} (h : Wft En n Ty.zF c) : c.Storage.Bytes.size ≤ n ∧ c.Storage.Tags.length ≤ n ∧ c.zD.length ≤ n ∧ c.zN.length ≤ n ∧ ∀ x ∈ c.zD, Wft En n Ty.zB x := by
 have h1 := h (.sc (.string c.Storage.Bytes)) (by show _ ∈ zk6 c; simp [zk6])
 have h2 := h (.lst Ty.bool c.Storage.Tags) (by show _ ∈ zk6 c; simp [zk6])
 have h3 := h (.lst Ty.zB c.zD) (by show _ ∈ zk6 c; simp [zk6])
 have h4 := h (.lst Ty.zT c.zN) (by show _ ∈ zk6 c; simp [zk6])
 cases h1 with
 | str h1 =>
  cases h2 with
  | lst h2 _ =>
   cases h3 with
   | lst h3 h3' =>
    cases h4 with
    | lst h4 _ => exact ⟨h1, h2, h3, h4, h3'⟩
theorem z49 {n : Nat} {z : Int} (h : Wfc En n (.sc (.int .i64 z))) : -9223372036854775808 ≤ z ∧ z ≤ 9223372036854775807 := by
 cases h with
 | int h1 h2 =>
  have e1 : IntKind.i64.min = -9223372036854775808 := by decide
  have e2 : IntKind.i64.max = 9223372036854775807 := by decide
  rw [e1] at h1; rw [e2] at h2; exact ⟨h1, h2⟩
theorem zaei {n : Nat} {x : zB} (h : Wft En n Ty.zB x) : (-9223372036854775808 ≤ x.Place.Offset ∧ x.Place.Offset ≤ 9223372036854775807) ∧ (-9223372036854775808 ≤ x.From.Offset ∧ x.From.Offset ≤ 9223372036854775807) :=
 ⟨z49 (h _ (by show _ ∈ zix x; simp [zix])), z49 (h _ (by show _ ∈ zix x; simp [zix]))⟩
def zou (m : zI) (c : zF) (x : zB) : Int := if inB x.Op 0 26 = true then zyc m c x ((zfn x).getD ⟨false, false, false, false, false, false, false, false, false, false, false, false, false, false, 0, 0⟩) else 4
theorem z4b (N : Nat) (hN : 20 < N) {m : zI} (hm : 2 ≤ m.Registers ∧ m.Registers ≤ 8) {c : zF} (hs : StoOk c.Storage) (hlen : c.zD.length < 1000000000) {n : Nat} {x : zB} (hx : Wft En n Ty.zB x) :
 zcp N m c x = some (zou m c x) ∧ zdq m c x = some (zou m c x) := by
 obtain ⟨w1, w2⟩ := zaei hx
 unfold zou
 by_cases hop : inB x.Op 0 26 = true
 · obtain ⟨f, u, hf, hu, ag, h4, h5, h6⟩ := z04 x hop; have ok : zdx x.zG u.zG = 0 → zdx x.Second u.Second = 0 → InsOk c x u := fun e1 e2 => {
    sto := hs, len := hlen, po := w1, fo := w2,
    pt := fun hp => (by
     have := h6 hp; unfold zgm; split
     · rename_i h7; rw [ifp h7] at this; exact zqb e2 this
     · rename_i h7; rw [ifn h7] at this; exact zqb e1 this),
    ft := fun hp => zqb e2 (h5 hp) }
   rw [ifp hop, hu]; exact ⟨zaem N hN hm hop hf ag ok, zadw hm hop hu ag ok⟩
 · rw [ifn hop]; have e : inB x.Op 0 26 = false := by simpa using hop
   constructor
   · unfold zcp; rw [zl5, e]; rfl
   · unfold zdq; rw [zh2, e]; rfl
def zqd (c : zF) (t : zT) : Bool := (inB t.From 0 t.To && (decide (t.To ≤ (c.zD.length : Int)) && (inB t.Exception 0 999 && inB t.Handler 0 ((c.zD.length : Int) - 1))))
theorem zacg (c : zF) (hlen : c.zD.length < 1000000000) (t : zT) : zhj c t = some (cond (zqd c t) 0 3) := by
 unfold zhj zqd
 rw [w6e]
 simp only [zl5, zne, zme, obs, Bool.and_assoc]
 generalize (inB t.From 0 t.To && (decide (t.To ≤ (c.zD.length : Int)) && (inB t.Exception 0 999 && inB t.Handler 0 ((c.zD.length : Int) - 1)))) = b
 cases b <;> rfl
theorem zaby (c : zF) (t : zT) : ((decide (t.From < 0) || decide (t.From > t.To)) || (decide (t.To > (c.zD.length : Int)))) = !(inB t.From 0 t.To && decide (t.To ≤ (c.zD.length : Int))) := by
 unfold inB
 by_cases h1 : t.From < 0
 · simp [h1, show ¬ (0 ≤ t.From) by omega]
 · by_cases h2 : t.From > t.To
   · simp [h1, h2, show ¬ (t.From ≤ t.To) by omega]
   · by_cases h3 : t.To > (c.zD.length : Int)
     · simp [h1, h2, h3, show ¬ (t.To ≤ (c.zD.length : Int)) by omega]
     · simp [h1, h2, h3, show (0 ≤ t.From) by omega, show (t.From ≤ t.To) by omega, show (t.To ≤ (c.zD.length : Int)) by omega]
def gI (m : zI) (c : zF) (i : Nat) : Option (Int × Int) := (c.zD[i]?).bind fun x => if zou m c x = 0 then none else some ((i : Int), zou m c x)
def gT (c : zF) (i : Nat) : Option (Int × Int) := (c.zN[i]?).bind fun t => if zqd c t = true then none else some ((i : Int), 3)
def ztk (m : zI) (c : zF) : Int × Int :=
 match (List.range c.zD.length).findSome? (gI m c) with
 | some r => r
 | none => match (List.range c.zN.length).findSome? (gT c) with
  | some r => r
  | none => ((c.zD.length : Int), 0)
theorem zaae (N : Nat) (hN : 1048600 < N) {m : zI} (hm : 2 ≤ m.Registers ∧ m.Registers ≤ 8) {c : zF} (hs : StoOk c.Storage) (hc : Wft En 1048576 Ty.zF c) :
 ((zn (zl.r0 N) N (c.zD, (c.zD.length : Int), 0, m, c)).bind fun z10 =>
 zb3 z10 (fun z => some z) (fun y9 => (zn (zl.r2 N) N (y9.2.2.2.2.zN, (y9.2.2.2.2.zN.length : Int), 0, y9.2.2.2.2)).bind fun z12 => zb3 z12 (fun z =>
 some z) (fun y11 => some ((y11.2.2.2.zD.length : Int), 0)))) = some (ztk m c) := by
 obtain ⟨w1, w2, w3, w4, w5⟩ := zoy hc
 have l1 := zb9 (f := zl.r0 N) (fun i => (c.zD, (c.zD.length : Int), (i : Int), m, c)) (gI m c) c.zD.length
  (fun i hi => by
   have hx := lge hi; have hb := (z4b N (by omega) hm hs (by omega) (w5 _ (List.getElem_mem hi))).1; simp only [zl.r0, zl.b0, za3, hx, obs, dct (show (i : Int) < (c.zD.length : Int) by omega), ctr, eD, eP, eS, eM, eC, eX, eN, gI, hb]; rw [w6e]
   by_cases h0 : zou m c c.zD[i] = 0 <;> simp [h0, zcj])
  (by simp only [zl.r0, zl.b0, dcf (show ¬ (c.zD.length : Int) < (c.zD.length : Int) by omega), cfa]) (N := N) (by omega)
 have l2 := zb9 (f := zl.r2 N) (fun i => (c.zN, (c.zN.length : Int), (i : Int), c)) (gT c) c.zN.length
  (fun i hi => by
   have hx := lge hi; simp only [zl.r2, zl.b2, za3, hx, obs, dct (show (i : Int) < (c.zN.length : Int) by omega), ctr, gT, zacg c (by omega)]; rw [w6e]; cases zqd c c.zN[i] <;> simp)
  (by simp only [zl.r2, zl.b2, dcf (show ¬ (c.zN.length : Int) < (c.zN.length : Int) by omega), cfa]) (N := N) (by omega)
 simp only [nc0] at l1 l2
 rw [l1]
 unfold ztk
 simp only [obs]
 cases (List.range c.zD.length).findSome? (gI m c) with
 | some r => rfl
 | none =>
  simp only [zb3]; rw [l2]; simp only [obs]; cases (List.range c.zN.length).findSome? (gT c) <;> rfl
theorem z2m (N : Nat) (hN : 1048600 < N) {m : zI} (hm : 2 ≤ m.Registers ∧ m.Registers ≤ 8) {c : zF} (hs : StoOk c.Storage) (hc : Wft En 1048576 Ty.zF c) :
 ((zn (zr.r1 N) N (0, m, c)).bind fun z6 =>
 zb3 z6 (fun z => some z) (fun y5 => (zn (zr.r3 N) N (0, y5.2.2)).bind fun z8 => zb3 z8 (fun z => some z) (fun y7 =>
 some ((y7.2.zD.length : Int), 0)))) = some (ztk m c) := by
 obtain ⟨w1, w2, w3, w4, w5⟩ := zoy hc
 have l1 := zb9 (f := zr.r1 N) (fun i => ((i : Int), m, c)) (gI m c) c.zD.length
  (fun i hi => by
   have hx := lge hi; have hb := (z4b N (by omega) hm hs (by omega) (w5 _ (List.getElem_mem hi))).2; simp only [zr.r1, zr.b1, za3, hx, obs, dct (show (i : Int) < (c.zD.length : Int) by omega), ctr, eD, eP, eS, eM, eC, eX, eN, gI, hb]; rw [w6e]
   by_cases h0 : zou m c c.zD[i] = 0 <;> simp [h0, zcj])
  (by simp only [zr.r1, zr.b1, dcf (show ¬ (c.zD.length : Int) < (c.zD.length : Int) by omega), cfa]) (N := N) (by omega)
 have l2 := zb9 (f := zr.r3 N) (fun i => ((i : Int), c)) (gT c) c.zN.length
  (fun i hi => by
   have hx := lge hi; simp only [zr.r3, zr.b3, za3, hx, obs, dct (show (i : Int) < (c.zN.length : Int) by omega), ctr, gT, orB, zh2, zaby]; rw [w6e (n := (i : Int) + 1), w6e (n := (c.zD.length : Int) - 1)]; have bl : ∀ a b d e : Bool, ((!(a && b) || !d) || !e) = !(a && (b && (d && e))) := fun a b d e => by cases a <;> cases b <;> cases d <;> cases e <;> rfl
   simp only [zh2, obs, orB, bl, ← zqd.eq_def]; cases zqd c c.zN[i] <;> simp)
  (by simp only [zr.r3, zr.b3, dcf (show ¬ (c.zN.length : Int) < (c.zN.length : Int) by omega), cfa]) (N := N) (by omega)
 simp only [nc0] at l1 l2
 rw [l1]
 unfold ztk
 simp only [obs]
 cases (List.range c.zD.length).findSome? (gI m c) with
 | some r => rfl
 | none =>
  simp only [zb3]; rw [l2]; simp only [obs]; cases (List.range c.zN.length).findSome? (gT c) <;> rfl
theorem zafh (n lo hi : Int) : zgc n lo hi = some (inB n lo hi) := by
 unfold zgc inB
 cases decide (lo ≤ n) <;> rfl
theorem zcr (b : ByteArray) (i j : Nat) (h : j ≤ b.size) (hij : i ≤ j) : (b.extract i j).size = j - i := by
 rw [ByteArray.size_extract]
 omega
theorem zkk {α : Type} {f : α → Option (Stp α)} (I : α → Prop) (m : α → Nat) (Q : α → Prop) (h : ∀ s, I s → (∃ s', f s = some (.again s') ∧ I s' ∧ m s' < m s) ∨ ∃ s', f s = some (.leave s') ∧ Q s') : ∀ {N : Nat} {s : α}, I s → m s < N → ∃ s', zq f N s = some s' ∧ Q s' := by
 intro N
 induction N with
 | zero => intro s _ h0; omega
 | succ N ih =>
  intro s hs hN; rcases h s hs with ⟨s1, h1, h2, h3⟩ | ⟨s', h1, h2⟩
  · obtain ⟨s', h4, h5⟩ := ih h2 (show m s1 < N by omega); exact ⟨s', by simp only [zq, h1, obs]; exact h4, h5⟩
  · exact ⟨s', by simp only [zq, h1, obs], h2⟩
theorem z8o {R α : Type} {f : α → Option (Round R α)} (I : α → Prop) (m : α → Nat) (J : R → Prop) (Q : α → Prop) (h : ∀ s, I s → (∃ s', f s = some (.again s') ∧ I s' ∧ m s' < m s) ∨ (∃ s', f s = some (.leave s') ∧ Q s') ∨ ∃ r, f s = some (.result r) ∧ J r) : ∀ {N : Nat} {s : α}, I s → m s < N → (∃ s', zn f N s = some (.inr s') ∧ Q s') ∨ ∃ r, zn f N s = some (.inl r) ∧ J r := by
 intro N
 induction N with
 | zero => intro s _ h0; omega
 | succ N ih =>
  intro s hs hN; rcases h s hs with ⟨s1, h1, h2, h3⟩ | ⟨s', h1, h2⟩ | ⟨r, h1, h2⟩
  · rcases ih h2 (show m s1 < N by omega) with ⟨s', h4, h5⟩ | ⟨r, h4, h5⟩
    · exact .inl ⟨s', by simp only [zn, h1, obs]; exact h4, h5⟩
    · exact .inr ⟨r, by simp only [zn, h1, obs]; exact h4, h5⟩
  · exact .inl ⟨s', by simp only [zn, h1, obs], h2⟩
  · exact .inr ⟨r, by simp only [zn, h1, obs], h2⟩
theorem zaaz {n : Int} (h1 : 0 ≤ n) (h2 : n < 18446744073709551616) : IntKind.wrap .u64 n = n := by
 have e : (2 : Int) ^ (IntKind.u64.bits) = 18446744073709551616 := by decide
 unfold IntKind.wrap
 simp only [e, show IntKind.u64.signed = false from rfl, Bool.false_and]
 simp only [Bool.false_eq_true, if_false]
 omega
theorem zkv {n : Int} (h1 : 0 ≤ n) (h2 : n < 256) : IntKind.wrap .u8 n = n := by
 have e : (2 : Int) ^ (IntKind.u8.bits) = 256 := by decide
 unfold IntKind.wrap
 simp only [e, show IntKind.u8.signed = false from rfl, Bool.false_and]
 simp only [Bool.false_eq_true, if_false]
 omega
theorem orU (x y : Nat) (hx : x < 2 ^ 64) (hy : y < 2 ^ 64) : orI .u64 (x : Int) (y : Int) = ((x ||| y : Nat) : Int) := by
 have h := Nat.or_lt_two_pow hx hy
 unfold orI
 have e : (BitVec.ofInt IntKind.u64.bits (x : Int) ||| BitVec.ofInt IntKind.u64.bits (y : Int)).toNat = (x ||| y) := by
  show (BitVec.ofInt 64 (x : Int) ||| BitVec.ofInt 64 (y : Int)).toNat = _; rw [BitVec.toNat_or, BitVec.ofInt_natCast, BitVec.ofInt_natCast, BitVec.toNat_ofNat, BitVec.toNat_ofNat, mel hx, mel hy]
 rw [e]
 exact zaaz (by omega) (by omega)
theorem andU (x y : Nat) (hx : x < 2 ^ 64) (hy : y < 2 ^ 64) : zh .u64 (x : Int) (y : Int) = ((x &&& y : Nat) : Int) := by
 have h := Nat.and_lt_two_pow x hy
 unfold zh
 have e : (BitVec.ofInt IntKind.u64.bits (x : Int) &&& BitVec.ofInt IntKind.u64.bits (y : Int)).toNat = (x &&& y) := by
  show (BitVec.ofInt 64 (x : Int) &&& BitVec.ofInt 64 (y : Int)).toNat = _; rw [BitVec.toNat_and, BitVec.ofInt_natCast, BitVec.ofInt_natCast, BitVec.toNat_ofNat, BitVec.toNat_ofNat, mel hx, mel hy]
 rw [e]
 exact zaaz (by omega) (by omega)
def wn (n : Nat) : zH := ⟨(n % 18446744073709551616 : Nat), (n / 18446744073709551616 % 18446744073709551616 : Nat), (n / 18446744073709551616 / 18446744073709551616 % 18446744073709551616 : Nat), (n / 18446744073709551616 / 18446744073709551616 / 18446744073709551616 % 18446744073709551616 : Nat)⟩
def zjz : Nat := 115792089237316195423570985008687907853269984665640564039457584007913129639936
theorem z7k {x y : zH} (h0 : x.e0 = y.e0) (h1 : x.e1 = y.e1) (h2 : x.e2 = y.e2) (h3 : x.e3 = y.e3) : x = y := by
 cases x; cases y; simp_all
theorem z0z {n : Nat} (h : n < 18446744073709551616) : zbf (n : Int) = some (wn n) := by
 unfold zbf wn
 congr 2 <;> omega
theorem zagi (N : Nat) (a b w o : zH) : zy.r0 N (0, 0, a, b, w, o) = some (.again (((a.e0.toNat + b.e0.toNat + 0) / 2 ^ 64 : Nat), 1, a, b, w, ⟨((a.e0.toNat + b.e0.toNat + 0) % 2 ^ 64 : Nat), o.e1, o.e2, o.e3⟩)) := by kernel_rfl
theorem zagh (N c : Nat) (hc : ¬ c > 1) (a b w o : zH) : zy.r0 N (c, 1, a, b, w, o) = some (.again (((a.e1.toNat + b.e1.toNat + c) / 2 ^ 64 : Nat), 2, a, b, w, ⟨o.e0, ((a.e1.toNat + b.e1.toNat + c) % 2 ^ 64 : Nat), o.e2, o.e3⟩)) := by
 have : zy.r0 N (c, 1, a, b, w, o) = if c > 1 then none else some (.again (((a.e1.toNat + b.e1.toNat + c) / 2 ^ 64 : Nat), 2, a, b, w, ⟨o.e0, ((a.e1.toNat + b.e1.toNat + c) % 2 ^ 64 : Nat), o.e2, o.e3⟩)) := by kernel_rfl
 rw [this, ifn hc]
theorem zagg (N c : Nat) (hc : ¬ c > 1) (a b w o : zH) : zy.r0 N (c, 2, a, b, w, o) = some (.again (((a.e2.toNat + b.e2.toNat + c) / 2 ^ 64 : Nat), 3, a, b, w, ⟨o.e0, o.e1, ((a.e2.toNat + b.e2.toNat + c) % 2 ^ 64 : Nat), o.e3⟩)) := by
 have : zy.r0 N (c, 2, a, b, w, o) = if c > 1 then none else some (.again (((a.e2.toNat + b.e2.toNat + c) / 2 ^ 64 : Nat), 3, a, b, w, ⟨o.e0, o.e1, ((a.e2.toNat + b.e2.toNat + c) % 2 ^ 64 : Nat), o.e3⟩)) := by kernel_rfl
 rw [this, ifn hc]
theorem zagf (N c : Nat) (hc : ¬ c > 1) (a b w o : zH) : zy.r0 N (c, 3, a, b, w, o) = some (.again (((a.e3.toNat + b.e3.toNat + c) / 2 ^ 64 : Nat), 4, a, b, w, ⟨o.e0, o.e1, o.e2, ((a.e3.toNat + b.e3.toNat + c) % 2 ^ 64 : Nat)⟩)) := by
 have : zy.r0 N (c, 3, a, b, w, o) = if c > 1 then none else some (.again (((a.e3.toNat + b.e3.toNat + c) / 2 ^ 64 : Nat), 4, a, b, w, ⟨o.e0, o.e1, o.e2, ((a.e3.toNat + b.e3.toNat + c) % 2 ^ 64 : Nat)⟩)) := by kernel_rfl
 rw [this, ifn hc]
theorem zage (N : Nat) (c : Int) (a b w o : zH) : zy.r0 N (c, 4, a, b, w, o) = some (.leave (c, 4, a, b, w, o)) := by kernel_rfl
theorem z7g (x y c : Nat) : (x % 18446744073709551616 + y % 18446744073709551616 + c) % 2 ^ 64 = (x + y + c) % 18446744073709551616 ∧ x / 18446744073709551616 + y / 18446744073709551616 + (x % 18446744073709551616 + y % 18446744073709551616 + c) / 2 ^ 64 = (x + y + c) / 18446744073709551616 ∧ (c ≤ 1 → ¬ (x % 18446744073709551616 + y % 18446744073709551616 + c) / 2 ^ 64 > 1) := by omega
theorem zwi (N : Nat) (hN : 10 < N) (a b : Nat) : zy N (wn a) (wn b) = some (wn (a + b)) := by
 obtain ⟨n, rfl⟩ : ∃ n, N = n + 5 := ⟨N - 5, by omega⟩
 obtain ⟨l0, m0, c0⟩ := z7g a b 0
 have c0' := c0 (by omega)
 obtain ⟨l1, m1, c1⟩ := z7g (a / 18446744073709551616) (b / 18446744073709551616) ((a % 18446744073709551616 + b % 18446744073709551616 + 0) / 2 ^ 64)
 have c1' := c1 (by omega)
 rw [m0] at l1 m1
 obtain ⟨l2, m2, c2⟩ := z7g (a / 18446744073709551616 / 18446744073709551616) (b / 18446744073709551616 / 18446744073709551616) ((a / 18446744073709551616 % 18446744073709551616 + b / 18446744073709551616 % 18446744073709551616 + (a % 18446744073709551616 + b % 18446744073709551616 + 0) / 2 ^ 64) / 2 ^ 64)
 have c2' := c2 (by omega)
 rw [m1] at l2 m2
 obtain ⟨l3, _, _⟩ := z7g (a / 18446744073709551616 / 18446744073709551616 / 18446744073709551616) (b / 18446744073709551616 / 18446744073709551616 / 18446744073709551616) ((a / 18446744073709551616 / 18446744073709551616 % 18446744073709551616 + b / 18446744073709551616 / 18446744073709551616 % 18446744073709551616 + (a / 18446744073709551616 % 18446744073709551616 + b / 18446744073709551616 % 18446744073709551616 + (a % 18446744073709551616 + b % 18446744073709551616 + 0) / 2 ^ 64) / 2 ^ 64) / 2 ^ 64)
 rw [m2] at l3
 unfold zy
 simp only [zq, zagi, obs]
 simp only [wn, itn]
 rw [zagh _ _ c0']
 simp only [obs, itn]
 rw [zagg _ _ c1']
 simp only [obs, itn]
 rw [zagf _ _ c2']
 simp only [obs, itn]
 rw [zage, l0, l1, l2, l3]
 rfl
theorem zaed (N : Nat) (a b w o : zH) : zx.r0 N (0, 0, a, b, w, o) = some (.again (((if a.e0.toNat < b.e0.toNat + 0 then 1 else 0 : Nat) : Int), 1, a, b, w, ⟨((a.e0.toNat + 2 ^ 64 - b.e0.toNat - 0) % 2 ^ 64 : Nat), o.e1, o.e2, o.e3⟩)) := by kernel_rfl
theorem zaec (N c : Nat) (hc : ¬ c > 1) (a b w o : zH) : zx.r0 N (c, 1, a, b, w, o) = some (.again (((if a.e1.toNat < b.e1.toNat + c then 1 else 0 : Nat) : Int), 2, a, b, w, ⟨o.e0, ((a.e1.toNat + 2 ^ 64 - b.e1.toNat - c) % 2 ^ 64 : Nat), o.e2, o.e3⟩)) := by
 have : zx.r0 N (c, 1, a, b, w, o) = if c > 1 then none else some (.again (((if a.e1.toNat < b.e1.toNat + c then 1 else 0 : Nat) : Int), 2, a, b, w, ⟨o.e0, ((a.e1.toNat + 2 ^ 64 - b.e1.toNat - c) % 2 ^ 64 : Nat), o.e2, o.e3⟩)) := by kernel_rfl
 rw [this, ifn hc]
theorem zaeb (N c : Nat) (hc : ¬ c > 1) (a b w o : zH) : zx.r0 N (c, 2, a, b, w, o) = some (.again (((if a.e2.toNat < b.e2.toNat + c then 1 else 0 : Nat) : Int), 3, a, b, w, ⟨o.e0, o.e1, ((a.e2.toNat + 2 ^ 64 - b.e2.toNat - c) % 2 ^ 64 : Nat), o.e3⟩)) := by
 have : zx.r0 N (c, 2, a, b, w, o) = if c > 1 then none else some (.again (((if a.e2.toNat < b.e2.toNat + c then 1 else 0 : Nat) : Int), 3, a, b, w, ⟨o.e0, o.e1, ((a.e2.toNat + 2 ^ 64 - b.e2.toNat - c) % 2 ^ 64 : Nat), o.e3⟩)) := by kernel_rfl
 rw [this, ifn hc]
theorem zaea (N c : Nat) (hc : ¬ c > 1) (a b w o : zH) : zx.r0 N (c, 3, a, b, w, o) = some (.again (((if a.e3.toNat < b.e3.toNat + c then 1 else 0 : Nat) : Int), 4, a, b, w, ⟨o.e0, o.e1, o.e2, ((a.e3.toNat + 2 ^ 64 - b.e3.toNat - c) % 2 ^ 64 : Nat)⟩)) := by
 have : zx.r0 N (c, 3, a, b, w, o) = if c > 1 then none else some (.again (((if a.e3.toNat < b.e3.toNat + c then 1 else 0 : Nat) : Int), 4, a, b, w, ⟨o.e0, o.e1, o.e2, ((a.e3.toNat + 2 ^ 64 - b.e3.toNat - c) % 2 ^ 64 : Nat)⟩)) := by kernel_rfl
 rw [this, ifn hc]
theorem zad9 (N : Nat) (c : Int) (a b w o : zH) : zx.r0 N (c, 4, a, b, w, o) = some (.leave (c, 4, a, b, w, o)) := by kernel_rfl
theorem zzg (p : Prop) [Decidable p] : (if p then 1 else 0 : Nat) ≤ 1 := by split <;> omega
theorem z54 (x y c k : Nat) (hk : k = c) (hc : c ≤ 1) : ((x + y + c) % 18446744073709551616 + 2 ^ 64 - y % 18446744073709551616 - k) % 2 ^ 64 = x % 18446744073709551616 ∧ (if (x + y + c) % 18446744073709551616 < y % 18446744073709551616 + k then 1 else 0 : Nat) = (x % 18446744073709551616 + y % 18446744073709551616 + c) / 2 ^ 64 ∧ (x % 18446744073709551616 + y % 18446744073709551616 + c) / 2 ^ 64 ≤ 1 ∧ (x + y + c) / 18446744073709551616 = x / 18446744073709551616 + y / 18446744073709551616 + (x % 18446744073709551616 + y % 18446744073709551616 + c) / 2 ^ 64 := by
 subst hk
 refine ⟨by omega, ?_, by omega, by omega⟩
 split <;> omega
theorem zvl (N : Nat) (hN : 10 < N) (a b : Nat) : ∃ r, zx N (wn a) (wn b) = some r ∧ (b ≤ a → r = wn (a - b)) := by
 obtain ⟨n, rfl⟩ : ∃ n, N = n + 5 := ⟨N - 5, by omega⟩
 unfold zx
 simp only [zq, zaed, obs]
 have t1 : ¬ (if (wn a).e0.toNat < (wn b).e0.toNat + 0 then 1 else 0 : Nat) > 1 := by have := zzg ((wn a).e0.toNat < (wn b).e0.toNat + 0); omega
 rw [zaec _ _ t1]
 simp only [obs]
 have t2 := zzg ((wn a).e1.toNat < (wn b).e1.toNat + (if (wn a).e0.toNat < (wn b).e0.toNat + 0 then 1 else 0 : Nat))
 rw [zaeb _ _ (by omega)]
 simp only [obs]
 have t3 := zzg ((wn a).e2.toNat < (wn b).e2.toNat + (if (wn a).e1.toNat < (wn b).e1.toNat + (if (wn a).e0.toNat < (wn b).e0.toNat + 0 then 1 else 0 : Nat) then 1 else 0 : Nat))
 rw [zaea _ _ (by omega)]
 simp only [obs]
 rw [zad9]
 refine ⟨_, rfl, fun hb => ?_⟩
 obtain ⟨d, rfl⟩ : ∃ d, a = d + b := ⟨a - b, by omega⟩
 clear t1 t2 t3
 rw [Nat.add_sub_cancel]
 obtain ⟨s0, u0, v0, w0⟩ := z54 d b 0 0 rfl (by omega)
 rw [Nat.add_zero (d + b)] at s0 u0 w0
 obtain ⟨s1, u1, v1, w1⟩ := z54 (d / 18446744073709551616) (b / 18446744073709551616) _ _ u0 v0
 rw [← w0] at s1 u1 w1
 obtain ⟨s2, u2, v2, w2⟩ := z54 (d / 18446744073709551616 / 18446744073709551616) (b / 18446744073709551616 / 18446744073709551616) _ _ u1 v1
 rw [← w1] at s2 u2 w2
 obtain ⟨s3, u3, v3, w3⟩ := z54 (d / 18446744073709551616 / 18446744073709551616 / 18446744073709551616) (b / 18446744073709551616 / 18446744073709551616 / 18446744073709551616) _ _ u2 v2
 rw [← w2] at s3
 refine z7k ?_ ?_ ?_ ?_
 · exact congrArg Int.ofNat s0
 · exact congrArg Int.ofNat s1
 · exact congrArg Int.ofNat s2
 · exact congrArg Int.ofNat s3
theorem zx9 (N : Nat) (hN : 10 < N) {a b : Nat} (h : b ≤ a) : zx N (wn a) (wn b) = some (wn (a - b)) := by
 obtain ⟨r, h1, h2⟩ := zvl N hN a b
 rw [h1, h2 h]
def zhv (a b : Nat) : Int := if a < b then -1 else if b < a then 1 else 0
theorem cmp3 (N : Nat) (a b : zH) : zk.r0 N (3, a, b) = cond (decide (a.e3 < b.e3)) (some (.result (-1))) (cond (decide (a.e3 > b.e3)) (some (.result 1)) (some (.again (2, a, b)))) := by kernel_rfl
theorem cmp2 (N : Nat) (a b : zH) : zk.r0 N (2, a, b) = cond (decide (a.e2 < b.e2)) (some (.result (-1))) (cond (decide (a.e2 > b.e2)) (some (.result 1)) (some (.again (1, a, b)))) := by kernel_rfl
theorem cmp1 (N : Nat) (a b : zH) : zk.r0 N (1, a, b) = cond (decide (a.e1 < b.e1)) (some (.result (-1))) (cond (decide (a.e1 > b.e1)) (some (.result 1)) (some (.again (0, a, b)))) := by kernel_rfl
theorem cmp0 (N : Nat) (a b : zH) : zk.r0 N (0, a, b) = cond (decide (a.e0 < b.e0)) (some (.result (-1))) (cond (decide (a.e0 > b.e0)) (some (.result 1)) (some (.again ((-1), a, b)))) := by kernel_rfl
theorem cmpE (N : Nat) (a b : zH) : zk.r0 N ((-1), a, b) = some (.leave ((-1), a, b)) := by kernel_rfl
def zol (x y R : Int) : Int := if x < y then -1 else if y < x then 1 else R
theorem z87 (n : Nat) (a b : zH) : zk (n + 5) a b = some (zol a.e3 b.e3 (zol a.e2 b.e2 (zol a.e1 b.e1 (zol a.e0 b.e0 0)))) := by
 unfold zk zol
 simp only [zn, cmp3]
 by_cases h3 : a.e3 < b.e3
 · rw [ifp h3, dct h3]; rfl
 · rw [ifn h3, dcf h3]
   by_cases g3 : b.e3 < a.e3
   · rw [ifp g3, dct g3]; rfl
   · rw [ifn g3, dcf g3]; simp only [cfa, obs, cmp2]
     by_cases h2 : a.e2 < b.e2
     · rw [ifp h2, dct h2]; rfl
     · rw [ifn h2, dcf h2]
       by_cases g2 : b.e2 < a.e2
       · rw [ifp g2, dct g2]; rfl
       · rw [ifn g2, dcf g2]; simp only [cfa, obs, cmp1]
         by_cases h1 : a.e1 < b.e1
         · rw [ifp h1, dct h1]; rfl
         · rw [ifn h1, dcf h1]
           by_cases g1 : b.e1 < a.e1
           · rw [ifp g1, dct g1]; rfl
           · rw [ifn g1, dcf g1]; simp only [cfa, obs, cmp0]
             by_cases h0 : a.e0 < b.e0
             · rw [ifp h0, dct h0]; rfl
             · rw [ifn h0, dcf h0]
               by_cases g0 : b.e0 < a.e0
               · rw [ifp g0, dct g0]; rfl
               · rw [ifn g0, dcf g0]; simp only [cfa, obs, cmpE]; rfl
theorem zl4 (N : Nat) (hN : 10 < N) {a b : Nat} (ha : a < zjz) (hb : b < zjz) : zk N (wn a) (wn b) = some (zhv a b) := by
 obtain ⟨n, rfl⟩ : ∃ n, N = n + 5 := ⟨N - 5, by omega⟩
 unfold zjz at ha hb
 rw [z87]
 have k0 : ∀ x y : Nat, zol (x : Int) (y : Int) 0 = zhv x y := fun x y => by
  unfold zol zhv
  repeat' split
  all_goals first | rfl | (exfalso; omega)
 have top : a / 18446744073709551616 / 18446744073709551616 / 18446744073709551616 < 18446744073709551616 := by omega
 have top2 : b / 18446744073709551616 / 18446744073709551616 / 18446744073709551616 < 18446744073709551616 := by omega
 have s1 : ∀ (x y : Nat) (R : Int), zol ((x : Nat) : Int) ((y : Nat) : Int) R = if zhv x y = 0 then R else zhv x y := fun x y R => by
  unfold zol zhv
  repeat' split
  all_goals first | rfl | (exfalso; omega) | contradiction
 have s2 : ∀ x y : Nat, zhv x y = if zhv (x / 18446744073709551616) (y / 18446744073709551616) = 0 then zhv (x % 18446744073709551616) (y % 18446744073709551616) else zhv (x / 18446744073709551616) (y / 18446744073709551616) := fun x y => by
  unfold zhv
  repeat' split
  all_goals first | rfl | (exfalso; omega) | contradiction
 show some (zol (((a / 18446744073709551616 / 18446744073709551616 / 18446744073709551616 % 18446744073709551616 : Nat) : Int)) (((b / 18446744073709551616 / 18446744073709551616 / 18446744073709551616 % 18446744073709551616 : Nat) : Int)) (zol (((a / 18446744073709551616 / 18446744073709551616 % 18446744073709551616 : Nat) : Int)) (((b / 18446744073709551616 / 18446744073709551616 % 18446744073709551616 : Nat) : Int)) (zol (((a / 18446744073709551616 % 18446744073709551616 : Nat) : Int)) (((b / 18446744073709551616 % 18446744073709551616 : Nat) : Int)) (zol (((a % 18446744073709551616 : Nat) : Int)) (((b % 18446744073709551616 : Nat) : Int)) 0)))) = _
 rw [mel top, mel top2, s1, s1, s1, s1]
 have r3 := s2 (a / 18446744073709551616 / 18446744073709551616) (b / 18446744073709551616 / 18446744073709551616)
 have r2 := s2 (a / 18446744073709551616) (b / 18446744073709551616)
 have r1 := s2 a b
 clear s1 s2 top top2 ha hb k0
 generalize zhv (a / 18446744073709551616 / 18446744073709551616 / 18446744073709551616) (b / 18446744073709551616 / 18446744073709551616 / 18446744073709551616) = o3 at *
 generalize zhv (a / 18446744073709551616 / 18446744073709551616 % 18446744073709551616) (b / 18446744073709551616 / 18446744073709551616 % 18446744073709551616) = m2 at *
 generalize zhv (a / 18446744073709551616 % 18446744073709551616) (b / 18446744073709551616 % 18446744073709551616) = m1 at *
 generalize zhv (a % 18446744073709551616) (b % 18446744073709551616) = m0 at *
 rw [r1, r2, r3]
 congr 1
 by_cases h3 : o3 = 0
 · by_cases h2 : m2 = 0
   · by_cases h1 : m1 = 0
     · by_cases h0 : m0 = 0
       · simp only [h3, h2, h1, h0, if_true]
       · simp only [h3, h2, h1, h0, if_true, if_false]
     · simp only [h3, h2, h1, if_true, if_false]
   · simp only [h3, h2, if_true, if_false]
 · simp only [h3, if_true, if_false]
theorem zso (m : Nat) : IntKind.wrap .u64 (m : Int) = ((m % 18446744073709551616 : Nat) : Int) := by
 have e : (2 : Int) ^ (IntKind.u64.bits) = 18446744073709551616 := by decide
 unfold IntKind.wrap
 simp only [e, show IntKind.u64.signed = false from rfl, Bool.false_and]
 simp only [Bool.false_eq_true, if_false]
 omega
theorem zt7 (p q : Nat) : (p : Int).fdiv (q : Int) = ((p / q : Nat) : Int) := by
 rw [Int.fdiv_eq_ediv_of_nonneg _ (by omega)]
 exact (Int.natCast_ediv p q).symm
theorem z3s (p : Nat) : (p : Int).fdiv (2 ^ (min (32 : Int).toNat 64)) = ((p / 4294967296 : Nat) : Int) := zt7 p 4294967296
theorem z7e (p : Nat) (h : p < 18446744073709551616) : zh .u64 (p : Int) 4294967295 = ((p % 4294967296 : Nat) : Int) := by
 rw [show (4294967295 : Int) = ((4294967295 : Nat) : Int) from rfl, andU p 4294967295 h (by decide)]
 rw [show (4294967295 : Nat) = 2 ^ 32 - 1 from rfl, Nat.and_two_pow_sub_one_eq_mod]
theorem z1m (p q : Nat) (hp : p < 18446744073709551616) (hq : q < 18446744073709551616) : zd9 (p : Int) (q : Int) = some (((p * q / 18446744073709551616 : Nat) : Int), ((p * q % 18446744073709551616 : Nat) : Int)) := by
 unfold zd9
 simp only [z3s, z7e p hp, z7e q hq, ← Int.natCast_mul, zso, ← Int.natCast_add, z3s]
 rw [z7e _ (Nat.mod_lt _ (by decide))]
 simp only [z3s, ← Int.natCast_mul, zso, ← Int.natCast_add]
 have e1 := Nat.div_add_mod p 4294967296
 have e2 := Nat.div_add_mod q 4294967296
 have b1 : p / 4294967296 ≤ 4294967295 := by omega
 have b2 : q / 4294967296 ≤ 4294967295 := by omega
 have b3 : p % 4294967296 ≤ 4294967295 := by omega
 have b4 : q % 4294967296 ≤ 4294967295 := by omega
 have m : p * q = 18446744073709551616 * ((p / 4294967296) * (q / 4294967296)) + 4294967296 * ((p / 4294967296) * (q % 4294967296)) + (4294967296 * ((p % 4294967296) * (q / 4294967296)) + (p % 4294967296) * (q % 4294967296)) := by
  conv => lhs; rw [← e1, ← e2]
  rw [Nat.add_mul, Nat.mul_add, Nat.mul_add, Nat.mul_mul_mul_comm, Nat.mul_assoc 4294967296 (p / 4294967296) (q % 4294967296), Nat.mul_left_comm (p % 4294967296) 4294967296 (q / 4294967296)]
 have c1 := Nat.mul_le_mul b1 b2
 have c2 := Nat.mul_le_mul b1 b4
 have c3 := Nat.mul_le_mul b3 b2
 have c4 := Nat.mul_le_mul b3 b4
 rw [m]
 clear m e1 e2 b1 b2 b3 b4
 generalize (p / 4294967296) * (q / 4294967296) = A at *
 generalize (p / 4294967296) * (q % 4294967296) = B at *
 generalize (p % 4294967296) * (q / 4294967296) = C at *
 generalize (p % 4294967296) * (q % 4294967296) = D at *
 simp only [Option.some.injEq, Prod.mk.injEq, Int.natCast_inj]
 refine ⟨?_, trivial⟩
 omega
theorem zadk (N : Nat) (n c : Int) (a w o : zH) : zau.r0 N (n, c, 0, a, w, o) = (zd9 a.e0 n).bind fun r => some (.again (n, (IntKind.wrap .u64 (r.1 + (((r.2.toNat + c.toNat + 0) / 2 ^ 64 : Nat) : Int))), 1, a, w, ⟨((r.2.toNat + c.toNat + 0) % 2 ^ 64 : Nat), o.e1, o.e2, o.e3⟩)) := by kernel_rfl
theorem zadj (N : Nat) (n c : Int) (a w o : zH) : zau.r0 N (n, c, 1, a, w, o) = (zd9 a.e1 n).bind fun r => some (.again (n, (IntKind.wrap .u64 (r.1 + (((r.2.toNat + c.toNat + 0) / 2 ^ 64 : Nat) : Int))), 2, a, w, ⟨o.e0, ((r.2.toNat + c.toNat + 0) % 2 ^ 64 : Nat), o.e2, o.e3⟩)) := by kernel_rfl
theorem zadi (N : Nat) (n c : Int) (a w o : zH) : zau.r0 N (n, c, 2, a, w, o) = (zd9 a.e2 n).bind fun r => some (.again (n, (IntKind.wrap .u64 (r.1 + (((r.2.toNat + c.toNat + 0) / 2 ^ 64 : Nat) : Int))), 3, a, w, ⟨o.e0, o.e1, ((r.2.toNat + c.toNat + 0) % 2 ^ 64 : Nat), o.e3⟩)) := by kernel_rfl
theorem zadh (N : Nat) (n c : Int) (a w o : zH) : zau.r0 N (n, c, 3, a, w, o) = (zd9 a.e3 n).bind fun r => some (.again (n, (IntKind.wrap .u64 (r.1 + (((r.2.toNat + c.toNat + 0) / 2 ^ 64 : Nat) : Int))), 4, a, w, ⟨o.e0, o.e1, o.e2, ((r.2.toNat + c.toNat + 0) % 2 ^ 64 : Nat)⟩)) := by kernel_rfl
theorem zadg (N : Nat) (n c : Int) (a w o : zH) : zau.r0 N (n, c, 4, a, w, o) = some (.leave (n, c, 4, a, w, o)) := by kernel_rfl
theorem z5z (x c n : Nat) (hn : n < 18446744073709551616) (hc : c ≤ n) : IntKind.wrap .u64 ((((x % 18446744073709551616) * n / 18446744073709551616 : Nat) : Int) + ((((x % 18446744073709551616) * n % 18446744073709551616 + c + 0) / 2 ^ 64 : Nat) : Int)) = ((((x % 18446744073709551616) * n + c) / 18446744073709551616 : Nat) : Int) ∧ ((x % 18446744073709551616) * n % 18446744073709551616 + c + 0) % 2 ^ 64 = (x * n + c) % 18446744073709551616 ∧ ((x % 18446744073709551616) * n + c) / 18446744073709551616 ≤ n ∧ x / 18446744073709551616 * n + ((x % 18446744073709551616) * n + c) / 18446744073709551616 = (x * n + c) / 18446744073709551616 := by
 have hp : (x % 18446744073709551616) * n ≤ 18446744073709551615 * n := Nat.mul_le_mul_right n (by omega)
 have e : x * n = (x % 18446744073709551616) * n + 18446744073709551616 * (x / 18446744073709551616 * n) := by
  have := Nat.mod_add_div x 18446744073709551616
  conv => lhs; rw [← this]
  rw [Nat.add_mul, Nat.mul_assoc]
 rw [e]
 generalize (x % 18446744073709551616) * n = p at *
 generalize x / 18446744073709551616 * n = q at *
 refine ⟨?_, by omega, by omega, by omega⟩
 rw [← Int.natCast_add, zso]
 omega
theorem z25 (N : Nat) (hN : 10 < N) (a n : Nat) (hn : n < 18446744073709551616) : zau N (wn a) (n : Int) = some (wn (a * n)) := by
 obtain ⟨k, rfl⟩ : ∃ k, N = k + 5 := ⟨N - 5, by omega⟩
 have hB : ∀ x : Nat, x % 18446744073709551616 < 18446744073709551616 := fun x => Nat.mod_lt _ (by decide)
 obtain ⟨w1, w2, w3, w4⟩ := z5z a 0 n hn (Nat.zero_le _)
 rw [Nat.add_zero (a * n)] at w2 w4
 obtain ⟨x1, x2, x3, x4⟩ := z5z (a / 18446744073709551616) _ n hn w3
 rw [w4] at x2 x4
 obtain ⟨y1, y2, y3, y4⟩ := z5z (a / 18446744073709551616 / 18446744073709551616) _ n hn x3
 rw [x4] at y2 y4
 obtain ⟨z1, z2, z3, z4⟩ := z5z (a / 18446744073709551616 / 18446744073709551616 / 18446744073709551616) _ n hn y3
 rw [y4] at z2
 unfold zau
 simp only [zq, zadk]
 rw [show (wn a).e0 = ((a % 18446744073709551616 : Nat) : Int) from rfl, z1m _ _ (hB _) hn]
 simp only [obs, itn, zadj]
 rw [show (wn a).e1 = ((a / 18446744073709551616 % 18446744073709551616 : Nat) : Int) from rfl, z1m _ _ (hB _) hn]
 simp only [obs, itn, zadi]
 rw [show (wn a).e2 = ((a / 18446744073709551616 / 18446744073709551616 % 18446744073709551616 : Nat) : Int) from rfl, z1m _ _ (hB _) hn]
 simp only [obs, itn, zadh]
 rw [show (wn a).e3 = ((a / 18446744073709551616 / 18446744073709551616 / 18446744073709551616 % 18446744073709551616 : Nat) : Int) from rfl, z1m _ _ (hB _) hn]
 simp only [obs, itn, zadg]
 rw [show Int.toNat 0 = 0 from rfl, w1, itn, x1, itn, y1, itn, w2, x2, y2, z2]
 rfl
theorem zty (N : Nat) (hN : 100 < N) (a k : Nat) (hk : k < 100) : zj N (wn a) (k : Int) = some (wn (a * 10 ^ k)) := by
 unfold zj
 have := zbl (f := zj.r0 N) (fun i => ((k : Int), (i : Int), wn (a * 10 ^ i), (⟨0, 0, 0, 0⟩ : zH))) k
  (fun i hi => by
   simp only [zj.r0, zj.b0, dct (show (i : Int) < (k : Int) by omega), ctr]; rw [show (10 : Int) = ((10 : Nat) : Int) from rfl, z25 N (by omega) _ 10 (by decide), w6e]; simp only [obs, Nat.mul_assoc, ← Nat.pow_succ, Int.natCast_add, Int.natCast_one])
  (by simp only [zj.r0, zj.b0, dcf (show ¬ (k : Int) < (k : Int) by omega), cfa]) (N := N) (by omega)
 simp only [Nat.pow_zero, Nat.mul_one, nc0] at this
 rw [this]
 rfl
theorem z46 (a j r : Nat) (hr : r < 64) : (a / 2 ^ (64 * j) % 2 ^ 64 / 2 ^ r) &&& 1 = a / 2 ^ (64 * j + r) % 2 := by
 rw [Nat.and_one_is_mod]
 have h : (a / 2 ^ (64 * j) % 2 ^ 64 / 2 ^ r).testBit 0 = (a / 2 ^ (64 * j) % 2 ^ 64).testBit (r + 0) := by rw [Nat.testBit_div_two_pow, Nat.add_comm]
 have h1 : Nat.testBit (a / 2 ^ (64 * j) % 2 ^ 64) (r + 0) = Nat.testBit (a / 2 ^ (64 * j + r)) 0 := by
  rw [Nat.testBit_mod_two_pow, Nat.testBit_div_two_pow, Nat.testBit_div_two_pow]; simp [hr, Nat.add_comm, Nat.add_left_comm]
 rw [Nat.testBit_zero] at h
 rw [h1, Nat.testBit_zero] at h
 have := Nat.mod_two_eq_zero_or_one (a / 2 ^ (64 * j) % 2 ^ 64 / 2 ^ r)
 have := Nat.mod_two_eq_zero_or_one (a / 2 ^ (64 * j + r))
 simp only [decide_eq_decide] at h
 omega
theorem zabj (Q i j : Nat) (h : Q % 2 ^ (i + 1) = 0) : (Q + 2 ^ i) / 2 ^ (64 * j) % 2 ^ 64 = if i / 64 = j then (Q / 2 ^ (64 * j) % 2 ^ 64) ||| 2 ^ (i % 64) else Q / 2 ^ (64 * j) % 2 ^ 64 := by
 have e : Q + 2 ^ i = Q ||| 2 ^ i := by
  have := Nat.two_pow_add_eq_or_of_lt (i := i + 1) (b := 2 ^ i) (Nat.pow_lt_pow_right (by decide) (by omega)) (Q / 2 ^ (i + 1)); have e2 : 2 ^ (i + 1) * (Q / 2 ^ (i + 1)) = Q := by
   have := Nat.div_add_mod Q (2 ^ (i + 1)); omega
  rw [e2] at this; exact this
 rw [e]
 refine Nat.eq_of_testBit_eq fun k => ?_
 split
 · rename_i hj; simp only [Nat.testBit_mod_two_pow, Nat.testBit_div_two_pow, Nat.testBit_or, Nat.testBit_two_pow]
   by_cases hk : k < 64
   · simp only [hk, decide_true, Bool.true_and]
     congr 1
     simp only [decide_eq_decide]; omega
   · simp only [hk, decide_false, Bool.false_and, Bool.false_or]; rw [dcf (by omega)]
 · rename_i hj; simp only [Nat.testBit_mod_two_pow, Nat.testBit_div_two_pow, Nat.testBit_or, Nat.testBit_two_pow]
   by_cases hk : k < 64
   · simp only [hk, decide_true, Bool.true_and]; rw [dcf (by omega), Bool.or_false]
   · simp only [hk, decide_false, Bool.false_and]
def z37 (a : zH) (s : Int) : Int := zh .u64 (((zar [a.e0, a.e1, a.e2, a.e3] ((w6 (s.tdiv 64)).toNat)) : Int).fdiv (2 ^ (min (s.tmod 64).toNat 64))) 1
def dsh (x : zH) (t : Int) : zH := ⟨orI .u64 x.e0 t, x.e1, x.e2, x.e3⟩
def dset (q : zH) (j : Nat) (v : Int) : zH := ⟨if j = 0 then v else q.e0, if j = 1 then v else q.e1, if j = 2 then v else q.e2, if j = 3 then v else q.e3⟩
theorem z09 (N : Nat) (s : Int) (a b q r : zH) : zaw.r0 N (s, a, b, q, r) =
 cond (decide (s ≥ 0)) ((zy N r r).bind fun x => if 0 ≤ w6 (s.tdiv 64) then (if w6 (s.tdiv 64) < 4 then (if (s.tmod 64) < 0 then none else (zk N (dsh x (z37 a s)) b).bind fun c =>
  cond (decide (c ≥ 0)) ((zx N (dsh x (z37 a s)) b).bind fun y => if 0 ≤ w6 (s.tdiv 64) then (if w6 (s.tdiv 64) < 4 then (if (s.tmod 64) < 0 then none else if 0 ≤ w6 (s.tdiv 64) then (if w6 (s.tdiv 64) < 4 then
   (some (.again (w6 (s - 1), a, b, dset q (w6 (s.tdiv 64)).toNat (orI .u64 (zar [q.e0, q.e1, q.e2, q.e3] ((w6 (s.tdiv 64)).toNat)) (IntKind.wrap .u64 (1 * 2 ^ (min (s.tmod 64).toNat 64)))), y))) else none) else none) else none) else none)
   (some (.again (w6 (s - 1), a, b, q, dsh x (z37 a s))))) else none) else none)
  (some (.leave (s, a, b, q, r))) := by kernel_rfl
theorem div2 (a : Nat) : a / 18446744073709551616 / 18446744073709551616 = a / 340282366920938463463374607431768211456 := Nat.div_div_eq_div_mul _ _ _
theorem div3 (a : Nat) : a / 18446744073709551616 / 18446744073709551616 / 18446744073709551616 = a / 6277101735386680763835789423207666416102355444464034512896 := by rw [div2]; exact Nat.div_div_eq_div_mul _ _ _
theorem limb (a j : Nat) (hj : j < 4) : zar [(wn a).e0, (wn a).e1, (wn a).e2, (wn a).e3] j = ((a / 2 ^ (64 * j) % 2 ^ 64 : Nat) : Int) := by
 match j, hj with
 | 0, _ => show ((a % 18446744073709551616 : Nat) : Int) = ((a / 1 % 18446744073709551616 : Nat) : Int); rw [Nat.div_one]
 | 1, _ => rfl
 | 2, _ => show ((a / 18446744073709551616 / 18446744073709551616 % 18446744073709551616 : Nat) : Int) = ((a / 340282366920938463463374607431768211456 % 18446744073709551616 : Nat) : Int); rw [div2]
 | 3, _ => show ((a / 18446744073709551616 / 18446744073709551616 / 18446744073709551616 % 18446744073709551616 : Nat) : Int) = ((a / 6277101735386680763835789423207666416102355444464034512896 % 18446744073709551616 : Nat) : Int); rw [div3]
theorem zacr (a i : Nat) (hi : i < 256) : z37 (wn a) (i : Int) = ((a / 2 ^ i % 2 : Nat) : Int) := by
 unfold z37
 have e1 : w6 ((i : Int).tdiv 64) = ((i / 64 : Nat) : Int) := by
  rw [tde, w6e]; omega
 have e2 : ((i : Int).tmod 64) = ((i % 64 : Nat) : Int) := by
  rw [tme]; omega
 rw [e1, e2, itn, itn, limb a _ (by omega), Nat.min_eq_left (by omega)]
 rw [show (2 : Int) ^ (i % 64) = ((2 ^ (i % 64) : Nat) : Int) by rw [Int.natCast_pow]; rfl, zt7]
 have hb : a / 2 ^ (64 * (i / 64)) % 2 ^ 64 / 2 ^ (i % 64) < 2 ^ 64 := Nat.lt_of_le_of_lt (Nat.div_le_self _ _) (Nat.mod_lt _ (by decide))
 rw [show (1 : Int) = ((1 : Nat) : Int) from rfl, andU _ 1 hb (by decide), z46 a _ _ (by omega), show 64 * (i / 64) + i % 64 = i by omega]
theorem zaeu (x t : Nat) (ht : t < 2) : dsh (wn (x + x)) (t : Int) = wn (2 * x + t) := by
 have h0 : (x + x) % 18446744073709551616 ||| t = (2 * x + t) % 18446744073709551616 := by
  have := Nat.two_pow_add_eq_or_of_lt (i := 1) (b := t) (by omega) ((x + x) % 18446744073709551616 / 2); have e : 2 ^ 1 * ((x + x) % 18446744073709551616 / 2) = (x + x) % 18446744073709551616 := by omega
  rw [e] at this; rw [← this]; omega
 unfold dsh
 simp only [wn]
 have h1 : (x + x) / 18446744073709551616 = (2 * x + t) / 18446744073709551616 := by omega
 rw [orU _ t (Nat.mod_lt _ (by decide)) (by omega), h0, h1]
theorem zacq (Q i : Nat) (hi : i < 256) (h : Q % 2 ^ (i + 1) = 0) :
 dset (wn Q) (w6 ((i : Int).tdiv 64)).toNat (orI .u64 (zar [(wn Q).e0, (wn Q).e1, (wn Q).e2, (wn Q).e3] ((w6 ((i : Int).tdiv 64)).toNat)) (IntKind.wrap .u64 (1 * 2 ^ (min ((i : Int).tmod 64).toNat 64)))) = wn (Q + 2 ^ i) := by
 have e1 : w6 ((i : Int).tdiv 64) = ((i / 64 : Nat) : Int) := by
  rw [tde, w6e]; omega
 have e2 : ((i : Int).tmod 64) = ((i % 64 : Nat) : Int) := by
  rw [tme]; omega
 have e3 : IntKind.wrap .u64 (1 * 2 ^ (i % 64)) = ((2 ^ (i % 64) : Nat) : Int) := by
  rw [Int.one_mul, show (2 : Int) ^ (i % 64) = ((2 ^ (i % 64) : Nat) : Int) by rw [Int.natCast_pow]; rfl, zso, mel]; exact Nat.pow_lt_pow_right (a := 2) (n := 64) (m := i % 64) (by decide) (by omega)
 rw [e1, e2, itn, itn, limb Q _ (by omega), Nat.min_eq_left (by omega), e3]
 rw [orU (Q / 2 ^ (64 * (i / 64)) % 2 ^ 64) (2 ^ (i % 64)) (Nat.mod_lt _ (by decide)) (Nat.pow_lt_pow_right (a := 2) (n := 64) (m := i % 64) (by decide) (by omega))]
 have w := fun j => zabj Q i j h
 have w0 := w 0
 rw [show 2 ^ (64 * 0) = 1 from rfl, Nat.div_one, Nat.div_one] at w0
 have w1 := w 1
 have w2 := w 2
 have w3 := w 3
 have k1 : (2 : Nat) ^ (64 * 1) = 18446744073709551616 := by decide
 have k2 : (2 : Nat) ^ (64 * 2) = 340282366920938463463374607431768211456 := by decide
 have k3 : (2 : Nat) ^ (64 * 3) = 6277101735386680763835789423207666416102355444464034512896 := by decide
 have k0 : (2 : Nat) ^ 64 = 18446744073709551616 := by decide
 simp only [k1, k0] at w1
 simp only [k2, k0] at w2
 simp only [k3, k0] at w3
 simp only [k0] at w0
 unfold dset
 refine z7k ?_ ?_ ?_ ?_
 · simp only [wn]; rw [w0]
   by_cases hj : i / 64 = 0
   · rw [ifp hj, ifp hj, hj, show 64 * 0 = 0 from rfl, Nat.pow_zero, Nat.div_one, k0]
   · rw [ifn hj, ifn hj]
 · simp only [wn]; rw [w1]
   by_cases hj : i / 64 = 1
   · rw [ifp hj, ifp hj, hj]
   · rw [ifn hj, ifn hj]
 · simp only [wn, div2]; rw [w2]
   by_cases hj : i / 64 = 2
   · rw [ifp hj, ifp hj, hj]
   · rw [ifn hj, ifn hj]
 · simp only [wn, div3]; rw [w3]
   by_cases hj : i / 64 = 3
   · rw [ifp hj, ifp hj, hj]
   · rw [ifn hj, ifn hj]
theorem zst (a b : Nat) : decide (zhv a b ≥ 0) = decide (b ≤ a) := by
 unfold zhv
 by_cases h : a < b
 · rw [ifp h, dcf (show ¬ b ≤ a by omega)]; rfl
 · rw [ifn h, dct (show b ≤ a by omega)]
   by_cases h2 : b < a
   · rw [ifp h2]; rfl
   · rw [ifn h2]; rfl
theorem z83 (N : Nat) (hN : 10 < N) (i : Nat) (hi : i < 256) (a d : Nat) (hd : 0 < d) (hd2 : d ≤ 57896044618658097711785492504343953926634992332820282019728792003956564819968) :
 zaw.r0 N ((i : Int), wn a, wn d, wn (a / 2 ^ (i + 1) / d * 2 ^ (i + 1)), wn (a / 2 ^ (i + 1) % d)) = some (.again ((i : Int) - 1, wn a, wn d, wn (a / 2 ^ i / d * 2 ^ i), wn (a / 2 ^ i % d))) := by
 have e1 : w6 ((i : Int).tdiv 64) = ((i / 64 : Nat) : Int) := by
  rw [tde, w6e]; omega
 have e2 : ((i : Int).tmod 64) = ((i % 64 : Nat) : Int) := by
  rw [tme]; omega
 have c1 : 0 ≤ w6 ((i : Int).tdiv 64) := by rw [e1]; omega
 have c2 : w6 ((i : Int).tdiv 64) < 4 := by rw [e1]; omega
 have c3 : ¬ (i : Int).tmod 64 < 0 := by rw [e2]; omega
 have hp : a / 2 ^ i = 2 * (a / 2 ^ (i + 1)) + a / 2 ^ i % 2 := by
  rw [Nat.pow_succ, ← Nat.div_div_eq_div_mul]; omega
 have hbit : a / 2 ^ i % 2 < 2 := Nat.mod_lt _ (by decide)
 have hdm := Nat.div_add_mod (a / 2 ^ (i + 1)) d
 have hr := Nat.mod_lt (a / 2 ^ (i + 1)) hd
 rw [z09, dct (show (i : Int) ≥ 0 by omega), ctr, zwi N hN, obs, ifp c1, ifp c2, ifn c3, zacr a i hi, zaeu _ _ hbit]
 rw [zl4 N hN (by unfold zjz; omega) (by unfold zjz; omega), obs, zst]
 rw [w6e (n := (i : Int) - 1)]
 generalize hq : a / 2 ^ (i + 1) / d = q at *
 generalize hs : a / 2 ^ (i + 1) % d = r at *
 generalize hb : a / 2 ^ i % 2 = t at *
 have hp2 : a / 2 ^ i = d * (2 * q) + (2 * r + t) := by
  rw [hp, ← hdm, Nat.mul_left_comm]; omega
 by_cases h : d ≤ 2 * r + t
 · rw [dct h, ctr, zx9 N hN h, obs, ifp c1, ifp c2, ifn c3, ifp c1, ifp c2]; rw [zacq _ i hi (Nat.mul_mod_left _ _)]; have hp3 : a / 2 ^ i = d * (2 * q + 1) + (2 * r + t - d) := by rw [hp2, Nat.mul_add d]; omega
   rw [hp3, Nat.mul_add_div hd, Nat.mul_add_mod, Nat.div_eq_of_lt (show 2 * r + t - d < d by omega), mel (show 2 * r + t - d < d by omega)]; have : q * 2 ^ (i + 1) + 2 ^ i = (2 * q + 1 + 0) * 2 ^ i := by
    rw [Nat.pow_succ, Nat.add_zero, Nat.add_mul, Nat.one_mul, Nat.mul_comm (2 ^ i) 2, ← Nat.mul_assoc, Nat.mul_comm q 2]
   rw [this]
 · rw [dcf h, cfa]; rw [hp2, Nat.mul_add_div hd, Nat.mul_add_mod, Nat.div_eq_of_lt (show 2 * r + t < d by omega), mel (show 2 * r + t < d by omega)]; have : q * 2 ^ (i + 1) = (2 * q + 0) * 2 ^ i := by
    rw [Nat.pow_succ, Nat.add_zero, Nat.mul_comm (2 ^ i) 2, ← Nat.mul_assoc, Nat.mul_comm q 2]
   rw [this]
theorem zza (N : Nat) (hN : 300 < N) (a d : Nat) (ha : a < zjz) (hd : 0 < d) (hd2 : d ≤ 57896044618658097711785492504343953926634992332820282019728792003956564819968) :
 zaw N (wn a) (wn d) = some (wn (a / d), wn (a % d)) := by
 unfold zaw
 have := zbl (f := zaw.r0 N) (fun k => ((255 : Int) - (k : Int), wn a, wn d, wn (a / 2 ^ (256 - k) / d * 2 ^ (256 - k)), wn (a / 2 ^ (256 - k) % d))) 256
  (fun k hk => by
   have e := z83 N (by omega) (255 - k) (by omega) a d hd hd2; rw [show 255 - k + 1 = 256 - k by omega, show ((255 - k : Nat) : Int) = (255 : Int) - (k : Int) by omega] at e; rw [e, show 256 - (k + 1) = 255 - k by omega, show (255 : Int) - (k : Int) - 1 = (255 : Int) - ((k + 1 : Nat) : Int) by omega])
  (by rw [z09]; rfl) (N := N) (by omega)
 have z : a / 2 ^ (256 - 0) = 0 := Nat.div_eq_of_lt (by unfold zjz at ha; exact Nat.lt_of_lt_of_le ha (by decide))
 simp only [z, Nat.zero_div, Nat.zero_mul, Nat.zero_mod] at this
 have z2 : a / 2 ^ (256 - 256) = a := Nat.div_one a
 simp only [z2] at this
 rw [show ((255 : Int) - ((0 : Nat) : Int)) = 255 from rfl, show wn 0 = (⟨0, 0, 0, 0⟩ : zH) from rfl] at this
 rw [this, obs, show a / d * 2 ^ (256 - 256) = a / d from Nat.mul_one _]
def zcu (x : Number) : Prop := (-999999999999999 ≤ x.N ∧ x.N ≤ 999999999999999) ∧ 0 ≤ x.Scale ∧ x.Scale ≤ 15
theorem zkc {x : Number} : zlv x = 0 ↔ zcu x := by
 unfold zlv zcu
 cases h : (inB x.N (-999999999999999) 999999999999999 && inB x.Scale 0 15) with
 | true =>
  rw [Bool.and_eq_true, zay, zay] at h; simp [h]
 | false =>
  simp only [cfa]; constructor
  · intro h2; cases h2
  · intro h2; rw [show (inB x.N (-999999999999999) 999999999999999) = true from zay.2 h2.1, show inB x.Scale 0 15 = true from zay.2 h2.2] at h; cases h
def zig (t : DataType) : Prop := zdm t = 0 ∧ 1 ≤ t.Kind ∧ t.Kind ≤ 3
theorem zgd {t : DataType} (h : zig t) : (1 ≤ t.Length ∧ t.Length ≤ 15) ∧ 0 ≤ t.Scale ∧ t.Scale ≤ t.Length := by
 obtain ⟨h0, h1, h2⟩ := h
 unfold zdm at h0
 rw [ifn] at h0
 by_cases hk : t.Kind = 3
 · rw [ifn, ifp hk] at h0; split at h0
   · split at h0
     · rename_i h3 h4; have := zay.1 h4; omega
     · cases h0
   · cases h0
 · rw [ifp] at h0; split at h0
   · split at h0
     · rename_i h3 h4; have := zay.1 h4; have := zay.1 h3; omega
     · cases h0
   · cases h0
theorem zb4 {k m : Nat} (h : k ≤ m) : 10 ^ k ≤ 10 ^ m := Nat.pow_le_pow_right (by decide) h
theorem zcb (k : Nat) : 0 < 10 ^ k := Nat.pow_pos (by decide)
theorem zpt (N : Nat) (hN : 300 < N) {x : Number} (hx : zcu x) (k : Nat) (hk : k < 100) : zcm N x (k : Int) = some (wn (x.N.natAbs * 10 ^ k)) := by
 obtain ⟨⟨h1, h2⟩, _⟩ := hx
 unfold zcm
 have e : (if w6 (0 - x.N) > x.N then w6 (0 - x.N) else x.N) = ((x.N.natAbs : Nat) : Int) := by
  rw [w6e]; split <;> omega
 rw [e, zso, mel (by omega), z0z (by omega), obs, zty N (by omega) _ k hk]
 rfl
theorem zzb (N : Nat) (hN : 300 < N) {x : Number} (hx : zcu x) : zcm N x 0 = some (wn x.N.natAbs) := by
 have := zpt N hN hx 0 (by decide)
 rw [Nat.pow_zero, Nat.mul_one] at this
 exact this
theorem zq8 : zbf 1 = some (wn 1) := z0z (n := 1) (by decide)
theorem zvk (N : Nat) (hN : 300 < N) {k : Int} (h0 : 0 ≤ k) (h1 : k < 100) : zj N (wn 1) k = some (wn (10 ^ k.toNat)) := by
 have := zty N (by omega) 1 k.toNat (by omega)
 rw [Nat.one_mul, Int.toNat_of_nonneg h0] at this
 exact this
def zh7 (b : Bool) (p q : Nat) (t : DataType) (half : Bool) : Value × Int :=
 if 10 ^ t.Length.toNat ≤ p * 10 ^ t.Scale.toNat / q + cond (half && decide (q ≤ p * 10 ^ t.Scale.toNat % q + p * 10 ^ t.Scale.toNat % q)) 1 0 then (⟨0, ⟨#[]⟩⟩, 19)
 else (⟨cond b (-((p * 10 ^ t.Scale.toNat / q + cond (half && decide (q ≤ p * 10 ^ t.Scale.toNat % q + p * 10 ^ t.Scale.toNat % q)) 1 0 : Nat) : Int)) ((p * 10 ^ t.Scale.toNat / q + cond (half && decide (q ≤ p * 10 ^ t.Scale.toNat % q + p * 10 ^ t.Scale.toNat % q)) 1 0 : Nat) : Int), ⟨#[]⟩⟩, 0)
theorem eW (a : zH) : (⟨a.e0, a.e1, a.e2, a.e3⟩ : zH) = a := rfl
theorem z5g (N : Nat) (hN : 300 < N) (b : Bool) (Q : Nat) (hQ : Q < zjz) {t : DataType} (ht : zig t) :
 ((zbf 1).bind fun r11 => (zj N r11 t.Length).bind fun r12 => (zk N (wn Q) r12).bind fun r13 => cond (decide (r13 ≥ 0)) (some ((⟨0, (⟨#[]⟩ : ByteArray)⟩ : Value), (19 : Int)))
 (cond b (some ((⟨(w6 (0 - (w6 (zar [(wn Q).e0, (wn Q).e1, (wn Q).e2, (wn Q).e3] 0)))), (⟨#[]⟩ : ByteArray)⟩ : Value), (0 : Int)))
 (some ((⟨(w6 (zar [(wn Q).e0, (wn Q).e1, (wn Q).e2, (wn Q).e3] 0)), (⟨#[]⟩ : ByteArray)⟩ : Value), (0 : Int))))) =
 some (if 10 ^ t.Length.toNat ≤ Q then (⟨0, ⟨#[]⟩⟩, 19) else (⟨cond b (-(Q : Int)) (Q : Int), ⟨#[]⟩⟩, 0)) := by
 obtain ⟨⟨l1, l2⟩, l3, l4⟩ := zgd ht
 have hp : 10 ^ t.Length.toNat ≤ 10 ^ 15 := zb4 (by omega)
 rw [zq8, obs, zvk N hN (by omega) (by omega), obs, zl4 N (by omega) hQ (by unfold zjz; omega), obs, zst]
 by_cases h : 10 ^ t.Length.toNat ≤ Q
 · rw [dct h, ifp h]; rfl
 · rw [dcf h, ifn h, cfa]; have e : zar [(wn Q).e0, (wn Q).e1, (wn Q).e2, (wn Q).e3] 0 = (Q : Int) := by
    show ((Q % 18446744073709551616 : Nat) : Int) = Q; rw [mel (by omega)]
   rw [e, w6e (n := (Q : Int)), w6e]; cases b
   · rfl
   · simp only [ctr, Int.zero_sub]
theorem zsu (N : Nat) (hN : 300 < N) (b : Bool) (p q : Nat) (hp : p ≤ 10 ^ 46) (hq : 0 < q) (hq2 : q ≤ 10 ^ 46) {t : DataType} (ht : zig t) (half : Bool) : zdr N ⟨b, wn p, wn q⟩ t half = some (zh7 b p q t half) := by
 obtain ⟨⟨l1, l2⟩, l3, l4⟩ := zgd ht
 have hs : p * 10 ^ t.Scale.toNat ≤ 10 ^ 46 * 10 ^ 15 := Nat.mul_le_mul hp (zb4 (by omega))
 have hd : p * 10 ^ t.Scale.toNat / q ≤ 10 ^ 46 * 10 ^ 15 := Nat.le_trans (Nat.div_le_self _ _) hs
 have hm : p * 10 ^ t.Scale.toNat % q < q := Nat.mod_lt _ hq
 unfold zdr zh7
 try simp only [eW]
 have e1 := zty N (by omega) p t.Scale.toNat (by omega)
 rw [Int.toNat_of_nonneg l3] at e1
 rw [e1, obs, zza N hN _ q (by unfold zjz; omega) hq (by omega)]
 simp only [obs]
 rw [zwi N (by omega), obs, zl4 N (by omega) (by unfold zjz; omega) (by unfold zjz; omega)]
 simp only [obs, zst]
 have k : (cond half (some (decide (q ≤ p * 10 ^ t.Scale.toNat % q + p * 10 ^ t.Scale.toNat % q))) (some false)) = some (half && decide (q ≤ p * 10 ^ t.Scale.toNat % q + p * 10 ^ t.Scale.toNat % q)) := by cases half <;> rfl
 rw [k, obs]
 cases hc : (half && decide (q ≤ p * 10 ^ t.Scale.toNat % q + p * 10 ^ t.Scale.toNat % q)) with
 | true =>
  simp only [ctr]; rw [zq8, obs, zwi N (by omega), obs, ← zq8]; exact z5g N hN b _ (by unfold zjz; omega) ht
 | false =>
  simp only [cfa, Nat.add_zero]; exact z5g N hN b _ (by unfold zjz; omega) ht
theorem zy6 (b : Bool) (p q k : Nat) (hk : 0 < k) (hq : 0 < q) (t : DataType) (half : Bool) : zh7 b (p * k) (q * k) t half = zh7 b p q t half := by
 have e : p * k * 10 ^ t.Scale.toNat = p * 10 ^ t.Scale.toNat * k := Nat.mul_right_comm _ _ _
 have e2 : p * k * 10 ^ t.Scale.toNat / (q * k) = p * 10 ^ t.Scale.toNat / q := by rw [e, Nat.mul_div_mul_right _ _ hk]
 have e3 : decide (q * k ≤ p * k * 10 ^ t.Scale.toNat % (q * k) + p * k * 10 ^ t.Scale.toNat % (q * k)) = decide (q ≤ p * 10 ^ t.Scale.toNat % q + p * 10 ^ t.Scale.toNat % q) := by
  rw [e, Nat.mul_mod_mul_right, ← Nat.add_mul]; simp only [decide_eq_decide]; exact ⟨fun h => Nat.le_of_mul_le_mul_right h hk, fun h => Nat.mul_le_mul_right k h⟩
 unfold zh7
 rw [e2, e3]
theorem z0u (b b' : Bool) (p q : Nat) (hq : 0 < q) (t : DataType) (half : Bool) (h : p ≠ 0 → b = b') : zh7 b p q t half = zh7 b' p q t half := by
 by_cases hp : p = 0
 · subst hp; unfold zh7; simp only [Nat.zero_mul, Nat.zero_div, Nat.zero_mod, Nat.zero_add, dcf (show ¬ q ≤ 0 by omega), Bool.and_false, cfa]; cases b <;> cases b' <;> rfl
 · rw [h hp]
def zz6 (p : Int) (q : Nat) (t : DataType) (half : Bool) : Value × Int := zh7 (decide (p < 0)) p.natAbs q t half
theorem z2v (b : Bool) (p q : Nat) (hq : 0 < q) (t : DataType) (half : Bool) : zh7 b p q t half = zz6 (cond b (-(p : Int)) p) q t half := by
 unfold zz6
 have : (cond b (-(p : Int)) (p : Int)).natAbs = p := by cases b <;> simp
 rw [this]
 refine z0u _ _ _ _ hq _ _ fun h => ?_
 cases b
 · symm; simp
 · symm; simp; omega
theorem z8d {t : DataType} (ht : zig t) : zez t = some true := by
 obtain ⟨_, h1, h2⟩ := ht
 unfold zez
 rcases (by omega : t.Kind = 1 ∨ t.Kind = 2 ∨ t.Kind = 3) with h | h | h <;> rw [h] <;> rfl
def zl7 (x : Number) (t : DataType) (half : Bool) : Value × Int := zz6 x.N (10 ^ x.Scale.toNat) t half
theorem zacb (N : Nat) (hN : 300 < N) {x : Number} (hx : zcu x) {t : DataType} (ht : zig t) (half : Bool) : zg2 N x t half = some (zl7 x t half) := by
 have f3 : ∀ a b c : Int, zp N [a, b, c] = some (zcv [a, b, c]) := fun a b c => zom N _ (by simp; omega) (by simp)
 have hx' := hx
 obtain ⟨⟨h1, h2⟩, h3, h4⟩ := hx'
 have hp : 10 ^ x.Scale.toNat ≤ 10 ^ 15 := zb4 (by omega)
 unfold zg2 zny
 try simp only [eN, eD, eW]
 rw [zkj, zkc.2 hx]
 simp only [obs]
 rw [zqt N (by omega), ht.1]
 simp only [obs]
 rw [z8d ht]
 simp only [obs, zon, f3]
 rw [zzb N hN hx, zq8]
 simp only [obs]
 rw [zvk N hN h3 (by omega)]
 simp only [obs]
 rw [show zcv [0, 0, cond (!true) 17 0] = 0 from rfl]
 simp only [bsf, cfa]
 rw [zsu N hN _ _ _ (by omega) (zcb _) (by omega) ht]
 simp only [obs]
 rfl
def zak (x : Number) (s : Int) : Int := x.N * 10 ^ (s - x.Scale).toNat
def zi (a b : Number) : Int := if b.Scale > a.Scale then b.Scale else a.Scale
theorem zid (x : Number) (s : Int) : (zak x s).natAbs = x.N.natAbs * 10 ^ (s - x.Scale).toNat := by
 unfold zak
 rw [Int.natAbs_mul, Int.natAbs_pow]
 rfl
theorem zy7 (k : Nat) : (0 : Int) < 10 ^ k := Int.pow_pos (by decide)
theorem znp (x : Number) (s : Int) : (zak x s < 0) ↔ x.N < 0 := by
 unfold zak
 have := zy7 (s - x.Scale).toNat
 constructor
 · intro h; refine cbc fun h2 => ?_; have := Int.mul_nonneg (show 0 ≤ x.N by omega) (Int.le_of_lt this); omega
 · intro h; exact Int.mul_neg_of_neg_of_pos h this
theorem zwy (x : Number) (s : Int) : zak x s = 0 ↔ x.N = 0 := by
 unfold zak
 have := zy7 (s - x.Scale).toNat
 constructor
 · intro h; rcases Int.mul_eq_zero.1 h with h | h
   · exact h
   · omega
 · intro h; rw [h, Int.zero_mul]
theorem ztz (N : Nat) (hN : 300 < N) {a b : Number} (ha : zcu a) (hb : zcu b) : zd8 N a b = some (wn (zak a (zi a b)).natAbs, wn (zak b (zi a b)).natAbs, zi a b) := by
 have ha' := ha
 have hb' := hb
 obtain ⟨_, a3, a4⟩ := ha'
 obtain ⟨_, b3, b4⟩ := hb'
 unfold zd8
 have hs : (if b.Scale > a.Scale then b.Scale else a.Scale) = zi a b := rfl
 have h1 : a.Scale ≤ zi a b ∧ b.Scale ≤ zi a b ∧ zi a b ≤ 15 := by unfold zi; split <;> omega
 rw [hs, w6e, w6e]
 have e1 := zpt N hN ha (zi a b - a.Scale).toNat (by omega)
 have e2 := zpt N hN hb (zi a b - b.Scale).toNat (by omega)
 rw [Int.toNat_of_nonneg (by omega)] at e1 e2
 rw [e1, obs, e2, obs, zid, zid]
theorem zik {x : Number} (hx : zcu x) {s : Int} (hs : s ≤ 15) : (zak x s).natAbs ≤ 10 ^ 30 := by
 obtain ⟨⟨h1, h2⟩, h3, h4⟩ := hx
 rw [zid]
 have := Nat.mul_le_mul (show x.N.natAbs ≤ 10 ^ 15 by omega) (zb4 (k := (s - x.Scale).toNat) (m := 15) (by omega))
 exact Nat.le_trans this (by decide)
theorem zl2 {a b : Number} (ha : zcu a) (hb : zcu b) : a.Scale ≤ zi a b ∧ b.Scale ≤ zi a b ∧ 0 ≤ zi a b ∧ zi a b ≤ 15 := by
 obtain ⟨_, a3, a4⟩ := ha
 obtain ⟨_, b3, b4⟩ := hb
 unfold zi; split <;> omega
def zz7 (a b : Int) : Int := if a < b then -1 else if b < a then 1 else 0
theorem z41 (N : Nat) (hN : 300 < N) {a b : Number} (ha : zcu a) (hb : zcu b) : zhh N a b = some (zz7 (zak a (zi a b)) (zak b (zi a b)), 0) := by
 have f2 : ∀ a b : Int, zp N [a, b] = some (zcv [a, b]) := fun a b => zom N _ (by simp; omega) (by simp)
 obtain ⟨s1, s2, s3, s4⟩ := zl2 ha hb
 have la := zik ha s4
 have lb := zik hb s4
 have na := znp a (zi a b)
 have nb := znp b (zi a b)
 unfold zhh
 rw [zkj, zkj, zkc.2 ha, zkc.2 hb]
 simp only [obs, f2]
 rw [ztz N hN ha hb]
 simp only [show zcv [0, 0] = 0 from rfl, bsf, cfa, obs]
 rw [zl4 N (by omega) (by unfold zjz; omega) (by unfold zjz; omega), zl4 N (by omega) (by unfold zjz; omega) (by unfold zjz; omega)]
 generalize zak a (zi a b) = A at *
 generalize zak b (zi a b) = B at *
 have k : ∀ x y, (cond (decide (a.N < 0)) x y : Option (Int × Int)) = if A < 0 then x else y := fun x y => by
  by_cases h : A < 0
  · rw [ifp h, dct (na.1 h), ctr]
  · rw [ifn h, dcf (fun h2 => h (na.2 h2)), cfa]
 have k2 : ∀ x y, (cond (decide (b.N < 0)) x y : Option (Int × Int)) = if B < 0 then x else y := fun x y => by
  by_cases h : B < 0
  · rw [ifp h, dct (nb.1 h), ctr]
  · rw [ifn h, dcf (fun h2 => h (nb.2 h2)), cfa]
 rw [show (cond (decide (a.N < 0)) (some (decide (b.N < 0))) (some false)) = some (decide (A < 0 ∧ B < 0)) by
  by_cases h : A < 0
  · rw [dct (na.1 h), ctr]
    by_cases h2 : B < 0
    · rw [dct (nb.1 h2), dct ⟨h, h2⟩]
    · rw [dcf (fun h3 => h2 (nb.2 h3)), dcf (fun h3 => h2 h3.2)]
  · rw [dcf (fun h2 => h (na.2 h2)), cfa, dcf (fun h3 => h h3.1)]]
 simp only [obs, k, k2]
 unfold zhv zz7
 by_cases h1 : A < 0 ∧ B < 0
 · rw [dct h1]; simp only [ctr, Option.some.injEq, Prod.mk.injEq, and_true]
   repeat' split
   all_goals first | rfl | omega
 · rw [dcf h1]; simp only [cfa]
   repeat' split
   all_goals first | rfl | (exfalso; omega)
theorem z8b (N : Nat) (hN : 300 < N) {a b : Number} (ha : zcu a) (hb : zcu b) : ∃ s p, zjw N a b = some ⟨s, wn p, wn (10 ^ (zi a b).toNat)⟩ ∧ p ≤ 10 ^ 31 ∧ cond s (-(p : Int)) p = zak a (zi a b) + zak b (zi a b) := by
 obtain ⟨s1, s2, s3, s4⟩ := zl2 ha hb
 have la := zik ha s4
 have lb := zik hb s4
 have na := znp a (zi a b)
 have nb := znp b (zi a b)
 unfold zjw
 rw [ztz N hN ha hb]
 simp only [obs]
 rw [zwi N (by omega), zq8]
 simp only [obs]
 rw [zvk N hN s3 (by omega)]
 simp only [obs]
 obtain ⟨r, hr1, hr2⟩ := zvl N (by omega) (zak a (zi a b)).natAbs (zak b (zi a b)).natAbs
 rw [hr1]
 simp only [obs]
 rw [zl4 N (by omega) (by unfold zjz; omega) (by unfold zjz; omega)]
 simp only [obs]
 generalize zak a (zi a b) = A at *
 generalize zak b (zi a b) = B at *
 rw [show decide (a.N < 0) = decide (A < 0) by simp only [decide_eq_decide]; exact na.symm, show decide (b.N < 0) = decide (B < 0) by simp only [decide_eq_decide]; exact nb.symm]
 by_cases hA : A < 0
 · by_cases hB : B < 0
   · rw [dct hA, dct hB]; refine ⟨true, _, rfl, by omega, ?_⟩; simp only [ctr]; omega
   · rw [dct hA, dcf hB]; unfold zhv
     by_cases h : A.natAbs < B.natAbs
     · rw [ifp h, zx9 N (by omega) (Nat.le_of_lt h)]; refine ⟨false, _, rfl, by omega, ?_⟩; simp only [cfa]; omega
     · rw [ifn h, hr2 (by omega)]; refine ⟨true, A.natAbs - B.natAbs, ?_, by omega, ?_⟩
       · split <;> rfl
       · simp only [ctr]; omega
 · by_cases hB : B < 0
   · rw [dcf hA, dct hB]; unfold zhv
     by_cases h : A.natAbs < B.natAbs
     · rw [ifp h, zx9 N (by omega) (Nat.le_of_lt h)]; refine ⟨true, _, rfl, by omega, ?_⟩; simp only [ctr]; omega
     · rw [ifn h, hr2 (by omega)]; refine ⟨false, A.natAbs - B.natAbs, ?_, by omega, ?_⟩
       · split <;> rfl
       · simp only [cfa]; omega
   · rw [dcf hA, dcf hB]; refine ⟨false, _, rfl, by omega, ?_⟩; simp only [cfa]; omega
def zhb (op : Int) (a b : Number) (t : DataType) (half : Bool) : Value × Int :=
 if (op = 3 ∨ op = 4) ∧ b.N = 0 then (⟨0, ⟨#[]⟩⟩, 20)
 else if op = 0 then zz6 (zak a (zi a b) + zak b (zi a b)) (10 ^ (zi a b).toNat) t half
 else if op = 1 then zz6 (zak a (zi a b) - zak b (zi a b)) (10 ^ (zi a b).toNat) t half
 else if op = 2 then zh7 (decide (a.N < 0) != decide (b.N < 0)) (a.N.natAbs * b.N.natAbs) (10 ^ (a.Scale + b.Scale).toNat) t half
 else if op = 3 then zh7 (decide (a.N < 0) != decide (b.N < 0)) (a.N.natAbs * 10 ^ b.Scale.toNat) (b.N.natAbs * 10 ^ a.Scale.toNat) t half
 else zh7 (decide (a.N < 0)) ((zak a (zi a b)).natAbs % (zak b (zi a b)).natAbs) (10 ^ (zi a b).toNat) t half
theorem zacc (N : Nat) (hN : 300 < N) {op : Int} (hop : 0 ≤ op ∧ op ≤ 4) {a b : Number} (ha : zcu a) (hb : zcu b) {t : DataType} (ht : zig t) (half : Bool) : zci N op a b t half = some (zhb op a b t half) := by
 have f5 : ∀ a b c d e : Int, zp N [a, b, c, d, e] = some (zcv [a, b, c, d, e]) := fun a b c d e => zom N _ (by simp; omega) (by simp)
 obtain ⟨s1, s2, s3, s4⟩ := zl2 ha hb
 have ha' := ha
 have hb' := hb
 obtain ⟨⟨a1, a2⟩, a3, a4⟩ := ha'
 obtain ⟨⟨b1, b2⟩, b3, b4⟩ := hb'
 have p15 : ∀ k : Int, k ≤ 15 → 10 ^ k.toNat ≤ 10 ^ 15 := fun k hk => zb4 (by omega)
 have q1 := p15 _ s4
 have q2 := p15 _ a4
 have q3 := p15 _ b4
 unfold zci zlu zhw zjm
 simp only [z1l, zon, obs]
 rw [zkj, zkj, zkc.2 ha, zkc.2 hb, show inB op 0 4 = true from zay.2 hop]
 simp only [obs]
 rw [zqt N (by omega), ht.1]
 simp only [obs]
 rw [z8d ht]
 simp only [obs, f5, show zcv [cond (!true) 4 0, 0, 0, 0, cond (!true) 17 0] = 0 from rfl, bsf, cfa]
 have g : ((cond (op == 3) (some true) (some (op == 4))).bind fun g1 => some g1) = some (decide (op = 3 ∨ op = 4)) := by
  rw [zat, zat]
  by_cases h : op = 3
  · rw [dct h, dct (Or.inl h)]; rfl
  · rw [dcf h]
    by_cases h2 : op = 4
    · rw [dct h2, dct (Or.inr h2)]; rfl
    · rw [dcf h2, dcf (by omega)]; rfl
 rw [g]
 simp only [obs]
 rw [show (cond (decide (op = 3 ∨ op = 4)) (some (b.N == 0)) (some false)) = some (decide ((op = 3 ∨ op = 4) ∧ b.N = 0)) by
  rw [zat]
  by_cases h : op = 3 ∨ op = 4
  · rw [dct h, ctr]; congr 1; simp [h]
  · rw [dcf h, cfa]; congr 1; simp [h]]
 simp only [obs]
 unfold zhb
 by_cases hz : (op = 3 ∨ op = 4) ∧ b.N = 0
 · rw [dct hz, ifp hz]; rfl
 · rw [dcf hz, ifn hz, cfa]; unfold zka
   by_cases o0 : op = 0
   · obtain ⟨s, p, h1, h2, h3⟩ := z8b N hN ha hb; rw [ifp o0, o0, h1]; simp only [bst, ctr, obs]; rw [zsu N hN _ _ _ (by omega) (zcb _) (by omega) ht, ← h3, z2v _ _ _ (zcb _)]; rfl
   · rw [ifn o0, zat, dcf o0, cfa]
     by_cases o1 : op = 1
     · have hb2 : zcu ⟨-b.N, b.Scale⟩ := ⟨⟨by show -999999999999999 ≤ -b.N; omega, by show -b.N ≤ 999999999999999; omega⟩, b3, b4⟩; obtain ⟨s, p, h1, h2, h3⟩ := z8b N hN ha hb2; rw [ifp o1, zat, dct o1, ctr, w6e, Int.zero_sub, h1]; simp only [obs]; have e1 : zi a ⟨-b.N, b.Scale⟩ = zi a b := rfl; have e2 : zak ⟨-b.N, b.Scale⟩ (zi a b) = -zak b (zi a b) := by unfold zak; exact Int.neg_mul _ _
       rw [e1] at h3 ⊢; rw [e2] at h3; rw [zsu N hN _ _ _ (by omega) (zcb _) (by omega) ht, Int.sub_eq_add_neg, ← h3, z2v _ _ _ (zcb _)]; rfl
     · rw [ifn o1, zat, dcf o1, cfa]
       by_cases o2 : op = 2
       · rw [ifp o2, zat, dct o2, ctr, zzb N hN ha, obs]; have e : (if w6 (0 - b.N) > b.N then w6 (0 - b.N) else b.N) = ((b.N.natAbs : Nat) : Int) := by
          rw [w6e]; split <;> omega
         rw [e, zso, mel (by omega), z25 N (by omega) _ _ (by omega), obs, zq8, obs, w6e, zvk N hN (by omega) (by omega)]; simp only [obs]; have hm : a.N.natAbs * b.N.natAbs ≤ 10 ^ 15 * 10 ^ 15 := Nat.mul_le_mul (by omega) (by omega); have hm2 : 10 ^ (a.Scale + b.Scale).toNat ≤ 10 ^ 30 := zb4 (by omega); rw [zsu N hN _ _ _ (by omega) (zcb _) (by omega) ht]; rfl
       · rw [ifn o2, zat, dcf o2, cfa]
         by_cases o3 : op = 3
         · have hb0 : b.N ≠ 0 := fun h => hz ⟨.inl o3, h⟩; have e1 := zpt N hN ha b.Scale.toNat (by omega); have e2 := zpt N hN hb a.Scale.toNat (by omega); rw [Int.toNat_of_nonneg (by omega)] at e1 e2; have hm : a.N.natAbs * 10 ^ b.Scale.toNat ≤ 10 ^ 15 * 10 ^ 15 := Nat.mul_le_mul (by omega) (by omega); have hm2 : b.N.natAbs * 10 ^ a.Scale.toNat ≤ 10 ^ 15 * 10 ^ 15 := Nat.mul_le_mul (by omega) (by omega); rw [ifp o3, zat, dct o3, ctr, e1, obs, e2, obs, obs]; rw [zsu N hN _ _ _ (by omega) (Nat.mul_pos (by omega) (zcb _)) (by omega) ht]; rfl
         · have hb0 : b.N ≠ 0 := fun h => hz ⟨by omega, h⟩; have la := zik ha s4; have lb := zik hb s4; have hb1 : (zak b (zi a b)).natAbs ≠ 0 := fun h => hb0 ((zwy b (zi a b)).1 (Int.natAbs_eq_zero.1 h)); have hm := Nat.mod_lt (zak a (zi a b)).natAbs (show 0 < (zak b (zi a b)).natAbs by omega); rw [ifn o3, zat, dcf o3, cfa, ztz N hN ha hb, obs]; simp only []; rw [zza N hN _ _ (by unfold zjz; omega) (by omega) (by omega), obs, zq8, obs]; rw [zvk N hN s3 (by omega)]; simp only [obs]; rw [zsu N hN _ _ _ (by omega) (zcb _) (by omega) ht]; rfl
def dv : List Int → Nat
 | [] => 0
 | d :: l => d.toNat + 10 * dv l
def dok (l : List Int) : Prop := ∀ d ∈ l, 0 ≤ d ∧ d < 10
def zm3 (l : List Int) : Prop := l.getLast? ≠ some 0
def dg (n : Nat) : List Int := if n = 0 then [] else ((n % 10 : Nat) : Int) :: dg (n / 10)
termination_by n
decreasing_by omega
theorem zke : dg 0 = [] := by rw [dg]; rfl
theorem zn4 {n : Nat} (h : n ≠ 0) : dg n = ((n % 10 : Nat) : Int) :: dg (n / 10) := by rw [dg, ifn h]
theorem zyi (n : Nat) : dv (dg n) = n ∧ dok (dg n) ∧ zm3 (dg n) ∧ (dg n = [] ↔ n = 0) := by
 induction n using Nat.strongRecOn with
 | _ n ih =>
  by_cases h : n = 0
  · subst h; rw [zke]; exact ⟨rfl, fun d hd => (List.not_mem_nil hd).elim, by unfold zm3; simp, by simp⟩
  · obtain ⟨h1, h2, h3, h4⟩ := ih (n / 10) (by omega); rw [zn4 h]; refine ⟨?_, ?_, ?_, by simp [h]⟩
    · simp only [dv, h1, itn]; omega
    · intro d hd; rcases List.mem_cons.1 hd with rfl | hd
      · omega
      · exact h2 d hd
    · unfold zm3 at h3 ⊢; cases hl : dg (n / 10) with
      | nil =>
       have := h4.1 hl; simp only [List.getLast?_singleton, ne_eq, Option.some.injEq]; omega
      | cons x l =>
       rw [hl] at h3; rw [List.getLast?_cons_cons]; exact h3
theorem zj3 (n : Nat) : dv (dg n) = n := (zyi n).1
theorem zjn (n : Nat) : dok (dg n) := (zyi n).2.1
theorem z5q (n : Nat) : zm3 (dg n) := (zyi n).2.2.1
theorem zzp : ∀ {l : List Int}, dok l → zm3 l → dg (dv l) = l
 | [], _, _ => zke
 | d :: l, h, hc => by
  have hl : dok l := fun x hx => h x (List.mem_cons_of_mem _ hx); obtain ⟨h0, h1⟩ := h d List.mem_cons_self; cases l with
  | nil =>
   unfold zm3 at hc; simp only [List.getLast?_singleton, ne_eq, Option.some.injEq] at hc; have e : dv [d] = d.toNat := by simp [dv]
   rw [e, zn4 (by omega), show d.toNat / 10 = 0 by omega, zke, show ((d.toNat % 10 : Nat) : Int) = d by omega]
  | cons x l =>
   have hcl : zm3 (x :: l) := by
    unfold zm3 at hc ⊢; rw [List.getLast?_cons_cons] at hc; exact hc
   have ih := zzp hl hcl; have hn : dv (x :: l) ≠ 0 := fun h => by rw [h, zke] at ih; cases ih
   have e : dv (d :: x :: l) = d.toNat + 10 * dv (x :: l) := rfl; rw [e, zn4 (by omega), show (d.toNat + 10 * dv (x :: l)) / 10 = dv (x :: l) by omega, ih, show (((d.toNat + 10 * dv (x :: l)) % 10 : Nat) : Int) = d by omega]
theorem zr2 : ∀ (a b : List Int), dv (a ++ b) = dv a + 10 ^ a.length * dv b
 | [], b => by simp [dv]
 | d :: a, b => by
  simp only [List.cons_append, dv, zr2 a b, lnc, Nat.pow_succ]; rw [Nat.mul_add, Nat.add_assoc, Nat.mul_comm (10 ^ a.length) 10, Nat.mul_assoc]
theorem zre : ∀ k : Nat, dv (List.replicate k (0 : Int)) = 0
 | 0 => rfl
 | k + 1 => by simp only [List.replicate_succ, dv, zre k]; rfl
theorem zp0 (k : Nat) : dok (List.replicate k (0 : Int)) := fun d hd => by
 obtain ⟨_, rfl⟩ := List.mem_replicate.1 hd
 omega
theorem zt9 {a b : List Int} (ha : dok a) (hb : dok b) : dok (a ++ b) := fun d hd => (List.mem_append.1 hd).elim (ha d) (hb d)
theorem zzn : ∀ {l : List Int}, dok l → dv l < 10 ^ l.length
 | [], _ => by simp [dv]
 | d :: l, h => by
  have ih := zzn (l := l) fun x hx => h x (List.mem_cons_of_mem _ hx); obtain ⟨h0, h1⟩ := h d List.mem_cons_self; simp only [dv, lnc, Nat.pow_succ]; omega
theorem zhd (n k : Nat) : (dg n).length ≤ k ↔ n < 10 ^ k := by
 induction k generalizing n with
 | zero =>
  by_cases h : n = 0
  · rw [h, zke]; simp
  · rw [zn4 h]; simp; omega
 | succ k ih =>
  by_cases h : n = 0
  · rw [h, zke]; simp [zcb]
  · rw [zn4 h, lnc, Nat.add_le_add_iff_right, ih (n / 10), Nat.pow_succ]; omega
theorem z35 (l : List Int) (i : Nat) (hi : i < l.length) : dv l = dv (l.take i) + 10 ^ i * (l[i].toNat + 10 * dv (l.drop (i + 1))) := by
 have h := List.take_append_drop i l
 have e : l.drop i = l[i] :: l.drop (i + 1) := List.drop_eq_getElem_cons hi
 conv => lhs; rw [← h, zr2, e]
 simp only [dv, lnt, Nat.min_eq_left (Nat.le_of_lt hi)]
theorem zyg {l : List Int} (h : dok l) (i : Nat) : dok (l.take i) := fun d hd => h d (List.mem_of_mem_take hd)
theorem zaam {l : List Int} (h : dok l) (i : Nat) : dok (l.drop i) := fun d hd => h d (List.mem_of_mem_drop hd)
theorem z82 {a b : List Int} (ha : dok a) (hb : dok b) (i : Nat) (hi : i < a.length) (hj : i < b.length) (h : a.drop (i + 1) = b.drop (i + 1)) (hlt : a[i] < b[i]) : dv a < dv b := by
 rw [z35 a i hi, z35 b i hj, h]
 have l1 := zzn (zyg ha i)
 rw [lnt, Nat.min_eq_left (Nat.le_of_lt hi)] at l1
 obtain ⟨x0, _⟩ := ha a[i] (List.getElem_mem hi)
 have : 10 ^ i * (a[i].toNat + 10 * dv (b.drop (i + 1))) + 10 ^ i ≤ 10 ^ i * (b[i].toNat + 10 * dv (b.drop (i + 1))) := by
  rw [← Nat.mul_succ]; exact Nat.mul_le_mul_left _ (by omega)
 omega
theorem zzo {a b : Nat} (h : (dg a).length < (dg b).length) : a < b := by
 have h1 := (zhd a (dg a).length).1 (Nat.le_refl _)
 refine Nat.lt_of_lt_of_le h1 (cbc fun h2 => ?_)
 have := (zhd b (dg a).length).2 (by omega)
 omega
def bl (b : ByteArray) : List UInt8 := b.data.toList
theorem zam (b : ByteArray) : (bl b).length = b.size := rfl
theorem zgz {a b : ByteArray} (h : bl a = bl b) : a = b := by
 cases a; cases b
 unfold bl at h
 simp only at h
 congr 1
 exact Array.toList_inj.1 h
theorem zhi (b : ByteArray) (i : Nat) : zgw b (i : Int) = (bl b)[i]? := by
 unfold zgw bl
 rw [ifp]
 show b[i]? = _
 by_cases h : i < b.size
 · rw [getElem?_pos b i h, lge (by simpa using h)]
   congr 1
 · rw [getElem?_neg b i h, List.getElem?_eq_none (by simpa using h)]
theorem zel (b : ByteArray) (i j : Nat) : bl (b.extract i j) = ((bl b).take j).drop i := by
 unfold bl
 rw [ByteArray.data_extract, Array.toList_extract, List.extract_eq_drop_take', List.drop_take]
theorem zcz (a b : ByteArray) : bl (a ++ b) = bl a ++ bl b := by
 unfold bl
 rw [ByteArray.data_append, Array.toList_append]
theorem zabd (l : List UInt8) : bl ⟨l.toArray⟩ = l := rfl
def beV (l : List UInt8) : Nat := l.foldl (fun n c => n * 256 + c.toNat) 0
theorem zrj (l : List UInt8) (x : UInt8) : beV (l ++ [x]) = beV l * 256 + x.toNat := by
 unfold beV; rw [List.foldl_append]; rfl
theorem zzt (l : List UInt8) : beV l < 256 ^ l.length := by
 have key : ∀ (l r : List UInt8), l = r.reverse → beV l < 256 ^ l.length := by
  intro l r
  induction r generalizing l with
  | nil => intro h; subst h; decide
  | cons x r ih =>
   intro h; rw [List.reverse_cons] at h; subst h; have := ih _ rfl; rw [zrj, lna, lns, Nat.pow_succ]; have := x.toNat_lt; omega
 exact key l l.reverse (by simp)
theorem zd0 {α : Type} (l : List α) (i : Nat) {x : α} (h : l[i]? = some x) : l.take (i + 1) = l.take i ++ [x] := by
 obtain ⟨h1, h2⟩ := gei h
 rw [List.take_succ_eq_append_getElem h1, h2]
theorem zej {α : Type} {l : List α} {i : Nat} (h : i < l.length) : ∃ x, l[i]? = some x := ⟨_, lge h⟩
theorem or8 (n : Int) (c : Nat) (h1 : -36028797018963968 ≤ n) (h2 : n < 36028797018963968) (hc : c < 256) : orI .i64 (n * 256) (c : Int) = n * 256 + c := by
 unfold orI
 have e : (BitVec.ofInt IntKind.i64.bits (n * 256) ||| BitVec.ofInt IntKind.i64.bits (c : Int)).toNat = ((n * 256) % 18446744073709551616).toNat + c := by
  show (BitVec.ofInt 64 (n * 256) ||| BitVec.ofInt 64 (c : Int)).toNat = _; rw [BitVec.toNat_or, BitVec.ofInt_natCast, BitVec.toNat_ofNat, BitVec.toNat_ofInt, mel (by omega)]; show ((n * 256) % 18446744073709551616).toNat ||| c = _; have := Nat.two_pow_add_eq_or_of_lt (i := 8) (b := c) hc (((n * 256) % 18446744073709551616).toNat / 256); rw [show 2 ^ 8 * (((n * 256) % 18446744073709551616).toNat / 256) = ((n * 256) % 18446744073709551616).toNat by omega] at this; exact this.symm
 rw [e]
 have k : (2 : Int) ^ (IntKind.i64.bits) = 18446744073709551616 := by decide
 have k' : (2 : Int) ^ (IntKind.i64.bits - 1) = 9223372036854775808 := by decide
 unfold IntKind.wrap
 simp only [k, k', show IntKind.i64.signed = true from rfl, Bool.true_and, decide_eq_true_eq, ge_iff_le]
 split <;> omega
theorem z1v (N : Nat) (hN : 20 < N) (b : ByteArray) (hb : b.size ≤ 6) : zb0 N b = some (beV (bl b) : Int) := by
 unfold zb0
 have := zbl (f := zb0.r0 N) (fun i => (b, ((beV ((bl b).take i) : Nat) : Int), (b.size : Int), (i : Int))) b.size
  (fun i hi => by
   obtain ⟨x, hx⟩ : ∃ x, (bl b)[i]? = some x := zej (by rw [zam]; exact hi); have hl := zzt ((bl b).take i); have hl2 : 256 ^ ((bl b).take i).length ≤ 256 ^ 6 := Nat.pow_le_pow_right (by decide) (by rw [lnt, zam]; omega); have hc := x.toNat_lt; simp only [zb0.r0, zb0.b0, dct (show (i : Int) < (b.size : Int) by omega), ctr, zhi, hx, obs]; rw [show (2 : Int) ^ (min (8 : Int).toNat 64) = 256 from rfl, w6e (n := ((beV ((bl b).take i) : Nat) : Int) * 256), w6e (n := (x.toNat : Int)), w6e (n := (i : Int) + 1), or8 _ _ (by omega) (by omega) hc, zd0 _ _ hx, zrj]; simp only [Int.natCast_add, Int.natCast_mul, Int.natCast_one]; rfl)
  (by simp only [zb0.r0, zb0.b0, dcf (show ¬ (b.size : Int) < (b.size : Int) by omega), cfa]) (N := N) (by omega)
 simp only [List.take_zero, nc0] at this
 rw [show ((beV [] : Nat) : Int) = 0 from rfl] at this
 rw [this, ← zam, List.take_length]
 rfl
theorem zwd (N : Nat) (hN : 20 < N) (b : ByteArray) (k n : Nat) (hn : n ≤ 6) (hk : k + n ≤ b.size) (hb : b.size < 1000000) : zdc N b (k : Int) (n : Int) = some (beV (((bl b).drop k).take n) : Int) := by
 unfold zdc
 have := zbl (f := zdc.r0 N) (fun i => (b, (k : Int), (n : Int), ((beV (((bl b).drop k).take i) : Nat) : Int), (i : Int))) n
  (fun i hi => by
   have hlen : i < ((bl b).drop k).length := by rw [List.length_drop, zam]; omega
   obtain ⟨x, hy⟩ : ∃ x, ((bl b).drop k)[i]? = some x := zej hlen; have hx : (bl b)[k + i]? = some x := by rw [← List.getElem?_drop]; exact hy
   have hl := zzt (((bl b).drop k).take i); have hl2 : 256 ^ (((bl b).drop k).take i).length ≤ 256 ^ 6 := Nat.pow_le_pow_right (by decide) (by rw [lnt]; omega); have hc := x.toNat_lt; simp only [zdc.r0, zdc.b0, dct (show (i : Int) < (n : Int) by omega), ctr]; rw [w6e (n := (k : Int) + (i : Int)), ← Int.natCast_add, zhi, hx]; simp only [obs]; rw [w6e (n := ((beV (((bl b).drop k).take i) : Nat) : Int) * 256), w6e (n := (x.toNat : Int)), w6e (n := (i : Int) + 1), w6e, zd0 _ _ hy, zrj]; simp only [Int.natCast_add, Int.natCast_mul, Int.natCast_one]; rfl)
  (by simp only [zdc.r0, zdc.b0, dcf (show ¬ (n : Int) < (n : Int) by omega), cfa]) (N := N) (by omega)
 simp only [List.take_zero, nc0] at this
 rw [show ((beV [] : Nat) : Int) = 0 from rfl] at this
 rw [this]
 rfl
def zbb (v k : Nat) : List Int := (List.range k).map fun j => ((v / 256 ^ (k - 1 - j) % 256 : Nat) : Int)
theorem zyk (v k : Nat) : (zbb v k).length = k := by simp [zbb]
def zgq (f : Nat → Int) (k i : Nat) : List Int := (List.range k).map fun j => if k - i ≤ j then f (k - 1 - j) else 0
theorem zq5 (f : Nat → Int) (k i : Nat) : (zgq f k i).length = k := by simp [zgq]
theorem zpm (f : Nat → Int) (k : Nat) : zgq f k 0 = List.replicate k (0 : Int) := by
 unfold zgq
 refine List.ext_getElem? fun j => ?_
 rw [List.getElem?_map, List.getElem?_replicate]
 by_cases h : j < k
 · rw [lge (by simpa using h), ifp h]; simp only [List.getElem_range, Option.map_some]; rw [ifn]
 · rw [List.getElem?_eq_none (by simpa using h), ifn h]; rfl
theorem zpo (f : Nat → Int) (k : Nat) : zgq f k k = (List.range k).map fun j => f (k - 1 - j) := by
 unfold zgq
 refine List.map_congr_left fun j _ => ?_
 rw [ifp]
theorem zpn (f : Nat → Int) (k i : Nat) (h : i < k) : (zgq f k i).set (k - 1 - i) (f i) = zgq f k (i + 1) := by
 refine List.ext_getElem? fun j => ?_
 rw [List.getElem?_set]
 unfold zgq
 simp only [lnm, List.length_range, List.getElem?_map]
 by_cases hj : j < k
 · rw [lge (by simpa using hj)]; simp only [List.getElem_range, Option.map_some]
   by_cases he : k - 1 - i = j
   · rw [ifp he, ifp, ifp, show k - 1 - j = i by omega]
   · rw [ifn he]
     congr 1
     by_cases h2 : k - i ≤ j
     · rw [ifp h2, ifp]
     · rw [ifn h2, ifn]
 · rw [List.getElem?_eq_none (by simpa using hj)]
   by_cases he : k - 1 - i = j
   · omega
   · rw [ifn he]; rfl
def z0f (v k i : Nat) : List Int := zgq (fun e => ((v / 256 ^ e % 256 : Nat) : Int)) k i
theorem z9b (v k : Nat) : z0f v k 0 = List.replicate k (0 : Int) := zpm _ k
theorem z9d (v k : Nat) : z0f v k k = zbb v k := zpo _ k
theorem z9c (v k i : Nat) (h : i < k) : (z0f v k i).set (k - 1 - i) ((v / 256 ^ i % 256 : Nat) : Int) = z0f v k (i + 1) := zpn _ k i h
theorem zabi (m : Nat) : IntKind.wrap .u8 (m : Int) = ((m % 256 : Nat) : Int) := by
 have e : (2 : Int) ^ (IntKind.u8.bits) = 256 := by decide
 unfold IntKind.wrap
 simp only [e, show IntKind.u8.signed = false from rfl, Bool.false_and]
 simp only [Bool.false_eq_true, if_false]
 omega
theorem zadl (N : Nat) (hN : 20 < N) (v k : Nat) (hk : k ≤ 8) : zby N (v : Int) (k : Int) = some (zbb v k) := by
 unfold zby
 have := zbl (f := zby.r0 N) (fun i => ((v : Int), (k : Int), z0f v k i, (k : Int), (i : Int))) k
  (fun i hi => by
   have hl : (z0f v k i).length = k := zq5 _ _ _; simp only [zby.r0, zby.b0, dct (show (i : Int) < (k : Int) by omega), ctr, hl]; rw [w6e (n := 8 * (i : Int)), w6e (n := (k : Int) - 1), w6e (n := (k : Int) - 1 - (i : Int)), ifn, ifp, ifp]; have e0 : ((k : Int) - 1 - (i : Int)).toNat = k - 1 - i := by omega
   rw [e0, lge (by omega), obs, w6e (n := (i : Int) + 1)]; have e1 : ((v : Int).fdiv (2 ^ (min (8 * (i : Int)).toNat 64))) = ((v / 256 ^ i : Nat) : Int) := by
    rw [show (8 * (i : Int)).toNat = 8 * i by omega, Nat.min_eq_left (by omega), show (2 : Int) ^ (8 * i) = ((256 ^ i : Nat) : Int) by
     rw [show (256 : Nat) = 2 ^ 8 from rfl, ← Nat.pow_mul, Int.natCast_pow]; rfl, zt7]
   rw [e1, zabi, z9c v k i hi]; rfl)
  (by simp only [zby.r0, zby.b0, dcf (show ¬ (k : Int) < (k : Int) by omega), cfa]) (N := N) (by omega)
 rw [ifp, ifp]
 have hr : Nat.ble ((k : Int).toNat * 1) zac = true := by
  rw [Nat.ble_eq]; unfold zac; omega
 rw [hr, ctr, itn, lnr]
 simp only [z9b, nc0] at this
 rw [this, obs, z9d]
def zym : Pointer := ⟨0, ⟨0, 0⟩, 0⟩
def zh8 (off : Int) : Pointer := ⟨0, ⟨1, off⟩, 0⟩
def zp5 (p : Pointer) : Int := cond (!inB p.Kind 0 2) 4 (cond (!inB p.Address.zY 0 1099511627775 || (!inB p.Address.Offset 0 16777215 || !inB p.Authority 0 1023)) 3 (cond (p.Authority != 0 && p.Kind != 1) 5 0))
theorem z0n (p : Pointer) : zd1 p = some (zp5 p) := by
 unfold zd1 zp5
 simp only [zafh, obs, zme]
 generalize inB p.Kind 0 2 = a
 generalize inB p.Address.zY 0 1099511627775 = b
 generalize inB p.Address.Offset 0 16777215 = c
 generalize inB p.Authority 0 1023 = d
 generalize (p.Authority != 0 && p.Kind != 1) = e
 cases a <;> cases b <;> cases c <;> cases d <;> cases e <;> rfl
theorem z76 (p : Pointer) : zhg p = some (zp5 p) := by
 unfold zhg zp5
 rw [Bool.and_comm (p.Authority != 0) (p.Kind != 1)]
 simp only [zh2, obs, zme, orB]
 generalize inB p.Kind 0 2 = a
 generalize inB p.Address.zY 0 1099511627775 = b
 generalize inB p.Address.Offset 0 16777215 = c
 generalize inB p.Authority 0 1023 = d
 generalize (p.Kind != 1 && p.Authority != 0) = e
 cases a <;> cases b <;> cases c <;> cases d <;> cases e <;> rfl
def ztt (l : List UInt8) : Pointer := ⟨((l.getD 0 0).toNat : Nat), ⟨(beV ((l.drop 4).take 6) : Nat), (beV ((l.drop 10).take 6) : Nat)⟩, (beV ((l.drop 2).take 2) : Nat)⟩
def zks (l : List UInt8) : Pointer × Int := if (l.getD 1 0).toNat ≠ 0 then (zym, 5) else if zp5 (ztt l) ≠ 0 then (zym, zp5 (ztt l)) else (ztt l, 0)
theorem zqw {l : List UInt8} {i : Nat} (h : i < l.length) : l[i]? = some (l.getD i 0) := by
 rw [gdd, lge h]; rfl
theorem z1u (N : Nat) (hN : 20 < N) (b : ByteArray) (hb : b.size = 16) : ze9 N b = some (zks (bl b)) := by
 have hl : (bl b).length = 16 := hb
 have i1 : zgw b 1 = some ((bl b).getD 1 0) := by rw [show (1 : Int) = ((1 : Nat) : Int) from rfl, zhi, zqw (by omega)]
 have i0 : zgw b 0 = some ((bl b).getD 0 0) := by rw [show (0 : Int) = ((0 : Nat) : Int) from rfl, zhi, zqw (by omega)]
 have z1 : (b.extract (2 : Int).toNat (4 : Int).toNat).size = 2 := zcr b 2 4 (by omega) (by omega)
 have z2 : (b.extract (4 : Int).toNat (10 : Int).toNat).size = 6 := zcr b 4 10 (by omega) (by omega)
 have z3 : (b.extract (10 : Int).toNat b.size).size = 6 := (zcr b 10 b.size (by omega) (by omega)).trans (by omega)
 have e1 := z1v N hN (b.extract (2 : Int).toNat (4 : Int).toNat) (by omega)
 have e2 := z1v N hN (b.extract (4 : Int).toNat (10 : Int).toNat) (by omega)
 have e3 := z1v N hN (b.extract (10 : Int).toNat b.size) (by omega)
 rw [zel, show (2 : Int).toNat = 2 from rfl, show (4 : Int).toNat = 4 from rfl, List.drop_take] at e1
 rw [zel, show (4 : Int).toNat = 4 from rfl, show (10 : Int).toNat = 10 from rfl, List.drop_take] at e2
 rw [zel, show (10 : Int).toNat = 10 from rfl, List.drop_take, hb] at e3
 unfold ze9
 rw [show ((b.size : Int) != 16) = false by rw [hb]; rfl]
 simp only [cfa, i1, i0, obs]
 by_cases h : ((bl b).getD 1 0).toNat = 0
 · rw [h, show ((((0 : Nat) : Int)) != 0) = false from rfl, cfa]; rw [ifp, ifp, show (2 : Int).toNat = 2 from rfl, show (4 : Int).toNat = 4 from rfl, e1]; simp only [obs]; rw [ifp, ifp, show (10 : Int).toNat = 10 from rfl, e2]; simp only [obs]; rw [ifp, hb, e3]; simp only [obs]; have hx := ((bl b).getD 0 0).toNat_lt; rw [w6e]; rw [show (⟨(((bl b).getD 0 0).toNat : Int), ⟨(beV (((bl b).drop 4).take (10 - 4)) : Int), (beV (((bl b).drop 10).take (16 - 10)) : Int)⟩, (beV (((bl b).drop 2).take (4 - 2)) : Int)⟩ : Pointer) = ztt (bl b) from rfl, z0n]; simp only [obs]; unfold zks; rw [ifn]
   by_cases h2 : zp5 (ztt (bl b)) = 0
   · rw [h2]; rfl
   · rw [ifp h2, zcj, dct h2]; rfl
 · unfold zks; rw [ifp h, zcj, dct (by omega)]; rfl
theorem z72 (N : Nat) (hN : 20 < N) (b : ByteArray) (hb : b.size = 16) : zmy N b = some (zks (bl b)) := by
 have hl : (bl b).length = 16 := hb
 have i1 : zgw b 1 = some ((bl b).getD 1 0) := by rw [show (1 : Int) = ((1 : Nat) : Int) from rfl, zhi, zqw (by omega)]
 have i0 : zgw b 0 = some ((bl b).getD 0 0) := by rw [show (0 : Int) = ((0 : Nat) : Int) from rfl, zhi, zqw (by omega)]
 have e1 : zdc N b 2 2 = _ := zwd N hN b 2 2 (by omega) (by omega) (by omega)
 have e2 : zdc N b 4 6 = _ := zwd N hN b 4 6 (by omega) (by omega) (by omega)
 have e3 : zdc N b 10 6 = _ := zwd N hN b 10 6 (by omega) (by omega) (by omega)
 unfold zmy
 rw [show ((b.size : Int) != 16) = false by rw [hb]; rfl]
 simp only [cfa, i1, i0, obs]
 by_cases h : ((bl b).getD 1 0).toNat = 0
 · rw [h, show ((((0 : Nat) : Int)) != 0) = false from rfl, cfa]; rw [e1, e2, e3]; simp only [obs]; have hx := ((bl b).getD 0 0).toNat_lt; rw [w6e]; rw [show (⟨(((bl b).getD 0 0).toNat : Int), ⟨(beV (((bl b).drop 4).take 6) : Int), (beV (((bl b).drop 10).take 6) : Int)⟩, (beV (((bl b).drop 2).take 2) : Int)⟩ : Pointer) = ztt (bl b) from rfl, z76]; simp only [obs]; unfold zks; rw [ifn]
   by_cases h2 : zp5 (ztt (bl b)) = 0
   · rw [h2]; rfl
   · rw [ifp h2, zcj, dct h2]; rfl
 · unfold zks; rw [ifp h, zcj, dct (by omega)]; rfl
def zjk (s : Storage) (i : Nat) : List UInt8 := ((bl s.Bytes).drop (16 * i)).take 16
def gS (s : Storage) (i : Nat) : Option (Int × Int) := (s.Tags[i]?).bind fun t => if t = true ∧ (zks (zjk s i)).2 ≠ 0 then some ((i : Int), 22) else none
def zj6 (s : Storage) : Int × Int :=
 if s.Bytes.size > 1024 then (0, 2) else if s.Bytes.size % 16 ≠ 0 then (0, 18) else if s.Tags.length ≠ s.Bytes.size / 16 then (0, 6)
 else match (List.range s.Tags.length).findSome? (gS s) with | some r => r | none => ((s.Tags.length : Int), 0)
theorem zlt (s : Storage) (i : Nat) : bl (s.Bytes.extract (16 * i) (16 * i + 16)) = zjk s i := by
 rw [zel, List.drop_take, zjk, show 16 * i + 16 - 16 * i = 16 by omega]
theorem zlm (N : Nat) (hN : 2000 < N) (s : Storage) : zo N s = some (zj6 s) ∧ zdh N s = some (zj6 s) := by
 unfold zo zdh zj6
 by_cases h1 : (s.Bytes.size : Int) > 1024
 · rw [dct h1, ifp]; exact ⟨rfl, rfl⟩
 · rw [dcf h1, ifn]; have hm : (s.Bytes.size : Int).tmod 16 = (s.Bytes.size : Int) % 16 := tme; have hd : (s.Bytes.size : Int).tdiv 16 = (s.Bytes.size : Int) / 16 := tde
   by_cases h2 : (s.Bytes.size : Int) % 16 = 0
   · rw [hm, hd, w6e, ifn]
     by_cases h3 : (s.Tags.length : Int) = (s.Bytes.size : Int) / 16
     · rw [show (((s.Bytes.size : Int) % 16) != 0) = false by rw [h2]; rfl, show ((s.Tags.length : Int) != (s.Bytes.size : Int) / 16) = false by rw [← h3]; exact bsf _, ifn]; simp only [cfa]; have hw : ∀ i : Nat, i < s.Tags.length → w6 ((i : Int) * 16) = (i : Int) * 16 ∧ w6 ((i : Int) * 16 + 16) = (i : Int) * 16 + 16 := fun i hi => ⟨w6e, w6e⟩; have hx : ∀ i : Nat, i < s.Tags.length → s.Bytes.extract ((i : Int) * 16).toNat ((i : Int) * 16 + 16).toNat = s.Bytes.extract (16 * i) (16 * i + 16) := fun i hi => by
        rw [show ((i : Int) * 16).toNat = 16 * i by omega, show ((i : Int) * 16 + 16).toNat = 16 * i + 16 by omega]
       have hz : ∀ i : Nat, i < s.Tags.length → (s.Bytes.extract (16 * i) (16 * i + 16)).size = 16 := fun i hi => by
        rw [zcr _ _ _ (by omega) (by omega)]; omega
       constructor
       · have l1 := zb9 (f := zo.r1 N) (fun i => (s.Tags, (s.Tags.length : Int), (i : Int), s)) (gS s) s.Tags.length
          (fun i hi => by
           obtain ⟨w1, w2⟩ := hw i hi; have hx1 := lge hi; simp only [zo.r1, zo.b1, za3, hx1, obs, dct (show (i : Int) < (s.Tags.length : Int) by omega), ctr, gS]; rw [w6e (n := (i : Int) + 1)]; cases hb : s.Tags[i] with
           | false => simp
           | true =>
            simp only [bnt, cfa, w1, w2]; rw [ifp, ifp, hx i hi, z1u N (by omega) _ (hz i hi), zlt]; simp only [obs]
            by_cases hq : (zks (zjk s i)).2 = 0
            · rw [hq]; simp
            · rw [zcj, dct hq, ifp ⟨trivial, hq⟩]; rfl)
          (by simp only [zo.r1, zo.b1, dcf (show ¬ (s.Tags.length : Int) < (s.Tags.length : Int) by omega), cfa]) (N := N) (by omega)
         simp only [nc0] at l1; rw [l1]; simp only [obs]; cases (List.range s.Tags.length).findSome? (gS s) <;> rfl
       · have l1 := zb9 (f := zdh.r0 N) (fun i => ((s.Bytes.size : Int) / 16, (i : Int), s)) (gS s) s.Tags.length
          (fun i hi => by
           obtain ⟨w1, w2⟩ := hw i hi; have hx1 := lge hi; simp only [zdh.r0, zdh.b0, za3, hx1, obs, dct (show (i : Int) < (s.Bytes.size : Int) / 16 by omega), ctr, gS]; rw [w6e (n := (i : Int) + 1)]; cases hb : s.Tags[i] with
           | false => simp
           | true =>
            simp only [ctr, zkq, w1, w2]; rw [ifp, ifp]; simp only [obs]; rw [hx i hi, z72 N (by omega) _ (hz i hi), zlt]; simp only [obs]
            by_cases hq : (zks (zjk s i)).2 = 0
            · rw [hq]; simp
            · rw [zcj, dct hq, ifp ⟨trivial, hq⟩]; rfl)
          (by simp only [zdh.r0, zdh.b0, dcf (show ¬ (s.Tags.length : Int) < (s.Bytes.size : Int) / 16 by omega), cfa]) (N := N) (by omega)
         simp only [nc0] at l1; rw [l1]; simp only [obs]; cases (List.range s.Tags.length).findSome? (gS s) with
         | some r => rfl
         | none => simp only [zb3, ← h3]
     · rw [show (((s.Bytes.size : Int) % 16) != 0) = false by rw [h2]; rfl, show ((s.Tags.length : Int) != (s.Bytes.size : Int) / 16) = true by rw [zcj]; exact dct h3, ifp]; exact ⟨rfl, rfl⟩
   · rw [hm, show (((s.Bytes.size : Int) % 16) != 0) = true by rw [zcj]; exact dct h2, ifp]; exact ⟨rfl, rfl⟩
structure zic (s : Storage) : Prop where
 le : s.Bytes.size ≤ 1024
 quad : s.Bytes.size % 16 = 0
 tags : s.Tags.length = s.Bytes.size / 16
 ptr : ∀ i, s.Tags[i]? = some true → ∃ off : Int, (0 ≤ off ∧ off ≤ 16777215) ∧ zks (zjk s i) = (zh8 off, 0)
theorem zic.err {s : Storage} (h : zic s) : zj6 s = ((s.Tags.length : Int), 0) := by
 obtain ⟨h1, h2, h3, h4⟩ := h
 unfold zj6
 rw [ifn, ifn, ifn]
 have : (List.range s.Tags.length).findSome? (gS s) = none := by
  rw [List.findSome?_eq_none_iff]; intro i _; unfold gS; cases ht : s.Tags[i]? with
  | none => rfl
  | some t =>
   rw [obs]; split
   · rename_i h5; rw [h5.1] at ht; obtain ⟨off, _, h6⟩ := h4 i ht; rw [h6] at h5; exact absurd rfl h5.2
   · rfl
 rw [this]
theorem zic.ok {s : Storage} (h : zic s) : StoOk s := ⟨h.le, h.quad⟩
theorem z1w (N : Nat) (hN : 2000 < N) (s : Storage) : ∃ i1 e1 e2, zo N s = some (i1, e1) ∧ zkh N s = some e2 ∧
 ((e1 = e2 ∧ e1 ≠ 0) ∨ (StoOk s ∧ s.Tags.length ≤ 64 ∧ (e1 = 0 ∨ (e1 = 22 ∧ true ∈ s.Tags)) ∧ (e2 = 0 ∨ (e2 = 22 ∧ true ∈ s.Tags)))) := by
 obtain ⟨h1, h2⟩ := zlm N hN s
 refine ⟨(zj6 s).1, (zj6 s).2, (zj6 s).2, h1, by unfold zkh; (try simp only [eS]); rw [h2]; rfl, ?_⟩
 unfold zj6
 split
 · exact .inl ⟨rfl, by decide⟩
 split
 · exact .inl ⟨rfl, by decide⟩
 split
 · exact .inl ⟨rfl, by decide⟩
 refine .inr ⟨⟨by omega, by omega⟩, by omega, ?_⟩
 have key : ∀ e : Int, (e = 0 ∨ (e = 22 ∧ true ∈ s.Tags)) → (e = 0 ∨ (e = 22 ∧ true ∈ s.Tags)) ∧ (e = 0 ∨ (e = 22 ∧ true ∈ s.Tags)) := fun _ h => ⟨h, h⟩
 apply key
 cases hf : (List.range s.Tags.length).findSome? (gS s) with
 | none => exact .inl rfl
 | some r =>
  obtain ⟨i, _, hi⟩ := eof hf; unfold gS at hi; cases hx : s.Tags[i]? with
  | none => rw [hx] at hi; cases hi
  | some b =>
   rw [hx, obs] at hi; split at hi
   · rename_i h5; injection hi with hi; rw [h5.1] at hx; exact .inr ⟨by rw [← hi], lmg hx⟩
   · cases hi
theorem zach (N : Nat) (l : List Bool) (h : l.length < N) (hl : l.length < 1000000000) : zfm N l true = some (l.contains true) := by
 unfold zfm zbm
 have := zb9 (f := zbm.r0 N) (fun i => (l, true, (l.length : Int), (i : Int))) (fun i => (l[i]?).bind fun x => if x = true then some (i : Int) else none) l.length
  (fun i hi => by
   have hx := lge hi; simp only [zbm.r0, zbm.b0, za3, hx, obs, dct (show (i : Int) < (l.length : Int) by omega), ctr]; rw [w6e]; cases hb : l[i] <;> simp)
  (by simp only [zbm.r0, zbm.b0, dcf (show ¬ (l.length : Int) < (l.length : Int) by omega), cfa]) h
 simp only [nc0] at this
 rw [this]
 simp only [obs]
 cases hfs : (List.range l.length).findSome? (fun i : Nat => (l[i]?).bind fun x => if x = true then some (i : Int) else none) with
 | some r =>
  simp only [zb3, obs]; obtain ⟨i, hi, hr⟩ := eof hfs; rw [Option.bind_eq_some_iff] at hr; obtain ⟨x, hx, hr⟩ := hr; split at hr
  · rename_i hb; cases hr; have : l.contains true = true := by rw [List.contains_iff_mem, ← hb]; exact lmg hx
    rw [this]; simp
  · cases hr
 | none =>
  simp only [zb3, obs]; rw [List.findSome?_eq_none_iff] at hfs; have : l.contains true = false := by
   rw [Bool.eq_false_iff]; intro hc; rw [List.contains_iff_mem] at hc; obtain ⟨i, hi⟩ := List.getElem?_of_mem hc; have := hfs i (by simp; exact (gei hi).1); rw [hi] at this; simp at this
  rw [this]; rfl
theorem z5e (N : Nat) (s : Storage) (h : s.Tags.length ≤ 64) (hN : 2000 < N) : ∃ l, zbu N s = some l ∧ (decide ((l.length : Int) > 0)) = s.Tags.contains true := by
 unfold zbu
 obtain ⟨s', h1, l, h2, h3, h4⟩ := z42 (f := zbu.r0 N) (fun i t => ∃ l : List Int, t = (l, (i : Int), s) ∧ l.length ≤ i ∧ (decide ((l.length : Int) > 0)) = (s.Tags.take i).contains true) s.Tags.length
  (fun i t hi ht => by
   obtain ⟨l, rfl, h3, h4⟩ := ht; have hx := lge hi; have rm : Nat.ble ((l.length + ([(w6 ((i : Int) * 16))] : List Int).length) * 8) zac = true := Nat.ble_eq_true_of_le (by unfold zac; simp; omega); simp only [zbu.r0, zbu.b0, za3, hx, obs, dct (show (i : Int) < (s.Tags.length : Int) by omega), ctr, rm]; rw [w6e (n := (i : Int) + 1)]; have tk : s.Tags.take (i + 1) = s.Tags.take i ++ [s.Tags[i]] := by rw [List.take_add_one, hx]; rfl
   cases hb : s.Tags[i] with
   | true => exact ⟨_, rfl, _, rfl, by simp; omega, by rw [tk, hb]; simp⟩
   | false => exact ⟨_, rfl, _, rfl, by omega, by rw [tk, hb, h4]; simp⟩)
  (fun t ht => by
   obtain ⟨l, rfl, h3, h4⟩ := ht; simp only [zbu.r0, zbu.b0, dcf (show ¬ (s.Tags.length : Int) < (s.Tags.length : Int) by omega), cfa]; exact ⟨_, rfl, l, rfl, h3, h4⟩) (N := N) (by omega) (s := ([], 0, s)) ⟨[], rfl, by simp, by simp⟩
 rw [h1, h2]
 exact ⟨l, rfl, by rw [h4, List.take_length]⟩
theorem z21 {c : zF} (hc : Wft En 1048576 Ty.zF c) : zfi c = some c := by
 obtain ⟨w1, w2, w3, w4, w5⟩ := zoy hc
 unfold zfi zdw ziz
 rw [show Nat.ble (c.Storage.Tags.length * 1) zac = true from Nat.ble_eq_true_of_le (by unfold zac; omega), show Nat.ble (c.zD.length * 224) zac = true from Nat.ble_eq_true_of_le (by unfold zac; omega), show Nat.ble (c.zN.length * 32) zac = true from Nat.ble_eq_true_of_le (by unfold zac; omega)]
 rfl
theorem z86 (N : Nat) (hN : 1048600 < N) (m : zI) {c : zF} (hc : Wft En 1048576 Ty.zF c) : ∃ r, zl N m c = some r ∧ zr N m c = some r := by
 obtain ⟨e, he1, he2, he3⟩ := zzc m
 obtain ⟨i1, e1, e2, hs1, hs2, hs⟩ := z1w N (by omega) c.Storage
 obtain ⟨w1, w2, w3, w4, w5⟩ := zoy hc
 have f3 : ∀ a b d : Int, zw N [a, b, d] = some (zcv [a, b, d]) := fun a b d => zor N _ (by simp; omega) (by simp)
 unfold zl zr
 try simp only [eS, eM, eC]
 rw [he1, he2, hs1, hs2]
 simp only [obs]
 by_cases h0 : e = 0
 · subst h0; have hm := he3 rfl; simp only [bsf, cfa]; rcases hs with ⟨rfl, hs⟩ | ⟨ok, htl, hs3, hs4⟩
   · rw [show (e1 != 0) = true by rw [zcj]; exact dct hs]; exact ⟨_, rfl, rfl⟩
   · obtain ⟨l, hl1, hl2⟩ := z5e N c.Storage htl (by omega); rw [zach N _ (by omega) (by omega), hl1]; simp only [obs, zne, f3, orB, hl2]
     by_cases ht : c.Storage.Tags.contains true = true
     · rw [ht]; refine ⟨(0, 22), ?_, ?_⟩
       · rcases hs3 with rfl | ⟨rfl, _⟩
         · simp [zcv]
         · rfl
       · rcases hs4 with rfl | ⟨rfl, _⟩
         · rfl
         · rfl
     · have ht' : c.Storage.Tags.contains true = false := by simpa using ht
       have hn : ¬ true ∈ c.Storage.Tags := fun hh => ht (List.contains_iff_mem.2 hh); obtain rfl : e1 = 0 := hs3.resolve_right fun hh => hn hh.2; obtain rfl : e2 = 0 := hs4.resolve_right fun hh => hn hh.2; rw [ht']; have hl1 := zaae N hN hm ok hc; have hl2 := z2m N hN hm ok hc
       by_cases hz : (c.zD.length : Int) = 0
       · refine ⟨(0, 1), ?_, ?_⟩
         · simp [zcv, hz]
         · simp [hz]
       · cases hbig : (decide ((c.zD.length : Int) > 240) || decide ((c.zN.length : Int) > 40)) with
         | true =>
          refine ⟨(0, 2), ?_, ?_⟩
          · simp only [bsf, cfa, ctr, obs, zat, dcf hz, zcv, if_true]; rfl
          · simp only [bsf, cfa, ctr, obs, zat, dcf hz]
         | false =>
          refine ⟨ztk m c, ?_, ?_⟩
          · rw [← hl1]; simp only [bsf, cfa, obs, zat, dcf hz, zcv, if_true]
          · rw [← hl2]; simp only [bsf, cfa, obs, zat, dcf hz]
 · rw [show (e != 0) = true by rw [zcj]; exact dct h0]; exact ⟨_, rfl, rfl⟩
theorem z8u (N : Nat) (hN : 1048600 < N) {c : zF} (hc : Wft En 1048576 Ty.zF c) : ∃ b, zed N c = some b := by
 obtain ⟨w1, w2, w3, w4, w5⟩ := zoy hc
 unfold zed
 have ft : ∀ s, ∃ b, zei s = some b := fun s => by
  unfold zei; cases decide ((s.Bytes.size : Int) ≤ 1072) <;> exact ⟨_, rfl⟩
 have e1 : ∀ i : Nat, i ≤ c.zD.length → (cond (decide ((i : Int) < (c.zD.length : Int))) (some (decide ((i : Int) < 244))) (some false)) = some (decide ((i : Int) < (c.zD.length : Int)) && decide ((i : Int) < 244)) := fun i _ => zme _ _
 have l1 := zw8 (f := zed.r0 N) (fun i t => t = ((i : Int), c)) (fun r => True) (min c.zD.length 244)
  (fun i t hi ht => by
   subst ht; have hlt : i < c.zD.length := by omega
   have hx := lge hlt; simp only [zed.r0, zed.b0, zme, obs, dct (show (i : Int) < (c.zD.length : Int) by omega), dct (show (i : Int) < 244 by omega), Bool.and_self, ctr, za3, hx, orB]; rw [w6e (n := (i : Int) + 1)]; cases (decide ((c.zD[i].Text.size : Int) > 300) || decide ((c.zD[i].Other.size : Int) > 300)) with
   | true => exact .inr ⟨_, rfl, trivial⟩
   | false => exact .inl ⟨_, rfl, rfl⟩)
  (fun t ht => by
   subst ht; have e : (decide (((min c.zD.length 244 : Nat) : Int) < (c.zD.length : Int)) && decide (((min c.zD.length 244 : Nat) : Int) < 244)) = false := by
    by_cases h : c.zD.length < 244
    · rw [dcf (show ¬ ((min c.zD.length 244 : Nat) : Int) < (c.zD.length : Int) by omega)]; rfl
    · rw [dcf (show ¬ ((min c.zD.length 244 : Nat) : Int) < 244 by omega)]; simp
   simp only [zed.r0, zed.b0, zme, obs, e, cfa]; exact ⟨_, rfl, rfl⟩) (N := N) (by omega) (s := (0, c)) rfl
 rcases l1 with ⟨t, g1, _⟩ | ⟨r, g1, _⟩
 · rw [g1]; simp only [obs, zb3]; obtain ⟨b, hb⟩ := ft t.2.Storage; rw [hb]; simp only [obs, zme]; exact ⟨_, rfl⟩
 · rw [g1]; exact ⟨_, rfl⟩
def ldV (s : Storage) (at_ : Int) : Option Int := if s.Tags[(at_ / 16).toNat]? = some true then some (zks (zjk s (at_ / 16).toNat)).1.Address.Offset else none
theorem zvo {s : Storage} (h : zic s) {at_ o : Int} (hl : ldV s at_ = some o) : 0 ≤ o ∧ o ≤ 16777215 := by
 unfold ldV at hl
 split at hl
 · rename_i ht; obtain ⟨off, h1, h2⟩ := h.ptr _ ht; rw [h2] at hl; cases hl; exact h1
 · cases hl
theorem zju {s : Storage} {a : Int} (h : zet s a = true) : 0 ≤ a ∧ a % 16 = 0 ∧ a < (s.Bytes.size : Int) := by
 unfold zet at h
 simpa using h
theorem zabl (N : Nat) (hN : 2000 < N) {s : Storage} (h : zic s) {a : Int} (ha : zet s a = true) :
 zcw N s a = some (match ldV s a with | some o => (zh8 o, 0) | none => (zym, 22)) := by
 obtain ⟨a1, a2, a3⟩ := zju ha
 have hl := h.le
 have hq := h.quad
 have ht := h.tags
 unfold zcw zgs
 rw [(zlm N hN s).1, h.err]
 simp only [obs, bsf, cfa]
 rw [dcf (show ¬ a < 0 by omega), dcf (show ¬ a ≥ (s.Bytes.size : Int) by omega), tme a1, a2]
 simp only [bsf, cfa, obs]
 have ed : w6 (a.tdiv 16) = (((a / 16).toNat : Nat) : Int) := by
  rw [tde a1, w6e]; omega
 have hi : (a / 16).toNat < s.Tags.length := by omega
 rw [ed, za3, lge hi]
 simp only [obs]
 unfold ldV
 rw [lge hi]
 cases hb : s.Tags[(a / 16).toNat] with
 | false => rfl
 | true =>
  simp only [bnt, cfa, if_true]; rw [w6e, ifp, ifp]; have e : s.Bytes.extract a.toNat (a + 16).toNat = s.Bytes.extract (16 * (a / 16).toNat) (16 * (a / 16).toNat + 16) := by
   rw [show a.toNat = 16 * (a / 16).toNat by omega, show (a + 16).toNat = 16 * (a / 16).toNat + 16 by omega]
  rw [e, z1u N (by omega) _ (by rw [zcr _ _ _ (by omega) (by omega)]; omega), zlt]; obtain ⟨off, _, h2⟩ := h.ptr (a / 16).toNat (by rw [lge hi, hb]); rw [h2]; rfl
theorem zao {n : Nat} (h : n ≤ 1000000) : Nat.ble n zac = true := by
 rw [Nat.ble_eq]; unfold zac; omega
def spl (l : List UInt8) (a : Nat) (d : List UInt8) : List UInt8 := l.take a ++ d ++ l.drop (a + d.length)
theorem zabp {l : List UInt8} {a : Nat} {d : List UInt8} (h : a + d.length ≤ l.length) : (spl l a d).length = l.length := by
 unfold spl
 simp only [lna, lnt, List.length_drop]
 omega
def clr (t : List Bool) (a n : Nat) : List Bool := (List.range t.length).map fun k => if 16 * k < a + n ∧ a < 16 * k + 16 then false else t.getD k false
theorem zwm (t : List Bool) (a n : Nat) : (clr t a n).length = t.length := by simp [clr]
theorem zwn (t : List Bool) (a n k : Nat) : (clr t a n)[k]? = if 16 * k < a + n ∧ a < 16 * k + 16 then (if k < t.length then some false else none) else t[k]? := by
 unfold clr
 rw [List.getElem?_map]
 by_cases h : k < t.length
 · rw [lge (by simpa using h)]; simp only [List.getElem_range, Option.map_some]; split
   · simp [h]
   · rw [lge h, gdd, lge h]; rfl
 · rw [List.getElem?_eq_none (by simpa using h), List.getElem?_eq_none (by simpa using h)]; simp [h]
def wrV (s : Storage) (a : Nat) (d : ByteArray) : Storage := ⟨⟨(spl (bl s.Bytes) a (bl d)).toArray⟩, clr s.Tags a d.size⟩
theorem ztb {s : Storage} {a : Nat} {d : ByteArray} (h : a + d.size ≤ s.Bytes.size) : (wrV s a d).Bytes.size = s.Bytes.size := zabp (l := bl s.Bytes) (d := bl d) h
theorem zaal {l : List UInt8} {a : Nat} {d : List UInt8} (h : a + d.length ≤ l.length) (i n : Nat) (hi : i + n ≤ a ∨ a + d.length ≤ i) : ((spl l a d).drop i).take n = (l.drop i).take n := by
 refine List.ext_getElem? fun k => ?_
 rw [List.getElem?_take, List.getElem?_take]
 by_cases hk : k < n
 · rw [ifp hk, ifp hk, List.getElem?_drop, List.getElem?_drop]; unfold spl; rcases hi with hi | hi
   · rw [List.append_assoc, List.getElem?_append_left (by rw [lnt]; omega), List.getElem?_take, ifp]
   · rw [List.getElem?_append_right (by rw [lna, lnt]; omega), lna, lnt, List.getElem?_drop]
     congr 1
     omega
 · rw [ifn hk, ifn hk]
theorem zadp {l : List UInt8} {a : Nat} {d : List UInt8} (h : a + d.length ≤ l.length) : ((spl l a d).drop a).take d.length = d := by
 unfold spl
 rw [List.append_assoc, List.drop_append_of_le_length (by rw [lnt]; omega), List.drop_of_length_le (by rw [lnt]; omega), List.nil_append, List.take_append_of_le_length (Nat.le_refl _), List.take_length]
theorem z1r {s : Storage} (h : zic s) {a : Nat} {d : ByteArray} (hd : a + d.size ≤ s.Bytes.size) (hd0 : 0 < d.size) : zic (wrV s a d) := by
 have hs := ztb hd
 refine ⟨by rw [hs]; exact h.le, by rw [hs]; exact h.quad, by rw [hs]; exact (zwm _ _ _).trans h.tags, fun i hi => ?_⟩
 have hi' : (clr s.Tags a d.size)[i]? = some true := hi
 rw [zwn] at hi'
 split at hi'
 · split at hi' <;> cases hi'
 · rename_i hn; obtain ⟨off, h1, h2⟩ := h.ptr i hi'; refine ⟨off, h1, ?_⟩; have : zjk (wrV s a d) i = zjk s i := zaal (l := bl s.Bytes) (d := bl d) hd _ _ (by rw [zam]; omega); rw [this]; exact h2
theorem zrl (b : ByteArray) : b.toList = bl b := ByteArray.toList_eq b
theorem z7n {s : Storage} (h : zic s) {a : Nat} {d : ByteArray} (hd : a + d.size ≤ s.Bytes.size) (hd0 : 0 < d.size) : zji s (a : Int) d = some (wrV s a d) := by
 have hl := h.le
 have hq := h.quad
 have ht := h.tags
 have hmax : IntKind.i64.max = 9223372036854775807 := by decide
 unfold zji
 rw [hmax]
 have z1 : (s.Bytes.extract (0 : Int).toNat (a : Int).toNat).size = a := by rw [zcr _ _ _ (by omega) (by omega)]; omega
 rw [ifp, ifp, ifn (by rw [z1]; omega), w6e (n := (a : Int) + (d.size : Int)), ifp]
 have z2 : (s.Bytes.extract ((a : Int) + (d.size : Int)).toNat s.Bytes.size).size = s.Bytes.size - (a + d.size) := by rw [zcr _ _ _ (by omega) (by omega)]; omega
 rw [ifn (by rw [z2, bsa, z1]; omega)]
 have hc : zdi 1 s.Tags = some s.Tags := by unfold zdi; rw [zao (by omega)]; rfl
 rw [hc]
 simp only [obs]
 have hne : (d.toList == (⟨#[]⟩ : ByteArray).toList) = false := by
  rw [zrl, zrl]; refine beq_eq_false_iff_ne.2 fun h => ?_; have := congrArg List.length h; rw [zam, zam] at this; have : d.size = 0 := this; omega
 rw [hne]
 simp only [Bool.not_false, ctr]
 have e1 : w6 ((w6 ((w6 ((a : Int) + (d.size : Int) - 1)).tdiv 16)) + 1) = (((a + d.size - 1) / 16 + 1 : Nat) : Int) := by
  rw [w6e (n := (a : Int) + (d.size : Int) - 1), tde, w6e (n := ((a : Int) + (d.size : Int) - 1) / 16), w6e]; omega
 have e2 : w6 ((a : Int).tdiv 16) = ((a / 16 : Nat) : Int) := by
  rw [tde, w6e]; omega
 rw [e1, e2, ifp, ifp]
 simp only [itn]
 have f1 : ((s.Bytes.extract (0 : Int).toNat a) ++ d) ++ (s.Bytes.extract ((a : Int) + (d.size : Int)).toNat s.Bytes.size) = (wrV s a d).Bytes := by
  refine zgz ?_; rw [zcz, zcz, zel, zel, show (0 : Int).toNat = 0 from rfl, dr0, show ((a : Int) + (d.size : Int)).toNat = a + d.size by omega, ← zam s.Bytes, List.take_length]; rfl
 have f2 : s.Tags.take (a / 16) ++ List.replicate ((a + d.size - 1) / 16 + 1 - a / 16) false ++ s.Tags.drop (a / 16 + ((a + d.size - 1) / 16 + 1 - a / 16)) = (wrV s a d).Tags := by
  refine List.ext_getElem? fun k => ?_; show _ = (clr s.Tags a d.size)[k]?; rw [zwn]
  by_cases h1 : k < a / 16
  · rw [List.append_assoc, List.getElem?_append_left (by rw [lnt]; omega), List.getElem?_take, ifp h1, ifn]
  · by_cases h2 : k < (a + d.size - 1) / 16 + 1
    · rw [List.append_assoc, List.getElem?_append_right (by rw [lnt]; omega), List.getElem?_append_left (by rw [lnt, lnr]; omega), List.getElem?_replicate, ifp (by rw [lnt]; omega), ifp, ifp]
    · rw [List.getElem?_append_right (by rw [lna, lnt, lnr]; omega), lna, lnt, lnr, List.getElem?_drop, ifn]
      congr 1
      omega
 rw [f1, f2]
theorem z1t (N : Nat) (hN : 2000 < N) {s : Storage} (h : zic s) {a : Nat} {d : ByteArray} (hd : a + d.size ≤ s.Bytes.size) (hd0 : 0 < d.size) : zg0 N s (a : Int) d = some (wrV s a d, 0) := by
 have hl := h.le
 unfold zg0 zkw
 rw [(zlm N hN s).1, h.err]
 simp only [obs, bsf, cfa]
 rw [dcf (show ¬ (a : Int) < 0 by omega), dcf (show ¬ (d.size : Int) < 0 by omega), dcf (show ¬ (a : Int) > (s.Bytes.size : Int) by omega), w6e, dcf (show ¬ (d.size : Int) > (s.Bytes.size : Int) - (a : Int) by omega)]
 simp only [cfa, obs, bsf]
 rw [z7n h hd hd0]
 rfl
def pbV (off : Nat) : ByteArray := zc2 (zbb 0 1 ++ zbb 0 1 ++ zbb 0 2 ++ zbb 1 6 ++ zbb off 6)
theorem zgi (l : List Int) : bl (zc2 l) = l.map fun n => UInt8.ofNat n.toNat := rfl
theorem zkt (off : Nat) : (pbV off).size = 16 := by
 show (bl (pbV off)).length = 16
 unfold pbV
 rw [zgi]
 simp only [lnm, lna, zyk]
theorem z4e (v k : Nat) : beV ((zbb v k).map fun n => UInt8.ofNat n.toNat) = v % 256 ^ k := by
 induction k generalizing v with
 | zero => rw [Nat.pow_zero, Nat.mod_one]; rfl
 | succ k ih =>
  have e : zbb v (k + 1) = zbb (v / 256) k ++ [((v % 256 : Nat) : Int)] := by
   unfold zbb; rw [List.range_succ, List.map_append]
   congr 1
   · refine List.map_congr_left fun j hj => ?_; have := List.mem_range.1 hj; rw [Nat.div_div_eq_div_mul, ← Nat.pow_succ', show k + 1 - 1 - j = k - 1 - j + 1 by omega]
   · simp
  rw [e, List.map_append, List.map_singleton, zrj, ih, itn, UInt8.toNat_ofNat', show 256 ^ (k + 1) = 256 * 256 ^ k from Nat.pow_succ', Nat.mod_mul]; omega
theorem zab6 (off : Nat) (h : off ≤ 16777215) : zks (bl (pbV off)) = (zh8 off, 0) := by
 have e : bl (pbV off) = (zbb 0 1).map (fun n => UInt8.ofNat n.toNat) ++ ((zbb 0 1).map (fun n => UInt8.ofNat n.toNat) ++ ((zbb 0 2).map (fun n => UInt8.ofNat n.toNat) ++ ((zbb 1 6).map (fun n => UInt8.ofNat n.toNat) ++ (zbb off 6).map (fun n => UInt8.ofNat n.toNat)))) := by
  unfold pbV; rw [zgi]; simp only [List.map_append, List.append_assoc]
 have l6 : ∀ v, ((zbb v 6).map (fun n => UInt8.ofNat n.toNat)).length = 6 := fun v => by simp [zyk]
 have e2 : bl (pbV off) = 0 :: 0 :: 0 :: 0 :: ((zbb 1 6).map (fun n => UInt8.ofNat n.toNat) ++ (zbb off 6).map (fun n => UInt8.ofNat n.toNat)) := e
 have hp : ztt (bl (pbV off)) = zh8 off := by
  unfold ztt zh8; rw [e2]; simp only [List.drop_succ_cons, dr0, List.take_succ_cons, List.take_zero, List.getD_cons_zero]; rw [List.take_append_of_le_length (by rw [l6]; omega), List.take_of_length_le (by rw [l6]; omega), z4e, List.drop_append_of_le_length (by rw [l6]; omega), List.drop_of_length_le (by rw [l6]; omega), List.nil_append, List.take_of_length_le (by rw [l6]; omega), z4e, mel (show off < 256 ^ 6 by omega)]; rfl
 have h1 : ((bl (pbV off)).getD 1 0).toNat = 0 := by rw [e2]; rfl
 have hc : zp5 (zh8 off) = 0 := by
  unfold zp5 zh8; rw [show inB (off : Int) 0 16777215 = true from zay.2 ⟨by omega, by omega⟩]; rfl
 unfold zks
 rw [ifn (by rw [h1]; exact fun h => h rfl), hp, hc]
 rfl
def stV (s : Storage) (a : Nat) (off : Nat) : Storage := ⟨(wrV s a (pbV off)).Bytes, (wrV s a (pbV off)).Tags.set (a / 16) true⟩
theorem zxk {s : Storage} {a off : Nat} (h : a + 16 ≤ s.Bytes.size) : (stV s a off).Bytes.size = s.Bytes.size := ztb (d := pbV off) (by rw [zkt]; exact h)
theorem z11 {s : Storage} (h : zic s) {a off : Nat} (ha : a + 16 ≤ s.Bytes.size) (hq : a % 16 = 0) (ho : off ≤ 16777215) : zic (stV s a off) := by
 have hw := z1r h (a := a) (d := pbV off) (by rw [zkt]; exact ha) (by rw [zkt]; omega)
 refine ⟨hw.le, hw.quad, ?_, fun i hi => ?_⟩
 · show ((wrV s a (pbV off)).Tags.set (a / 16) true).length = _; rw [List.length_set]; exact hw.tags
 · have hi' : ((wrV s a (pbV off)).Tags.set (a / 16) true)[i]? = some true := hi; rw [List.getElem?_set] at hi'; split at hi'
   · rename_i he; refine ⟨off, ⟨by omega, by omega⟩, ?_⟩; have : zjk (stV s a off) i = bl (pbV off) := by
      have := zadp (l := bl s.Bytes) (a := a) (d := bl (pbV off)) (by rw [zam, zam, zkt]; exact ha); rw [zam, zkt] at this; unfold zjk; rw [← he, show 16 * (a / 16) = a by omega]; exact this
     rw [this]; exact zab6 off ho
   · obtain ⟨o, h1, h2⟩ := hw.ptr i hi'; exact ⟨o, h1, h2⟩
theorem z52 (N : Nat) (hN : 100 < N) (off : Nat) (h : off ≤ 16777215) : zir N (zh8 off) = some (pbV off) := by
 unfold zir zh8
 have b := fun v k hk => zadl N (by omega) v k hk
 rw [show zby N 0 1 = _ from b 0 1 (by decide), show zby N 0 2 = _ from b 0 2 (by decide), show zby N 1 6 = _ from b 1 6 (by decide), show zby N (off : Int) 6 = _ from b off 6 (by decide)]
 simp only [obs]
 unfold za0
 obtain ⟨n, rfl⟩ : ∃ n, N = n + 10 := ⟨N - 10, by omega⟩
 have c1 : zq (za0.r0 (n + 10)) (n + 10) ([zbb 0 1, zbb 0 1, zbb 0 2, zbb 1 6, zbb off 6], 0, [zbb 0 1, zbb 0 1, zbb 0 2, zbb 1 6, zbb off 6], (([zbb 0 1, zbb 0 1, zbb 0 2, zbb 1 6, zbb off 6] : List (List Int)).length : Int), 0) = some ([zbb 0 1, zbb 0 1, zbb 0 2, zbb 1 6, zbb off 6], 16, [zbb 0 1, zbb 0 1, zbb 0 2, zbb 1 6, zbb off 6], 5, 5) := by rfl
 rw [c1]
 simp only [obs]
 have c2 : zi2 () 16 = some [] := by rfl
 rw [c2]
 simp only [obs]
 have c3 : zq (za0.r2 (n + 10)) (n + 10) ([], [zbb 0 1, zbb 0 1, zbb 0 2, zbb 1 6, zbb off 6], (([zbb 0 1, zbb 0 1, zbb 0 2, zbb 1 6, zbb off 6] : List (List Int)).length : Int), 0) = some ((((([] ++ zbb 0 1) ++ zbb 0 1) ++ zbb 0 2) ++ zbb 1 6) ++ zbb off 6, [zbb 0 1, zbb 0 1, zbb 0 2, zbb 1 6, zbb off 6], 5, 5) := by rfl
 rw [c3]
 rfl
theorem zacv (off : Nat) (h : off ≤ 16777215) : zp5 (zh8 off) = 0 := by
 unfold zp5 zh8
 rw [show inB (off : Int) 0 16777215 = true from zay.2 ⟨by omega, by omega⟩]
 rfl
theorem zxi (N : Nat) (hN : 2000 < N) {s : Storage} (h : zic s) {a : Int} (ha : zet s a = true) (off : Nat) (ho : off ≤ 16777215) : zca N s a (zh8 off) = some (stV s a.toNat off, 0) := by
 obtain ⟨a1, a2, a3⟩ := zju ha
 have hl := h.le
 have hq := h.quad
 have ht := h.tags
 have hA : a = ((a.toNat : Nat) : Int) := by omega
 have hw : a.toNat + (pbV off).size ≤ s.Bytes.size := by rw [zkt]; omega
 unfold zca zgs
 rw [(zlm N hN s).1, h.err]
 simp only [obs, bsf, cfa]
 rw [dcf (show ¬ a < 0 by omega), dcf (show ¬ a ≥ (s.Bytes.size : Int) by omega), tme a1, a2]
 simp only [bsf, cfa, obs]
 rw [z0n, zacv off ho]
 simp only [obs, bsf, cfa]
 rw [z52 N (by omega) off ho]
 simp only [obs, eS]
 have hp := z7n h hw (by rw [zkt]; omega)
 rw [← hA] at hp
 rw [hp]
 simp only [obs]
 have ed : w6 (a.tdiv 16) = ((a.toNat / 16 : Nat) : Int) := by
  rw [tde a1, w6e]; omega
 have hlen : (wrV s a.toNat (pbV off)).Tags.length = s.Tags.length := zwm _ _ _
 rw [ed, ifp, ifp (by rw [hlen]; omega), itn, lge (by rw [hlen]; omega)]
 rfl
end
end Go.Proofs.YtppbpnknfigboaaGreatDoor.M
