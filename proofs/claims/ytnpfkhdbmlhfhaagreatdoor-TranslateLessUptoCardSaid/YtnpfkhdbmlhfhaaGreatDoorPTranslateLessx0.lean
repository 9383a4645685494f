/- The plain law of TranslateLess: part 0. -/
import Derived.Test.YtnpfkhdbmlhfhaaGreatDoorF1
import Derived.Test.YtnpfkhdbmlhfhaaGreatDoorA4
import Derived.Lib.Strings
namespace Go.Proofs.YtnpfkhdbmlhfhaaGreatDoor.M
open Go Go.Amx
set_option linter.unusedVariables false
set_option linter.unusedSimpArgs false
set_option maxRecDepth 100000
noncomputable section
theorem obs {α β : Type} (a : α) (f : α → Option β) : (some a).bind f = f a := rfl
theorem dct {p : Prop} [Decidable p] (h : p) : decide p = true := decide_eq_true h
theorem dcf {p : Prop} [Decidable p] (h : ¬ p) : decide p = false := decide_eq_false h
theorem lna {α : Type} {a b : List α} : (a ++ b).length = a.length + b.length := List.length_append
theorem lns {α : Type} {a : α} : [a].length = 1 := List.length_singleton
theorem lge {α : Type} {l : List α} {i : Nat} (h : i < l.length) : l[i]? = some l[i] := List.getElem?_eq_getElem h
theorem itn (n : Nat) : Int.toNat (n : Int) = n := Int.toNat_natCast n
theorem ctr {α : Sort _} (a b : α) : cond true a b = a := rfl
theorem cfa {α : Sort _} (a b : α) : cond false a b = b := rfl
theorem ifp {c : Prop} {h : Decidable c} (hc : c := by omega) {α : Sort _} {t e : α} : ite c t e = t := if_pos hc
theorem ifn {c : Prop} {h : Decidable c} (hc : ¬c := by omega) {α : Sort _} {t e : α} : ite c t e = e := if_neg hc
theorem bsf {α : Type _} [BEq α] [LawfulBEq α] (a : α) : (a != a) = false := bne_self_eq_false a
theorem tde {a b : Int} (h : 0 ≤ a := by omega) : a.tdiv b = a / b := Int.tdiv_eq_ediv_of_nonneg h
theorem tme {a b : Int} (h : 0 ≤ a := by omega) : a.tmod b = a % b := Int.tmod_eq_emod_of_nonneg h
theorem lnt {α : Type _} {i : Nat} {l : List α} : (l.take i).length = min i l.length := List.length_take
theorem lnr {α : Type _} {n : Nat} {a : α} : (List.replicate n a).length = n := List.length_replicate
theorem gdd {α : Type _} {l : List α} {i : Nat} {a : α} : l.getD i a = l[i]?.getD a := List.getD_eq_getElem?_getD
theorem cbc {p : Prop} (h : ¬p → False) : p := Classical.byContradiction h
theorem lnc {α : Type _} {a : α} {l : List α} : (a :: l).length = l.length + 1 := List.length_cons
theorem gei {α : Type _} {i : Nat} {a : α} {l : List α} (h : l[i]? = some a) : ∃ h : i < l.length, l[i] = a := List.getElem?_eq_some_iff.1 h
theorem eof {α β : Type _} {b : β} {f : α → Option β} {l : List α} (h : l.findSome? f = some b) : ∃ a, a ∈ l ∧ f a = some b := List.exists_of_findSome?_eq_some h
theorem ln0 {α : Type _} : ([] : List α).length = 0 := rfl
theorem lnm {α β : Type _} {l : List α} (f : α → β) : (l.map f).length = l.length := List.length_map f
theorem dr0 {α : Type _} {l : List α} : l.drop 0 = l := rfl
theorem bsa {a b : ByteArray} : (a ++ b).size = a.size + b.size := ByteArray.size_append
theorem bnt : (!true) = false := rfl
theorem mel {a b : Nat} (h : a < b) : a % b = a := Nat.mod_eq_of_lt h
theorem nc0 : ((0 : Nat) : Int) = 0 := Int.natCast_zero
theorem bst {α : Type _} [BEq α] [ReflBEq α] (a : α) : (a == a) = true := beq_self_eq_true a
theorem lmg {α : Type _} {l : List α} {i : Nat} {a : α} (h : l[i]? = some a) : a ∈ l := List.mem_of_getElem? h
theorem w6e {n : Int} (h1 : -9223372036854775808 ≤ n := by omega) (h2 : n ≤ 9223372036854775807 := by omega) : w6 n = n := z7n h1 h2
def zah (a0 : Int) (a1 : Int) (a2 : Int) : Option Bool :=
 (cond (decide (a1 ≤ a0)) (some (decide (a0 ≤ a2))) (some false)).bind fun g1 => some g1
def zj7 (a0 : zI) : Option Int :=
 (zah a0.Registers 2 8).bind fun r1 => cond (!r1) (some 3) (some 0)
def zu0 (a0 : Storage) (a1 : Int) : Option ByteArray :=
 if 0 ≤ (w6 ((w6 (a1 * 16)) + 16)) ∧ (w6 ((w6 (a1 * 16)) + 16)) ≤ (a0.Bytes.size : Int) then (if 0 ≤ (w6 (a1 * 16)) ∧ (w6 (a1 * 16)) ≤ (w6 ((w6 (a1 * 16)) + 16)) then (some (a0.Bytes.extract (w6 (a1 * 16)).toNat (w6 ((w6 (a1 * 16)) + 16)).toNat)) else none) else none
def zeb.b0 (N : Nat) (s0 : ByteArray) (s1 : Int) (s2 : Int) (s7 : Int) (s8 : Int) : Option (Stp (ByteArray × Int × Int × Int × Int)) :=
 cond (decide (s8 < s2)) ((zn8 s0 (w6 (s1 + s8))).bind fun x1001 =>
  some (.again (s0, s1, s2, (w6 ((w6 (s7 * 256)) + (w6 (x1001.toNat : Int)))), (w6 (s8 + 1)))))
  (some (.leave (s0, s1, s2, s7, s8)))
def zeb.r0 (N : Nat) (x : ByteArray × Int × Int × Int × Int) := zeb.b0 N x.1 x.2.1 x.2.2.1 x.2.2.2.1 x.2.2.2.2
def zeb (N : Nat) (a0 : ByteArray) (a1 : Int) (a2 : Int) : Option Int :=
 (ze (zeb.r0 N) N (a0, a1, a2, 0, 0)).bind fun y1 => some y1.2.2.2.1
def zk2 (a0 : Pointer) : Option Int :=
 (zah a0.Kind 0 2).bind fun r1 => cond (!r1) (some 4) ((zah a0.Address.yC 0 1099511627775).bind fun r2 => (cond (!r2) (some true)
  ((zah a0.Address.Offset 0 16777215).bind fun r3 => some (!r3))).bind fun g4 => (cond g4 (some true) ((zah a0.Authority 0 1023).bind fun r5 =>
  some (!r5))).bind fun g6 => cond g6 (some 3) ((cond (a0.Kind != 1) (some (a0.Authority != 0)) (some false)).bind fun g7 => cond g7 (some 5) (some 0)))
def ztr (N : Nat) (a0 : ByteArray) : Option (Pointer × Int) :=
 cond ((a0.size : Int) != 16) (some ((⟨0, (⟨0, 0⟩ : Address), 0⟩ : Pointer), 18)) ((zn8 a0 1).bind fun x1 => cond ((x1.toNat : Int) != 0)
  (some ((⟨0, (⟨0, 0⟩ : Address), 0⟩ : Pointer), 5)) ((zn8 a0 0).bind fun x2 => (zeb N a0 2 2).bind fun r3 => (zeb N a0 4 6).bind fun r4 =>
  (zeb N a0 10 6).bind fun r5 => (zk2 (⟨(w6 (x2.toNat : Int)), (⟨r4, r5⟩ : Address), r3⟩ : Pointer)).bind fun r6 => cond (r6 != 0)
  (some ((⟨0, (⟨0, 0⟩ : Address), 0⟩ : Pointer), r6)) (some ((⟨(w6 (x2.toNat : Int)), (⟨r4, r5⟩ : Address), r3⟩ : Pointer), 0))))
def zec.b0 (N : Nat) (s4 : Int) (s5 : Int) (b1 : Storage) : Option (Round (Int × Int) (Int × Int × Storage)) :=
 cond (decide (s5 < s4)) ((idx b1.Tags s5).bind fun x1001 => cond x1001 ((zu0 b1 s5).bind fun r1002 => (ztr N r1002).bind fun r1003 => cond (r1003.2 != 0)
  (some (.result (s5, 22))) (some (.again (s4, (w6 (s5 + 1)), b1)))) (some (.again (s4, (w6 (s5 + 1)), b1)))) (some (.leave (s4, s5, b1)))
def zec.r0 (N : Nat) (x : Int × Int × Storage) := zec.b0 N x.1 x.2.1 x.2.2
def zec (N : Nat) (a0 : Storage) : Option (Int × Int) :=
 cond (decide ((a0.Bytes.size : Int) > 1024)) (some (0, 2)) (cond (((a0.Bytes.size : Int).tmod 16) != 0) (some (0, 18))
  (cond ((a0.Tags.length : Int) != (w6 ((a0.Bytes.size : Int).tdiv 16))) (some (0, 6))
  ((zx (zec.r0 N) N ((w6 ((a0.Bytes.size : Int).tdiv 16)), 0, a0)).bind fun z2 => za9 z2 (fun z => some z) (fun y1 => some (y1.1, 0)))))
def zok (N : Nat) (a0 : Storage) : Option Int :=
 (zec N a0).bind fun r1 => some r1.2
def zcg.b0 (N : Nat) (s3 : List Int) (s4 : Int) (b1 : Storage) : Option (Stp ((List Int) × Int × Storage)) :=
 cond (decide (s4 < (b1.Tags.length : Int))) ((idx b1.Tags s4).bind fun x1001 =>
  cond x1001 (cond (Nat.ble ((s3.length + ([(w6 (s4 * 16))] : List Int).length) * 8) zal)
  (some (.again ((s3 ++ ([(w6 (s4 * 16))] : List Int)), (w6 (s4 + 1)), b1))) none) (some (.again (s3, (w6 (s4 + 1)), b1))))
  (some (.leave (s3, s4, b1)))
def zcg.r0 (N : Nat) (x : (List Int) × Int × Storage) := zcg.b0 N x.1 x.2.1 x.2.2
def zcg (N : Nat) (a0 : Storage) : Option ((List Int)) :=
 (ze (zcg.r0 N) N ([], 0, a0)).bind fun y1 => some y1.1
def zdy (a0 : zC) : Option zN :=
 cond (a0.Op == 0) (some (⟨true, false, false, true, false, false, false, false, false, false, false, false, false, false, 1, 0⟩ : zN)) (cond (a0.Op == 1)
  (some (⟨true, false, false, true, false, true, false, false, false, false, false, false, false, false, 1, 0⟩ : zN)) (cond (a0.Op == 2)
  (some (⟨true, false, false, false, false, false, true, false, false, false, false, false, false, false, 0, 0⟩ : zN)) (cond (a0.Op == 3)
  (some (⟨true, true, false, false, false, false, false, false, false, false, false, false, false, false, 0, 0⟩ : zN)) (cond (a0.Op == 4)
  (cond a0.zK (some (⟨true, true, false, true, false, false, false, true, false, false, false, false, false, false, 1, 1⟩ : zN))
  (some (⟨true, true, true, false, false, false, false, true, false, false, false, false, false, false, 1, 0⟩ : zN))) (cond (a0.Op == 5)
  (some (⟨false, true, true, false, false, false, false, false, false, false, false, false, false, false, 0, 0⟩ : zN)) (cond (a0.Op == 6)
  (some (⟨false, false, false, false, false, false, false, false, true, true, false, false, false, false, 0, 0⟩ : zN)) (cond (a0.Op == 7)
  (some (⟨false, true, true, false, false, false, false, false, true, true, false, false, false, false, 0, 0⟩ : zN)) ((cond (a0.Op == 8) (some (a0.Op == 8))
  (some (a0.Op == 18))).bind fun q1 => cond q1 (some (⟨false, false, false, false, false, false, false, false, false, true, false, false, false, false, 0, 0⟩ : zN))
  ((cond (a0.Op == 9) (some (a0.Op == 9)) (some (a0.Op == 11))).bind fun q2 =>
  cond q2 (some (⟨false, false, false, true, true, false, false, false, false, false, false, false, false, false, 2, 2⟩ : zN)) ((cond (a0.Op == 10) (some (a0.Op == 10))
  (some (a0.Op == 12))).bind fun q3 => cond q3 (some (⟨false, false, false, true, false, false, false, false, false, false, true, false, false, false, 2, 0⟩ : zN))
  (cond (a0.Op == 13) (some (⟨false, false, false, false, false, false, false, false, false, false, true, true, false, false, 0, 0⟩ : zN)) (cond (a0.Op == 14)
  (some (⟨false, false, false, true, false, false, false, false, false, false, false, false, true, false, 3, 0⟩ : zN)) (cond (a0.Op == 15)
  (some (⟨false, false, false, false, false, false, false, false, false, false, false, false, true, true, 0, 0⟩ : zN)) (cond (a0.Op == 16)
  (some (⟨true, false, false, false, false, false, false, false, false, false, false, false, true, false, 0, 0⟩ : zN)) (cond (a0.Op == 17)
  (some (⟨false, false, false, false, false, false, false, false, false, false, false, false, true, false, 0, 0⟩ : zN)) ((cond (a0.Op == 20) (some (a0.Op == 20))
  (cond (a0.Op == 21) (some (a0.Op == 21)) (some (a0.Op == 22)))).bind fun q4 =>
  cond q4 (some (⟨true, false, false, false, false, false, false, false, false, false, false, false, false, false, 0, 0⟩ : zN)) (cond (a0.Op == 23)
  (some (⟨false, false, false, true, false, false, false, false, false, false, false, false, false, false, 2, 0⟩ : zN)) (cond (a0.Op == 24)
  (some (⟨false, false, false, false, false, false, false, false, false, false, true, false, false, false, 0, 0⟩ : zN))
  (some (⟨false, false, false, false, false, false, false, false, false, false, false, false, false, false, 0, 0⟩ : zN))))))))))))))))))))
def zl9 (a0 : zC) (a1 : zN) : Option Bool :=
 (cond (!a1.R) (some (a0.R != 0)) (some false)).bind fun g1 => (cond g1 (some true) ((cond (!a1.A) (some (a0.A != 0)) (some false)).bind fun g2 => some g2)).bind fun g3 =>
  (cond g3 (some true) ((cond (!a1.B) (some (a0.B != 0)) (some false)).bind fun g4 => some g4)).bind fun g5 => (cond g5 (some true) ((cond (!a1.zO)
  (some (a0.zO != 0)) (some false)).bind fun g6 => some g6)).bind fun g7 => (cond g7 (some true) ((cond (!a1.Place)
  (some (!(zco [(a0.Place.Based == false), (a0.Place.Pointer == 0), (a0.Place.Offset == 0)]))) (some false)).bind fun g8 => some g8)).bind fun g9 => (cond g9 (some true)
  ((cond (!a1.From) (some (!(zco [(a0.From.Based == false), (a0.From.Pointer == 0), (a0.From.Offset == 0)]))) (some false)).bind fun g10 => some g10)).bind fun g11 =>
  (cond g11 (some true) ((cond (a1.zD == 0) (some (!(zco [(a0.zD.Kind == 0), (a0.zD.Length == 0), (a0.zD.Scale == 0)]))) (some false)).bind fun g12 =>
  some g12)).bind fun g13 => (cond g13 (some true) ((cond (a1.Second == 0) (some (!(zco [(a0.Second.Kind == 0), (a0.Second.Length == 0), (a0.Second.Scale == 0)])))
  (some false)).bind fun g14 => some g14)).bind fun g15 => (cond g15 (some true) ((cond (!a1.Half) (some a0.Half) (some false)).bind fun g16 => some g16)).bind fun g17 =>
  (cond g17 (some true) ((cond (a0.Op != 4) (some a0.zK) (some false)).bind fun g18 => some g18)).bind fun g19 => (cond g19 (some true) ((cond (!a1.Number)
  (some (!(zco [(a0.Number.N == 0), (a0.Number.Scale == 0)]))) (some false)).bind fun g20 => some g20)).bind fun g21 => (cond g21 (some true) ((cond (!a1.Text)
  (some (!(a0.Text.toList == (⟨#[]⟩ : ByteArray).toList))) (some false)).bind fun g22 => some g22)).bind fun g23 => (cond g23 (some true) ((cond (!a1.Other)
  (some (!(a0.Other.toList == (⟨#[]⟩ : ByteArray).toList))) (some false)).bind fun g24 => some g24)).bind fun g25 => (cond g25 (some true) ((cond (!a1.Mask) (some (a0.Mask != 0))
  (some false)).bind fun g26 => some g26)).bind fun g27 => (cond g27 (some true) ((cond (!a1.Target) (some (a0.Target != 0)) (some false)).bind fun g28 => some g28)).bind fun g29 =>
  (cond g29 (some true) ((cond (!a1.Pointer) (some (a0.Pointer != 0)) (some false)).bind fun g30 => some g30)).bind fun g31 => (cond g31 (some true) ((cond (!a1.Source)
  (some (a0.Source != 0)) (some false)).bind fun g32 => some g32)).bind fun g33 => (cond g33 (some true) ((cond (!a0.Place.Based) (some (a0.Place.Pointer != 0))
  (some false)).bind fun g34 => some g34)).bind fun g35 => (cond g35 (some true) ((cond (!a0.From.Based) (some (a0.From.Pointer != 0)) (some false)).bind fun g36 =>
  some g36)).bind fun g37 => some g37
def zo6 (a0 : zI) (a1 : zC) : Option Bool :=
 (cond (a1.Op == 7) (some (!a0.yB)) (some false)).bind fun g1 => (cond g1 (some true) ((cond a1.zK (some (!a0.zZ)) (some false)).bind fun g2 =>
  some g2)).bind fun g3 => some g3
def zfg (a0 : Int) : Option Bool :=
 (zah a0 1 3).bind fun r1 => some r1
def zfj (a0 : Bool) : Option Int :=
 cond a0 (some 1) (some 0)
def zm6 (a0 : DataType) : Option Int :=
 (zah a0.Kind 0 4).bind fun r1 => cond (!r1) (some 4) (cond (a0.Kind == 0) ((zah a0.Length 1 256).bind fun r2 => cond (!r2) (some 18)
  ((zfg a0.Kind).bind fun r3 => cond r3 ((zah a0.Scale 0 a0.Length).bind fun r4 => (zfj (!r4)).bind fun r5 => some (w6 (3 * r5)))
  ((zah a0.Scale 0 0).bind fun r6 => (zfj (!r6)).bind fun r7 => some (w6 (3 * r7))))) ((cond (a0.Kind == 1) (some (a0.Kind == 1))
  (some (a0.Kind == 2))).bind fun q8 => cond q8 ((zah a0.Length 1 15).bind fun r9 => cond (!r9) (some 18) ((zfg a0.Kind).bind fun r10 =>
  cond r10 ((zah a0.Scale 0 a0.Length).bind fun r11 => (zfj (!r11)).bind fun r12 => some (w6 (3 * r12))) ((zah a0.Scale 0 0).bind fun r13 =>
  (zfj (!r13)).bind fun r14 => some (w6 (3 * r14))))) (cond (a0.Kind == 3) ((cond (a0.Length == 4) (some true) (some (a0.Length == 9))).bind fun g15 =>
  cond (!g15) (some 18) ((zfg a0.Kind).bind fun r16 => cond r16 ((zah a0.Scale 0 a0.Length).bind fun r17 => (zfj (!r17)).bind fun r18 =>
  some (w6 (3 * r18))) ((zah a0.Scale 0 0).bind fun r19 => (zfj (!r19)).bind fun r20 => some (w6 (3 * r20))))) (cond (!(a0.Length == 0))
  (some 18) ((zfg a0.Kind).bind fun r21 => cond r21 ((zah a0.Scale 0 a0.Length).bind fun r22 => (zfj (!r22)).bind fun r23 =>
  some (w6 (3 * r23))) ((zah a0.Scale 0 0).bind fun r24 => (zfj (!r24)).bind fun r25 => some (w6 (3 * r25))))))))
def zkt (a0 : DataType) (a1 : Int) : Option Int :=
 cond (a1 == 0) (some 0) ((zm6 a0).bind fun r1 => cond (r1 != 0) (some r1) ((cond (a1 == 1) ((zfg a0.Kind).bind fun r2 => some (!r2))
  (some false)).bind fun g3 => (cond g3 (some true) ((cond (a1 == 2) (some (a0.Kind != 0)) (some false)).bind fun g4 => some g4)).bind fun g5 => (cond g5 (some true)
  ((cond (a1 == 3) (some (a0.Kind == 4)) (some false)).bind fun g6 => some g6)).bind fun g7 => cond g7 (some 17) (some 0)))
def zg9 (a0 : zI) (a1 : Int) : Option Bool :=
 (zah a1 0 (w6 (a0.Registers - 1))).bind fun r1 => some r1
def zhr (a0 : zI) (a1 : zC) : Option Bool :=
 (zdy a1).bind fun r1 => (cond (!r1.R) (some true) ((zg9 a0 a1.R).bind fun r2 => some r2)).bind fun g3 => (cond g3 ((cond (!r1.A) (some true)
  ((zg9 a0 a1.A).bind fun r4 => some r4)).bind fun g5 => some g5) (some false)).bind fun g6 => (cond g6 ((cond (!r1.B) (some true)
  ((zg9 a0 a1.B).bind fun r7 => some r7)).bind fun g8 => some g8) (some false)).bind fun g9 => some g9
def zha (a0 : Storage) (a1 : Int) : Option Bool :=
 (zah a1 0 (w6 ((a0.Bytes.size : Int) - 16))).bind fun r1 => (cond r1 (some ((a1.tmod 16) == 0)) (some false)).bind fun g2 => some g2
def zgj (a0 : DataType) : Option Int :=
 cond (a0.Kind == 1) (some (w6 ((w6 (a0.Length.tdiv 2)) + 1))) (cond (a0.Kind == 3) ((zfj (a0.Length == 9)).bind fun r1 =>
  some (w6 (2 + (w6 (2 * r1))))) (cond (a0.Kind == 4) (some 16) (some a0.Length)))
def zrg (a0 : Storage) (a1 : Int) (a2 : Int) : Option Bool :=
 (zah a1 0 (a0.Bytes.size : Int)).bind fun r1 => (cond r1 ((zah a2 0 (w6 ((a0.Bytes.size : Int) - a1))).bind fun r2 => some r2)
  (some false)).bind fun g3 => some g3
def zfq (a0 : zF) (a1 : zL) (a2 : Int) : Option Bool :=
 cond a1.Based ((zha a0.Storage a1.Pointer).bind fun r1 => (cond r1 ((zah a1.Offset 0 256).bind fun r2 => some r2) (some false)).bind fun g3 => some g3)
  ((zrg a0.Storage a1.Offset a2).bind fun r4 => some r4)
def zgm (a0 : Number) : Option Int :=
 (zah a0.N (-999999999999999) 999999999999999).bind fun r1 => (cond r1 ((zah a0.Scale 0 15).bind fun r2 => some r2) (some false)).bind fun g3 =>
  (zfj (!g3)).bind fun r4 => some (w6 (3 * r4))
def zff (a0 : zI) (a1 : zF) (a2 : zC) : Option Int :=
 (zah a2.Op 0 26).bind fun r1 => cond (!r1) (some 4) ((zdy a2).bind fun r2 => (zl9 a2 r2).bind fun r3 => cond r3 (some 5)
  ((zo6 a0 a2).bind fun r4 => cond r4 (some 39) ((zkt a2.zD r2.zD).bind fun r5 => cond (r5 != 0) (some r5)
  ((zkt a2.Second r2.Second).bind fun r6 => cond (r6 != 0) (some r6) (cond (a2.Op == 4) (((zhr a0 a2).bind fun r7 => cond (!r7) (some (!r7))
  ((cond r2.Target ((zah a2.Target 0 (w6 ((a1.zA.length : Int) - 1))).bind fun r8 => some (!r8)) (some false)).bind fun g9 => cond g9 (some g9)
  ((cond r2.Mask ((zah a2.Mask 1 7).bind fun r10 => some (!r10)) (some false)).bind fun g11 => some g11))).bind fun q12 => cond q12 (some 3)
  (((cond r2.Pointer ((zha a1.Storage a2.Pointer).bind fun r13 => some (!r13)) (some false)).bind fun g14 => cond g14 (some g14)
  ((cond r2.Source ((zha a1.Storage a2.Source).bind fun r15 => some (!r15)) (some false)).bind fun g16 => some g16)).bind fun q17 => cond q17 (some 3)
  ((cond r2.Place ((zgj a2.Second).bind fun r18 => (zfq a1 a2.Place r18).bind fun r19 => some (!r19)) (some false)).bind fun g20 => cond g20 (cond g20 (some 3)
  ((cond r2.zO ((zah a2.zO 0 4).bind fun r21 => some (!r21)) (some false)).bind fun g22 => cond g22 (some 3) ((zgm a2.Number).bind fun r23 =>
  (cond r2.Number (some (r23 != 0)) (some false)).bind fun g24 => cond g24 (some r23) ((cond (decide ((a2.Text.size : Int) > 256)) (some true)
  (some (decide ((a2.Other.size : Int) > 256)))).bind fun g25 => cond g25 (some 2) (some 0))))) ((cond r2.From ((zgj a2.Second).bind fun r26 =>
  (zfq a1 a2.From r26).bind fun r27 => some (!r27)) (some false)).bind fun g28 => cond g28 (some 3) ((cond r2.zO ((zah a2.zO 0 4).bind fun r29 =>
  some (!r29)) (some false)).bind fun g30 => cond g30 (some 3) ((zgm a2.Number).bind fun r31 => (cond r2.Number (some (r31 != 0)) (some false)).bind fun g32 =>
  cond g32 (some r31) ((cond (decide ((a2.Text.size : Int) > 256)) (some true) (some (decide ((a2.Other.size : Int) > 256)))).bind fun g33 => cond g33 (some 2) (some 0))))))))
  (((zhr a0 a2).bind fun r34 => cond (!r34) (some (!r34))
  ((cond r2.Target ((zah a2.Target 0 (w6 ((a1.zA.length : Int) - 1))).bind fun r35 => some (!r35)) (some false)).bind fun g36 => cond g36 (some g36)
  ((cond r2.Mask ((zah a2.Mask 1 7).bind fun r37 => some (!r37)) (some false)).bind fun g38 => some g38))).bind fun q39 => cond q39 (some 3)
  (((cond r2.Pointer ((zha a1.Storage a2.Pointer).bind fun r40 => some (!r40)) (some false)).bind fun g41 => cond g41 (some g41)
  ((cond r2.Source ((zha a1.Storage a2.Source).bind fun r42 => some (!r42)) (some false)).bind fun g43 => some g43)).bind fun q44 => cond q44 (some 3)
  ((cond r2.Place ((zgj a2.zD).bind fun r45 => (zfq a1 a2.Place r45).bind fun r46 => some (!r46)) (some false)).bind fun g47 => cond g47 (cond g47 (some 3)
  ((cond r2.zO ((zah a2.zO 0 4).bind fun r48 => some (!r48)) (some false)).bind fun g49 => cond g49 (some 3) ((zgm a2.Number).bind fun r50 =>
  (cond r2.Number (some (r50 != 0)) (some false)).bind fun g51 => cond g51 (some r50) ((cond (decide ((a2.Text.size : Int) > 256)) (some true)
  (some (decide ((a2.Other.size : Int) > 256)))).bind fun g52 => cond g52 (some 2) (some 0))))) ((cond r2.From ((zgj a2.Second).bind fun r53 =>
  (zfq a1 a2.From r53).bind fun r54 => some (!r54)) (some false)).bind fun g55 => cond g55 (some 3) ((cond r2.zO ((zah a2.zO 0 4).bind fun r56 =>
  some (!r56)) (some false)).bind fun g57 => cond g57 (some 3) ((zgm a2.Number).bind fun r58 => (cond r2.Number (some (r58 != 0)) (some false)).bind fun g59 =>
  cond g59 (some r58) ((cond (decide ((a2.Text.size : Int) > 256)) (some true) (some (decide ((a2.Other.size : Int) > 256)))).bind fun g60 => cond g60 (some 2) (some 0)))))))))))))
def zaa.b1 (N : Nat) (s8 : Int) (b2 : zI) (b3 : zF) : Option (Round (Int × Int) (Int × zI × zF)) :=
 cond (decide (s8 < (b3.zA.length : Int))) ((idx b3.zA s8).bind fun x2001 => (zff b2 b3 x2001).bind fun r2002 => cond (r2002 != 0)
  (some (.result (s8, r2002))) (some (.again ((w6 (s8 + 1)), b2, b3)))) (some (.leave (s8, b2, b3)))
def zaa.r1 (N : Nat) (x : Int × zI × zF) := zaa.b1 N x.1 x.2.1 x.2.2
def zaa.b3 (N : Nat) (s10 : Int) (b3 : zF) : Option (Round (Int × Int) (Int × zF)) :=
 cond (decide (s10 < (b3.zP.length : Int))) ((idx b3.zP s10).bind fun x4001 => (cond (decide (x4001.From < 0)) (some true)
  (some (decide (x4001.From > x4001.To)))).bind fun g4002 => (cond g4002 (some true) (some (decide (x4001.To > (b3.zA.length : Int))))).bind fun g4003 =>
  (cond g4003 (some true) ((zah x4001.Exception 0 999).bind fun r4004 => some (!r4004))).bind fun g4005 => (cond g4005 (some true)
  ((zah x4001.Handler 0 (w6 ((b3.zA.length : Int) - 1))).bind fun r4006 => some (!r4006))).bind fun g4007 => cond g4007 (some (.result (s10, 3)))
  (some (.again ((w6 (s10 + 1)), b3)))) (some (.leave (s10, b3)))
def zaa.r3 (N : Nat) (x : Int × zF) := zaa.b3 N x.1 x.2
def zaa (N : Nat) (a0 : zI) (a1 : zF) : Option (Int × Int) :=
 (zj7 a0).bind fun r1 => cond (r1 != 0) (some (0, r1)) ((zok N a1.Storage).bind fun r2 => cond (r2 != 0) (some (0, r2))
  ((zcg N a1.Storage).bind fun r3 => cond (decide ((r3.length : Int) > 0)) (some (0, 22)) (cond ((a1.zA.length : Int) == 0) (some (0, 1))
  ((cond (decide ((a1.zA.length : Int) > 240)) (some true) (some (decide ((a1.zP.length : Int) > 40)))).bind fun g4 => cond g4 (some (0, 2))
  ((zx (zaa.r1 N) N (0, a0, a1)).bind fun z6 => za9 z6 (fun z => some z) (fun y5 => (zx (zaa.r3 N) N (0, y5.2.2)).bind fun z8 => za9 z8 (fun z =>
  some z) (fun y7 => some ((y7.2.zA.length : Int), 0))))))))
def zay.b0 (N : Nat) (s3 : List Bool) (s4 : Int) (b1 : zF) : Option (Stp ((List Bool) × Int × zF)) :=
 cond (decide (s4 < (b1.zP.length : Int))) ((idx b1.zP s4).bind fun x1001 =>
  if 0 ≤ x1001.Handler then (if x1001.Handler < (s3.length : Int) then ((s3[x1001.Handler.toNat]?).bind fun x1002 =>
  some (.again ((s3.set x1001.Handler.toNat true), (w6 (s4 + 1)), b1))) else none) else none) (some (.leave (s3, s4, b1)))
def zay.r0 (N : Nat) (x : (List Bool) × Int × zF) := zay.b0 N x.1 x.2.1 x.2.2
def zay.b2 (N : Nat) (s3 : List Bool) (s5 : Int) (b1 : zF) : Option (Stp ((List Bool) × Int × zF)) :=
 cond (decide ((w6 (s5 + 1)) < (s3.length : Int)))
  (if 0 ≤ (w6 (s5 + 1)) then (if (w6 (s5 + 1)) < (s3.length : Int) then ((s3[(w6 (s5 + 1)).toNat]?).bind fun x3001 =>
  (cond x3001 (some true) ((idx b1.zA s5).bind fun x3002 => some (x3002.Op == 18))).bind fun g3003 =>
  if 0 ≤ (w6 (s5 + 1)) then (if (w6 (s5 + 1)) < (s3.length : Int) then ((s3[(w6 (s5 + 1)).toNat]?).bind fun x3004 =>
  some (.again ((s3.set ((w6 (s5 + 1)).toNat) g3003), (w6 (s5 + 1)), b1))) else none) else none) else none) else none) (some (.leave (s3, s5, b1)))
def zay.r2 (N : Nat) (x : (List Bool) × Int × zF) := zay.b2 N x.1 x.2.1 x.2.2
def zay (N : Nat) (a0 : zF) : Option ((List Bool)) :=
 if 0 ≤ (a0.zA.length : Int) then (if (a0.zA.length : Int) ≤ (a0.zA.length : Int) then (cond (Nat.ble ((a0.zA.length : Int).toNat * 1) zal)
  (if 0 ≤ (0 : Int) then (if (0 : Int) < ((List.replicate (a0.zA.length : Int).toNat (false : Bool)).length : Int) then (((List.replicate (a0.zA.length : Int).toNat (false : Bool))[(0 : Int).toNat]?).bind fun x1 =>
  (ze (zay.r0 N) N (((List.replicate (a0.zA.length : Int).toNat (false : Bool)).set ((0 : Int).toNat) true), 0, a0)).bind fun y2 =>
  (ze (zay.r2 N) N (y2.1, 0, y2.2.2)).bind fun y3 => some y3.1) else none) else none) none) else none) else none
def zj6 (a0 : Int) : Option Bool :=
 (cond (a0 == 6) (some true) (some (a0 == 7))).bind fun g1 => (cond g1 (some true) (some (a0 == 8))).bind fun g2 => (cond g2 (some true) (some (a0 == 18))).bind fun g3 => some g3
def ziw (a0 : zF) (a1 : Int) : Option ((List Int)) :=
 (idx a0.zA a1).bind fun x1 => (cond (decide ((w6 (a1 + 1)) < (a0.zA.length : Int))) (some (x1.Op != 8)) (some false)).bind fun g2 =>
  (cond g2 (some (x1.Op != 18)) (some false)).bind fun g3 => (cond g3 (some (x1.Op != 19)) (some false)).bind fun g4 => (cond g4 (some (x1.Op != 20)) (some false)).bind fun g5 =>
  (cond g5 (some (x1.Op != 26)) (some false)).bind fun g6 => cond g6 (cond (Nat.ble (([(w6 (a1 + 1))] : List Int).length * 8) zal)
  ((zj6 x1.Op).bind fun r7 => cond r7 (cond (Nat.ble ((([(w6 (a1 + 1))] : List Int).length + ([x1.Target] : List Int).length) * 8) zal)
  (some (([(w6 (a1 + 1))] : List Int) ++ ([x1.Target] : List Int))) none) (some ([(w6 (a1 + 1))] : List Int))) none)
  ((zj6 x1.Op).bind fun r8 => cond r8 (cond (Nat.ble (([x1.Target] : List Int).length * 8) zal) (some ([x1.Target] : List Int)) none) (some []))
def zda.b0 (N : Nat) (s0 : List zB) (s1 : Int) (s5 : List zB) (s6 : Int) : Option (Stp ((List zB) × Int × (List zB) × Int)) :=
 cond (decide (s6 < (s0.length : Int))) ((idx s0 s6).bind fun x1001 => cond (x1001.Register != s1) ((idx s0 s6).bind fun x1002 =>
  cond (Nat.ble ((s5.length + ([x1002] : List zB).length) * 40) zal) (some (.again (s0, s1, (s5 ++ ([x1002] : List zB)), (w6 (s6 + 1))))) none)
  (some (.again (s0, s1, s5, (w6 (s6 + 1)))))) (some (.leave (s0, s1, s5, s6)))
def zda.r0 (N : Nat) (x : (List zB) × Int × (List zB) × Int) := zda.b0 N x.1 x.2.1 x.2.2.1 x.2.2.2
def zda (N : Nat) (a0 : List zB) (a1 : Int) : Option ((List zB)) :=
 (ze (zda.r0 N) N (a0, a1, [], 0)).bind fun y1 => some y1.2.2.1
def zdb.b0 (N : Nat) (s0 : List zB) (s3 : List zB) (s4 : Int) : Option (Stp ((List zB) × (List zB) × Int)) :=
 cond (decide (s4 < (s0.length : Int))) ((idx s0 s4).bind fun x1001 => cond (x1001.Offset == (-1)) ((idx s0 s4).bind fun x1002 =>
  cond (Nat.ble ((s3.length + ([x1002] : List zB).length) * 40) zal) (some (.again (s0, (s3 ++ ([x1002] : List zB)), (w6 (s4 + 1))))) none)
  (some (.again (s0, s3, (w6 (s4 + 1)))))) (some (.leave (s0, s3, s4)))
def zdb.r0 (N : Nat) (x : (List zB) × (List zB) × Int) := zdb.b0 N x.1 x.2.1 x.2.2
def zdb (N : Nat) (a0 : List zB) : Option ((List zB)) :=
 (ze (zdb.r0 N) N (a0, [], 0)).bind fun y1 => some y1.2.1
def zd5.b0 (N : Nat) (s0 : List zB) (s5 : Int) (b3 : zB) : Option (Round Bool ((List zB) × Int × zB)) :=
 cond (decide (s5 < (s0.length : Int))) ((idx s0 s5).bind fun x1001 =>
  cond (zco [(x1001.Register == b3.Register), (x1001.zD.Kind == b3.zD.Kind), (x1001.zD.Length == b3.zD.Length), (x1001.zD.Scale == b3.zD.Scale), (x1001.Offset == b3.Offset)])
  (some (.result true)) (some (.again (s0, (w6 (s5 + 1)), b3)))) (some (.leave (s0, s5, b3)))
def zd5.r0 (N : Nat) (x : (List zB) × Int × zB) := zd5.b0 N x.1 x.2.1 x.2.2
def zd5 (N : Nat) (a0 : List zB) (a1 : zB) : Option Bool :=
 (zx (zd5.r0 N) N (a0, 0, a1)).bind fun z2 => za9 z2 (fun z => some z) (fun y1 => some false)
def zcu.b0 (N : Nat) (s5 : List Int) (s6 : List Int) (s7 : Int) : Option (Round Bool ((List Int) × (List Int) × Int)) :=
 cond (decide (s7 < (s5.length : Int))) (if 0 ≤ s7 then (if s7 < (s5.length : Int) then ((s5[s7.toNat]?).bind fun x1001 =>
  if 0 ≤ s7 then (if s7 < (s6.length : Int) then ((s6[s7.toNat]?).bind fun x1002 => cond (x1001 != x1002)
  (if 0 ≤ s7 then (if s7 < (s5.length : Int) then ((s5[s7.toNat]?).bind fun x1003 => if 0 ≤ s7 then (if s7 < (s6.length : Int) then ((s6[s7.toNat]?).bind fun x1004 =>
  some (.result (decide (x1003 < x1004)))) else none) else none) else none) else none)
  (some (.again (s5, s6, (w6 (s7 + 1)))))) else none) else none) else none) else none) (some (.leave (s5, s6, s7)))
def zcu.r0 (N : Nat) (x : (List Int) × (List Int) × Int) := zcu.b0 N x.1 x.2.1 x.2.2
def zcu (N : Nat) (a0 : zB) (a1 : zB) : Option Bool :=
 (zx (zcu.r0 N) N (([a0.Register, a0.Offset, a0.zD.Kind, a0.zD.Length, a0.zD.Scale] : List Int), ([a1.Register, a1.Offset, a1.zD.Kind, a1.zD.Length, a1.zD.Scale] : List Int), 0)).bind fun z2 =>
  za9 z2 (fun z => some z) (fun y1 => some false)
def zdi.b0 (N : Nat) (s0 : List zB) (s5 : List zB) (s6 : Bool) (s7 : Int) (b3 : zB) : Option (Stp ((List zB) × (List zB) × Bool × Int × zB)) :=
 cond (decide (s7 < (s0.length : Int))) ((cond (!s6) ((idx s0 s7).bind fun x1001 => (zcu N b3 x1001).bind fun r1002 => some r1002) (some false)).bind fun g1003 =>
  cond g1003 (cond (Nat.ble ((s5.length + ([b3] : List zB).length) * 40) zal) ((idx s0 s7).bind fun x1004 =>
  cond (Nat.ble (((s5 ++ ([b3] : List zB)).length + ([x1004] : List zB).length) * 40) zal)
  (some (.again (s0, ((s5 ++ ([b3] : List zB)) ++ ([x1004] : List zB)), true, (w6 (s7 + 1)), b3))) none) none) ((idx s0 s7).bind fun x1005 =>
  cond (Nat.ble ((s5.length + ([x1005] : List zB).length) * 40) zal) (some (.again (s0, (s5 ++ ([x1005] : List zB)), s6, (w6 (s7 + 1)), b3))) none))
  (some (.leave (s0, s5, s6, s7, b3)))
def zdi.r0 (N : Nat) (x : (List zB) × (List zB) × Bool × Int × zB) := zdi.b0 N x.1 x.2.1 x.2.2.1 x.2.2.2.1 x.2.2.2.2
def zdi (N : Nat) (a0 : List zB) (a1 : zB) : Option ((List zB)) :=
 (zd5 N a0 a1).bind fun r1 => cond r1 (some a0) ((ze (zdi.r0 N) N (a0, [], false, 0, a1)).bind fun y2 => cond (!y2.2.2.1)
  (cond (Nat.ble ((y2.2.1.length + ([y2.2.2.2.2] : List zB).length) * 40) zal) (some (y2.2.1 ++ ([y2.2.2.2.2] : List zB))) none) (some y2.2.1))
def zdu.b0 (N : Nat) (s0 : List zB) (s1 : Int) (s2 : Int) (s7 : List zB) (s8 : Int) : Option (Stp ((List zB) × Int × Int × (List zB) × Int)) :=
 cond (decide (s8 < (s0.length : Int))) ((idx s0 s8).bind fun x1001 => (cond (x1001.Offset == (-1)) (some true) ((zgj x1001.zD).bind fun r1002 =>
  some (decide ((w6 (x1001.Offset + r1002)) ≤ s1)))).bind fun g1003 => (cond g1003 (some true)
  (some (decide ((w6 (s1 + s2)) ≤ x1001.Offset)))).bind fun g1004 => cond g1004 (cond (Nat.ble ((s7.length + ([x1001] : List zB).length) * 40) zal)
  (some (.again (s0, s1, s2, (s7 ++ ([x1001] : List zB)), (w6 (s8 + 1))))) none) (some (.again (s0, s1, s2, s7, (w6 (s8 + 1))))))
  (some (.leave (s0, s1, s2, s7, s8)))
def zdu.r0 (N : Nat) (x : (List zB) × Int × Int × (List zB) × Int) := zdu.b0 N x.1 x.2.1 x.2.2.1 x.2.2.2.1 x.2.2.2.2
def zdu (N : Nat) (a0 : List zB) (a1 : Int) (a2 : Int) : Option ((List zB)) :=
 (ze (zdu.r0 N) N (a0, a1, a2, [], 0)).bind fun y1 => some y1.2.2.2.1
def za1.b1 (N : Nat) (s1 : List zB) (s8 : List zB) (s9 : Int) (b2 : zC) : Option (Stp ((List zB) × (List zB) × Int × zC)) :=
 cond (decide (s9 < (s1.length : Int))) ((idx s1 s9).bind fun x2001 => (zd5 N s1 (⟨x2001.Register, b2.zD, b2.Place.Offset⟩ : zB)).bind fun r2002 =>
  cond r2002 ((idx s1 s9).bind fun x2003 => (idx s1 s9).bind fun x2004 => (zdi N s8 (⟨b2.R, x2003.zD, x2004.Offset⟩ : zB)).bind fun r2005 =>
  some (.again (s1, r2005, (w6 (s9 + 1)), b2))) (some (.again (s1, s8, (w6 (s9 + 1)), b2)))) (some (.leave (s1, s8, s9, b2)))
def za1.r1 (N : Nat) (x : (List zB) × (List zB) × Int × zC) := za1.b1 N x.1 x.2.1 x.2.2.1 x.2.2.2
def za1.b3 (N : Nat) (s1 : List zB) (s10 : List zB) (s11 : Int) (b2 : zC) : Option (Stp ((List zB) × (List zB) × Int × zC)) :=
 cond (decide (s11 < (s1.length : Int))) ((idx s1 s11).bind fun x4001 => cond (x4001.Register == b2.A) ((idx s1 s11).bind fun x4002 => (idx s1 s11).bind fun x4003 =>
  (zdi N s10 (⟨b2.R, x4002.zD, x4003.Offset⟩ : zB)).bind fun r4004 => some (.again (s1, r4004, (w6 (s11 + 1)), b2)))
  (some (.again (s1, s10, (w6 (s11 + 1)), b2)))) (some (.leave (s1, s10, s11, b2)))
def za1.r3 (N : Nat) (x : (List zB) × (List zB) × Int × zC) := za1.b3 N x.1 x.2.1 x.2.2.1 x.2.2.2
def za1 (N : Nat) (a0 : zC) (a1 : List zB) : Option ((List zB)) :=
 (zda N a1 a0.R).bind fun r1 => (zdb N a1).bind fun r2 => cond (a0.Op == 0) ((zdi N r1 (⟨a0.R, a0.zD, (-1)⟩ : zB)).bind fun r3 =>
  cond a0.Place.Based (some r3) ((zdi N r3 (⟨a0.R, a0.zD, a0.Place.Offset⟩ : zB)).bind fun r4 => (ze (za1.r1 N) N (a1, r4, 0, a0)).bind fun y5 =>
  some y5.2.1)) (cond (a0.Op == 4) ((zdi N r1 (⟨a0.R, a0.zD, (-1)⟩ : zB)).bind fun r6 => some r6) ((cond (a0.Op == 2) (some (a0.Op == 2))
  (some (a0.Op == 21))).bind fun q7 => cond q7 (some r1) (cond (a0.Op == 3) (cond (a0.A == a0.R) (some a1) ((ze (za1.r3 N) N (a1, r1, 0, a0)).bind fun y8 =>
  some y8.2.1)) ((cond (a0.Op == 1) (some (a0.Op == 1)) (cond (a0.Op == 9) (some (a0.Op == 9)) (some (a0.Op == 10)))).bind fun q9 => cond q9 (cond a0.Place.Based (some r2)
  ((zgj a0.zD).bind fun r10 => (zdu N a1 a0.Place.Offset r10).bind fun r11 => (cond (a0.Op == 1) ((zd5 N a1 (⟨a0.R, a0.zD, (-1)⟩ : zB)).bind fun r12 =>
  some r12) (some false)).bind fun g13 => cond g13 ((zdi N r11 (⟨a0.R, a0.zD, a0.Place.Offset⟩ : zB)).bind fun r14 => some r14) (some r11))) ((cond (a0.Op == 14)
  (some (a0.Op == 14)) (cond (a0.Op == 15) (some (a0.Op == 15)) (some (a0.Op == 16)))).bind fun q15 => cond q15 ((zdu N a1 a0.Pointer 16).bind fun r16 => some r16)
  (some a1))))))
def zy.b4 (N : Nat) (s3 : List Bool) (s4 : Bool) (s5 : Int) (s6 : List Int) (s7 : Int) (b1 : zF) : Option (Stp ((List Bool) × Bool × Int × (List Int) × Int × zF)) :=
 (cond (decide (s7 < (s6.length : Int))) (if 0 ≤ s5 then (if s5 < (s3.length : Int) then ((s3[s5.toNat]?).bind fun x5001 => some x5001) else none) else none)
  (some false)).bind fun g5002 => cond g5002 ((cond s4 (some true) (if 0 ≤ s7 then (if s7 < (s6.length : Int) then ((s6[s7.toNat]?).bind fun x5003 =>
  if 0 ≤ x5003 then (if x5003 < (s3.length : Int) then ((s3[x5003.toNat]?).bind fun x5004 => some (!x5004)) else none) else none) else none) else none)).bind fun g5005 =>
  if 0 ≤ s7 then (if s7 < (s6.length : Int) then ((s6[s7.toNat]?).bind fun x5006 => if 0 ≤ x5006 then (if x5006 < (s3.length : Int) then ((s3[x5006.toNat]?).bind fun x5007 =>
  some (.again ((s3.set x5006.toNat true), g5005, s5, s6, (w6 (s7 + 1)), b1))) else none) else none) else none) else none) (some (.leave (s3, s4, s5, s6, s7, b1)))
def zy.r4 (N : Nat) (x : (List Bool) × Bool × Int × (List Int) × Int × zF) := zy.b4 N x.1 x.2.1 x.2.2.1 x.2.2.2.1 x.2.2.2.2.1 x.2.2.2.2.2
def zy.b2 (N : Nat) (s3 : List Bool) (s4 : Bool) (s5 : Int) (b1 : zF) : Option (Stp ((List Bool) × Bool × Int × zF)) :=
 cond (decide (s5 < (s3.length : Int))) ((ziw b1 s5).bind fun r3001 => (ze (zy.r4 N) N (s3, s4, s5, r3001, 0, b1)).bind fun y3002 =>
  some (.again (y3002.1, y3002.2.1, (w6 (y3002.2.2.1 + 1)), y3002.2.2.2.2.2))) (some (.leave (s3, s4, s5, b1)))
def zy.r2 (N : Nat) (x : (List Bool) × Bool × Int × zF) := zy.b2 N x.1 x.2.1 x.2.2.1 x.2.2.2
def zy.b0 (N : Nat) (s3 : List Bool) (s4 : Bool) (b1 : zF) : Option (Stp ((List Bool) × Bool × zF)) :=
 cond s4 ((ze (zy.r2 N) N (s3, false, 0, b1)).bind fun y1001 => some (.again (y1001.1, y1001.2.1, y1001.2.2.2))) (some (.leave (s3, s4, b1)))
def zy.r0 (N : Nat) (x : (List Bool) × Bool × zF) := zy.b0 N x.1 x.2.1 x.2.2
def zy (N : Nat) (a0 : zF) : Option ((List Bool)) :=
 (zay N a0).bind fun r1 => (ze (zy.r0 N) N (r1, true, a0)).bind fun y2 => some y2.1
def ze2.b0 (N : Nat) (s0 : List zB) (s1 : List zB) (s5 : List zB) (s6 : Int) : Option (Stp ((List zB) × (List zB) × (List zB) × Int)) :=
 cond (decide (s6 < (s0.length : Int))) ((idx s0 s6).bind fun x1001 => (zd5 N s1 x1001).bind fun r1002 => cond r1002 ((idx s0 s6).bind fun x1003 =>
  cond (Nat.ble ((s5.length + ([x1003] : List zB).length) * 40) zal) (some (.again (s0, s1, (s5 ++ ([x1003] : List zB)), (w6 (s6 + 1))))) none)
  (some (.again (s0, s1, s5, (w6 (s6 + 1)))))) (some (.leave (s0, s1, s5, s6)))
def ze2.r0 (N : Nat) (x : (List zB) × (List zB) × (List zB) × Int) := ze2.b0 N x.1 x.2.1 x.2.2.1 x.2.2.2
def ze2 (N : Nat) (a0 : List zB) (a1 : List zB) : Option ((List zB)) :=
 (ze (ze2.r0 N) N (a0, a1, [], 0)).bind fun y1 => some y1.2.2.1
def zg.b0 (N : Nat) (s4 : Int) (s5 : List Bool) (s6 : List Bool) (s7 : List Bool) (s8 : List (List zB)) (s9 : Int) (b1 : zF) : Option (Stp (Int × (List Bool) × (List Bool) × (List Bool) × (List (List zB)) × Int × zF)) :=
 cond (decide (s9 < s4)) (if 0 ≤ s9 then (if s9 < (s5.length : Int) then ((s5[s9.toNat]?).bind fun x1001 => (cond x1001 (some true) ((idx s6 s9).bind fun x1002 =>
  some (!x1002))).bind fun g1003 => if 0 ≤ s9 then (if s9 < (s7.length : Int) then ((s7[s9.toNat]?).bind fun x1004 =>
  some (.again (s4, s5, s6, (s7.set s9.toNat g1003), s8, (w6 (s9 + 1)), b1))) else none) else none) else none) else none) (some (.leave (s4, s5, s6, s7, s8, s9, b1)))
def zg.r0 (N : Nat) (x : Int × (List Bool) × (List Bool) × (List Bool) × (List (List zB)) × Int × zF) := zg.b0 N x.1 x.2.1 x.2.2.1 x.2.2.2.1 x.2.2.2.2.1 x.2.2.2.2.2.1 x.2.2.2.2.2.2
def zg.b6 (N : Nat) (s4 : Int) (s5 : List Bool) (s6 : List Bool) (s7 : List Bool) (s8 : List (List zB)) (s10 : Bool) (s11 : Int) (s12 : List zB) (s13 : List Int) (s14 : Int) (b1 : zF) : Option (Stp (Int × (List Bool) × (List Bool) × (List Bool) × (List (List zB)) × Bool × Int × (List zB) × (List Int) × Int × zF)) :=
 cond (decide (s14 < (s13.length : Int))) (if 0 ≤ s14 then (if s14 < (s13.length : Int) then ((s13[s14.toNat]?).bind fun x7001 =>
  if 0 ≤ x7001 then (if x7001 < (s5.length : Int) then ((s5[x7001.toNat]?).bind fun x7002 => (cond x7002 (some true) ((idx s6 x7001).bind fun x7003 =>
  some (!x7003))).bind fun g7004 => cond g7004 (some (.again (s4, s5, s6, s7, s8, s10, s11, s12, s13, (w6 (s14 + 1)), b1)))
  (if 0 ≤ x7001 then (if x7001 < (s7.length : Int) then ((s7[x7001.toNat]?).bind fun x7005 =>
  cond x7005 (if 0 ≤ x7001 then (if x7001 < (s8.length : Int) then ((s8[x7001.toNat]?).bind fun x7006 => (ze2 N x7006 s12).bind fun r7007 =>
  if 0 ≤ x7001 then (if x7001 < (s7.length : Int) then ((s7[x7001.toNat]?).bind fun x7008 => (cond (!x7008) (some true)
  (if 0 ≤ x7001 then (if x7001 < (s8.length : Int) then ((s8[x7001.toNat]?).bind fun x7009 =>
  some ((r7007.length : Int) != (x7009.length : Int))) else none) else none)).bind fun g7010 =>
  cond g7010 (if 0 ≤ x7001 then (if x7001 < (s8.length : Int) then ((s8[x7001.toNat]?).bind fun x7011 =>
  if 0 ≤ x7001 then (if x7001 < (s7.length : Int) then ((s7[x7001.toNat]?).bind fun x7012 =>
  some (.again (s4, s5, s6, (s7.set x7001.toNat true), (s8.set x7001.toNat r7007), true, s11, s12, s13, (w6 (s14 + 1)), b1))) else none) else none) else none) else none)
  (some (.again (s4, s5, s6, s7, s8, s10, s11, s12, s13, (w6 (s14 + 1)), b1)))) else none) else none) else none) else none)
  (if 0 ≤ x7001 then (if x7001 < (s7.length : Int) then ((s7[x7001.toNat]?).bind fun x7013 => (cond (!x7013) (some true)
  (if 0 ≤ x7001 then (if x7001 < (s8.length : Int) then ((s8[x7001.toNat]?).bind fun x7014 =>
  some ((s12.length : Int) != (x7014.length : Int))) else none) else none)).bind fun g7015 =>
  cond g7015 (if 0 ≤ x7001 then (if x7001 < (s8.length : Int) then ((s8[x7001.toNat]?).bind fun x7016 =>
  if 0 ≤ x7001 then (if x7001 < (s7.length : Int) then ((s7[x7001.toNat]?).bind fun x7017 =>
  some (.again (s4, s5, s6, (s7.set x7001.toNat true), (s8.set x7001.toNat s12), true, s11, s12, s13, (w6 (s14 + 1)), b1))) else none) else none) else none) else none)
  (some (.again (s4, s5, s6, s7, s8, s10, s11, s12, s13, (w6 (s14 + 1)), b1)))) else none) else none)) else none) else none)) else none) else none) else none) else none)
  (some (.leave (s4, s5, s6, s7, s8, s10, s11, s12, s13, s14, b1)))
def zg.r6 (N : Nat) (x : Int × (List Bool) × (List Bool) × (List Bool) × (List (List zB)) × Bool × Int × (List zB) × (List Int) × Int × zF) := zg.b6 N x.1 x.2.1 x.2.2.1 x.2.2.2.1 x.2.2.2.2.1 x.2.2.2.2.2.1 x.2.2.2.2.2.2.1 x.2.2.2.2.2.2.2.1 x.2.2.2.2.2.2.2.2.1 x.2.2.2.2.2.2.2.2.2.1 x.2.2.2.2.2.2.2.2.2.2
def zg.b4 (N : Nat) (s4 : Int) (s5 : List Bool) (s6 : List Bool) (s7 : List Bool) (s8 : List (List zB)) (s10 : Bool) (s11 : Int) (b1 : zF) : Option (Stp (Int × (List Bool) × (List Bool) × (List Bool) × (List (List zB)) × Bool × Int × zF)) :=
 cond (decide (s11 < s4)) (if 0 ≤ s11 then (if s11 < (s7.length : Int) then ((s7[s11.toNat]?).bind fun x5001 => cond (!x5001)
  (some (.again (s4, s5, s6, s7, s8, s10, (w6 (s11 + 1)), b1))) ((idx b1.zA s11).bind fun x5002 =>
  if 0 ≤ s11 then (if s11 < (s8.length : Int) then ((s8[s11.toNat]?).bind fun x5003 => (za1 N x5002 x5003).bind fun r5004 => (ziw b1 s11).bind fun r5005 =>
  (ze (zg.r6 N) N (s4, s5, s6, s7, s8, s10, s11, r5004, r5005, 0, b1)).bind fun y5006 =>
  some (.again (y5006.1, y5006.2.1, y5006.2.2.1, y5006.2.2.2.1, y5006.2.2.2.2.1, y5006.2.2.2.2.2.1, (w6 (y5006.2.2.2.2.2.2.1 + 1)), y5006.2.2.2.2.2.2.2.2.2.2))) else none) else none)) else none) else none)
  (some (.leave (s4, s5, s6, s7, s8, s10, s11, b1)))
def zg.r4 (N : Nat) (x : Int × (List Bool) × (List Bool) × (List Bool) × (List (List zB)) × Bool × Int × zF) := zg.b4 N x.1 x.2.1 x.2.2.1 x.2.2.2.1 x.2.2.2.2.1 x.2.2.2.2.2.1 x.2.2.2.2.2.2.1 x.2.2.2.2.2.2.2
def zg.b2 (N : Nat) (s4 : Int) (s5 : List Bool) (s6 : List Bool) (s7 : List Bool) (s8 : List (List zB)) (s10 : Bool) (b1 : zF) : Option (Stp (Int × (List Bool) × (List Bool) × (List Bool) × (List (List zB)) × Bool × zF)) :=
 cond s10 ((ze (zg.r4 N) N (s4, s5, s6, s7, s8, false, 0, b1)).bind fun y3001 =>
  some (.again (y3001.1, y3001.2.1, y3001.2.2.1, y3001.2.2.2.1, y3001.2.2.2.2.1, y3001.2.2.2.2.2.1, y3001.2.2.2.2.2.2.2))) (some (.leave (s4, s5, s6, s7, s8, s10, b1)))
def zg.r2 (N : Nat) (x : Int × (List Bool) × (List Bool) × (List Bool) × (List (List zB)) × Bool × zF) := zg.b2 N x.1 x.2.1 x.2.2.1 x.2.2.2.1 x.2.2.2.2.1 x.2.2.2.2.2.1 x.2.2.2.2.2.2
def zg.b8 (N : Nat) (s4 : Int) (s8 : List (List zB)) (s17 : Bool) (s18 : Int) : Option (Stp (Int × (List (List zB)) × Bool × Int)) :=
 cond (decide (s18 < s4)) ((cond s17 (if 0 ≤ s18 then (if s18 < (s8.length : Int) then ((s8[s18.toNat]?).bind fun x9001 =>
  some (decide ((x9001.length : Int) ≤ 60))) else none) else none) (some false)).bind fun g9002 => some (.again (s4, s8, g9002, (w6 (s18 + 1)))))
  (some (.leave (s4, s8, s17, s18)))
def zg.r8 (N : Nat) (x : Int × (List (List zB)) × Bool × Int) := zg.b8 N x.1 x.2.1 x.2.2.1 x.2.2.2
def zg (N : Nat) (a0 : zF) : Option ((List (List zB)) × Bool) :=
 (zay N a0).bind fun r1 => (zy N a0).bind fun r2 =>
  if 0 ≤ (a0.zA.length : Int) then (if (a0.zA.length : Int) ≤ (a0.zA.length : Int) then (cond (Nat.ble ((a0.zA.length : Int).toNat * 1) zal)
  (if 0 ≤ (a0.zA.length : Int) then (if (a0.zA.length : Int) ≤ (a0.zA.length : Int) then (cond (Nat.ble ((a0.zA.length : Int).toNat * 24) zal)
  ((ze (zg.r0 N) N ((a0.zA.length : Int), r1, r2, (List.replicate (a0.zA.length : Int).toNat (false : Bool)), (List.replicate (a0.zA.length : Int).toNat ([] : List zB)), 0, a0)).bind fun y3 =>
  (ze (zg.r2 N) N (y3.1, y3.2.1, y3.2.2.1, y3.2.2.2.1, y3.2.2.2.2.1, true, y3.2.2.2.2.2.2)).bind fun y4 =>
  (ze (zg.r8 N) N (y4.1, y4.2.2.2.2.1, true, 0)).bind fun y5 => some (y5.2.1, y5.2.2.1)) none) else none) else none) none) else none) else none
theorem zt4 (N : Nat) (l : List Int) (h : l.length < N) (hl : l.length < 1000000000) : zas N l = some (zf5 l) := by
 unfold zas
 have := zde (f := zas.r0 N) (fun i => (l, (l.length : Int), (i : Int))) (fun i => (l[i]?).bind fun x => if x = 0 then none else some x) l.length
  (fun i hi => by
   have hx := lge hi; simp only [zas.r0, zas.b0, zap, hx, obs, dct (show (i : Int) < (l.length : Int) by omega), ctr]
   by_cases h0 : l[i] = 0
   · simp only [h0, bsf, cfa, if_true]; rw [w6e]; rfl
   · simp only [h0, if_false]; rw [show (l[i] != 0) = true by simpa using h0]; rfl)
  (by simp only [zas.r0, zas.b0, dcf (show ¬ (l.length : Int) < (l.length : Int) by omega), cfa]) h
 simp only [nc0] at this
 rw [this, zkd, ← zr6]
 simp only [obs]
 cases l.findSome? (fun x => if x = 0 then none else some x) <;> rfl
theorem z4s (N : Nat) (l : List Int) (h : l.length < N) (hl : l.length < 1000000000) : zax N l = some (zf5 l) := by
 unfold zax
 have := zde (f := zax.r0 N) (fun i => (l, (l.length : Int), (i : Int))) (fun i => (l[i]?).bind fun x => if x = 0 then none else some x) l.length
  (fun i hi => by
   have hx := lge hi; simp only [zax.r0, zax.b0, zap, hx, obs, dct (show (i : Int) < (l.length : Int) by omega), ctr]
   by_cases h0 : l[i] = 0
   · simp only [h0, bsf, cfa, if_true]; rw [w6e]; rfl
   · simp only [h0, if_false]; rw [show (l[i] != 0) = true by simpa using h0]; rfl)
  (by simp only [zax.r0, zax.b0, dcf (show ¬ (l.length : Int) < (l.length : Int) by omega), cfa]) h
 simp only [nc0] at this
 rw [this, zkd, ← zr6]
 simp only [obs]
 cases l.findSome? (fun x => if x = 0 then none else some x) <;> rfl
def inB (n lo hi : Int) : Bool := decide (lo ≤ n) && decide (n ≤ hi)
theorem zoq (n lo hi : Int) : zbb n lo hi = some (inB n lo hi) := by
 unfold zbb inB
 cases decide (lo ≤ n) <;> rfl
theorem z5f (n lo hi : Int) : zdz n lo hi = some (inB n lo hi) := by
 unfold zdz inB
 cases decide (lo ≤ n) <;> rfl
theorem zj5 (n lo hi : Int) : zah n lo hi = some (inB n lo hi) := by
 unfold zah inB
 cases decide (lo ≤ n) <;> rfl
theorem zpt (b : Bool) (e : Int) : zbp b e = some (cond b e 0) := by cases b <;> rfl
theorem zz2 (b : Bool) (e : Int) : zbl b e = some (cond b e 0) := by cases b <;> rfl
theorem zqj (b : Bool) : zfj b = some (cond b 1 0) := by cases b <;> rfl
theorem zqv (m : zI) : ∃ e, zc6 m = some e ∧ zj7 m = some e ∧ (e = 0 → 2 ≤ m.Registers ∧ m.Registers ≤ 8) := by
 refine ⟨cond (!inB m.Registers 2 8) 3 0, ?_, ?_, ?_⟩
 · simp only [zc6, zoq, zpt, obs]
 · simp only [zj7, zj5, obs]; cases inB m.Registers 2 8 <;> rfl
 · intro h; cases hb : inB m.Registers 2 8 with
   | false => rw [hb] at h; cases h
   | true => simpa [inB] using hb
def zcb (t : DataType) : Int :=
 if t.Kind = 0 then (if inB t.Length 1 256 then (if t.Scale = 0 then 0 else 3) else 18)
 else if t.Kind = 1 ∨ t.Kind = 2 then (if inB t.Length 1 15 then (if inB t.Scale 0 t.Length then 0 else 3) else 18)
 else if t.Kind = 3 then (if t.Length = 4 ∨ t.Length = 9 then (if inB t.Scale 0 t.Length then 0 else 3) else 18)
 else if t.Kind = 4 then (if t.Length = 0 then (if t.Scale = 0 then 0 else 3) else 18)
 else 4
theorem z8h (a b : Bool) (x y : Int) (hx : x ≠ 0) (hy : y ≠ 0) : zf5 [cond a x 0, cond b y 0] = cond a x (cond b y 0) := by
 cases a <;> cases b <;> simp [zf5, hx, hy]
theorem zvy (N : Nat) (hN : 10 < N) (t : DataType) : zb1 N t = some (zcb t) := by
 have f2 : ∀ a b : Int, zax N [a, b] = some (zf5 [a, b]) := fun a b => z4s N _ (by simp; omega) (by simp)
 unfold zb1 zcb
 simp only [z5f, zz2, f2, obs, z8h _ _ 18 3 (by decide) (by decide)]
 by_cases h0 : t.Kind = 0
 · simp only [h0, bst, ctr, if_true]; cases inB t.Length 1 256 <;> by_cases hs : t.Scale = 0 <;> simp [zct, hs]
 · simp only [beq_eq_false_iff_ne.2 h0, h0, cfa, if_false]
   by_cases h1 : t.Kind = 1
   · simp only [h1, bst, ctr, true_or, if_true, obs]; cases inB t.Length 1 15 <;> cases inB t.Scale 0 t.Length <;> simp
   · by_cases h2 : t.Kind = 2
     · simp only [h2, h1]; cases inB t.Length 1 15 <;> cases inB t.Scale 0 t.Length <;> simp
     · by_cases h3 : t.Kind = 3
       · simp only [h3]
         by_cases h4 : t.Length = 4 <;> by_cases h5 : t.Length = 9 <;> cases inB t.Scale 0 t.Length <;> simp [zct, h4, h5]
       · by_cases h4 : t.Kind = 4
         · simp only [h4]
           by_cases h5 : t.Length = 0 <;> by_cases h6 : t.Scale = 0 <;> simp [zct, h5, h6]
         · simp [zct, h1, h2, h3, h4]
theorem zuw (k : Int) : zfg k = some (inB k 1 3) := by simp only [zfg, zj5, obs]
theorem z6c (t : DataType) : zm6 t = some (zcb t) := by
 have w0' : w6 0 = 0 := by decide
 have w1 : w6 3 = 3 := by decide
 have hz : inB t.Scale 0 0 = decide (t.Scale = 0) := by
  unfold inB
  by_cases h : t.Scale = 0
  · simp [h]
  · simp only [h, decide_false]
    by_cases h1 : 0 ≤ t.Scale
    · simp [h1, show ¬ t.Scale ≤ 0 by omega]
    · simp [h1]
 unfold zm6 zcb
 simp only [zj5, zuw, zqj, obs, hz]
 by_cases h0 : t.Kind = 0
 · have e : inB (0 : Int) 0 4 = true := by decide
   have e' : inB (0 : Int) 1 3 = false := by decide
   simp only [h0, e, e']; cases inB t.Length 1 256 <;> by_cases hs : t.Scale = 0 <;> simp [zct, hs, w0', w1]
 · by_cases h1 : t.Kind = 1
   · have e : inB (1 : Int) 0 4 = true := by decide
     have e' : inB (1 : Int) 1 3 = true := by decide
     simp only [h1, e, e']; cases inB t.Length 1 15 <;> cases inB t.Scale 0 t.Length <;> simp [w0', w1]
   · by_cases h2 : t.Kind = 2
     · have e : inB (2 : Int) 0 4 = true := by decide
       have e' : inB (2 : Int) 1 3 = true := by decide
       simp only [h2, e, e']; cases inB t.Length 1 15 <;> cases inB t.Scale 0 t.Length <;> simp [w0', w1]
     · by_cases h3 : t.Kind = 3
       · have e : inB (3 : Int) 0 4 = true := by decide
         have e' : inB (3 : Int) 1 3 = true := by decide
         simp only [h3, e, e']
         by_cases h4 : t.Length = 4 <;> by_cases h5 : t.Length = 9 <;> cases inB t.Scale 0 t.Length <;> simp [zct, h4, h5, w0', w1]
       · by_cases h4 : t.Kind = 4
         · have e : inB (4 : Int) 0 4 = true := by decide
           have e' : inB (4 : Int) 1 3 = false := by decide
           simp only [h4, e, e']
           by_cases h5 : t.Length = 0 <;> by_cases h6 : t.Scale = 0 <;> simp [zct, h5, h6, w0', w1]
         · have e : inB t.Kind 0 4 = false := by
            unfold inB
            by_cases hh : 0 ≤ t.Kind
            · simp only [hh, decide_true, Bool.true_and, decide_eq_false_iff_not]; omega
            · simp [hh]
           simp [zct, h0, h1, h2, h3, h4, e]
theorem zb6 {n lo hi : Int} : inB n lo hi = true ↔ lo ≤ n ∧ n ≤ hi := by simp [inB]
theorem zj2 {t : DataType} (h : zcb t = 0) : (t.Kind = 0 ∧ 1 ≤ t.Length ∧ t.Length ≤ 256) ∨ ((t.Kind = 1 ∨ t.Kind = 2) ∧ 1 ≤ t.Length ∧ t.Length ≤ 15) ∨ (t.Kind = 3 ∧ (t.Length = 4 ∨ t.Length = 9)) ∨ (t.Kind = 4 ∧ t.Length = 0) := by
 unfold zcb at h
 split at h
 · rename_i h0; split at h
   · rename_i h1; exact .inl ⟨h0, (zb6.1 h1).1, (zb6.1 h1).2⟩
   · cases h
 · split at h
   · rename_i h0; split at h
     · rename_i h1; exact .inr (.inl ⟨h0, (zb6.1 h1).1, (zb6.1 h1).2⟩)
     · cases h
   · split at h
     · rename_i h0; split at h
       · rename_i h1; exact .inr (.inr (.inl ⟨h0, h1⟩))
       · cases h
     · split at h
       · rename_i h0; split at h
         · rename_i h1; exact .inr (.inr (.inr ⟨h0, h1⟩))
         · cases h
       · cases h
def szE (t : DataType) : Int := if t.Kind = 1 then t.Length / 2 + 1 else if t.Kind = 3 then (if t.Length = 9 then 4 else 2) else if t.Kind = 4 then 16 else t.Length
theorem zvp {t : DataType} (h : zcb t = 0) : 0 < szE t ∧ szE t ≤ 256 := by
 unfold szE
 rcases zj2 h with ⟨h0, h1, h2⟩ | ⟨h0 | h0, h1, h2⟩ | ⟨h0, h1 | h1⟩ | ⟨h0, h1⟩ <;> simp only [h0] <;> simp <;> omega
theorem zpn {t : DataType} (h : zcb t = 0) : zgj t = some (szE t) := by
 unfold zgj szE
 rcases zj2 h with ⟨h0, h1, h2⟩ | ⟨h0 | h0, h1, h2⟩ | ⟨h0, h1 | h1⟩ | ⟨h0, h1⟩ <;> simp only [h0, h1, zct, zqj] <;> simp
 · rw [tde, w6e (n := t.Length / 2), w6e]
 · decide
 · decide
theorem zz1 {t : DataType} (h : zcb t = 0) : zge t = some (szE t) := by
 unfold zge szE
 rcases zj2 h with ⟨h0, h1, h2⟩ | ⟨h0 | h0, h1, h2⟩ | ⟨h0, h1 | h1⟩ | ⟨h0, h1⟩ <;> simp only [h0, h1, zct] <;> simp
 · rw [tde, w6e (n := t.Length / 2), w6e]
 · decide
 · decide
theorem z6z (N : Nat) (hN : 10 < N) {t : DataType} (h : zcb t = 0) : zho N t = some (szE t) := by
 unfold zho zdv
 rw [zvy N hN, h]
 simp [zz1 h]
structure StoOk (s : Storage) : Prop where
 le : s.Bytes.size ≤ 1024
 quad : s.Bytes.size % 16 = 0
def zjk (s : Storage) (a : Int) : Bool := decide (0 ≤ a) && (decide (a % 16 = 0) && decide (a < (s.Bytes.size : Int)))
theorem zz5 (s : Storage) (a : Int) : zc0 s a = some (zjk s a) := by
 unfold zc0 zjk
 by_cases h : 0 ≤ a
 · rw [tme h]; simp only [ge_iff_le, h, decide_true, ctr, obs, zct, Bool.true_and]; cases decide (a % 16 = 0) <;> rfl
 · simp [h]
theorem zz0 {s : Storage} (ok : StoOk s) (a : Int) : zha s a = some (zjk s a) := by
 have h1 := ok.le
 have h2 := ok.quad
 unfold zha zjk
 rw [w6e, zj5]
 simp only [obs]
 by_cases h : 0 ≤ a
 · rw [tme h]; simp only [inB, h, decide_true, Bool.true_and, zct]
   by_cases h3 : a % 16 = 0
   · have e : decide (a ≤ (s.Bytes.size : Int) - 16) = decide (a < (s.Bytes.size : Int)) := by
      by_cases h4 : a < (s.Bytes.size : Int)
      · rw [dct h4]; exact dct (by omega)
      · rw [dcf h4]; exact dcf (by omega)
     simp only [h3, decide_true, Bool.true_and, e]; cases decide (a < (s.Bytes.size : Int)) <;> rfl
   · simp only [h3, decide_false, Bool.false_and]; cases decide (a ≤ (s.Bytes.size : Int) - 16) <;> rfl
 · simp [inB, h]
def zhd (s : Storage) (p : zL) (n : Int) : Bool := if p.Based then zjk s p.Pointer && inB p.Offset 0 256 else inB p.Offset 0 ((s.Bytes.size : Int) - n)
theorem zyk {s : Storage} (ok : StoOk s) (N : Nat) (hN : 10 < N) (p : zL) {t : DataType} (h : zcb t = 0) : zcn N s p t = some (zhd s p (szE t)) := by
 obtain ⟨h1, h2⟩ := zvp h
 have h3 := ok.le
 unfold zcn zhd
 rw [zz5, z6z N hN h, zoq]
 simp only [obs]
 rw [w6e]
 simp only [zoq, obs]
 cases p.Based <;> cases zjk s p.Pointer <;> simp
theorem zxu {s : Storage} (ok : StoOk s) {c : zF} (hc : c.Storage = s) (p : zL) (hp : -9223372036854775808 ≤ p.Offset ∧ p.Offset ≤ 9223372036854775807) {t : DataType} (h : zcb t = 0) : zfq c p (szE t) = some (zhd s p (szE t)) := by
 obtain ⟨h1, h2⟩ := zvp h
 have h3 := ok.le
 unfold zfq zhd zrg
 rw [hc]
 simp only [zz0 ok, zj5, obs]
 cases p.Based with
 | true => cases zjk s p.Pointer <;> simp
 | false =>
  simp only [cfa]
  by_cases h4 : inB p.Offset 0 (s.Bytes.size : Int) = true
  · obtain ⟨h5, h6⟩ := zb6.1 h4; rw [w6e]; simp only [h4, ctr, obs, Bool.false_eq_true, if_false]
    congr 1
    unfold inB; simp only [h5, decide_true, Bool.true_and, show (0 : Int) ≤ szE t by omega]
    by_cases h7 : szE t ≤ (s.Bytes.size : Int) - p.Offset
    · rw [dct h7]; exact (dct (by omega)).symm
    · rw [dcf h7]; exact (dcf (by omega)).symm
  · have e : inB p.Offset 0 (s.Bytes.size : Int) = false := by simpa using h4
    simp only [e, cfa, obs, Bool.false_eq_true, if_false]
    congr 1
    cases h5 : inB p.Offset 0 ((s.Bytes.size : Int) - szE t) with
    | false => rfl
    | true =>
     obtain ⟨h6, h7⟩ := zb6.1 h5; exact absurd (zb6.2 ⟨h6, by omega⟩) h4
def zpc (n : Number) : Int := cond (inB n.N (-999999999999999) 999999999999999 && inB n.Scale 0 15) 0 3
theorem z23 (n : Number) : zes n = some (zpc n) := by
 unfold zes zpc
 simp only [z5f, zz2, obs]
 cases inB n.N (-999999999999999) 999999999999999 <;> cases inB n.Scale 0 15 <;> rfl
theorem z2p (n : Number) : zgm n = some (zpc n) := by
 have w0 : w6 (3 * 0) = 0 := by decide
 have w1 : w6 (3 * 1) = 3 := by decide
 unfold zgm zpc
 simp only [zj5, zqj, obs]
 cases inB n.N (-999999999999999) 999999999999999 <;> cases inB n.Scale 0 15 <;> simp [w0, w1, zqj] <;> decide
def z5n (op : Int) (ins : Bool) : Option zR :=
 (idx z1g op).bind fun x1 => (cond (op == 4) (some ins) (some false)).bind fun g2 =>
  cond g2 (some (⟨(orI .i64 (orI .i64 (z0h .i64 x1.fields 4) 8) 64), x1.types⟩ : zR)) (some x1)
theorem z8i (x : zC) : zbi x = z5n x.Op x.zK := rfl
def z0o (op : Int) (ins : Bool) : Option zN := zdy ⟨op, 0, 0, 0, 0, ⟨false, 0, 0⟩, ⟨false, 0, 0⟩, ⟨0, 0, 0⟩, ⟨0, 0, 0⟩, false, ins, ⟨0, 0⟩, ⟨#[]⟩, ⟨#[]⟩, 0, 0, 0, 0⟩
theorem zud (x : zC) : zdy x = z0o x.Op x.zK := rfl
structure Agree (f : zR) (u : zN) : Prop where
 R : (zm .i64 f.fields 1 != 0) = u.R
 A : (zm .i64 f.fields 2 != 0) = u.A
 B : (zm .i64 f.fields 4 != 0) = u.B
 Place : (zm .i64 f.fields 8 != 0) = u.Place
 From : (zm .i64 f.fields 16 != 0) = u.From
 zD : (zm .i64 f.fields 32 != 0) = (u.zD != 0)
 Second : (zm .i64 f.fields 64 != 0) = (u.Second != 0)
 Half : (zm .i64 f.fields 128 != 0) = u.Half
 Number : (zm .i64 f.fields 256 != 0) = u.Number
 Text : (zm .i64 f.fields 512 != 0) = u.Text
 Other : (zm .i64 f.fields 1024 != 0) = u.Other
 Mask : (zm .i64 f.fields 2048 != 0) = u.Mask
 Target : (zm .i64 f.fields 4096 != 0) = u.Target
 Pointer : (zm .i64 f.fields 8192 != 0) = u.Pointer
 Source : (zm .i64 f.fields 16384 != 0) = u.Source
 Calc : (zm .i64 f.fields 32768 != 0) = u.zO
 class1 : u.zD = 0 ∨ u.zD = f.types
 class2 : u.Second = 0 ∨ u.Second = f.types
 cls : f.types = 0 ∨ f.types = 1 ∨ f.types = 2 ∨ f.types = 3
def zy8 (f : zR) (u : zN) : Bool :=
 ((zm .i64 f.fields 1 != 0) == u.R) && (((zm .i64 f.fields 2 != 0) == u.A) && (((zm .i64 f.fields 4 != 0) == u.B) && (((zm .i64 f.fields 8 != 0) == u.Place) && (((zm .i64 f.fields 16 != 0) == u.From) &&
 (((zm .i64 f.fields 32 != 0) == (u.zD != 0)) && (((zm .i64 f.fields 64 != 0) == (u.Second != 0)) && (((zm .i64 f.fields 128 != 0) == u.Half) && (((zm .i64 f.fields 256 != 0) == u.Number) && (((zm .i64 f.fields 512 != 0) == u.Text) &&
 (((zm .i64 f.fields 1024 != 0) == u.Other) && (((zm .i64 f.fields 2048 != 0) == u.Mask) && (((zm .i64 f.fields 4096 != 0) == u.Target) && (((zm .i64 f.fields 8192 != 0) == u.Pointer) && (((zm .i64 f.fields 16384 != 0) == u.Source) &&
 (((zm .i64 f.fields 32768 != 0) == u.zO) && ((u.zD == 0 || u.zD == f.types) && ((u.Second == 0 || u.Second == f.types) && (f.types == 0 || (f.types == 1 || (f.types == 2 || f.types == 3))))))))))))))))))))
theorem z5a {f : zR} {u : zN} (h : zy8 f u = true) : Agree f u := by
 simp only [zy8, Bool.and_eq_true, beq_iff_eq, Bool.or_eq_true] at h
 obtain ⟨h1, h2, h3, h4, h5, h6, h7, h8, h9, h10, h11, h12, h13, h14, h15, h16, h17, h18, h19⟩ := h
 exact ⟨h1, h2, h3, h4, h5, h6, h7, h8, h9, h10, h11, h12, h13, h14, h15, h16, h17, h18, h19⟩
def z08 (op : Int) (ins : Bool) : Bool := match z5n op ins, z0o op ins with
 | some f, some u => (zy8 f u && ((!u.From || u.Second != 0) && (!u.Place || cond (op == 4) (u.Second != 0) (u.zD != 0)))) && (cond (op == 4) (u.R && u.A && u.zO && (u.Place == ins) && (u.Second != 0) == ins) (u.zO == false))
 | _, _ => false
theorem z74 : ((List.range 27).all fun k => z08 (k : Int) true && z08 (k : Int) false) = true := by kernel_rfl
theorem zm3 (x : zC) (h : inB x.Op 0 26 = true) : ∃ f u, zbi x = some f ∧ zdy x = some u ∧ Agree f u ∧ (x.Op = 4 → u.Place = x.zK) ∧ (u.From = true → u.Second ≠ 0) ∧ (u.Place = true → if x.Op = 4 then u.Second ≠ 0 else u.zD ≠ 0) := by
 obtain ⟨h1, h2⟩ := zb6.1 h
 obtain ⟨k, hk⟩ : ∃ k : Nat, x.Op = (k : Int) := ⟨x.Op.toNat, by omega⟩
 have hlt : k < 27 := by omega
 have h3 := List.all_eq_true.1 z74 k (by simpa using hlt)
 have h4 : z08 x.Op x.zK = true := by
  rw [hk]; cases x.zK
  · exact ((Bool.and_eq_true _ _).mp h3).2
  · exact ((Bool.and_eq_true _ _).mp h3).1
 rw [z8i, zud]
 unfold z08 at h4
 split at h4
 · rename_i f u hf hu; obtain ⟨h5, h6⟩ := (Bool.and_eq_true _ _).mp h4; simp only [Bool.and_eq_true] at h5; obtain ⟨h5, h8, h9⟩ := h5; refine ⟨f, u, hf, hu, z5a h5, fun h7 => ?_, fun h7 => ?_, fun h7 => ?_⟩
   · rw [h7] at h6; simp only [bst, ctr, Bool.and_eq_true, beq_iff_eq] at h6; exact h6.1.2
   · rw [h7] at h8; simpa using h8
   · rw [h7] at h9; split
     · rename_i h10; rw [h10] at h9; simpa using h9
     · rename_i h10; rw [zct, dcf h10] at h9; simpa using h9
 · cases h4
theorem zp3 (a b : Int) : (a == b) = !(a != b) := by simp [bne]
def zgh (x : zC) (u : zN) : Bool :=
 (!u.R && x.R != 0) || ((!u.A && x.A != 0) || ((!u.B && x.B != 0) || ((!u.zO && x.zO != 0) || ((!u.Place && !(!x.Place.Based && (x.Place.Pointer == 0 && x.Place.Offset == 0))) ||
 ((!u.From && !(!x.From.Based && (x.From.Pointer == 0 && x.From.Offset == 0))) || ((u.zD == 0 && !(x.zD.Kind == 0 && (x.zD.Length == 0 && x.zD.Scale == 0))) || ((u.Second == 0 && !(x.Second.Kind == 0 && (x.Second.Length == 0 && x.Second.Scale == 0))) ||
 ((!u.Half && x.Half) || ((x.Op != 4 && x.zK) || ((!u.Number && !(x.Number.N == 0 && x.Number.Scale == 0)) || ((!u.Text && !(x.Text.toList == [])) || ((!u.Other && !(x.Other.toList == [])) ||
 ((!u.Mask && x.Mask != 0) || ((!u.Target && x.Target != 0) || ((!u.Pointer && x.Pointer != 0) || ((!u.Source && x.Source != 0) || ((!x.Place.Based && x.Place.Pointer != 0) || (!x.From.Based && x.From.Pointer != 0))))))))))))))))))
theorem orB (a b : Bool) : (cond a (some true) (some b)) = some (a || b) := by cases a <;> rfl
theorem zh9 (a b : Bool) : (cond a (some b) (some false)) = some (a && b) := by cases a <;> rfl
theorem z4l (x : zC) (u : zN) : zl9 x u = some (zgh x u) := by
 unfold zl9 zgh
 have e : (⟨#[]⟩ : ByteArray).toList = [] := by kernel_rfl
 simp only [zh9, orB, obs, zco, Bool.and_true, e, Bool.or_assoc, beq_false]
def zmz (p : zL) (b : Bool) : zL := cond b (cond p.Based p ⟨p.Based, 0, p.Offset⟩) ⟨false, 0, 0⟩
theorem z3b (p : zL) (b : Bool) : zf3 p b = some (zmz p b) := by
 unfold zf3 zmz
 cases b <;> cases p.Based <;> rfl
theorem z9h (k v fl : Int) : zb0 k v fl = some (cond (zm .i64 fl k != 0) v 0) := by
 unfold zb0
 rw [zp3]
 cases (zm .i64 fl k != 0) <;> rfl
def zw2 (x : zC) (u : zN) : zC :=
 ⟨x.Op, cond u.R x.R 0, cond u.A x.A 0, cond u.B x.B 0, cond u.zO x.zO 0, zmz x.Place u.Place, zmz x.From u.From, cond (u.zD != 0) x.zD ⟨0, 0, 0⟩, cond (u.Second != 0) x.Second ⟨0, 0, 0⟩,
  cond x.Half u.Half false, cond x.zK (x.Op == 4) false, cond u.Number x.Number ⟨0, 0⟩, cond u.Text x.Text ⟨#[]⟩, cond u.Other x.Other ⟨#[]⟩, cond u.Mask x.Mask 0, cond u.Target x.Target 0, cond u.Pointer x.Pointer 0, cond u.Source x.Source 0⟩
theorem z61 {x : zC} {f : zR} {u : zN} (hf : zbi x = some f) (ag : Agree f u) : zhp x = some (zw2 x u) := by
 have b2 : ∀ a b : Bool, (cond a (some b) (some false)) = some (cond a b false) := fun a b => by cases a <;> rfl
 unfold zhp zw2
 simp only [hf, z9h, z3b, b2, obs, zp3 (zm .i64 f.fields 32), zp3 (zm .i64 f.fields 64), zp3 (zm .i64 f.fields 256), zp3 (zm .i64 f.fields 512), zp3 (zm .i64 f.fields 1024),
  ag.R, ag.A, ag.B, ag.Place, ag.From, ag.zD, ag.Second, ag.Half, ag.Number, ag.Text, ag.Other, ag.Mask, ag.Target, ag.Pointer, ag.Source, ag.Calc]
 cases (u.zD != 0) <;> cases (u.Second != 0) <;> cases u.Number <;> cases u.Text <;> cases u.Other <;> rfl
theorem z9e (b : Bool) (n : Int) : (!(cond b n 0 == n)) = (!b && n != 0) := by
 cases b
 · by_cases h : n = 0
   · simp [h]
   · simp [h, zct, zdq, Ne.symm h]
 · simp
theorem z9q (a b : ByteArray) : (a == b) = decide (a = b) := by
 cases a with | mk x =>
 cases b with | mk y =>
 show ByteArray.beq _ _ = _
 unfold ByteArray.beq
 by_cases h : x = y
 · simp [h]
 · simp [h]
theorem z9d (b : Bool) (t : ByteArray) : (!(cond b t (⟨#[]⟩ : ByteArray) == t)) = (!b && !(t.toList == [])) := by
 rw [z9q]
 cases b
 · simp only [cfa, Bool.not_false, Bool.true_and]
   congr 1
   rw [Lib.toList_data]
   by_cases h : t = ⟨#[]⟩
   · subst h; rfl
   · rw [dcf (Ne.symm h)]
     symm
     rw [beq_eq_false_iff_ne]; intro hh; apply h; cases t with
     | mk d => simp at hh; rw [hh]
 · simp
theorem z9g (a b : Bool) : (!(cond a b false == a)) = (!b && a) := by cases a <;> cases b <;> rfl
theorem z9f (a : Bool) (op : Int) : (!(cond a (op == 4) false == a)) = (op != 4 && a) := by
 cases a
 · simp
 · simp [bne]
theorem z5h (p : zL) (b r : Bool) : (!((zmz p b).Based == p.Based) || (!((zmz p b).Pointer == p.Pointer) || (!((zmz p b).Offset == p.Offset) || r))) =
 ((!b && !(!p.Based && (p.Pointer == 0 && p.Offset == 0))) || ((!p.Based && p.Pointer != 0) || r)) := by
 obtain ⟨ba, pt, of⟩ := p
 cases b <;> cases ba <;> by_cases h1 : pt = 0 <;> by_cases h2 : of = 0 <;> simp [zmz, zct, zdq, h1, h2, eq_comm (a := (0 : Int))]
theorem z5i (t : DataType) (b : Int) (r : Bool) : (!((cond (b != 0) t ⟨0, 0, 0⟩).Kind == t.Kind) || (!((cond (b != 0) t ⟨0, 0, 0⟩).Length == t.Length) || (!((cond (b != 0) t ⟨0, 0, 0⟩).Scale == t.Scale) || r))) =
 ((b == 0 && !(t.Kind == 0 && (t.Length == 0 && t.Scale == 0))) || r) := by
 obtain ⟨k, l, s⟩ := t
 by_cases h0 : b = 0 <;> by_cases h1 : k = 0 <;> by_cases h2 : l = 0 <;> by_cases h3 : s = 0 <;> simp [zct, zdq, h0, h1, h2, h3, eq_comm (a := (0 : Int))]
theorem z9c (t : Number) (b r : Bool) : (!((cond b t ⟨0, 0⟩).N == t.N) || (!((cond b t ⟨0, 0⟩).Scale == t.Scale) || r)) = ((!b && !(t.N == 0 && t.Scale == 0)) || r) := by
 obtain ⟨n, s⟩ := t
 cases b <;> by_cases h1 : n = 0 <;> by_cases h2 : s = 0 <;> simp [zct, zdq, h1, h2, eq_comm (a := (0 : Int))]
theorem z1b (x : zC) (u : zN) (r2 : zC) (h : r2 = zw2 x u) :
 (!(zco [(r2.Op == x.Op), (r2.R == x.R), (r2.A == x.A), (r2.B == x.B), (r2.zO == x.zO), (r2.Place.Based == x.Place.Based), (r2.Place.Pointer == x.Place.Pointer), (r2.Place.Offset == x.Place.Offset), (r2.From.Based == x.From.Based), (r2.From.Pointer == x.From.Pointer), (r2.From.Offset == x.From.Offset), (r2.zD.Kind == x.zD.Kind), (r2.zD.Length == x.zD.Length), (r2.zD.Scale == x.zD.Scale), (r2.Second.Kind == x.Second.Kind), (r2.Second.Length == x.Second.Length), (r2.Second.Scale == x.Second.Scale), (r2.Half == x.Half), (r2.zK == x.zK), (r2.Number.N == x.Number.N), (r2.Number.Scale == x.Number.Scale), (r2.Text == x.Text), (r2.Other == x.Other), (r2.Mask == x.Mask), (r2.Target == x.Target), (r2.Pointer == x.Pointer), (r2.Source == x.Source)])) = zgh x u := by
 subst h
 simp only [zco, Bool.not_and, zw2]
 rw [z5h x.Place, z5h x.From, z5i x.zD, z5i x.Second, z9c x.Number]
 simp only [z9e, z9d, z9g, z9f, bst, bnt, Bool.false_or, Bool.or_false, zgh, bne]
 ac_rfl
def zc2 (t : DataType) (c : Int) : Int := if c = 0 then 0 else if zcb t = 0 then (if (c = 1 ∧ ¬ (1 ≤ t.Kind ∧ t.Kind ≤ 3)) ∨ (c = 2 ∧ t.Kind ≠ 0) ∨ (c = 3 ∧ t.Kind = 4) then 17 else 0) else zcb t
theorem zlj {t : DataType} {c : Int} (h : zc2 t c = 0) (hc : c ≠ 0) : zcb t = 0 := by
 unfold zc2 at h
 rw [ifn hc] at h
 by_cases h0 : zcb t = 0
 · exact h0
 · rw [ifn h0] at h; exact absurd h h0
theorem zvb (N : Nat) (hN : 10 < N) (t : DataType) (c : Int) (hc : c = 1 ∨ c = 2 ∨ c = 3) : zd9 N t c = some (zc2 t c) := by
 have f2 : ∀ a b : Int, zas N [a, b] = some (zf5 [a, b]) := fun a b => zt4 N _ (by simp; omega) (by simp)
 unfold zd9 zc2
 rw [zvy N hN]
 simp only [zpt, f2, zh9, orB, obs, zct, zdq]
 have hc0 : c ≠ 0 := by omega
 rw [ifn hc0]
 by_cases h : zcb t = 0
 · rw [ifp h, h]; simp only [zf5, if_true]; rcases zj2 h with ⟨h0, _⟩ | ⟨h0 | h0, _⟩ | ⟨h0, _⟩ | ⟨h0, _⟩ <;> rcases hc with rfl | rfl | rfl <;> simp [h0]
 · rw [ifn h]; simp only [zf5, h, if_false]
theorem zuv (t : DataType) (c : Int) (hc : c = 0 ∨ c = 1 ∨ c = 2 ∨ c = 3) : zkt t c = some (zc2 t c) := by
 unfold zkt zc2
 rw [z6c]
 simp only [zuw, zh9, orB, obs, zct, zdq]
 by_cases hc0 : c = 0
 · simp [hc0]
 · rw [ifn hc0]; simp only [hc0, decide_false, cfa]
   by_cases h : zcb t = 0
   · rw [ifp h, h]; rcases zj2 h with ⟨h0, _⟩ | ⟨h0 | h0, _⟩ | ⟨h0, _⟩ | ⟨h0, _⟩ <;> rcases hc with rfl | rfl | rfl | rfl <;> first | exact absurd rfl hc0 | simp [h0, inB]
   · rw [ifn h]; simp [h]
theorem z4x (N : Nat) (hN : 10 < N) {x : zC} {f : zR} {u : zN} (ag : Agree f u) : zfo N x f = some (zf5 [zc2 x.zD u.zD, zc2 x.Second u.Second]) := by
 have w0 : ∀ t, zc2 t 0 = 0 := fun t => by simp [zc2]
 have hcls : ∀ c, c ≠ 0 → (c = 0 ∨ c = f.types) → c = f.types ∧ (f.types = 1 ∨ f.types = 2 ∨ f.types = 3) := by
  intro c h0 h1; have := ag.cls; omega
 have eta : ∀ t : DataType, (⟨t.Kind, t.Length, t.Scale⟩ : DataType) = t := fun t => rfl
 unfold zfo
 rw [ag.zD, ag.Second]
 by_cases h1 : u.zD = 0
 · by_cases h2 : u.Second = 0
   · simp [h1, h2, w0, zf5]
   · obtain ⟨e2, c2⟩ := hcls _ h2 ag.class2; have ht := fun t => zvb N hN t f.types c2; have h0 : f.types ≠ 0 := by omega
     simp only [eta, ht, h1, e2, w0]
     by_cases h3 : zc2 x.Second f.types = 0 <;> simp [h3, h0, zf5, zdq]
 · obtain ⟨e1, c1⟩ := hcls _ h1 ag.class1; have ht := fun t => zvb N hN t f.types c1; have h0 : f.types ≠ 0 := by omega
   by_cases h2 : u.Second = 0
   · simp only [eta, ht, h2, e1, w0]
     by_cases h3 : zc2 x.zD f.types = 0 <;> simp [h3, h0, zf5, zdq]
   · obtain ⟨e2, c2⟩ := hcls _ h2 ag.class2; simp only [eta, ht, e2, e1]
     by_cases h3 : zc2 x.zD f.types = 0 <;> by_cases h4 : zc2 x.Second f.types = 0 <;> simp [h3, h4, h0, zf5, zdq]
def zlm (x : zC) (u : zN) : List Int := cond u.R [x.R] [] ++ (cond u.A [x.A] [] ++ cond u.B [x.B] [])
theorem z60 (n : Nat) {x : zC} {f : zR} {u : zN} (hf : zbi x = some f) (ag : Agree f u) : zab (n + 10) x = some (zlm x u) := by
 have s0 : w6 (1 * 2 ^ (min ((0 : Int).toNat) 64)) = 1 := by decide
 have s1 : w6 (1 * 2 ^ (min ((1 : Int).toNat) 64)) = 2 := by decide
 have s2 : w6 (1 * 2 ^ (min ((2 : Int).toNat) 64)) = 4 := by decide
 have a0 : w6 (0 + 1) = 1 := by decide
 have a1 : w6 (1 + 1) = 2 := by decide
 have a2 : w6 (2 + 1) = 3 := by decide
 have rm : ∀ k : Nat, k ≤ 3 → Nat.ble (k * 8) zal = true := fun k hk => Nat.ble_eq_true_of_le (by unfold zal; omega)
 unfold zab
 rw [hf]
 simp only [obs]
 have i0 : ∀ l, zab.r0 (n + 10) (l, f.fields, [x.R, x.A, x.B], (([x.R, x.A, x.B] : List Int).length : Int), 0) = some (.again (cond u.R (l ++ [x.R]) l, f.fields, [x.R, x.A, x.B], (([x.R, x.A, x.B] : List Int).length : Int), 1)) ∨ l.length > 2 := by
  intro l
  by_cases hl : l.length > 2
  · exact .inr hl
  · left; simp only [zab.r0, zab.b0, s0, a0, ag.R]; have := rm (l.length + 1) (by omega); cases u.R <;> simp [this]
 have i1 : ∀ l, zab.r0 (n + 10) (l, f.fields, [x.R, x.A, x.B], (([x.R, x.A, x.B] : List Int).length : Int), 1) = some (.again (cond u.A (l ++ [x.A]) l, f.fields, [x.R, x.A, x.B], (([x.R, x.A, x.B] : List Int).length : Int), 2)) ∨ l.length > 2 := by
  intro l
  by_cases hl : l.length > 2
  · exact .inr hl
  · left; simp only [zab.r0, zab.b0, s1, a1, ag.A]; have := rm (l.length + 1) (by omega); cases u.A <;> simp [this]
 have i2 : ∀ l, zab.r0 (n + 10) (l, f.fields, [x.R, x.A, x.B], (([x.R, x.A, x.B] : List Int).length : Int), 2) = some (.again (cond u.B (l ++ [x.B]) l, f.fields, [x.R, x.A, x.B], (([x.R, x.A, x.B] : List Int).length : Int), 3)) ∨ l.length > 2 := by
  intro l
  by_cases hl : l.length > 2
  · exact .inr hl
  · left; simp only [zab.r0, zab.b0, s2, a2, ag.B]; have := rm (l.length + 1) (by omega); cases u.B <;> simp [this]
 have i3 : ∀ l, zab.r0 (n + 10) (l, f.fields, [x.R, x.A, x.B], (([x.R, x.A, x.B] : List Int).length : Int), 3) = some (.leave (l, f.fields, [x.R, x.A, x.B], (([x.R, x.A, x.B] : List Int).length : Int), 3)) := by
  intro l; simp [zab.r0, zab.b0]
 have l1 : (cond u.R ([] ++ [x.R]) ([] : List Int)).length ≤ 1 := by cases u.R <;> simp
 have l2 : (cond u.A (cond u.R ([] ++ [x.R]) ([] : List Int) ++ [x.A]) (cond u.R ([] ++ [x.R]) ([] : List Int))).length ≤ 2 := by cases u.R <;> cases u.A <;> simp
 show (ze (zab.r0 (n + 10)) (n + 10) _).bind _ = _
 simp only [ze]
 rw [(i0 []).resolve_right (by simp)]
 simp only [obs]
 rw [(i1 _).resolve_right (by omega)]
 simp only [obs]
 rw [(i2 _).resolve_right (by omega)]
 simp only [obs]
 rw [i3]
 simp only [obs, zlm]
 cases u.R <;> cases u.A <;> cases u.B <;> rfl
def zdo (m : zI) (r : Int) : Bool := !inB r 0 (m.Registers - 1)
theorem zzo (N : Nat) (l : List Int) (h : l.length < N) (hl : l.length < 1000000000) (m : zI) (hm : 2 ≤ m.Registers ∧ m.Registers ≤ 8) : zcf N l m = some (l.any (zdo m)) := by
 unfold zcf zai
 have c1 : ∀ r, zet r m = some (zdo m r) := fun r => by
  unfold zet zdo; rw [w6e, zoq]; rfl
 have := zde (f := zai.r0 N) (fun i => (l, (l.length : Int), (i : Int), m)) (fun i => (l[i]?).bind fun x => if zdo m x then some (i : Int) else none) l.length
  (fun i hi => by
   have hx := lge hi; simp only [zai.r0, zai.b0, zap, hx, obs, dct (show (i : Int) < (l.length : Int) by omega), ctr, c1]; rw [w6e]; cases hb : zdo m l[i] <;> simp)
  (by simp only [zai.r0, zai.b0, dcf (show ¬ (l.length : Int) < (l.length : Int) by omega), cfa]) h
 simp only [nc0] at this
 rw [this]
 simp only [obs]
 cases hfs : (List.range l.length).findSome? (fun i : Nat => (l[i]?).bind fun x => if zdo m x = true then some (i : Int) else none) with
 | some r =>
  simp only [za9, obs]; obtain ⟨i, hi, hr⟩ := eof hfs; rw [Option.bind_eq_some_iff] at hr; obtain ⟨x, hx, hr⟩ := hr; split at hr
  · rename_i hb; cases hr; have : l.any (zdo m) = true := List.any_eq_true.2 ⟨x, lmg hx, hb⟩; rw [this]; simp
  · cases hr
 | none =>
  simp only [za9, obs]; rw [List.findSome?_eq_none_iff] at hfs; have : l.any (zdo m) = false := by
   rw [List.any_eq_false]; intro x hx hb; obtain ⟨i, hi⟩ := List.getElem?_of_mem hx; have := hfs i (by simp; exact (gei hi).1); rw [hi] at this; simp [hb] at this
  rw [this]; rfl
theorem z6e (m : zI) (hm : 2 ≤ m.Registers ∧ m.Registers ≤ 8) {x : zC} {u : zN} (hu : zdy x = some u) : zhr m x = some (!(zlm x u).any (zdo m)) := by
 have c1 : ∀ r, zg9 m r = some (!zdo m r) := fun r => by
  unfold zg9 zdo; rw [w6e, zj5]; simp
 unfold zhr
 rw [hu]
 have aux : ∀ b r, (cond b [r] []).any (zdo m) = (b && zdo m r) := fun b r => by cases b <;> simp
 simp only [c1, obs, zlm, List.any_append, aux]
 generalize zdo m x.R = p
 generalize zdo m x.A = q
 generalize zdo m x.B = r
 cases u.R <;> cases u.A <;> cases u.B <;> cases p <;> cases q <;> cases r <;> rfl
def zka (x : zC) : DataType := if x.Op = 4 then x.Second else x.zD
def zem (m : zI) (c : zF) (x : zC) (u : zN) : Bool :=
 (zlm x u).any (zdo m) || ((u.Target && !inB x.Target 0 ((c.zA.length : Int) - 1)) || ((u.Mask && !inB x.Mask 1 7) || ((u.Pointer && !zjk c.Storage x.Pointer) || ((u.Source && !zjk c.Storage x.Source) ||
  ((u.Place && !zhd c.Storage x.Place (szE (zka x))) || ((u.From && !zhd c.Storage x.From (szE x.Second)) || (u.zO && !inB x.zO 0 4)))))))
theorem eD (t : DataType) : (⟨t.Kind, t.Length, t.Scale⟩ : DataType) = t := rfl
theorem eP (t : zL) : (⟨t.Based, t.Pointer, t.Offset⟩ : zL) = t := rfl
theorem eS (t : Storage) : (⟨t.Bytes, t.Tags⟩ : Storage) = t := rfl
theorem eN (t : Number) : (⟨t.N, t.Scale⟩ : Number) = t := rfl
theorem eM (t : zI) : (⟨t.Registers, t.yB, t.zZ⟩ : zI) = t := rfl
theorem eC (t : zF) : (⟨t.Storage, t.zA, t.zP⟩ : zF) = t := rfl
theorem eX (t : zC) : (⟨t.Op, t.R, t.A, t.B, t.zO, t.Place, t.From, t.zD, t.Second, t.Half, t.zK, t.Number, t.Text, t.Other, t.Mask, t.Target, t.Pointer, t.Source⟩ : zC) = t := rfl
theorem eF (t : zR) : (⟨t.fields, t.types⟩ : zR) = t := rfl
theorem nF (a b : Bool) : (cond a (some (!b)) (some false)) = some (a && !b) := by cases a <;> rfl
structure InsOk (c : zF) (x : zC) (u : zN) : Prop where
 sto : StoOk c.Storage
 len : c.zA.length < 1000000000
 pt : u.Place = true → zcb (zka x) = 0
 ft : u.From = true → zcb x.Second = 0
 po : -9223372036854775808 ≤ x.Place.Offset ∧ x.Place.Offset ≤ 9223372036854775807
 fo : -9223372036854775808 ≤ x.From.Offset ∧ x.From.Offset ≤ 9223372036854775807
theorem z1w {a b : Bool} {o : Option Bool} (h : a = true → o = some b) : (cond a o (some false)) = some (a && b) := by
 cases a
 · rfl
 · exact h rfl
theorem z4y (N : Nat) (hN : 20 < N) {m : zI} (hm : 2 ≤ m.Registers ∧ m.Registers ≤ 8) {c : zF} {x : zC} {f : zR} {u : zN} (hf : zbi x = some f) (ag : Agree f u) (ok : InsOk c x u) :
 zf4 N m c x = some (!zem m c x u) := by
 obtain ⟨n, rfl⟩ : ∃ n, N = n + 10 := ⟨N - 10, by omega⟩
 have hl : (zlm x u).length ≤ 3 := by unfold zlm; cases u.R <;> cases u.A <;> cases u.B <;> simp
 have hlen := ok.len
 have g1 : ∀ p t, (u.Place = true → zcb t = 0) → (cond u.Place ((zcn (n + 10) c.Storage p t).bind fun r => some (!r)) (some false)) = some (u.Place && !zhd c.Storage p (szE t)) := fun p t h => z1w fun hp => by rw [zyk ok.sto _ (by omega) _ (h hp)]; rfl
 have g2 : ∀ p t, (u.From = true → zcb t = 0) → (cond u.From ((zcn (n + 10) c.Storage p t).bind fun r => some (!r)) (some false)) = some (u.From && !zhd c.Storage p (szE t)) := fun p t h => z1w fun hp => by rw [zyk ok.sto _ (by omega) _ (h hp)]; rfl
 unfold zf4
 try simp only [eD, eP, eS, eM, eC, eX]
 rw [hf, z60 n hf ag]
 simp only [obs]
 rw [zzo _ _ (by omega) (by omega) m hm]
 simp only [obs]
 unfold zem
 cases hr : (zlm x u).any (zdo m) with
 | true => rfl
 | false =>
  simp only [cfa, Bool.false_or, ag.Place, ag.From, ag.Target, ag.Mask, ag.Pointer, ag.Source, ag.Calc, zh9, zct, obs]; rw [w6e]; simp only [zoq, zz5, nF, obs]
  by_cases h4 : x.Op = 4
  · have hp : zka x = x.Second := ifp h4; have k := ok.pt; rw [hp] at k ⊢; rw [g2 _ _ ok.ft]; cases hup : u.Place with
    | true =>
     simp only [h4, decide_true, Bool.and_true, ctr, Bool.true_and]; have := g1 x.Place x.Second k; rw [hup] at this; simp only [ctr, Bool.true_and] at this; rw [this]; simp only [orB, obs, Bool.or_assoc, Bool.true_and]
    | false =>
     simp only [h4, decide_true, Bool.false_and, cfa, obs, orB, Bool.or_assoc, Bool.false_or]
  · have hp : zka x = x.zD := ifn h4; have k := ok.pt; rw [hp] at k ⊢; rw [g1 _ _ k, g2 _ _ ok.ft]; simp only [h4, decide_false, Bool.and_false, cfa, obs, orB, Bool.or_assoc]
def zi4 (m : zI) (x : zC) : Bool := (decide (x.Op = 7) && !m.yB) || (x.zK && !m.zZ)
def zkv (x : zC) : Bool := decide ((x.Text.size : Int) > 256) || decide ((x.Other.size : Int) > 256)
theorem z8e (m : zI) (x : zC) (h : x.zK = true → x.Op = 4) : zgg m x = some (!zi4 m x) := by
 unfold zgg zi4
 by_cases h7 : x.Op = 7
 · have h4 : x.zK = false := by
    cases hi : x.zK with
    | false => rfl
    | true => have := h hi; omega
   rw [h4]; simp only [h7, zdq]; cases m.yB <;> rfl
 · by_cases h4 : x.Op = 4
   · simp only [h4, zdq]; cases x.zK <;> cases m.zZ <;> rfl
   · have h5 : x.zK = false := by
      cases hi : x.zK with
      | false => rfl
      | true => exact absurd (h hi) h4
     simp [h5, h7, h4, zdq]
theorem z4j (m : zI) (x : zC) : zo6 m x = some (zi4 m x) := by
 unfold zo6 zi4
 simp only [zct]
 cases decide (x.Op = 7) <;> cases m.yB <;> cases x.zK <;> cases m.zZ <;> rfl
def zkj (m : zI) (c : zF) (x : zC) (u : zN) : Int :=
 cond (zgh x u) 5 (cond (zi4 m x) 39 (if zc2 x.zD u.zD ≠ 0 then zc2 x.zD u.zD else if zc2 x.Second u.Second ≠ 0 then zc2 x.Second u.Second else
  cond (zem m c x u) 3 (if zpc x.Number ≠ 0 then zpc x.Number else cond (zkv x) 2 0)))
theorem ztd {x : zC} {u : zN} (h : zgh x u = false) : (x.zK = true → x.Op = 4) ∧ (u.Number = false → zpc x.Number = 0) := by
 unfold zgh at h
 simp only [Bool.or_eq_false_iff] at h
 obtain ⟨_, _, _, _, _, _, _, _, _, h10, h11, _⟩ := h
 constructor
 · intro hi; rw [hi] at h10; simpa using h10
 · intro hn; rw [hn] at h11; simp only [Bool.not_false, Bool.true_and, Bool.not_eq_eq_eq_not, bnt, Bool.and_eq_true, beq_iff_eq, Bool.not_eq_false'] at h11; obtain ⟨e1, e2⟩ : x.Number.N = 0 ∧ x.Number.Scale = 0 := by simpa using h11
   unfold zpc; rw [e1, e2]
   decide
theorem z8d (N : Nat) (hN : 20 < N) {m : zI} (hm : 2 ≤ m.Registers ∧ m.Registers ≤ 8) {c : zF} {x : zC} {f : zR} {u : zN} (hop : inB x.Op 0 26 = true) (hf : zbi x = some f) (ag : Agree f u)
 (ok : zc2 x.zD u.zD = 0 → zc2 x.Second u.Second = 0 → InsOk c x u) : zca N m c x = some (zkj m c x u) := by
 have f3 : ∀ a b d : Int, zas N [a, b, d] = some (zf5 [a, b, d]) := fun a b d => zt4 N _ (by simp; omega) (by simp)
 unfold zca zkj
 try simp only [eD, eP, eS, eM, eC, eX, eN, eF]
 rw [zoq, hop, hf, z61 hf ag]
 simp only [obs, bnt, cfa]
 rw [z4x N (by omega) ag]
 rw [z1b x u _ rfl]
 simp only [zpt, z23, obs, f3, orB]
 cases he : zgh x u with
 | true =>
  have hx : ∃ b, zgg m x = some b := by
   unfold zgg; cases (x.Op != 7) <;> cases m.yB <;> cases (x.Op != 4) <;> cases x.zK <;> cases m.zZ <;> exact ⟨_, rfl⟩
  obtain ⟨b, hb⟩ := hx; rw [hb]; simp [zf5]
 | false =>
  obtain ⟨h1, h2⟩ := ztd he; rw [z8e m x h1]; simp only [obs, Bool.not_not, cfa]; cases zi4 m x with
  | true => simp [zf5]
  | false =>
   simp only [cfa]
   by_cases e1 : zc2 x.zD u.zD = 0
   · by_cases e2 : zc2 x.Second u.Second = 0
     · rw [z4y N hN hm hf ag (ok e1 e2)]; simp only [e1, e2, zf5, if_true, obs, Bool.not_not]; cases zem m c x u with
       | true => simp
       | false =>
        by_cases e3 : zpc x.Number = 0
        · cases hl : zkv x with
          | true => unfold zkv at hl; simp [e3, hl]
          | false => unfold zkv at hl; simp [e3, hl]
        · simp [e3]
     · simp [zf5, e1, e2, zdq]
   · simp [zf5, e1, zdq]
theorem z7d {f : zR} {u : zN} (ag : Agree f u) : (u.zD = 0 ∨ u.zD = 1 ∨ u.zD = 2 ∨ u.zD = 3) ∧ (u.Second = 0 ∨ u.Second = 1 ∨ u.Second = 2 ∨ u.Second = 3) := by
 have h1 := ag.class1
 have h2 := ag.class2
 have h3 := ag.cls
 omega
theorem z7w {m : zI} (hm : 2 ≤ m.Registers ∧ m.Registers ≤ 8) {c : zF} {x : zC} {f : zR} {u : zN} (hop : inB x.Op 0 26 = true) (hu : zdy x = some u) (ag : Agree f u)
 (ok : zc2 x.zD u.zD = 0 → zc2 x.Second u.Second = 0 → InsOk c x u) : zff m c x = some (zkj m c x u) := by
 obtain ⟨c1, c2⟩ := z7d ag
 unfold zff zkj
 try simp only [eD, eP, eS, eM, eC, eX, eN, eF]
 rw [zj5, hop, hu]
 simp only [obs, bnt, cfa]
 rw [z4l, z4j, zuv _ _ c1, zuv _ _ c2, z6e m hm hu]
 simp only [obs]
 cases he : zgh x u with
 | true => rfl
 | false =>
  obtain ⟨h1, h2⟩ := ztd he; simp only [cfa]; cases zi4 m x with
  | true => rfl
  | false =>
   simp only [cfa]
   by_cases e1 : zc2 x.zD u.zD = 0
   · by_cases e2 : zc2 x.Second u.Second = 0
     · have o := ok e1 e2; have hlen := o.len; have hb : ∀ t, zcb t = 0 → zgj t = some (szE t) := fun t h => zpn h; have g1 : ∀ t, (u.Place = true → zcb t = 0) → (cond u.Place ((zgj t).bind fun r => (zfq c x.Place r).bind fun r => some (!r)) (some false)) = some (u.Place && !zhd c.Storage x.Place (szE t)) := fun t h => z1w fun hp => by rw [zpn (h hp)]; simp only [obs]; rw [zxu o.sto rfl _ o.po (h hp)]; rfl
       have g2 : (cond u.From ((zgj x.Second).bind fun r => (zfq c x.From r).bind fun r => some (!r)) (some false)) = some (u.From && !zhd c.Storage x.From (szE x.Second)) := z1w fun hp => by rw [zpn (o.ft hp)]; simp only [obs]; rw [zxu o.sto rfl _ o.fo (o.ft hp)]; rfl
       have k := o.pt; have kn : ∀ e : Int, (u.Number = false → e = 0) → (cond (u.Number && e != 0) (some e) (cond (zkv x) (some 2) (some 0))) = some (if e ≠ 0 then e else cond (zkv x) 2 0) := by
        intro e h
        by_cases h0 : e = 0
        · subst h0; cases u.Number <;> cases zkv x <;> rfl
        · cases hn : u.Number with
          | false => exact absurd (h hn) h0
          | true => simp [h0, zdq]
       simp only [e1, e2, bsf, cfa, ne_eq, not_true_eq_false, if_false, zct]; rw [w6e]; simp only [zj5, zz0 o.sto, z2p, nF, zh9, orB, g2, obs, ← zkv.eq_def]; unfold zem
       by_cases h4 : x.Op = 4
       · have hp : zka x = x.Second := ifp h4; rw [hp] at k ⊢; rw [g1 _ k]; simp only [h4, decide_true, ctr, obs, kn _ h2]; generalize (zlm x u).any (zdo m) = t1; generalize (u.Target && !inB x.Target 0 ((c.zA.length : Int) - 1)) = t2; generalize (u.Mask && !inB x.Mask 1 7) = t3; generalize (u.Pointer && !zjk c.Storage x.Pointer) = t4; generalize (u.Source && !zjk c.Storage x.Source) = t5; generalize (u.Place && !zhd c.Storage x.Place (szE x.Second)) = t6; generalize (u.From && !zhd c.Storage x.From (szE x.Second)) = t7; generalize (u.zO && !inB x.zO 0 4) = t8; cases t1 <;> cases t2 <;> cases t3 <;> cases t4 <;> cases t5 <;> cases t6 <;> cases t7 <;> cases t8 <;> rfl
       · have hp : zka x = x.zD := ifn h4; rw [hp] at k ⊢; rw [g1 _ k]; simp only [h4, decide_false, cfa, obs, kn _ h2]; generalize (zlm x u).any (zdo m) = t1; generalize (u.Target && !inB x.Target 0 ((c.zA.length : Int) - 1)) = t2; generalize (u.Mask && !inB x.Mask 1 7) = t3; generalize (u.Pointer && !zjk c.Storage x.Pointer) = t4; generalize (u.Source && !zjk c.Storage x.Source) = t5; generalize (u.Place && !zhd c.Storage x.Place (szE x.zD)) = t6; generalize (u.From && !zhd c.Storage x.From (szE x.Second)) = t7; generalize (u.zO && !inB x.zO 0 4) = t8; cases t1 <;> cases t2 <;> cases t3 <;> cases t4 <;> cases t5 <;> cases t6 <;> cases t7 <;> cases t8 <;> rfl
     · simp [e1, e2, zdq]
   · simp [e1, zdq]
theorem zlf {n : Nat} {c : zF} (h : Wft En n Ty.zF c) : c.Storage.Bytes.size ≤ n ∧ c.Storage.Tags.length ≤ n ∧ c.zA.length ≤ n ∧ c.zP.length ≤ n ∧ ∀ x ∈ c.zA, Wft En n Ty.zC x := by
 have h1 := h (.sc (.string c.Storage.Bytes)) (by show _ ∈ zeu c; simp [zeu])
 have h2 := h (.lst Ty.bool c.Storage.Tags) (by show _ ∈ zeu c; simp [zeu])
 have h3 := h (.lst Ty.zC c.zA) (by show _ ∈ zeu c; simp [zeu])
 have h4 := h (.lst Ty.zQ c.zP) (by show _ ∈ zeu c; simp [zeu])
 cases h1 with
 | str h1 =>
  cases h2 with
  | lst h2 _ =>
   cases h3 with
   | lst h3 h3' =>
    cases h4 with
    | lst h4 _ => exact ⟨h1, h2, h3, h4, h3'⟩
theorem zzs {n : Nat} {z : Int} (h : Wfc En n (.sc (.int .i64 z))) : -9223372036854775808 ≤ z ∧ z ≤ 9223372036854775807 := by
 cases h with
 | int h1 h2 =>
  have e1 : IntKind.i64.min = -9223372036854775808 := by decide
  have e2 : IntKind.i64.max = 9223372036854775807 := by decide
  rw [e1] at h1; rw [e2] at h2; exact ⟨h1, h2⟩
theorem z8c {n : Nat} {x : zC} (h : Wft En n Ty.zC x) : (-9223372036854775808 ≤ x.Place.Offset ∧ x.Place.Offset ≤ 9223372036854775807) ∧ (-9223372036854775808 ≤ x.From.Offset ∧ x.From.Offset ≤ 9223372036854775807) :=
 ⟨zzs (h _ (by show _ ∈ zdd x; simp [zdd])), zzs (h _ (by show _ ∈ zdd x; simp [zdd]))⟩
def zgp (m : zI) (c : zF) (x : zC) : Int := if inB x.Op 0 26 = true then zkj m c x ((zdy x).getD ⟨false, false, false, false, false, false, false, false, false, false, false, false, false, false, 0, 0⟩) else 4
theorem zy3 (N : Nat) (hN : 20 < N) {m : zI} (hm : 2 ≤ m.Registers ∧ m.Registers ≤ 8) {c : zF} (hs : StoOk c.Storage) (hlen : c.zA.length < 1000000000) {n : Nat} {x : zC} (hx : Wft En n Ty.zC x) :
 zca N m c x = some (zgp m c x) ∧ zff m c x = some (zgp m c x) := by
 obtain ⟨w1, w2⟩ := z8c hx
 unfold zgp
 by_cases hop : inB x.Op 0 26 = true
 · obtain ⟨f, u, hf, hu, ag, h4, h5, h6⟩ := zm3 x hop; have ok : zc2 x.zD u.zD = 0 → zc2 x.Second u.Second = 0 → InsOk c x u := fun e1 e2 => {
    sto := hs, len := hlen, po := w1, fo := w2,
    pt := fun hp => (by
     have := h6 hp; unfold zka; split
     · rename_i h7; rw [ifp h7] at this; exact zlj e2 this
     · rename_i h7; rw [ifn h7] at this; exact zlj e1 this),
    ft := fun hp => zlj e2 (h5 hp) }
   rw [ifp hop, hu]; exact ⟨z8d N hN hm hop hf ag ok, z7w hm hop hu ag ok⟩
 · rw [ifn hop]; have e : inB x.Op 0 26 = false := by simpa using hop
   constructor
   · unfold zca; rw [zoq, e]; rfl
   · unfold zff; rw [zj5, e]; rfl
def zis (c : zF) (t : zQ) : Bool := (inB t.From 0 t.To && (decide (t.To ≤ (c.zA.length : Int)) && (inB t.Exception 0 999 && inB t.Handler 0 ((c.zA.length : Int) - 1))))
theorem z6x (c : zF) (hlen : c.zA.length < 1000000000) (t : zQ) : zf2 c t = some (cond (zis c t) 0 3) := by
 unfold zf2 zis
 rw [w6e]
 simp only [zoq, zpt, zh9, obs, Bool.and_assoc]
 generalize (inB t.From 0 t.To && (decide (t.To ≤ (c.zA.length : Int)) && (inB t.Exception 0 999 && inB t.Handler 0 ((c.zA.length : Int) - 1)))) = b
 cases b <;> rfl
theorem z6d (c : zF) (t : zQ) : ((decide (t.From < 0) || decide (t.From > t.To)) || (decide (t.To > (c.zA.length : Int)))) = !(inB t.From 0 t.To && decide (t.To ≤ (c.zA.length : Int))) := by
 unfold inB
 by_cases h1 : t.From < 0
 · simp [h1, show ¬ (0 ≤ t.From) by omega]
 · by_cases h2 : t.From > t.To
   · simp [h1, h2, show ¬ (t.From ≤ t.To) by omega]
   · by_cases h3 : t.To > (c.zA.length : Int)
     · simp [h1, h2, h3, show ¬ (t.To ≤ (c.zA.length : Int)) by omega]
     · simp [h1, h2, h3, show (0 ≤ t.From) by omega, show (t.From ≤ t.To) by omega, show (t.To ≤ (c.zA.length : Int)) by omega]
def gI (m : zI) (c : zF) (i : Nat) : Option (Int × Int) := (c.zA[i]?).bind fun x => if zgp m c x = 0 then none else some ((i : Int), zgp m c x)
def gT (c : zF) (i : Nat) : Option (Int × Int) := (c.zP[i]?).bind fun t => if zis c t = true then none else some ((i : Int), 3)
def zmm (m : zI) (c : zF) : Int × Int :=
 match (List.range c.zA.length).findSome? (gI m c) with
 | some r => r
 | none => match (List.range c.zP.length).findSome? (gT c) with
  | some r => r
  | none => ((c.zA.length : Int), 0)
theorem z4z (N : Nat) (hN : 1048600 < N) {m : zI} (hm : 2 ≤ m.Registers ∧ m.Registers ≤ 8) {c : zF} (hs : StoOk c.Storage) (hc : Wft En 1048576 Ty.zF c) :
 ((zx (zl.r0 N) N (c.zA, (c.zA.length : Int), 0, m, c)).bind fun z10 =>
 za9 z10 (fun z => some z) (fun y9 => (zx (zl.r2 N) N (y9.2.2.2.2.zP, (y9.2.2.2.2.zP.length : Int), 0, y9.2.2.2.2)).bind fun z12 => za9 z12 (fun z =>
 some z) (fun y11 => some ((y11.2.2.2.zA.length : Int), 0)))) = some (zmm m c) := by
 obtain ⟨w1, w2, w3, w4, w5⟩ := zlf hc
 have l1 := zde (f := zl.r0 N) (fun i => (c.zA, (c.zA.length : Int), (i : Int), m, c)) (gI m c) c.zA.length
  (fun i hi => by
   have hx := lge hi; have hb := (zy3 N (by omega) hm hs (by omega) (w5 _ (List.getElem_mem hi))).1; simp only [zl.r0, zl.b0, zap, hx, obs, dct (show (i : Int) < (c.zA.length : Int) by omega), ctr, eD, eP, eS, eM, eC, eX, eN, gI, hb]; rw [w6e]
   by_cases h0 : zgp m c c.zA[i] = 0 <;> simp [h0, zdq])
  (by simp only [zl.r0, zl.b0, dcf (show ¬ (c.zA.length : Int) < (c.zA.length : Int) by omega), cfa]) (N := N) (by omega)
 have l2 := zde (f := zl.r2 N) (fun i => (c.zP, (c.zP.length : Int), (i : Int), c)) (gT c) c.zP.length
  (fun i hi => by
   have hx := lge hi; simp only [zl.r2, zl.b2, zap, hx, obs, dct (show (i : Int) < (c.zP.length : Int) by omega), ctr, gT, z6x c (by omega)]; rw [w6e]; cases zis c c.zP[i] <;> simp)
  (by simp only [zl.r2, zl.b2, dcf (show ¬ (c.zP.length : Int) < (c.zP.length : Int) by omega), cfa]) (N := N) (by omega)
 simp only [nc0] at l1 l2
 rw [l1]
 unfold zmm
 simp only [obs]
 cases (List.range c.zA.length).findSome? (gI m c) with
 | some r => rfl
 | none =>
  simp only [za9]; rw [l2]; simp only [obs]; cases (List.range c.zP.length).findSome? (gT c) <;> rfl
theorem zqi (N : Nat) (hN : 1048600 < N) {m : zI} (hm : 2 ≤ m.Registers ∧ m.Registers ≤ 8) {c : zF} (hs : StoOk c.Storage) (hc : Wft En 1048576 Ty.zF c) :
 ((zx (zaa.r1 N) N (0, m, c)).bind fun z6 =>
 za9 z6 (fun z => some z) (fun y5 => (zx (zaa.r3 N) N (0, y5.2.2)).bind fun z8 => za9 z8 (fun z => some z) (fun y7 =>
 some ((y7.2.zA.length : Int), 0)))) = some (zmm m c) := by
 obtain ⟨w1, w2, w3, w4, w5⟩ := zlf hc
 have l1 := zde (f := zaa.r1 N) (fun i => ((i : Int), m, c)) (gI m c) c.zA.length
  (fun i hi => by
   have hx := lge hi; have hb := (zy3 N (by omega) hm hs (by omega) (w5 _ (List.getElem_mem hi))).2; simp only [zaa.r1, zaa.b1, zap, hx, obs, dct (show (i : Int) < (c.zA.length : Int) by omega), ctr, eD, eP, eS, eM, eC, eX, eN, gI, hb]; rw [w6e]
   by_cases h0 : zgp m c c.zA[i] = 0 <;> simp [h0, zdq])
  (by simp only [zaa.r1, zaa.b1, dcf (show ¬ (c.zA.length : Int) < (c.zA.length : Int) by omega), cfa]) (N := N) (by omega)
 have l2 := zde (f := zaa.r3 N) (fun i => ((i : Int), c)) (gT c) c.zP.length
  (fun i hi => by
   have hx := lge hi; simp only [zaa.r3, zaa.b3, zap, hx, obs, dct (show (i : Int) < (c.zP.length : Int) by omega), ctr, gT, orB, zj5, z6d]; rw [w6e (n := (i : Int) + 1), w6e (n := (c.zA.length : Int) - 1)]; have bl : ∀ a b d e : Bool, ((!(a && b) || !d) || !e) = !(a && (b && (d && e))) := fun a b d e => by cases a <;> cases b <;> cases d <;> cases e <;> rfl
   simp only [zj5, obs, orB, bl, ← zis.eq_def]; cases zis c c.zP[i] <;> simp)
  (by simp only [zaa.r3, zaa.b3, dcf (show ¬ (c.zP.length : Int) < (c.zP.length : Int) by omega), cfa]) (N := N) (by omega)
 simp only [nc0] at l1 l2
 rw [l1]
 unfold zmm
 simp only [obs]
 cases (List.range c.zA.length).findSome? (gI m c) with
 | some r => rfl
 | none =>
  simp only [za9]; rw [l2]; simp only [obs]; cases (List.range c.zP.length).findSome? (gT c) <;> rfl
theorem z8v (n lo hi : Int) : zdn n lo hi = some (inB n lo hi) := by
 unfold zdn inB
 cases decide (lo ≤ n) <;> rfl
theorem znq {b : ByteArray} {i : Int} (h0 : 0 ≤ i) (h1 : i < (b.size : Int)) : ∃ x, zn8 b i = some x := by
 unfold zn8
 rw [ifp h0]
 exact ⟨_, getElem?_pos b i.toNat (by omega)⟩
theorem zro (N : Nat) (b : ByteArray) (h : b.size < N) (hb : b.size < 1000) : ∃ x, zbo N b = some x := by
 unfold zbo
 obtain ⟨s', h1, _⟩ := zfb (f := zbo.r0 N) (fun i s => ∃ a : Int, s = (b, a, (b.size : Int), (i : Int))) b.size
  (fun i s hi hs => by
   obtain ⟨a, rfl⟩ := hs; obtain ⟨x, hx⟩ := znq (b := b) (i := (i : Int)) (by omega) (by omega); simp only [zbo.r0, zbo.b0, dct (show (i : Int) < (b.size : Int) by omega), ctr, hx, obs]; rw [w6e (n := (i : Int) + 1)]; exact ⟨_, rfl, _, rfl⟩)
  (fun s hs => by
   obtain ⟨a, rfl⟩ := hs; simp only [zbo.r0, zbo.b0, dcf (show ¬ (b.size : Int) < (b.size : Int) by omega), cfa]; exact ⟨_, rfl, _, rfl⟩) h (s := (b, 0, (b.size : Int), 0)) ⟨0, rfl⟩
 rw [h1]
 exact ⟨_, rfl⟩
theorem zxv (N : Nat) (b : ByteArray) (hb : b.size = 16) (k n : Nat) (hn : k + n ≤ 16) (hN : 20 < N) : ∃ x, zeb N b (k : Int) (n : Int) = some x := by
 unfold zeb
 obtain ⟨s', h1, _⟩ := zfb (f := zeb.r0 N) (fun i s => ∃ a : Int, s = (b, (k : Int), (n : Int), a, (i : Int))) n
  (fun i s hi hs => by
   obtain ⟨a, rfl⟩ := hs; obtain ⟨x, hx⟩ := znq (b := b) (i := (k : Int) + (i : Int)) (by omega) (by omega); simp only [zeb.r0, zeb.b0, dct (show (i : Int) < (n : Int) by omega), ctr]; rw [w6e (n := (k : Int) + (i : Int)), hx, w6e (n := (i : Int) + 1)]; exact ⟨_, rfl, _, rfl⟩)
  (fun s hs => by
   obtain ⟨a, rfl⟩ := hs; simp only [zeb.r0, zeb.b0, dcf (show ¬ (n : Int) < (n : Int) by omega), cfa]; exact ⟨_, rfl, _, rfl⟩) (N := N) (by omega) (s := (b, (k : Int), (n : Int), 0, 0)) ⟨0, rfl⟩
 rw [h1]
 exact ⟨_, rfl⟩
theorem z4d (p : Pointer) : ∃ e, zer p = some e := by
 unfold zer
 simp only [z8v, obs, zh9]
 generalize inB p.Kind 0 2 = a
 generalize inB p.Address.yC 0 1099511627775 = b
 generalize inB p.Address.Offset 0 16777215 = c
 generalize inB p.Authority 0 1023 = d
 generalize (p.Authority != 0 && p.Kind != 1) = e
 cases a <;> cases b <;> cases c <;> cases d <;> cases e <;> exact ⟨_, rfl⟩
theorem z4m (p : Pointer) : ∃ e, zk2 p = some e := by
 unfold zk2
 simp only [zj5, obs, zh9, orB]
 generalize inB p.Kind 0 2 = a
 generalize inB p.Address.yC 0 1099511627775 = b
 generalize inB p.Address.Offset 0 16777215 = c
 generalize inB p.Authority 0 1023 = d
 generalize (p.Kind != 1 && p.Authority != 0) = e
 cases a <;> cases b <;> cases c <;> cases d <;> cases e <;> exact ⟨_, rfl⟩
theorem zlw (b : ByteArray) (i j : Nat) (h : j ≤ b.size) (hij : i ≤ j) : (b.extract i j).size = j - i := by
 rw [ByteArray.size_extract]
 omega
theorem z0s (N : Nat) (hN : 20 < N) (b : ByteArray) (hb : b.size = 16) : ∃ r, zf1 N b = some r := by
 obtain ⟨x1, h1⟩ := znq (b := b) (i := 1) (by omega) (by omega)
 obtain ⟨x0, h0⟩ := znq (b := b) (i := 0) (by omega) (by omega)
 have z1 : (b.extract (2 : Int).toNat (4 : Int).toNat).size = 2 := zlw b 2 4 (by omega) (by omega)
 have z2 : (b.extract (4 : Int).toNat (10 : Int).toNat).size = 6 := zlw b 4 10 (by omega) (by omega)
 have z3 : (b.extract (10 : Int).toNat b.size).size = 6 := (zlw b 10 b.size (by omega) (by omega)).trans (by omega)
 obtain ⟨n1, e1⟩ := zro N _ (by omega : (b.extract (2 : Int).toNat (4 : Int).toNat).size < N) (by omega)
 obtain ⟨n2, e2⟩ := zro N _ (by omega : (b.extract (4 : Int).toNat (10 : Int).toNat).size < N) (by omega)
 obtain ⟨n3, e3⟩ := zro N _ (by omega : (b.extract (10 : Int).toNat b.size).size < N) (by omega)
 unfold zf1
 rw [show ((b.size : Int) != 16) = false by rw [hb]; rfl]
 simp only [cfa, h1, h0, obs]
 cases ((x1.toNat : Int) != 0) with
 | true => exact ⟨_, rfl⟩
 | false =>
  simp only [cfa]; rw [ifp, ifp, e1]; simp only [obs]; rw [ifp, ifp, e2]; simp only [obs]; rw [ifp, e3]; simp only [obs]; obtain ⟨e, he⟩ := z4d (⟨(w6 (x0.toNat : Int)), (⟨n2, n3⟩ : Address), n1⟩ : Pointer); rw [he]; simp only [obs]; cases (e != 0) <;> exact ⟨_, rfl⟩
theorem z03 (N : Nat) (hN : 20 < N) (b : ByteArray) (hb : b.size = 16) : ∃ r, ztr N b = some r := by
 obtain ⟨x1, h1⟩ := znq (b := b) (i := 1) (by omega) (by omega)
 obtain ⟨x0, h0⟩ := znq (b := b) (i := 0) (by omega) (by omega)
 obtain ⟨n1, e1⟩ := zxv N b hb 2 2 (by omega) hN
 obtain ⟨n2, e2⟩ := zxv N b hb 4 6 (by omega) hN
 obtain ⟨n3, e3⟩ := zxv N b hb 10 6 (by omega) hN
 have e1' : zeb N b 2 2 = some n1 := e1
 have e2' : zeb N b 4 6 = some n2 := e2
 have e3' : zeb N b 10 6 = some n3 := e3
 unfold ztr
 rw [show ((b.size : Int) != 16) = false by rw [hb]; rfl]
 simp only [cfa, h1, h0, obs]
 cases ((x1.toNat : Int) != 0) with
 | true => exact ⟨_, rfl⟩
 | false =>
  simp only [cfa, e1', e2', e3', obs]; obtain ⟨e, he⟩ := z4m (⟨(w6 (x0.toNat : Int)), (⟨n2, n3⟩ : Address), n1⟩ : Pointer); rw [he]; simp only [obs]; cases (e != 0) <;> exact ⟨_, rfl⟩
theorem zti (N : Nat) (hN : 2000 < N) (s : Storage) : ∃ i1 e1 e2, zaj N s = some (i1, e1) ∧ zok N s = some e2 ∧
 ((e1 = e2 ∧ e1 ≠ 0) ∨ (StoOk s ∧ s.Tags.length ≤ 64 ∧ (e1 = 0 ∨ (e1 = 22 ∧ true ∈ s.Tags)) ∧ (e2 = 0 ∨ (e2 = 22 ∧ true ∈ s.Tags)))) := by
 unfold zaj zok zec
 try simp only [eS]
 by_cases h1 : (s.Bytes.size : Int) > 1024
 · rw [dct h1]; exact ⟨_, _, _, rfl, rfl, .inl ⟨rfl, by decide⟩⟩
 · rw [dcf h1]; have hm : (s.Bytes.size : Int).tmod 16 = (s.Bytes.size : Int) % 16 := tme; have hd : (s.Bytes.size : Int).tdiv 16 = (s.Bytes.size : Int) / 16 := tde
   by_cases h2 : (s.Bytes.size : Int) % 16 = 0
   · rw [hm, hd, w6e]
     by_cases h3 : (s.Tags.length : Int) = (s.Bytes.size : Int) / 16
     · rw [show (((s.Bytes.size : Int) % 16) != 0) = false by rw [h2]; rfl, show ((s.Tags.length : Int) != (s.Bytes.size : Int) / 16) = false by rw [← h3]; exact bsf _]; simp only [cfa]; have ok : StoOk s := ⟨by omega, by omega⟩; have hw : ∀ i : Nat, i < s.Tags.length → w6 ((i : Int) * 16) = (i : Int) * 16 ∧ w6 ((i : Int) * 16 + 16) = (i : Int) * 16 + 16 := fun i hi => ⟨w6e, w6e⟩; have hx : ∀ i : Nat, i < s.Tags.length → (s.Bytes.extract ((i : Int) * 16).toNat ((i : Int) * 16 + 16).toNat).size = 16 := fun i hi => by
        rw [zlw _ _ _ (by omega) (by omega)]; omega
       have l1 := zpf (f := zaj.r1 N) (fun i t => t = (s.Tags, (s.Tags.length : Int), (i : Int), s)) (fun r => r.2 = 22 ∧ true ∈ s.Tags) s.Tags.length
        (fun i t hi ht => by
         subst ht; obtain ⟨w1, w2⟩ := hw i hi; have hx1 := lge hi; simp only [zaj.r1, zaj.b1, zap, hx1, obs, dct (show (i : Int) < (s.Tags.length : Int) by omega), ctr]; rw [w6e (n := (i : Int) + 1)]; cases hb : s.Tags[i] with
         | false => exact .inl ⟨_, rfl, rfl⟩
         | true =>
          simp only [bnt, cfa, w1, w2]; rw [ifp, ifp]; obtain ⟨r, hr⟩ := z0s N (by omega) _ (hx i hi); rw [hr]; simp only [obs]; cases (r.2 != 0) with
          | true => exact .inr ⟨_, rfl, rfl, by rw [← hb]; exact List.getElem_mem hi⟩
          | false => exact .inl ⟨_, rfl, rfl⟩)
        (fun t ht => by
         subst ht; exact ⟨_, by simp only [zaj.r1, zaj.b1, dcf (show ¬ (s.Tags.length : Int) < (s.Tags.length : Int) by omega), cfa], rfl⟩) (N := N) (by omega) (s := (s.Tags, (s.Tags.length : Int), 0, s)) rfl
       have l2 := zpf (f := zec.r0 N) (fun i t => t = ((s.Bytes.size : Int) / 16, (i : Int), s)) (fun r => r.2 = 22 ∧ true ∈ s.Tags) s.Tags.length
        (fun i t hi ht => by
         subst ht; obtain ⟨w1, w2⟩ := hw i hi; have hx1 := lge hi; simp only [zec.r0, zec.b0, zap, hx1, obs, dct (show (i : Int) < (s.Bytes.size : Int) / 16 by omega), ctr]; rw [w6e (n := (i : Int) + 1)]; cases hb : s.Tags[i] with
         | false => exact .inl ⟨_, rfl, rfl⟩
         | true =>
          simp only [ctr, zu0, w1, w2]; rw [ifp, ifp]; simp only [obs]; obtain ⟨r, hr⟩ := z03 N (by omega) _ (hx i hi); rw [hr]; simp only [obs]; cases (r.2 != 0) with
          | true => exact .inr ⟨_, rfl, rfl, by rw [← hb]; exact List.getElem_mem hi⟩
          | false => exact .inl ⟨_, rfl, rfl⟩)
        (fun t ht => by
         subst ht; exact ⟨_, by simp only [zec.r0, zec.b0, dcf (show ¬ (s.Tags.length : Int) < (s.Bytes.size : Int) / 16 by omega), cfa], rfl⟩) (N := N) (by omega) (s := ((s.Bytes.size : Int) / 16, 0, s)) rfl
       have r1 : ∃ i1 e1, ((zx (zaj.r1 N) N (s.Tags, (s.Tags.length : Int), 0, s)).bind fun z2 => za9 z2 (fun z => some z) (fun y1 => some ((y1.2.2.2.Tags.length : Int), (0 : Int)))) = some (i1, e1) ∧ (e1 = 0 ∨ (e1 = 22 ∧ true ∈ s.Tags)) := by
        rcases l1 with ⟨t, g1, _⟩ | ⟨r, g1, g2⟩
        · rw [g1]; exact ⟨_, _, rfl, .inl rfl⟩
        · rw [g1]; exact ⟨r.1, r.2, rfl, .inr g2⟩
       have r2 : ∃ e2, ((((zx (zec.r0 N) N ((s.Bytes.size : Int) / 16, 0, s)).bind fun z2 => za9 z2 (fun z => some z) (fun y1 => some (y1.1, (0 : Int)))).bind fun r1 => some r1.2) = some e2) ∧ (e2 = 0 ∨ (e2 = 22 ∧ true ∈ s.Tags)) := by
        rcases l2 with ⟨t, g1, _⟩ | ⟨r, g1, g2⟩
        · rw [g1]; exact ⟨_, rfl, .inl rfl⟩
        · rw [g1]; exact ⟨r.2, rfl, .inr g2⟩
       obtain ⟨i1, e1, g1, g2⟩ := r1; obtain ⟨e2, g3, g4⟩ := r2; exact ⟨i1, e1, e2, g1, g3, .inr ⟨ok, by omega, g2, g4⟩⟩
     · rw [show (((s.Bytes.size : Int) % 16) != 0) = false by rw [h2]; rfl, show ((s.Tags.length : Int) != (s.Bytes.size : Int) / 16) = true by rw [zdq]; exact dct h3]; exact ⟨_, _, _, rfl, rfl, .inl ⟨rfl, by decide⟩⟩
   · rw [hm, show (((s.Bytes.size : Int) % 16) != 0) = true by rw [zdq]; exact dct h2]; exact ⟨_, _, _, rfl, rfl, .inl ⟨rfl, by decide⟩⟩
theorem z6y (N : Nat) (l : List Bool) (h : l.length < N) (hl : l.length < 1000000000) : zee N l true = some (l.contains true) := by
 unfold zee zbe
 have := zde (f := zbe.r0 N) (fun i => (l, true, (l.length : Int), (i : Int))) (fun i => (l[i]?).bind fun x => if x = true then some (i : Int) else none) l.length
  (fun i hi => by
   have hx := lge hi; simp only [zbe.r0, zbe.b0, zap, hx, obs, dct (show (i : Int) < (l.length : Int) by omega), ctr]; rw [w6e]; cases hb : l[i] <;> simp)
  (by simp only [zbe.r0, zbe.b0, dcf (show ¬ (l.length : Int) < (l.length : Int) by omega), cfa]) h
 simp only [nc0] at this
 rw [this]
 simp only [obs]
 cases hfs : (List.range l.length).findSome? (fun i : Nat => (l[i]?).bind fun x => if x = true then some (i : Int) else none) with
 | some r =>
  simp only [za9, obs]; obtain ⟨i, hi, hr⟩ := eof hfs; rw [Option.bind_eq_some_iff] at hr; obtain ⟨x, hx, hr⟩ := hr; split at hr
  · rename_i hb; cases hr; have : l.contains true = true := by rw [List.contains_iff_mem, ← hb]; exact lmg hx
    rw [this]; simp
  · cases hr
 | none =>
  simp only [za9, obs]; rw [List.findSome?_eq_none_iff] at hfs; have : l.contains true = false := by
   rw [Bool.eq_false_iff]; intro hc; rw [List.contains_iff_mem] at hc; obtain ⟨i, hi⟩ := List.getElem?_of_mem hc; have := hfs i (by simp; exact (gei hi).1); rw [hi] at this; simp at this
  rw [this]; rfl
theorem zvu (N : Nat) (s : Storage) (h : s.Tags.length ≤ 64) (hN : 2000 < N) : ∃ l, zcg N s = some l ∧ (decide ((l.length : Int) > 0)) = s.Tags.contains true := by
 unfold zcg
 obtain ⟨s', h1, l, h2, h3, h4⟩ := zfb (f := zcg.r0 N) (fun i t => ∃ l : List Int, t = (l, (i : Int), s) ∧ l.length ≤ i ∧ (decide ((l.length : Int) > 0)) = (s.Tags.take i).contains true) s.Tags.length
  (fun i t hi ht => by
   obtain ⟨l, rfl, h3, h4⟩ := ht; have hx := lge hi; have rm : Nat.ble ((l.length + ([(w6 ((i : Int) * 16))] : List Int).length) * 8) zal = true := Nat.ble_eq_true_of_le (by unfold zal; simp; omega); simp only [zcg.r0, zcg.b0, zap, hx, obs, dct (show (i : Int) < (s.Tags.length : Int) by omega), ctr, rm]; rw [w6e (n := (i : Int) + 1)]; have tk : s.Tags.take (i + 1) = s.Tags.take i ++ [s.Tags[i]] := by rw [List.take_add_one, hx]; rfl
   cases hb : s.Tags[i] with
   | true => exact ⟨_, rfl, _, rfl, by simp; omega, by rw [tk, hb]; simp⟩
   | false => exact ⟨_, rfl, _, rfl, by omega, by rw [tk, hb, h4]; simp⟩)
  (fun t ht => by
   obtain ⟨l, rfl, h3, h4⟩ := ht; simp only [zcg.r0, zcg.b0, dcf (show ¬ (s.Tags.length : Int) < (s.Tags.length : Int) by omega), cfa]; exact ⟨_, rfl, l, rfl, h3, h4⟩) (N := N) (by omega) (s := ([], 0, s)) ⟨[], rfl, by simp, by simp⟩
 rw [h1, h2]
 exact ⟨l, rfl, by rw [h4, List.take_length]⟩
theorem zx7 {c : zF} (hc : Wft En 1048576 Ty.zF c) : zgn c = some c := by
 obtain ⟨w1, w2, w3, w4, w5⟩ := zlf hc
 unfold zgn zhy zil
 rw [show Nat.ble (c.Storage.Tags.length * 1) zal = true from Nat.ble_eq_true_of_le (by unfold zal; omega), show Nat.ble (c.zA.length * 224) zal = true from Nat.ble_eq_true_of_le (by unfold zal; omega), show Nat.ble (c.zP.length * 32) zal = true from Nat.ble_eq_true_of_le (by unfold zal; omega)]
 rfl
theorem z3q (N : Nat) (hN : 1048600 < N) (m : zI) {c : zF} (hc : Wft En 1048576 Ty.zF c) : ∃ r, zl N m c = some r ∧ zaa N m c = some r := by
 obtain ⟨e, he1, he2, he3⟩ := zqv m
 obtain ⟨i1, e1, e2, hs1, hs2, hs⟩ := zti N (by omega) c.Storage
 obtain ⟨w1, w2, w3, w4, w5⟩ := zlf hc
 have f3 : ∀ a b d : Int, zas N [a, b, d] = some (zf5 [a, b, d]) := fun a b d => zt4 N _ (by simp; omega) (by simp)
 unfold zl zaa
 try simp only [eS, eM, eC]
 rw [he1, he2, hs1, hs2]
 simp only [obs]
 by_cases h0 : e = 0
 · subst h0; have hm := he3 rfl; simp only [bsf, cfa]; rcases hs with ⟨rfl, hs⟩ | ⟨ok, htl, hs3, hs4⟩
   · rw [show (e1 != 0) = true by rw [zdq]; exact dct hs]; exact ⟨_, rfl, rfl⟩
   · obtain ⟨l, hl1, hl2⟩ := zvu N c.Storage htl (by omega); rw [z6y N _ (by omega) (by omega), hl1]; simp only [obs, zpt, f3, orB, hl2]
     by_cases ht : c.Storage.Tags.contains true = true
     · rw [ht]; refine ⟨(0, 22), ?_, ?_⟩
       · rcases hs3 with rfl | ⟨rfl, _⟩
         · simp [zf5]
         · rfl
       · rcases hs4 with rfl | ⟨rfl, _⟩
         · rfl
         · rfl
     · have ht' : c.Storage.Tags.contains true = false := by simpa using ht
       have hn : ¬ true ∈ c.Storage.Tags := fun hh => ht (List.contains_iff_mem.2 hh); obtain rfl : e1 = 0 := hs3.resolve_right fun hh => hn hh.2; obtain rfl : e2 = 0 := hs4.resolve_right fun hh => hn hh.2; rw [ht']; have hl1 := z4z N hN hm ok hc; have hl2 := zqi N hN hm ok hc
       by_cases hz : (c.zA.length : Int) = 0
       · refine ⟨(0, 1), ?_, ?_⟩
         · simp [zf5, hz]
         · simp [hz]
       · cases hbig : (decide ((c.zA.length : Int) > 240) || decide ((c.zP.length : Int) > 40)) with
         | true =>
          refine ⟨(0, 2), ?_, ?_⟩
          · simp only [bsf, cfa, ctr, obs, zct, dcf hz, zf5, if_true]; rfl
          · simp only [bsf, cfa, ctr, obs, zct, dcf hz]
         | false =>
          refine ⟨zmm m c, ?_, ?_⟩
          · rw [← hl1]; simp only [bsf, cfa, obs, zct, dcf hz, zf5, if_true]
          · rw [← hl2]; simp only [bsf, cfa, obs, zct, dcf hz]
 · rw [show (e != 0) = true by rw [zdq]; exact dct h0]; exact ⟨_, rfl, rfl⟩
theorem z3f (N : Nat) (hN : 1048600 < N) {c : zF} (hc : Wft En 1048576 Ty.zF c) : ∃ b, zbz N c = some b := by
 obtain ⟨w1, w2, w3, w4, w5⟩ := zlf hc
 unfold zbz
 have ft : ∀ s, ∃ b, zd7 s = some b := fun s => by
  unfold zd7; cases decide ((s.Bytes.size : Int) ≤ 1072) <;> exact ⟨_, rfl⟩
 have e1 : ∀ i : Nat, i ≤ c.zA.length → (cond (decide ((i : Int) < (c.zA.length : Int))) (some (decide ((i : Int) < 244))) (some false)) = some (decide ((i : Int) < (c.zA.length : Int)) && decide ((i : Int) < 244)) := fun i _ => zh9 _ _
 have l1 := zpf (f := zbz.r0 N) (fun i t => t = ((i : Int), c)) (fun r => True) (min c.zA.length 244)
  (fun i t hi ht => by
   subst ht; have hlt : i < c.zA.length := by omega
   have hx := lge hlt; simp only [zbz.r0, zbz.b0, zh9, obs, dct (show (i : Int) < (c.zA.length : Int) by omega), dct (show (i : Int) < 244 by omega), Bool.and_self, ctr, zap, hx, orB]; rw [w6e (n := (i : Int) + 1)]; cases (decide ((c.zA[i].Text.size : Int) > 300) || decide ((c.zA[i].Other.size : Int) > 300)) with
   | true => exact .inr ⟨_, rfl, trivial⟩
   | false => exact .inl ⟨_, rfl, rfl⟩)
  (fun t ht => by
   subst ht; have e : (decide (((min c.zA.length 244 : Nat) : Int) < (c.zA.length : Int)) && decide (((min c.zA.length 244 : Nat) : Int) < 244)) = false := by
    by_cases h : c.zA.length < 244
    · rw [dcf (show ¬ ((min c.zA.length 244 : Nat) : Int) < (c.zA.length : Int) by omega)]; rfl
    · rw [dcf (show ¬ ((min c.zA.length 244 : Nat) : Int) < 244 by omega)]; simp
   simp only [zbz.r0, zbz.b0, zh9, obs, e, cfa]; exact ⟨_, rfl, rfl⟩) (N := N) (by omega) (s := (0, c)) rfl
 rcases l1 with ⟨t, g1, _⟩ | ⟨r, g1, _⟩
 · rw [g1]; simp only [obs, za9]; obtain ⟨b, hb⟩ := ft t.2.Storage; rw [hb]; simp only [obs, zh9]; exact ⟨_, rfl⟩
 · rw [g1]; exact ⟨_, rfl⟩
theorem z6k {m : zI} {c : zF} {n : Int} (h : zmm m c = (n, 0)) : ∀ x ∈ c.zA, zgp m c x = 0 := by
 intro x hx
 refine cbc fun h0 => ?_
 unfold zmm at h
 obtain ⟨i, hi⟩ := List.getElem?_of_mem hx
 cases hf : (List.range c.zA.length).findSome? (gI m c) with
 | none =>
  rw [List.findSome?_eq_none_iff] at hf; have := hf i (by simp; exact (gei hi).1); unfold gI at this; rw [hi] at this; simp [h0] at this
 | some r =>
  rw [hf] at h; simp only at h; subst h; obtain ⟨j, _, hj⟩ := eof hf; unfold gI at hj; rw [Option.bind_eq_some_iff] at hj; obtain ⟨y, _, hy⟩ := hj
  by_cases h1 : zgp m c y = 0
  · simp [h1] at hy
  · rw [ifn h1] at hy; simp only [Option.some.injEq, Prod.mk.injEq] at hy; exact h1 hy.2
theorem zvq {α σ : Type} {f : σ → Option (Round Int σ)} (l : List α) (p : α → Bool) (S : Nat → σ) (hstep : ∀ i x, l[i]? = some x → f (S i) = some (cond (p x) (.result (i : Int)) (.again (S (i + 1)))))
 (hl : f (S l.length) = some (.leave (S l.length))) {N : Nat} (hN : l.length < N) : zx f N (S 0) = some (match l.findIdx? p with | some i => .inl (i : Int) | none => .inr (S l.length)) := by
 have := zde (f := f) S (fun i => (l[i]?).bind fun x => if p x = true then some (i : Int) else none) l.length (fun i hi => by
  have hx := lge hi; rw [hstep i _ hx]; simp only [hx, obs]; cases hb : p l[i] <;> simp) hl hN
 rw [this]
 congr 1
 have key : (List.range l.length).findSome? (fun i : Nat => (l[i]?).bind fun x => if p x = true then some (i : Int) else none) = (l.findIdx? p).map (fun i => (i : Int)) := by
  cases hf : l.findIdx? p with
  | none =>
   rw [List.findIdx?_eq_none_iff] at hf; rw [List.findSome?_eq_none_iff.2]
   · rfl
   · intro i hi; have hi' : i < l.length := by simpa using hi
     have h9 := hf _ (List.getElem_mem hi'); rw [lge hi', obs, ifn (by simp [h9])]
  | some k =>
   rw [List.findIdx?_eq_some_iff_getElem] at hf; obtain ⟨hk, h1, h2⟩ := hf; show _ = some (k : Int); have : (List.range l.length).findSome? (fun i : Nat => (l[i]?).bind fun x => if p x = true then some (i : Int) else none) = some (k : Int) := by
    rw [List.findSome?_eq_some_iff]; refine ⟨List.range k, k, (List.range' (k + 1) (l.length - (k + 1))), ?_, ?_, ?_⟩
    · apply List.ext_getElem
      · simp; omega
      · intro i h3 h4; rw [List.getElem_append]; split
        · simp
        · rename_i h5; have h5' : k ≤ i := by simpa using h5
          by_cases e : i = k
          · subst e; simp
          · have : i - k ≠ 0 := by omega
            rw [List.getElem_cons]; simp [this]; omega
    · rw [lge hk]; simp [h1]
    · intro x hx; have hx' : x < k := by simpa using hx
      rw [lge (by omega)]; have := h2 x hx'; simp [this]
   rw [this]
 rw [key]
 cases l.findIdx? p <;> rfl
theorem ztb {α : Type} (l : List α) (p : α → Bool) : (l.findIdx? p).isSome = l.any p := by
 cases h : l.findIdx? p with
 | none =>
  rw [List.findIdx?_eq_none_iff] at h
  symm
  simp only [Option.isSome_none, List.any_eq_false]; intro x hx; simp [h x hx]
 | some k =>
  rw [List.findIdx?_eq_some_iff_getElem] at h; obtain ⟨hk, h1, h2⟩ := h
  symm
  simp only [Option.isSome_some, List.any_eq_true]; exact ⟨_, List.getElem_mem hk, h1⟩
theorem zsb {α β σ : Type} {f : σ → Option (Stp σ)} (l : List α) (g : α → Option β) (S : Nat → List β → σ) (hstep : ∀ i x acc, l[i]? = some x → acc.length ≤ i → f (S i acc) = some (.again (S (i + 1) (acc ++ (g x).toList))))
 (hl : ∀ acc, f (S l.length acc) = some (.leave (S l.length acc))) {N : Nat} (hN : l.length < N) : ze f N (S 0 []) = some (S l.length (l.filterMap g)) := by
 have e0 : ∀ i, ((l.take i).filterMap g).length ≤ i := fun i => Nat.le_trans (List.length_filterMap_le _ _) (by simp; omega)
 have := zdf (f := f) (fun i => S i ((l.take i).filterMap g)) l.length (fun i hi => by
  have hx := lge hi; rw [hstep i _ _ hx (e0 i), List.take_add_one, hx, List.filterMap_append]
  congr 3) (hl _) hN
 simpa using this
theorem zw5 {α σ : Type} {f : σ → Option (Stp σ)} (l : List α) (p : α → Bool) (S : List α → Nat → Nat → σ)
 (hstep : ∀ s i j x, s[j]? = some x → i < j → s.length = l.length → x ∈ l → f (S s i j) = some (.again (cond (p x) (S s i (j + 1)) (S (s.set i x) (i + 1) (j + 1)))))
 (hl : ∀ s i, s.length = l.length → i ≤ l.length → f (S s i l.length) = some (.leave (S s i l.length))) {k : Nat} (hk : l.findIdx? p = some k) {N : Nat} (hN : l.length < N) :
 ∃ s i, ze f N (S l k (k + 1)) = some (S s i l.length) ∧ s.length = l.length ∧ i ≤ l.length ∧ s.take i = l.filter (fun x => !p x) := by
 rw [List.findIdx?_eq_some_iff_getElem] at hk
 obtain ⟨hkl, h1, h2⟩ := hk
 have first : l.take k = (l.take (k + 1)).filter (fun x => !p x) := by
  rw [List.take_add_one, lge hkl, List.filter_append]; simp only [Option.toList_some, List.filter_cons, h1, bnt, Bool.false_eq_true, if_false, List.filter_nil, List.append_nil]
  symm
  rw [List.filter_eq_self]; intro x hx; obtain ⟨j, hj, rfl⟩ := List.mem_take_iff_getElem.1 hx; have := h2 j (by omega); simpa using this
 let I : Nat → σ → Prop := fun t q => ∃ s i, q = S s i (k + 1 + t) ∧ s.length = l.length ∧ i < k + 1 + t ∧ (∀ j, k + 1 + t ≤ j → s[j]? = l[j]?) ∧ s.take i = (l.take (k + 1 + t)).filter (fun x => !p x)
 obtain ⟨q, hq, hI⟩ := zfb (f := f) I (l.length - (k + 1)) (by
  rintro t q ht ⟨s, i, rfl, hs, hi, hsame, htake⟩
  have hlt : k + 1 + t < l.length := by omega
  have hx := lge hlt; have hsx : s[k + 1 + t]? = some l[k + 1 + t] := by rw [hsame _ (Nat.le_refl _), hx]
  refine ⟨_, hstep s i _ _ hsx hi hs (List.getElem_mem hlt), ?_⟩; cases hp : p l[k + 1 + t] with
  | true =>
   refine ⟨s, i, rfl, hs, by omega, fun j hj => hsame j (by omega), ?_⟩; rw [htake, ← Nat.add_assoc, List.take_add_one, hx, List.filter_append]; simp [hp]
  | false =>
   refine ⟨s.set i l[k + 1 + t], i + 1, rfl, by simpa using hs, by omega, fun j hj => ?_, ?_⟩
   · rw [List.getElem?_set_ne (by omega)]; exact hsame j (by omega)
   · rw [List.take_add_one, List.getElem?_set_self (by omega), List.take_set_of_le (Nat.le_refl _), htake, ← Nat.add_assoc, List.take_add_one, hx, List.filter_append]; simp [hp])
  (by
   rintro q ⟨s, i, rfl, hs, hi, hsame, htake⟩
   have e : k + 1 + (l.length - (k + 1)) = l.length := by omega
   rw [e] at hi htake ⊢; exact ⟨_, hl s i hs (by omega), s, i, by rw [e], hs, by omega, fun j hj => hsame j hj, by rw [e]; exact htake⟩)
  (N := N) (by omega) (s := S l k (k + 1)) ⟨l, k, rfl, rfl, by omega, fun j _ => rfl, first⟩
 obtain ⟨s, i, rfl, hs, hi, hsame, htake⟩ := hI
 have e : k + 1 + (l.length - (k + 1)) = l.length := by omega
 rw [e] at hq hi htake
 refine ⟨s, i, hq, hs, by omega, ?_⟩
 rw [htake, List.take_length]
theorem zms {α : Type} {l : List α} {p : α → Bool} (h : l.findIdx? p = none) : l.filter (fun x => !p x) = l := by
 rw [List.findIdx?_eq_none_iff] at h
 rw [List.filter_eq_self]
 intro x hx
 simp [h x hx]
def zjm (a b : zB) : Bool := a.Register == b.Register && (a.zD.Kind == b.zD.Kind && (a.zD.Length == b.zD.Length && (a.zD.Scale == b.zD.Scale && a.Offset == b.Offset)))
theorem zot {a b : zB} : zjm a b = true ↔ a = b := by
 obtain ⟨r, ⟨k, l, s⟩, o⟩ := a
 obtain ⟨r', ⟨k', l', s'⟩, o'⟩ := b
 simp only [zjm, Bool.and_eq_true, beq_iff_eq, zB.mk.injEq, DataType.mk.injEq, and_assoc]
theorem zwq (a b : zB) : zco [(a.Register == b.Register), (a.zD.Kind == b.zD.Kind), (a.zD.Length == b.zD.Length), (a.zD.Scale == b.zD.Scale), (a.Offset == b.Offset)] = zjm a b := by
 simp only [zco, zjm, List.all_cons, List.all_nil, List.foldr_cons, List.foldr_nil, Bool.and_true, id]
theorem z1m (a b : zB) : zjm a b = zjm b a := by
 rw [Bool.eq_iff_iff, zot, zot]
 exact ⟨Eq.symm, Eq.symm⟩
def zex (l : List zB) (x : zB) : Bool := l.any (zjm x)
theorem zd8 {l : List zB} {x : zB} : zex l x = true ↔ x ∈ l := by
 unfold zex
 rw [List.any_eq_true]
 constructor
 · rintro ⟨y, hy, h⟩
   rw [zot] at h; subst h; exact hy
 · intro h; exact ⟨x, h, zot.2 rfl⟩
theorem zo2 (N : Nat) (l : List zB) (x : zB) (h : l.length < N) (hl : l.length < 1000000000) : za3 N l x = some (zex l x) := by
 unfold za3 zak
 have := zvq (f := zak.r0 N) l (zjm x) (fun i => (l, (l.length : Int), (i : Int), x)) (fun i y hy => by
  have hi := (gei hy).1; simp only [zak.r0, zak.b0, zap, hy, obs, dct (show (i : Int) < (l.length : Int) by omega), ctr, zwq]; rw [w6e]; cases zjm x y <;> simp)
  (by simp only [zak.r0, zak.b0, dcf (show ¬ (l.length : Int) < (l.length : Int) by omega), cfa]) h
 simp only [nc0] at this
 rw [this]
 have e := ztb l (zjm x)
 unfold zex
 cases hf : l.findIdx? (zjm x) with
 | none => rw [hf] at e; rw [← e]; simp [za9]
 | some k => rw [hf] at e; rw [← e]; simp [za9]
theorem zq8 (s : List zB) (i : Nat) (n : Nat) (hs : s.length = n) (hi : i ≤ n) (z : zB) :
 (if 0 ≤ (i : Int) ∧ (i : Int) ≤ (s.length : Int) then (if 0 ≤ (i : Int) ∧ (i : Int) ≤ ((s.take (i : Int).toNat ++ List.replicate (s.length - (i : Int).toNat) z).length : Int) then
  (if 0 ≤ (0 : Int) ∧ (0 : Int) ≤ (i : Int) then (some (((s.take (i : Int).toNat ++ List.replicate (s.length - (i : Int).toNat) z).drop ((0 : Int).toNat)).take ((i : Int).toNat - (0 : Int).toNat))) else none) else none) else none) = some (s.take i) := by
 have h1 : (s.take i ++ List.replicate (s.length - i) z).length = n := by simp; omega
 rw [ifp, ifp (by rw [itn, h1]; omega), ifp]
 congr 1
 simp only [itn, Int.toNat_zero, dr0, Nat.sub_zero]
 rw [List.take_append_of_le_length (by simp; omega), List.take_take, Nat.min_self]
theorem zst (l : List zB) (h : l.length ≤ 1000000) : zi2 40 l = some l := by
 unfold zi2
 rw [show Nat.ble (l.length * 40) zal = true from Nat.ble_eq_true_of_le (by show l.length * 40 ≤ 2 ^ 46; omega)]
 rfl
theorem ziz {n : Nat} (h : n ≤ 1000000000) : Nat.ble (n * 40) zal = true := Nat.ble_eq_true_of_le (by show n * 40 ≤ 2 ^ 46; omega)
theorem zm8 {n : Nat} (h : n ≤ 1000000) : Nat.ble (n * 8) zal = true := Nat.ble_eq_true_of_le (by show n * 8 ≤ 2 ^ 46; omega)
theorem zy6 {n : Nat} (h : n ≤ 1000000) : Nat.ble (n * 1) zal = true := Nat.ble_eq_true_of_le (by show n * 1 ≤ 2 ^ 46; omega)
theorem z5q {n : Nat} (h : n ≤ 1000000) : Nat.ble (n * 24) zal = true := Nat.ble_eq_true_of_le (by show n * 24 ≤ 2 ^ 46; omega)
theorem z7a (N : Nat) (l : List zB) (r : Int) (p : zB → Bool) (hp : ∀ x ∈ l, zdk x r = some (p x)) (h : l.length < N) (hl : l.length ≤ 1000000) : zj N l r = some (l.filter fun f => !(p f)) := by
 unfold zj zq
 have := zvq (f := zq.r0 N) l p (fun i => (l, (l.length : Int), (i : Int), r)) (fun i y hy => by
  have hi := (gei hy).1; have hc := hp y (lmg hy); simp only [zq.r0, zq.b0, hc, zap, hy, obs, dct (show (i : Int) < (l.length : Int) by omega), ctr]; rw [w6e]; cases p y <;> simp)
  (by simp only [zq.r0, zq.b0, dcf (show ¬ (l.length : Int) < (l.length : Int) by omega), cfa]) h
 simp only [nc0] at this
 rw [this]
 cases hf : l.findIdx? p with
 | none => simp [za9, zms hf]
 | some k =>
  have hk : k < l.length := by
   rw [List.findIdx?_eq_some_iff_getElem] at hf; exact hf.1
  obtain ⟨s, i, h1, h2, h3, h4⟩ := zw5 (f := zj.r0 N) l p (fun s i j => (s, (i : Int), (j : Int), r)) (fun s i j x hx hij hs hm => by
   have hj := (gei hx).1; have hxi : ∃ y, s[i]? = some y := ⟨_, lge (by omega)⟩; obtain ⟨y, hy⟩ := hxi; have hc := hp x hm; simp only [zj.r0, zj.b0, hc, dct (show (j : Int) < (s.length : Int) by omega), ctr, ifp (show 0 ≤ (j : Int) by omega), ifp (show (j : Int) < (s.length : Int) by omega),
    ifp (show 0 ≤ (i : Int) by omega), ifp (show (i : Int) < (s.length : Int) by omega), itn, hx, hy, obs]
   rw [w6e (n := (i : Int) + 1), w6e (n := (j : Int) + 1)]; cases p x <;> simp)
   (fun s i hs hi => by simp only [zj.r0, zj.b0, hs, dcf (show ¬ (l.length : Int) < (l.length : Int) by omega), cfa]) hf h
  have hne : ((k : Int) == -1) = false := by rw [zct]; simp
  simp only [za9, obs, hne, cfa]; rw [w6e]; have h1 : ze (zj.r0 N) N (l, (k : Int), (k : Int) + 1, r) = some (s, (i : Int), (l.length : Int), r) := by
   have := h1; simpa using this
  rw [h1]; simp only [obs]; rw [zq8 s i l.length h2 h3, h4]
theorem z68 (N : Nat) (l : List zB) (p : zB → Bool) (hp : ∀ x ∈ l, zel x = some (p x)) (h : l.length < N) (hl : l.length ≤ 1000000) : zh N l = some (l.filter fun f => !(p f)) := by
 unfold zh zo
 have := zvq (f := zo.r0 N) l p (fun i => (l, (l.length : Int), (i : Int))) (fun i y hy => by
  have hi := (gei hy).1; have hc := hp y (lmg hy); simp only [zo.r0, zo.b0, hc, zap, hy, obs, dct (show (i : Int) < (l.length : Int) by omega), ctr]; rw [w6e]; cases p y <;> simp)
  (by simp only [zo.r0, zo.b0, dcf (show ¬ (l.length : Int) < (l.length : Int) by omega), cfa]) h
 simp only [nc0] at this
 rw [this]
 cases hf : l.findIdx? p with
 | none => simp [za9, zms hf]
 | some k =>
  have hk : k < l.length := by
   rw [List.findIdx?_eq_some_iff_getElem] at hf; exact hf.1
  obtain ⟨s, i, h1, h2, h3, h4⟩ := zw5 (f := zh.r0 N) l p (fun s i j => (s, (i : Int), (j : Int))) (fun s i j x hx hij hs hm => by
   have hj := (gei hx).1; have hxi : ∃ y, s[i]? = some y := ⟨_, lge (by omega)⟩; obtain ⟨y, hy⟩ := hxi; have hc := hp x hm; simp only [zh.r0, zh.b0, hc, dct (show (j : Int) < (s.length : Int) by omega), ctr, ifp (show 0 ≤ (j : Int) by omega), ifp (show (j : Int) < (s.length : Int) by omega),
    ifp (show 0 ≤ (i : Int) by omega), ifp (show (i : Int) < (s.length : Int) by omega), itn, hx, hy, obs]
   rw [w6e (n := (i : Int) + 1), w6e (n := (j : Int) + 1)]; cases p x <;> simp)
   (fun s i hs hi => by simp only [zh.r0, zh.b0, hs, dcf (show ¬ (l.length : Int) < (l.length : Int) by omega), cfa]) hf h
  have hne : ((k : Int) == -1) = false := by rw [zct]; simp
  simp only [za9, obs, hne, cfa]; rw [w6e]; have h1 : ze (zh.r0 N) N (l, (k : Int), (k : Int) + 1) = some (s, (i : Int), (l.length : Int)) := by
   have := h1; simpa using this
  rw [h1]; simp only [obs]; rw [zq8 s i l.length h2 h3, h4]
theorem z69 (N : Nat) (l : List zB) (a b : Int) (p : zB → Bool) (hp : ∀ x ∈ l, zdh N x a b = some (p x)) (h : l.length < N) (hl : l.length ≤ 1000000) : zi N l a b = some (l.filter fun f => !(p f)) := by
 unfold zi zp
 have := zvq (f := zp.r0 N) l p (fun i => (l, (l.length : Int), (i : Int), a, b)) (fun i y hy => by
  have hi := (gei hy).1; have hc := hp y (lmg hy); simp only [zp.r0, zp.b0, hc, zap, hy, obs, dct (show (i : Int) < (l.length : Int) by omega), ctr]; rw [w6e]; cases p y <;> simp)
  (by simp only [zp.r0, zp.b0, dcf (show ¬ (l.length : Int) < (l.length : Int) by omega), cfa]) h
 simp only [nc0] at this
 rw [this]
 cases hf : l.findIdx? p with
 | none => simp [za9, zms hf]
 | some k =>
  have hk : k < l.length := by
   rw [List.findIdx?_eq_some_iff_getElem] at hf; exact hf.1
  obtain ⟨s, i, h1, h2, h3, h4⟩ := zw5 (f := zi.r0 N) l p (fun s i j => (s, (i : Int), (j : Int), a, b)) (fun s i j x hx hij hs hm => by
   have hj := (gei hx).1; have hxi : ∃ y, s[i]? = some y := ⟨_, lge (by omega)⟩; obtain ⟨y, hy⟩ := hxi; have hc := hp x hm; simp only [zi.r0, zi.b0, hc, dct (show (j : Int) < (s.length : Int) by omega), ctr, ifp (show 0 ≤ (j : Int) by omega), ifp (show (j : Int) < (s.length : Int) by omega),
    ifp (show 0 ≤ (i : Int) by omega), ifp (show (i : Int) < (s.length : Int) by omega), itn, hx, hy, obs]
   rw [w6e (n := (i : Int) + 1), w6e (n := (j : Int) + 1)]; cases p x <;> simp)
   (fun s i hs hi => by simp only [zi.r0, zi.b0, hs, dcf (show ¬ (l.length : Int) < (l.length : Int) by omega), cfa]) hf h
  have hne : ((k : Int) == -1) = false := by rw [zct]; simp
  simp only [za9, obs, hne, cfa]; rw [w6e]; have h1 : ze (zi.r0 N) N (l, (k : Int), (k : Int) + 1, a, b) = some (s, (i : Int), (l.length : Int), a, b) := by
   have := h1; simpa using this
  rw [h1]; simp only [obs]; rw [zq8 s i l.length h2 h3, h4]
theorem z7b (N : Nat) (l : List zB) (t : List zB) (p : zB → Bool) (hp : ∀ x ∈ l, zc5 N x t = some (p x)) (h : l.length < N) (hl : l.length ≤ 1000000) : zk N l t = some (l.filter fun f => !(p f)) := by
 unfold zk zr
 have := zvq (f := zr.r0 N) l p (fun i => (l, (l.length : Int), (i : Int), t)) (fun i y hy => by
  have hi := (gei hy).1; have hc := hp y (lmg hy); simp only [zr.r0, zr.b0, hc, zap, hy, obs, dct (show (i : Int) < (l.length : Int) by omega), ctr]; rw [w6e]; cases p y <;> simp)
  (by simp only [zr.r0, zr.b0, dcf (show ¬ (l.length : Int) < (l.length : Int) by omega), cfa]) h
 simp only [nc0] at this
 rw [this]
 cases hf : l.findIdx? p with
 | none => simp [za9, zms hf]
 | some k =>
  have hk : k < l.length := by
   rw [List.findIdx?_eq_some_iff_getElem] at hf; exact hf.1
  obtain ⟨s, i, h1, h2, h3, h4⟩ := zw5 (f := zk.r0 N) l p (fun s i j => (s, (i : Int), (j : Int), t)) (fun s i j x hx hij hs hm => by
   have hj := (gei hx).1; have hxi : ∃ y, s[i]? = some y := ⟨_, lge (by omega)⟩; obtain ⟨y, hy⟩ := hxi; have hc := hp x hm; simp only [zk.r0, zk.b0, hc, dct (show (j : Int) < (s.length : Int) by omega), ctr, ifp (show 0 ≤ (j : Int) by omega), ifp (show (j : Int) < (s.length : Int) by omega),
    ifp (show 0 ≤ (i : Int) by omega), ifp (show (i : Int) < (s.length : Int) by omega), itn, hx, hy, obs]
   rw [w6e (n := (i : Int) + 1), w6e (n := (j : Int) + 1)]; cases p x <;> simp)
   (fun s i hs hi => by simp only [zk.r0, zk.b0, hs, dcf (show ¬ (l.length : Int) < (l.length : Int) by omega), cfa]) hf h
  have hne : ((k : Int) == -1) = false := by rw [zct]; simp
  simp only [za9, obs, hne, cfa]; rw [w6e]; have h1 : ze (zk.r0 N) N (l, (k : Int), (k : Int) + 1, t) = some (s, (i : Int), (l.length : Int), t) := by
   have := h1; simpa using this
  rw [h1]; simp only [obs]; rw [zq8 s i l.length h2 h3, h4]
theorem znc (N : Nat) (l : List zB) (r : Int) (h : l.length < N) (hl : l.length ≤ 1000000) : zcr N l r = some (l.filter fun f => !(f.Register == r)) := by
 unfold zcr
 rw [zst l hl, obs, z7a N l r (fun f => f.Register == r) (fun x _ => rfl) h hl]
 rfl
theorem z51 (N : Nat) (l : List zB) (h : l.length < N) (hl : l.length ≤ 1000000) : zg1 N l = some (l.filter fun f => f.Offset == -1) := by
 unfold zg1
 rw [zst l hl, obs, z68 N l (fun f => f.Offset != -1) (fun x _ => rfl) h hl]
 simp only [obs]
 congr 2
 funext f
 cases he : (f.Offset == -1) <;> simp [bne, he]
theorem z19 (N : Nat) (l t : List zB) (h : l.length < N) (hl : l.length ≤ 1000000) (h' : t.length < N) (hl' : t.length < 1000000000) : zfz N l t = some (l.filter fun f => zex t f) := by
 unfold zfz
 rw [zst l hl, obs, z7b N l t (fun f => !zex t f) (fun x _ => by unfold zc5; rw [zo2 N t x h' hl']; rfl) h hl]
 simp only [obs, Bool.not_not]
theorem zzv (N : Nat) (hN : 10 < N) {t : DataType} (h : zcb t = 0) : ze7 N t = some (szE t) := by
 unfold ze7 zdv
 rw [zvy N hN, h]
 simp [zz1 h]
def apB (a b : Int) (x : zB) : Bool := (x.Offset != -1 && decide (x.Offset < w6 (a + b))) && decide (a < w6 (x.Offset + szE x.zD))
theorem zxg (N : Nat) (hN : 10 < N) (l : List zB) (a b : Int) (ht : ∀ x ∈ l, zcb x.zD = 0) (h : l.length < N) (hl : l.length ≤ 1000000) : zep N l a b = some (l.filter fun f => !apB a b f) := by
 unfold zep
 rw [zst l hl, obs, z69 N l a b (apB a b) (fun x hx => ?_) h hl]
 · rfl
 · unfold zdh apB; rw [zzv N hN (ht x hx)]; cases (x.Offset != -1) <;> cases decide (x.Offset < w6 (a + b)) <;> simp
theorem z9k {α β σ : Type} {f : σ → Option (Stp σ)} (l : List α) (g : α → List β) (M : Nat) (hM : ∀ x ∈ l, (g x).length ≤ M) (S : Nat → List β → σ) (a0 : List β)
 (hstep : ∀ i x acc, l[i]? = some x → acc.length ≤ a0.length + i * M → f (S i acc) = some (.again (S (i + 1) (acc ++ g x))))
 (hl : ∀ acc, f (S l.length acc) = some (.leave (S l.length acc))) {N : Nat} (hN : l.length < N) : ze f N (S 0 a0) = some (S l.length (a0 ++ l.flatMap g)) := by
 have e0 : ∀ i, ((l.take i).flatMap g).length ≤ i * M := by
  intro i
  induction i with
  | zero => simp
  | succ i ih =>
   rw [List.take_add_one, List.flatMap_append, lna, Nat.succ_mul]; refine Nat.add_le_add ih ?_; cases hx : l[i]? with
   | none => simp
   | some x => simpa using hM x (lmg hx)
 have := zdf (f := f) (fun i => S i (a0 ++ (l.take i).flatMap g)) l.length (fun i hi => by
  have hx := lge hi; rw [hstep i _ _ hx (by rw [lna]; have := e0 i; omega), List.take_add_one, hx, List.flatMap_append]; simp) (hl _) hN
 simpa using this
def zh1 (a r : Int) (x : zB) : Option zB := if x.Register = a then some ⟨r, x.zD, x.Offset⟩ else none
theorem zxh (N : Nat) (l : List zB) (a r : Int) (h : l.length < N) (hl : l.length ≤ 100000) : za4 N l a r = some (l.filterMap (zh1 a r)) := by
 unfold za4
 have := zsb (f := za4.r0 N) l (zh1 a r) (fun i acc => (a, r, acc, l, (l.length : Int), (i : Int))) (fun i x acc hx hacc => by
  have hi := (gei hx).1; simp only [za4.r0, za4.b0, zap, hx, obs, dct (show (i : Int) < (l.length : Int) by omega), ctr, lnc, ln0, ziz (show acc.length + (0 + 1) ≤ 1000000000 by omega)]; rw [w6e, zct]; unfold zh1
  by_cases e : x.Register = a <;> simp [e])
  (fun acc => by simp only [za4.r0, za4.b0, dcf (show ¬ (l.length : Int) < (l.length : Int) by omega), cfa]) h
 simp only [nc0] at this
 rw [this]
 rfl
def zvo (a b : DataType) : Bool := a.Kind == b.Kind && (a.Length == b.Length && a.Scale == b.Scale)
theorem zxb {a b : DataType} : zvo a b = true ↔ a = b := by
 obtain ⟨k, l, s⟩ := a
 obtain ⟨k', l', s'⟩ := b
 simp only [zvo, Bool.and_eq_true, beq_iff_eq, DataType.mk.injEq]
theorem z36 (a b : DataType) : zco [(a.Kind == b.Kind), (a.Length == b.Length), (a.Scale == b.Scale)] = zvo a b := by
 simp only [zco, zvo, Bool.and_true]
def woL (r : Int) (l : List zB) : List zB := l.filter fun f => !(f.Register == r)
def zls (x : zC) (l : List zB) (g : zB) : List zB := if zvo g.zD x.zD && g.Offset == x.Place.Offset then l.filterMap (zh1 g.Register x.R) else []
def zqx (x : zC) (l : List zB) : List zB :=
 (woL x.R l ++ [⟨x.R, x.zD, -1⟩]) ++ (if x.Place.Based then [] else [⟨x.R, x.zD, x.Place.Offset⟩] ++ l.flatMap (zls x l))
theorem z15 (N : Nat) (x : zC) (l : List zB) (h : l.length < N) (hl : l.length ≤ 5000) : zbc N x l = some (zqx x l) := by
 unfold zbc
 rw [znc N l x.R h (by omega)]
 have hw : (l.filter fun f => !(f.Register == x.R)).length ≤ l.length := List.length_filter_le _ _
 simp only [obs, lna, lnc, ln0]
 rw [ziz (by omega), ziz (by omega)]
 simp only [ctr]
 unfold zqx woL
 cases hb : x.Place.Based with
 | true => simp
 | false =>
  simp only [cfa]; have := z9k (f := zbc.r0 N) l (zls x l) 5000 (fun g _ => by
   unfold zls; split
   · exact Nat.le_trans (List.length_filterMap_le _ _) hl
   · simp) (fun i acc => (l, acc, l, (l.length : Int), (i : Int), x)) (((l.filter fun f => !(f.Register == x.R)) ++ [⟨x.R, x.zD, -1⟩]) ++ [⟨x.R, x.zD, x.Place.Offset⟩]) (fun i y acc hy hacc => by
   have hi := (gei hy).1; simp only [zbc.r0, zbc.b0, zap, hy, obs, dct (show (i : Int) < (l.length : Int) by omega), ctr, z36]; rw [zh9, obs, zxh N l y.Register x.R h (by omega), w6e]; have hla : (l.filterMap (zh1 y.Register x.R)).length ≤ l.length := List.length_filterMap_le _ _; have hi2 : i * 5000 ≤ 5000 * 5000 := Nat.mul_le_mul_right 5000 (by omega); simp only [lna, lnc, ln0] at hacc; unfold zls; cases hc : (zvo y.zD x.zD && y.Offset == x.Place.Offset) with
   | true => simp only [ctr, obs, if_true, ziz (show acc.length + (l.filterMap (zh1 y.Register x.R)).length ≤ 1000000000 by omega)]; rfl
   | false => simp)
   (fun acc => by simp only [zbc.r0, zbc.b0, dcf (show ¬ (l.length : Int) < (l.length : Int) by omega), cfa]) h
  simp only [nc0] at this; rw [this]; simp
def ztg (x : zC) (l : List zB) : List zB :=
 if x.Place.Based then l.filter fun f => f.Offset == -1
 else (l.filter fun f => !apB x.Place.Offset (szE x.zD) f) ++ (if x.Op == 1 && zex l ⟨x.R, x.zD, -1⟩ then [⟨x.R, x.zD, x.Place.Offset⟩] else [])
theorem z0q (N : Nat) (hN : 10 < N) (x : zC) (l : List zB) (htx : zcb x.zD = 0) (ht : ∀ x ∈ l, zcb x.zD = 0) (h : l.length < N) (hl : l.length ≤ 5000) : zfk N x l = some (ztg x l) := by
 unfold zfk ztg
 rw [z51 N l h (by omega), zzv N hN htx]
 cases hb : x.Place.Based with
 | true => simp
 | false =>
  simp only [cfa, obs]; rw [zxg N hN l _ _ ht h (by omega), zo2 N l _ h (by omega)]; have hw : (l.filter fun f => !apB x.Place.Offset (szE x.zD) f).length ≤ l.length := List.length_filter_le _ _; simp only [obs, zh9, lnc, ln0, ziz (show (l.filter fun f => !apB x.Place.Offset (szE x.zD) f).length + (0 + 1) ≤ 1000000000 by omega)]; cases (x.Op == 1 && zex l ⟨x.R, x.zD, -1⟩) <;> simp
structure InsX (m : zI) (c : zF) (x : zC) : Prop where
 op : 0 ≤ x.Op ∧ x.Op ≤ 26
 r : x.Op = 0 ∨ x.Op = 1 ∨ x.Op = 2 ∨ x.Op = 3 ∨ x.Op = 4 ∨ x.Op = 21 → 0 ≤ x.R ∧ x.R < m.Registers
 a : x.Op = 3 → 0 ≤ x.A ∧ x.A < m.Registers
 ty : x.Op = 0 ∨ x.Op = 1 ∨ x.Op = 4 ∨ x.Op = 9 ∨ x.Op = 10 → zcb x.zD = 0
 kd : x.Op = 0 ∨ x.Op = 1 ∨ x.Op = 4 → x.zD.Kind ≠ 0 ∧ x.zD.Kind ≠ 4
 pl : x.Op = 0 ∨ x.Op = 1 ∨ x.Op = 9 ∨ x.Op = 10 → x.Place.Based = false → 0 ≤ x.Place.Offset ∧ x.Place.Offset + szE x.zD ≤ (c.Storage.Bytes.size : Int)
 pt : x.Op = 14 ∨ x.Op = 15 ∨ x.Op = 16 → 0 ≤ x.Pointer ∧ x.Pointer < (c.Storage.Bytes.size : Int)
 tg : x.Op = 6 ∨ x.Op = 7 ∨ x.Op = 8 ∨ x.Op = 18 → 0 ≤ x.Target ∧ x.Target < (c.zA.length : Int)
theorem zpk {t : DataType} (h : zc2 t 1 = 0) : zcb t = 0 ∧ t.Kind ≠ 0 ∧ t.Kind ≠ 4 := by
 unfold zc2 at h
 rw [ifn (by decide)] at h
 by_cases h0 : zcb t = 0
 · rw [ifp h0] at h; split at h
   · cases h
   · rename_i h1; refine ⟨h0, ?_⟩; have h2 : inB t.Kind 1 3 = true := by
      refine cbc fun h2 => h1 (.inl ⟨rfl, fun h3 => h2 (zb6.2 h3)⟩)
     have := zb6.1 h2; omega
 · rw [ifn h0] at h; exact absurd h h0
theorem z5k {m : zI} {c : zF} {x : zC} (h : zgp m c x = 0) : InsX m c x := by
 unfold zgp at h
 by_cases hop : inB x.Op 0 26 = true
 · obtain ⟨f, u, hf, hu, ag, _⟩ := zm3 x hop; rw [ifp hop, hu] at h; have h' : zkj m c x u = 0 := h; unfold zkj at h'; cases he : zgh x u with
   | true => rw [he] at h'; cases h'
   | false =>
    rw [he] at h'; simp only [cfa] at h'; cases hl : zi4 m x with
    | true => rw [hl] at h'; cases h'
    | false =>
     rw [hl] at h'; simp only [cfa] at h'
     by_cases h1 : zc2 x.zD u.zD = 0
     · by_cases h2 : zc2 x.Second u.Second = 0
       · rw [ifn, ifn] at h'; cases hr : zem m c x u with
         | true => rw [hr] at h'; simp at h'
         | false =>
          unfold zem at hr; simp only [Bool.or_eq_false_iff] at hr; obtain ⟨r1, r2, r3, r4, r5, r6, r7, r8⟩ := hr; rw [List.any_eq_false] at r1; have reg : ∀ i, i ∈ zlm x u → 0 ≤ i ∧ i < m.Registers := fun i hi => by
           have := r1 i hi; unfold zdo at this; have h4 : inB i 0 (m.Registers - 1) = true := by simpa using this
           have := zb6.1 h4; omega
          have andF : ∀ {p q : Bool}, (p && !q) = false → p = true → q = true := fun {p q} h hp => by subst hp; simpa using h
          have hu0 : ∀ k, x.Op = k → ∀ w, zdy ⟨k, x.R, x.A, x.B, x.zO, x.Place, x.From, x.zD, x.Second, x.Half, x.zK, x.Number, x.Text, x.Other, x.Mask, x.Target, x.Pointer, x.Source⟩ = some w → u = w := by
           rintro k rfl w hw
           have : zdy x = some w := hw; rw [hu] at this; exact Option.some.inj this
          have place : u.Place = true → (x.Op ≠ 4) → x.Place.Based = false → zcb x.zD = 0 → 0 ≤ x.Place.Offset ∧ x.Place.Offset + szE x.zD ≤ (c.Storage.Bytes.size : Int) := fun hp h4 hb ht => by
           have := andF r6 hp; unfold zhd at this; rw [hb] at this; have hpl : zka x = x.zD := by unfold zka; rw [ifn h4]
           rw [hpl] at this; have := zb6.1 (by simpa using this); omega
          have pnt : u.Pointer = true → 0 ≤ x.Pointer ∧ x.Pointer < (c.Storage.Bytes.size : Int) := fun hp => by
           have := andF r4 hp; unfold zjk at this; simp only [Bool.and_eq_true, decide_eq_true_eq] at this; omega
          have op4 : x.Op = 4 → u.R = true ∧ u.zD = 1 := fun e => by
           cases hi : x.zK with
           | true => have := hu0 4 e _ (by rw [hi]; rfl); subst this; exact ⟨rfl, rfl⟩
           | false => have := hu0 4 e _ (by rw [hi]; rfl); subst this; exact ⟨rfl, rfl⟩
          have hR : u.R = true → 0 ≤ x.R ∧ x.R < m.Registers := fun hx => reg _ (by unfold zlm; rw [hx]; simp); have hA : u.A = true → 0 ≤ x.A ∧ x.A < m.Registers := fun hx => reg _ (by unfold zlm; rw [hx]; simp); have tyy : x.Op = 0 ∨ x.Op = 1 ∨ x.Op = 4 ∨ x.Op = 9 ∨ x.Op = 10 → zcb x.zD = 0 := by
           rintro (e | e | e | e | e)
           · have := hu0 0 e _ rfl; subst this; exact (zpk h1).1
           · have := hu0 1 e _ rfl; subst this; exact (zpk h1).1
           · rw [(op4 e).2] at h1; exact (zpk h1).1
           · have := hu0 9 e _ rfl; subst this; exact zlj h1 (by decide)
           · have := hu0 10 e _ rfl; subst this; exact zlj h1 (by decide)
          exact {
           op := zb6.1 hop
           r := by
            rintro (e | e | e | e | e | e)
            · have := hu0 0 e _ rfl; subst this; exact hR rfl
            · have := hu0 1 e _ rfl; subst this; exact hR rfl
            · have := hu0 2 e _ rfl; subst this; exact hR rfl
            · have := hu0 3 e _ rfl; subst this; exact hR rfl
            · exact hR (op4 e).1
            · have := hu0 21 e _ rfl; subst this; exact hR rfl
           a := fun e => by have := hu0 3 e _ rfl; subst this; exact hA rfl
           ty := tyy
           kd := by
            rintro (e | e | e)
            · have := hu0 0 e _ rfl; subst this; exact (zpk h1).2
            · have := hu0 1 e _ rfl; subst this; exact (zpk h1).2
            · rw [(op4 e).2] at h1; exact (zpk h1).2
           pl := by
            rintro (e | e | e | e) hb
            · have ht := tyy (by omega); have := hu0 0 e _ rfl; subst this; exact place rfl (by omega) hb ht
            · have ht := tyy (by omega); have := hu0 1 e _ rfl; subst this; exact place rfl (by omega) hb ht
            · have ht := tyy (by omega); have := hu0 9 e _ rfl; subst this; exact place rfl (by omega) hb ht
            · have ht := tyy (by omega); have := hu0 10 e _ rfl; subst this; exact place rfl (by omega) hb ht
           pt := by
            rintro (e | e | e)
            · have := hu0 14 e _ rfl; subst this; exact pnt rfl
            · have := hu0 15 e _ rfl; subst this; exact pnt rfl
            · have := hu0 16 e _ rfl; subst this; exact pnt rfl
           tg := by
            have tgt : u.Target = true → 0 ≤ x.Target ∧ x.Target < (c.zA.length : Int) := fun hx => by have := zb6.1 (andF r2 hx); omega
            rintro (e | e | e | e)
            · have := hu0 6 e _ rfl; subst this; exact tgt rfl
            · have := hu0 7 e _ rfl; subst this; exact tgt rfl
            · have := hu0 8 e _ rfl; subst this; exact tgt rfl
            · have := hu0 18 e _ rfl; subst this; exact tgt rfl }
       · rw [ifn, ifp h2] at h'; exact absurd h' h2
     · rw [ifp h1] at h'; exact absurd h' h1
 · rw [ifn hop] at h; cases h
structure FctV (m : zI) (c : zF) (f : zB) : Prop where
 r : 0 ≤ f.Register ∧ f.Register < m.Registers
 ty : zcb f.zD = 0
 kd : f.zD.Kind ≠ 0 ∧ f.zD.Kind ≠ 4
 of : f.Offset = -1 ∨ (0 ≤ f.Offset ∧ f.Offset + szE f.zD ≤ (c.Storage.Bytes.size : Int))
theorem z0p {t : DataType} (h : zcb t = 0) : 0 ≤ t.Scale ∧ t.Scale ≤ 15 := by
 unfold zcb at h
 split at h
 · split at h
   · split at h
     · omega
     · cases h
   · cases h
 · split at h
   · split at h
     · rename_i h1; split at h
       · rename_i h2; have := zb6.1 h1; have := zb6.1 h2; omega
       · cases h
     · cases h
   · split at h
     · split at h
       · split at h
         · rename_i h2; have := zb6.1 h2; omega
         · cases h
       · cases h
     · split at h
       · split at h
         · split at h
           · omega
           · cases h
         · cases h
       · cases h
theorem z8l {m : zI} {c : zF} (hm : m.Registers ≤ 8) (hs : c.Storage.Bytes.size ≤ 1024) {f : zB} (h : FctV m c f) : Proofs.Tryz.okF f = true := by
 rw [Proofs.Tryz.okF_iff]
 have h1 := h.r
 have h3 := h.of
 have h4 := zvp h.ty
 have h2 := z0p h.ty
 rcases zj2 h.ty with ⟨q0, q1, q2⟩ | ⟨q0 | q0, q1, q2⟩ | ⟨q0, q1 | q1⟩ | ⟨q0, q1⟩ <;> refine ⟨?_, ?_, ?_, ?_, ?_⟩ <;> omega
theorem zqs {l : List zB} (h : ∀ f ∈ l, Proofs.Tryz.okF f = true) (hl : l.length ≤ 1000000000) : zl3 Proofs.Tryz.ltF Proofs.Tryz.okF l = some (ordD Proofs.Tryz.ltF l) := by
 unfold zl3
 rw [List.all_eq_true.2 h, ziz hl]
 rfl
def zh8 (x : zC) (l : List zB) : List zB :=
 if x.Op = 0 then ordD Proofs.Tryz.ltF (zqx x l)
 else if x.Op = 4 then ordD Proofs.Tryz.ltF (woL x.R l ++ [⟨x.R, x.zD, -1⟩])
 else if x.Op = 2 ∨ x.Op = 21 then woL x.R l
 else if x.Op = 3 then ordD Proofs.Tryz.ltF (woL x.R l ++ l.filterMap (zh1 x.A x.R))
 else if x.Op = 1 ∨ x.Op = 9 ∨ x.Op = 10 then ordD Proofs.Tryz.ltF (ztg x l)
 else if x.Op = 14 ∨ x.Op = 15 ∨ x.Op = 16 then l.filter fun f => !apB x.Pointer 16 f
 else l
theorem zsi {l : List zB} {a r : Int} {f : zB} : f ∈ l.filterMap (zh1 a r) ↔ ∃ g ∈ l, g.Register = a ∧ f = ⟨r, g.zD, g.Offset⟩ := by
 rw [List.mem_filterMap]
 constructor
 · rintro ⟨g, hg, h⟩
   unfold zh1 at h; split at h
   · rename_i e; cases h; exact ⟨g, hg, e, rfl⟩
   · cases h
 · rintro ⟨g, hg, e, rfl⟩
   exact ⟨g, hg, by unfold zh1; rw [ifp e]⟩
theorem zli {l : List zB} {r : Int} {f : zB} : f ∈ woL r l ↔ f ∈ l ∧ f.Register ≠ r := by
 unfold woL
 rw [List.mem_filter]
 simp
theorem z4u {x : zC} {l : List zB} {f : zB} : f ∈ zqx x l ↔ (f ∈ l ∧ f.Register ≠ x.R) ∨ f = ⟨x.R, x.zD, -1⟩ ∨ (x.Place.Based = false ∧ (f = ⟨x.R, x.zD, x.Place.Offset⟩ ∨ ∃ h ∈ l, h.zD = x.zD ∧ h.Offset = x.Place.Offset ∧ ∃ g ∈ l, g.Register = h.Register ∧ f = ⟨x.R, g.zD, g.Offset⟩)) := by
 unfold zqx
 rw [List.mem_append, List.mem_append, zli, List.mem_singleton, or_assoc]
 cases hb : x.Place.Based with
 | true => simp
 | false =>
  simp only [Bool.false_eq_true, if_false, List.mem_append, List.mem_singleton, List.mem_flatMap, true_and]; have : (∃ a, a ∈ l ∧ f ∈ zls x l a) ↔ ∃ h ∈ l, h.zD = x.zD ∧ h.Offset = x.Place.Offset ∧ ∃ g ∈ l, g.Register = h.Register ∧ f = ⟨x.R, g.zD, g.Offset⟩ := by
   constructor
   · rintro ⟨h, hh, hf⟩
     unfold zls at hf; split at hf
     · rename_i e; rw [Bool.and_eq_true, zxb, beq_iff_eq] at e; exact ⟨h, hh, e.1, e.2, zsi.1 hf⟩
     · simp at hf
   · rintro ⟨h, hh, e1, e2, hf⟩
     refine ⟨h, hh, ?_⟩; unfold zls; rw [ifp (by rw [Bool.and_eq_true, zxb, beq_iff_eq]; exact ⟨e1, e2⟩)]; exact zsi.2 hf
  rw [this]
theorem z5s {x : zC} {l : List zB} {f : zB} : f ∈ ztg x l ↔ (x.Place.Based = true ∧ f ∈ l ∧ f.Offset = -1) ∨ (x.Place.Based = false ∧ ((f ∈ l ∧ apB x.Place.Offset (szE x.zD) f = false) ∨ (x.Op = 1 ∧ (⟨x.R, x.zD, -1⟩ : zB) ∈ l ∧ f = ⟨x.R, x.zD, x.Place.Offset⟩))) := by
 unfold ztg
 cases hb : x.Place.Based with
 | true => simp [List.mem_filter]
 | false =>
  simp only [Bool.false_eq_true, if_false, List.mem_append, List.mem_filter, false_and, false_or, true_and, Bool.not_eq_true']; have : (f ∈ (if x.Op == 1 && zex l ⟨x.R, x.zD, -1⟩ then [(⟨x.R, x.zD, x.Place.Offset⟩ : zB)] else [])) ↔ (x.Op = 1 ∧ (⟨x.R, x.zD, -1⟩ : zB) ∈ l ∧ f = ⟨x.R, x.zD, x.Place.Offset⟩) := by
   split
   · rename_i e; rw [Bool.and_eq_true, beq_iff_eq, zd8] at e; simp [e.1, e.2]
   · rename_i e; rw [Bool.and_eq_true, beq_iff_eq, zd8] at e; simp only [List.not_mem_nil, false_iff]
     rintro ⟨a, b, _⟩
     exact e ⟨a, b⟩
  rw [this]
def Beh (x : zC) (l : List zB) (f : zB) : Prop :=
 if x.Op = 0 then (f ∈ l ∧ f.Register ≠ x.R) ∨ f = ⟨x.R, x.zD, -1⟩ ∨ (x.Place.Based = false ∧ (f = ⟨x.R, x.zD, x.Place.Offset⟩ ∨ ∃ h ∈ l, h.zD = x.zD ∧ h.Offset = x.Place.Offset ∧ ∃ g ∈ l, g.Register = h.Register ∧ f = ⟨x.R, g.zD, g.Offset⟩))
 else if x.Op = 4 then (f ∈ l ∧ f.Register ≠ x.R) ∨ f = ⟨x.R, x.zD, -1⟩
 else if x.Op = 2 ∨ x.Op = 21 then f ∈ l ∧ f.Register ≠ x.R
 else if x.Op = 3 then (f ∈ l ∧ f.Register ≠ x.R) ∨ ∃ g ∈ l, g.Register = x.A ∧ f = ⟨x.R, g.zD, g.Offset⟩
 else if x.Op = 1 ∨ x.Op = 9 ∨ x.Op = 10 then (x.Place.Based = true ∧ f ∈ l ∧ f.Offset = -1) ∨ (x.Place.Based = false ∧ ((f ∈ l ∧ apB x.Place.Offset (szE x.zD) f = false) ∨ (x.Op = 1 ∧ (⟨x.R, x.zD, -1⟩ : zB) ∈ l ∧ f = ⟨x.R, x.zD, x.Place.Offset⟩)))
 else if x.Op = 14 ∨ x.Op = 15 ∨ x.Op = 16 then f ∈ l ∧ apB x.Pointer 16 f = false
 else f ∈ l
theorem zlb {l : List zB} {f : zB} : f ∈ ordD Proofs.Tryz.ltF l ↔ f ∈ l := Proofs.Tryz.mem_ordD _ Proofs.Tryz.ltF_eq f l
theorem z0f {x : zC} {l : List zB} {f : zB} : f ∈ zh8 x l ↔ Beh x l f := by
 unfold zh8 Beh
 split
 · rw [zlb, z4u]
 · split
   · rw [zlb, List.mem_append, zli, List.mem_singleton]
   · split
     · rw [zli]
     · split
       · rw [zlb, List.mem_append, zli, zsi]
       · split
         · rw [zlb, z5s]
         · split
           · simp [List.mem_filter]
           · rfl
def zez (l : List zB) : Prop := l.Pairwise fun a b => Proofs.Tryz.ltF a b = true
theorem zne (l : List zB) : zez (ordD Proofs.Tryz.ltF l) := Proofs.Tryz.sorted_ordD _ Proofs.Tryz.ltF_swo.2.1 Proofs.Tryz.ltF_eq l
theorem z1t {x : zC} {l : List zB} (h : zez l) : zez (zh8 x l) := by
 unfold zh8
 split
 · exact zne _
 · split
   · exact zne _
   · split
     · exact List.Pairwise.filter _ h
     · split
       · exact zne _
       · split
         · exact zne _
         · split
           · exact List.Pairwise.filter _ h
           · exact h
variable {m : zI} {c : zF}
theorem z3w {x : zC} (hx : InsX m c x) {l : List zB} (hl : ∀ f ∈ l, FctV m c f) {f : zB} (h : Beh x l f) : FctV m c f := by
 have about : ∀ g ∈ l, (0 ≤ x.R ∧ x.R < m.Registers) → FctV m c ⟨x.R, g.zD, g.Offset⟩ := fun g hg hr => ⟨hr, (hl g hg).ty, (hl g hg).kd, (hl g hg).of⟩
 unfold Beh at h
 split at h
 · rename_i e; rcases h with ⟨h, _⟩ | rfl | ⟨hb, rfl | ⟨_, _, _, _, g, hg, _, rfl⟩⟩
   · exact hl _ h
   · exact ⟨hx.r (.inl e), hx.ty (.inl e), hx.kd (.inl e), .inl rfl⟩
   · exact ⟨hx.r (.inl e), hx.ty (.inl e), hx.kd (.inl e), .inr (hx.pl (.inl e) hb)⟩
   · exact about g hg (hx.r (.inl e))
 · split at h
   · rename_i e; rcases h with ⟨h, _⟩ | rfl
     · exact hl _ h
     · exact ⟨hx.r (by omega), hx.ty (by omega), hx.kd (by omega), .inl rfl⟩
   · split at h
     · exact hl _ h.1
     · split at h
       · rename_i e; rcases h with ⟨h, _⟩ | ⟨g, hg, _, rfl⟩
         · exact hl _ h
         · exact about g hg (hx.r (by omega))
       · split at h
         · rename_i e; rcases h with ⟨_, h, _⟩ | ⟨hb, ⟨h, _⟩ | ⟨e1, _, rfl⟩⟩
           · exact hl _ h
           · exact hl _ h
           · exact ⟨hx.r (by omega), hx.ty (by omega), hx.kd (by omega), .inr (hx.pl (by omega) hb)⟩
         · split at h
           · exact hl _ h.1
           · exact hl _ h
theorem z2a (N : Nat) (hN : 10 < N) (hm : m.Registers ≤ 8) (hs : c.Storage.Bytes.size ≤ 1024) {x : zC} (hx : InsX m c x) {l : List zB} (hf : ∀ f ∈ l, FctV m c f) (h : l.length < N) (hl : l.length ≤ 5000) :
 zf0 N x l = some (zh8 x l) := by
 have ok : ∀ f ∈ zh8 x l, Proofs.Tryz.okF f = true := fun f hf' => z8l hm hs (z3w hx hf (z0f.1 hf'))
 have ht : ∀ f ∈ l, zcb f.zD = 0 := fun f h => (hf f h).ty
 unfold zf0
 simp only [zct]
 by_cases e0 : x.Op = 0
 · have o2 : zh8 x l = ordD Proofs.Tryz.ltF (zqx x l) := by unfold zh8; rw [ifp e0]
   rw [dct e0, ctr, z15 N x l h hl, obs, zqs (fun f hf' => ok f (by rw [o2, zlb]; exact hf')) ?_, o2]
   · rfl
   · unfold zqx woL; have h1 : (l.filter fun f => !(f.Register == x.R)).length ≤ l.length := List.length_filter_le _ _; have h2 : (l.flatMap (zls x l)).length ≤ 5000 * 5000 := by
      have : ∀ k : List zB, k.length ≤ 5000 → (k.flatMap (zls x l)).length ≤ k.length * 5000 := by
       intro k
       induction k with
       | nil => intro _; simp
       | cons g k ih =>
        intro hk; have hk' : k.length + 1 ≤ 5000 := by simpa using hk
        have := ih (by omega); have h3 : (zls x l g).length ≤ 5000 := by
         unfold zls; split
         · exact Nat.le_trans (List.length_filterMap_le _ _) hl
         · simp
        rw [List.flatMap_cons, lna, lnc, Nat.succ_mul]; omega
      exact Nat.le_trans (this l hl) (Nat.mul_le_mul_right 5000 hl)
     simp only [lna, lnc, ln0]; split
     · simp; omega
     · simp only [lna, lnc, ln0]; omega
 · rw [dcf e0, cfa]
   by_cases e4 : x.Op = 4
   · have o2 : zh8 x l = ordD Proofs.Tryz.ltF (woL x.R l ++ [⟨x.R, x.zD, -1⟩]) := by unfold zh8; rw [ifn e0, ifp e4]
     have h1 : (woL x.R l).length ≤ l.length := List.length_filter_le _ _; rw [dct e4, ctr, znc N l x.R h (by omega), obs]; change cond (Nat.ble (((woL x.R l).length + 1) * 40) zal) ((zl3 Proofs.Tryz.ltF Proofs.Tryz.okF (woL x.R l ++ [⟨x.R, x.zD, -1⟩])).bind fun r4 => some r4) none = _; rw [ziz (by omega), ctr, zqs (fun f hf' => ok f (by rw [o2, zlb]; exact hf')) (by simp; omega), o2]; rfl
   · rw [dcf e4, cfa]
     by_cases e2 : x.Op = 2 ∨ x.Op = 21
     · have o2 : zh8 x l = woL x.R l := by unfold zh8; rw [ifn e0, ifn e4, ifp e2]
       rw [show cond (decide (x.Op = 2)) (some (decide (x.Op = 2))) (some (decide (x.Op = 21))) = some true by rcases e2 with e | e <;> simp [e], obs, ctr, znc N l x.R h (by omega), o2]; rfl
     · rw [show cond (decide (x.Op = 2)) (some (decide (x.Op = 2))) (some (decide (x.Op = 21))) = some false by rw [not_or] at e2; simp [e2.1, e2.2], obs, cfa]
       by_cases e3 : x.Op = 3
       · have o2 : zh8 x l = ordD Proofs.Tryz.ltF (woL x.R l ++ l.filterMap (zh1 x.A x.R)) := by unfold zh8; rw [ifn e0, ifn e4, ifn e2, ifp e3]
         have h1 : (woL x.R l).length ≤ l.length := List.length_filter_le _ _; have h2 : (l.filterMap (zh1 x.A x.R)).length ≤ l.length := List.length_filterMap_le _ _; rw [dct e3, ctr, znc N l x.R h (by omega), obs, zxh N l x.A x.R h (by omega), obs]; change cond (Nat.ble (((woL x.R l).length + (l.filterMap (zh1 x.A x.R)).length) * 40) zal) ((zl3 Proofs.Tryz.ltF Proofs.Tryz.okF (woL x.R l ++ l.filterMap (zh1 x.A x.R))).bind fun r9 => some r9) none = _; rw [ziz (by omega), ctr, zqs (fun f hf' => ok f (by rw [o2, zlb]; exact hf')) (by rw [lna]; omega), o2]; rfl
       · rw [dcf e3, cfa]
         by_cases e1 : x.Op = 1 ∨ x.Op = 9 ∨ x.Op = 10
         · have o2 : zh8 x l = ordD Proofs.Tryz.ltF (ztg x l) := by unfold zh8; rw [ifn e0, ifn e4, ifn e2, ifn e3, ifp e1]
           rw [show cond (decide (x.Op = 1)) (some (decide (x.Op = 1))) (cond (decide (x.Op = 9)) (some (decide (x.Op = 9))) (some (decide (x.Op = 10)))) = some true by rcases e1 with e | e | e <;> simp [e], obs, ctr,
            z0q N hN x l (hx.ty (by omega)) ht h hl, obs, zqs (fun f hf' => ok f (by rw [o2, zlb]; exact hf')) ?_, o2]
           · rfl
           · unfold ztg; split
             · exact Nat.le_trans (List.length_filter_le _ _) (by omega)
             · rw [lna]; have h1 : (l.filter fun f => !apB x.Place.Offset (szE x.zD) f).length ≤ l.length := List.length_filter_le _ _; split <;> simp <;> omega
         · rw [show cond (decide (x.Op = 1)) (some (decide (x.Op = 1))) (cond (decide (x.Op = 9)) (some (decide (x.Op = 9))) (some (decide (x.Op = 10)))) = some false by rw [not_or, not_or] at e1; simp [e1.1, e1.2.1, e1.2.2], obs, cfa]
           by_cases e5 : x.Op = 14 ∨ x.Op = 15 ∨ x.Op = 16
           · have o2 : zh8 x l = l.filter fun f => !apB x.Pointer 16 f := by unfold zh8; rw [ifn e0, ifn e4, ifn e2, ifn e3, ifn e1, ifp e5]
             rw [show cond (decide (x.Op = 14)) (some (decide (x.Op = 14))) (cond (decide (x.Op = 15)) (some (decide (x.Op = 15))) (some (decide (x.Op = 16)))) = some true by rcases e5 with e | e | e <;> simp [e], obs, ctr,
              zxg N hN l _ _ ht h (by omega), o2]
             rfl
           · have o2 : zh8 x l = l := by unfold zh8; rw [ifn e0, ifn e4, ifn e2, ifn e3, ifn e1, ifn e5]
             rw [show cond (decide (x.Op = 14)) (some (decide (x.Op = 14))) (cond (decide (x.Op = 15)) (some (decide (x.Op = 15))) (some (decide (x.Op = 16)))) = some false by rw [not_or, not_or] at e5; simp [e5.1, e5.2.1, e5.2.2], obs, cfa, o2]
theorem z9s {α R σ : Type} {f : σ → Option (Round R σ)} (l : List α) (p : α → Bool) (v : R) (S : Nat → σ) (hstep : ∀ i x, l[i]? = some x → f (S i) = some (cond (p x) (.result v) (.again (S (i + 1)))))
 (hl : f (S l.length) = some (.leave (S l.length))) {N : Nat} (hN : l.length < N) : zx f N (S 0) = some (if l.any p = true then .inl v else .inr (S l.length)) := by
 have := zde (f := f) S (fun i => (l[i]?).bind fun x => if p x = true then some v else none) l.length (fun i hi => by
  have hx := lge hi; rw [hstep i _ hx]; simp only [hx, obs]; cases hb : p l[i] <;> simp) hl hN
 rw [this]
 congr 1
 rw [zkd]
 cases hf : l.findSome? (fun x => if p x = true then some v else none) with
 | none =>
  rw [List.findSome?_eq_none_iff] at hf; have hno : ¬ l.any p = true := by
   rw [List.any_eq_true]
   rintro ⟨x, hx, h⟩
   have := hf x hx; rw [ifp h] at this; cases this
  rw [ifn hno]
 | some r =>
  obtain ⟨x, hx, h⟩ := eof hf; split at h
  · rename_i e; cases h; rw [ifp (List.any_eq_true.2 ⟨x, hx, e⟩)]
  · cases h
theorem z5o {α β σ : Type} {f : σ → Option (Stp σ)} (l : List α) (g : β → α → β) (I : Nat → β → Prop) (S : Nat → β → σ) (a0 : β) (h0 : I 0 a0)
 (hstep : ∀ i x acc, l[i]? = some x → I i acc → f (S i acc) = some (.again (S (i + 1) (g acc x))) ∧ I (i + 1) (g acc x))
 (hl : ∀ acc, f (S l.length acc) = some (.leave (S l.length acc))) {N : Nat} (hN : l.length < N) : ze f N (S 0 a0) = some (S l.length (l.foldl g a0)) ∧ I l.length (l.foldl g a0) := by
 have e0 : ∀ i, i ≤ l.length → I i ((l.take i).foldl g a0) := by
  intro i
  induction i with
  | zero => intro _; simpa using h0
  | succ i ih =>
   intro hi; have hx := lge (show i < l.length by omega); rw [List.take_add_one, hx, List.foldl_append]; exact (hstep i _ _ hx (ih (by omega))).2
 have := zdf (f := f) (fun i => S i ((l.take i).foldl g a0)) l.length (fun i hi => by
  have hx := lge hi; rw [(hstep i _ _ hx (e0 i (by omega))).1, List.take_add_one, hx, List.foldl_append]; rfl) (hl _) hN
 have h1 := e0 l.length (Nat.le_refl _)
 rw [List.take_length] at h1
 exact ⟨by simpa using this, h1⟩
theorem zux (N : Nat) (l : List zB) (x : zB) (h : l.length < N) (hl : l.length < 1000000000) : zd5 N l x = some (zex l x) := by
 unfold zd5
 have := z9s (f := zd5.r0 N) l (zjm x) true (fun i => (l, (i : Int), x)) (fun i y hy => by
  have hi := (gei hy).1; simp only [zd5.r0, zd5.b0, zap, hy, obs, dct (show (i : Int) < (l.length : Int) by omega), ctr, zwq]; rw [w6e, z1m]; cases zjm x y <;> simp)
  (by simp only [zd5.r0, zd5.b0, dcf (show ¬ (l.length : Int) < (l.length : Int) by omega), cfa]) h
 simp only [nc0] at this
 rw [this]
 unfold zex
 cases hb : l.any (zjm x) <;> simp [za9]
theorem z6f (N : Nat) (hN : 5 < N) (a b : zB) : zcu N a b = some (Proofs.Tryz.ltF a b) := by
 unfold zcu
 have := zde (f := zcu.r0 N) (fun i => (([a.Register, a.Offset, a.zD.Kind, a.zD.Length, a.zD.Scale] : List Int), ([b.Register, b.Offset, b.zD.Kind, b.zD.Length, b.zD.Scale] : List Int), (i : Int)))
  (fun i => if ([a.Register, a.Offset, a.zD.Kind, a.zD.Length, a.zD.Scale] : List Int).getD i 0 = ([b.Register, b.Offset, b.zD.Kind, b.zD.Length, b.zD.Scale] : List Int).getD i 0 then none else some (decide (([a.Register, a.Offset, a.zD.Kind, a.zD.Length, a.zD.Scale] : List Int).getD i 0 < ([b.Register, b.Offset, b.zD.Kind, b.zD.Length, b.zD.Scale] : List Int).getD i 0))) 5 (fun i hi => by
   simp only [zcu.r0, zcu.b0]
   match i, hi with
   | 0, _ => simp [zdq]; by_cases e : a.Register = b.Register <;> simp [e, w6e]
   | 1, _ => simp [zdq]; by_cases e : a.Offset = b.Offset <;> simp [e, w6e]
   | 2, _ => simp [zdq]; by_cases e : a.zD.Kind = b.zD.Kind <;> simp [e, w6e]
   | 3, _ => simp [zdq]; by_cases e : a.zD.Length = b.zD.Length <;> simp [e, w6e]
   | 4, _ => simp [zdq]; by_cases e : a.zD.Scale = b.zD.Scale <;> simp [e, w6e]) (by simp [zcu.r0, zcu.b0]) hN
 simp only [nc0] at this
 rw [this]
 simp only [obs]
 have e5 : List.range 5 = [0, 1, 2, 3, 4] := by decide
 rw [e5]
 unfold Proofs.Tryz.ltF
 by_cases h1 : a.Register = b.Register
 · by_cases h2 : a.Offset = b.Offset
   · by_cases h3 : a.zD.Kind = b.zD.Kind
     · by_cases h4 : a.zD.Length = b.zD.Length
       · by_cases h5 : a.zD.Scale = b.zD.Scale <;> simp [List.findSome?, h1, h2, h3, h4, h5, za9]
       · simp [List.findSome?, h1, h2, h3, h4, za9]
     · simp [List.findSome?, h1, h2, h3, za9]
   · simp [List.findSome?, h1, h2, za9]
 · simp [List.findSome?, h1, za9]
def zhn (f : zB) : List zB → List zB
 | [] => [f]
 | y :: l => cond (Proofs.Tryz.ltF f y) (f :: y :: l) (y :: zhn f l)
def zjg (l : List zB) (f : zB) : List zB := cond (zex l f) l (zhn f l)
theorem zt2 {f g : zB} : ∀ {l : List zB}, g ∈ zhn f l ↔ g = f ∨ g ∈ l
 | [] => by simp [zhn]
 | y :: l => by
  rw [zhn]; cases Proofs.Tryz.ltF f y with
  | true => simp
  | false => simp only [cfa, List.mem_cons, zt2 (l := l)]; constructor <;> (rintro (h | h | h) <;> simp [h])
theorem znn {l : List zB} {f g : zB} : g ∈ zjg l f ↔ g = f ∨ g ∈ l := by
 unfold zjg
 cases h : zex l f with
 | true =>
  have := zd8.1 h; simp only [ctr]; constructor
  · exact .inr
  · rintro (rfl | h)
    · exact this
    · exact h
 | false => rw [cfa, zt2]
theorem zt3 {f : zB} : ∀ {l : List zB}, (zhn f l).length = l.length + 1
 | [] => rfl
 | y :: l => by
  rw [zhn]; cases Proofs.Tryz.ltF f y with
  | true => rfl
  | false => simp only [cfa, lnc, zt3 (l := l)]
theorem zmc {l : List zB} {f : zB} : (zjg l f).length ≤ l.length + 1 := by
 unfold zjg
 cases zex l f with
 | true => simp
 | false => rw [cfa, zt3]; exact Nat.le_refl _
theorem zs9 {f : zB} : ∀ {l : List zB}, zez l → f ∉ l → zez (zhn f l)
 | [], _, _ => by simp [zhn, zez]
 | y :: l, h, hf => by
  obtain ⟨h1, h2⟩ := List.pairwise_cons.1 h; rw [zhn]; cases hlt : Proofs.Tryz.ltF f y with
  | true =>
   refine List.pairwise_cons.2 ⟨fun z hz => ?_, h⟩; rcases List.mem_cons.1 hz with rfl | hz
   · exact hlt
   · exact Proofs.Tryz.ltF_swo.2.1 _ _ _ hlt (h1 z hz)
  | false =>
   have hyf : Proofs.Tryz.ltF y f = true := by
    cases hyf : Proofs.Tryz.ltF y f with
    | true => rfl
    | false => exact absurd (Proofs.Tryz.ltF_eq _ _ hlt hyf) (fun e => hf (by rw [e]; simp))
   refine List.pairwise_cons.2 ⟨fun z hz => ?_, zs9 h2 (fun h => hf (by simp [h]))⟩; rcases zt2.1 hz with rfl | hz
   · exact hyf
   · exact h1 z hz
theorem zj8 {l : List zB} {f : zB} (h : zez l) : zez (zjg l f) := by
 unfold zjg
 cases hb : zex l f with
 | true => exact h
 | false => exact zs9 h (fun hf => by rw [zd8.2 hf] at hb; cases hb)
theorem zpo (N : Nat) (hN : 5 < N) (l : List zB) (f : zB) (h : l.length < N) (hl : l.length ≤ 100000) : zdi N l f = some (zjg l f) := by
 unfold zdi zjg
 rw [zux N l f h (by omega), obs]
 cases zex l f with
 | true => rfl
 | false =>
  simp only [cfa]; have spl : ∀ k : List zB, zhn f k = cond (k.any (Proofs.Tryz.ltF f)) (zhn f k) (k ++ [f]) := by
   intro k
   induction k with
   | nil => rfl
   | cons y k ih =>
    rw [List.any_cons]; cases hlt : Proofs.Tryz.ltF f y with
    | true => simp
    | false =>
     simp only [Bool.false_or, zhn, hlt, cfa]; rw [ih]; cases k.any (Proofs.Tryz.ltF f) <;> simp
  have snoc : ∀ (k : List zB) y, k.any (Proofs.Tryz.ltF f) = true → zhn f (k ++ [y]) = zhn f k ++ [y] := by
   intro k y
   induction k with
   | nil => intro h; simp at h
   | cons z k ih =>
    intro h; rw [List.cons_append, zhn, zhn]; cases hlt : Proofs.Tryz.ltF f z with
    | true => simp
    | false =>
     rw [List.any_cons, hlt, Bool.false_or] at h; simp only [cfa, ih h, List.cons_append]
  have snoc2 : ∀ (k : List zB) y, k.any (Proofs.Tryz.ltF f) = false → Proofs.Tryz.ltF f y = true → zhn f (k ++ [y]) = k ++ [f] ++ [y] := by
   intro k y
   induction k with
   | nil => intro _ h; simp [zhn, h]
   | cons z k ih =>
    intro h hy; rw [List.any_cons, Bool.or_eq_false_iff] at h; rw [List.cons_append, zhn, h.1, cfa, ih h.2 hy]; simp
  have := zdf (f := zdi.r0 N) (fun i => (l, cond ((l.take i).any (Proofs.Tryz.ltF f)) (zhn f (l.take i)) (l.take i), (l.take i).any (Proofs.Tryz.ltF f), (i : Int), f)) l.length (fun i hi => by
   have hx := lge hi; have htl : (l.take i).length = i := by simp; omega
   have hlen : (cond ((l.take i).any (Proofs.Tryz.ltF f)) (zhn f (l.take i)) (l.take i)).length ≤ i + 1 := by
    cases (l.take i).any (Proofs.Tryz.ltF f) with
    | true => rw [ctr, zt3, htl]; exact Nat.le_refl _
    | false => rw [cfa, htl]; omega
   simp only [zdi.r0, zdi.b0, zap, hx, obs, dct (show (i : Int) < (l.length : Int) by omega), ctr, z6f N hN, lna, lnc, ln0]; rw [w6e, ziz (by omega), ziz (by omega)]; rw [List.take_add_one, hx, Option.toList_some, List.any_append, List.any_cons, List.any_nil, Bool.or_false]; generalize l[i] = y; cases ha : (l.take i).any (Proofs.Tryz.ltF f) with
   | true => simp [snoc _ _ ha]
   | false =>
    cases hb : Proofs.Tryz.ltF f y with
    | true => simp [snoc2 _ _ ha hb]
    | false => simp)
   (by simp only [zdi.r0, zdi.b0, dcf (show ¬ (l.length : Int) < (l.length : Int) by omega), cfa]) h
  simp only [nc0, List.take_zero, List.any_nil, cfa, List.take_length] at this; rw [this]; simp only [obs]; rw [spl l]; cases ha : l.any (Proofs.Tryz.ltF f) with
  | true => simp
  | false => simp [ziz (show l.length + 1 ≤ 1000000000 by omega)]
theorem z02 (N : Nat) (l : List zB) (r : Int) (h : l.length < N) (hl : l.length ≤ 100000) : zda N l r = some (woL r l) := by
 unfold zda
 have := zsb (f := zda.r0 N) l (fun f => if f.Register = r then none else some f) (fun i acc => (l, r, acc, (i : Int))) (fun i x acc hx hacc => by
  have hi := (gei hx).1; simp only [zda.r0, zda.b0, zap, hx, obs, dct (show (i : Int) < (l.length : Int) by omega), ctr, lnc, ln0, ziz (show acc.length + (0 + 1) ≤ 1000000000 by omega)]; rw [w6e, zdq]
  by_cases e : x.Register = r <;> simp [e])
  (fun acc => by simp only [zda.r0, zda.b0, dcf (show ¬ (l.length : Int) < (l.length : Int) by omega), cfa]) h
 simp only [nc0] at this
 rw [this]
 simp only [obs]
 congr 1
 unfold woL
 rw [← List.filterMap_eq_filter]
 congr 1
 funext f
 by_cases e : f.Register = r <;> simp [Option.guard, e]
theorem z4h (N : Nat) (l : List zB) (h : l.length < N) (hl : l.length ≤ 100000) : zdb N l = some (l.filter fun f => f.Offset == -1) := by
 unfold zdb
 have := zsb (f := zdb.r0 N) l (fun f => if f.Offset = -1 then some f else none) (fun i acc => (l, acc, (i : Int))) (fun i x acc hx hacc => by
  have hi := (gei hx).1; simp only [zdb.r0, zdb.b0, zap, hx, obs, dct (show (i : Int) < (l.length : Int) by omega), ctr, lnc, ln0, ziz (show acc.length + (0 + 1) ≤ 1000000000 by omega)]; rw [w6e, zct]
  by_cases e : x.Offset = -1 <;> simp [e])
  (fun acc => by simp only [zdb.r0, zdb.b0, dcf (show ¬ (l.length : Int) < (l.length : Int) by omega), cfa]) h
 simp only [nc0] at this
 rw [this]
 simp only [obs]
 congr 1
 rw [← List.filterMap_eq_filter]
 congr 1
 funext f
 by_cases e : f.Offset = -1 <;> simp [Option.guard, e]
theorem zxw (N : Nat) (l : List zB) (a b : Int) (ht : ∀ x ∈ l, zcb x.zD = 0) (h : l.length < N) (hl : l.length ≤ 100000) : zdu N l a b = some (l.filter fun f => !apB a b f) := by
 unfold zdu
 have := zsb (f := zdu.r0 N) l (fun f => if apB a b f = true then none else some f) (fun i acc => (l, a, b, acc, (i : Int))) (fun i x acc hx hacc => by
  have hi := (gei hx).1; simp only [zdu.r0, zdu.b0, zap, hx, obs, dct (show (i : Int) < (l.length : Int) by omega), ctr, lnc, ln0, ziz (show acc.length + (0 + 1) ≤ 1000000000 by omega), zpn (ht x (lmg hx))]; rw [w6e (n := (i : Int) + 1), zct, orB, obs, orB, obs]; have e : (decide (x.Offset = -1) || decide (w6 (x.Offset + szE x.zD) ≤ a) || decide (w6 (a + b) ≤ x.Offset)) = !apB a b x := by
   unfold apB; rw [zdq]
   by_cases e1 : x.Offset = -1 <;> by_cases e2 : w6 (x.Offset + szE x.zD) ≤ a <;> by_cases e3 : w6 (a + b) ≤ x.Offset <;> simp [e1, e2, e3, Int.not_le.1] <;> omega
  rw [e]; cases apB a b x <;> simp)
  (fun acc => by simp only [zdu.r0, zdu.b0, dcf (show ¬ (l.length : Int) < (l.length : Int) by omega), cfa]) h
 simp only [nc0] at this
 rw [this]
 simp only [obs]
 congr 1
 rw [← List.filterMap_eq_filter]
 congr 1
 funext f
 cases e : apB a b f <;> simp [Option.guard, e]
variable {m : zI} {c : zF}
theorem ztw {α : Type} (q : α → Option zB) : ∀ (l : List α) (a : List zB) {f : zB}, f ∈ l.foldl (fun acc x => match q x with | some g => zjg acc g | none => acc) a ↔ f ∈ a ∨ ∃ x ∈ l, q x = some f
 | [], a, f => by simp
 | x :: l, a, f => by
  rw [List.foldl_cons, ztw q l]; cases hq : q x with
  | none =>
   constructor
   · rintro (h | ⟨y, hy, h⟩)
     · exact .inl h
     · exact .inr ⟨y, by simp [hy], h⟩
   · rintro (h | ⟨y, hy, h⟩)
     · exact .inl h
     · rcases List.mem_cons.1 hy with rfl | hy
       · rw [hq] at h; cases h
       · exact .inr ⟨y, hy, h⟩
  | some g =>
   simp only [znn]; constructor
   · rintro ((rfl | h) | ⟨y, hy, h⟩)
     · exact .inr ⟨x, by simp, hq⟩
     · exact .inl h
     · exact .inr ⟨y, by simp [hy], h⟩
   · rintro (h | ⟨y, hy, h⟩)
     · exact .inl (.inr h)
     · rcases List.mem_cons.1 hy with rfl | hy
       · rw [hq] at h; cases h; exact .inl (.inl rfl)
       · exact .inr ⟨y, hy, h⟩
theorem zo8 {α : Type} (q : α → Option zB) : ∀ (l : List α) {a : List zB}, zez a → zez (l.foldl (fun acc x => match q x with | some g => zjg acc g | none => acc) a)
 | [], a, h => h
 | x :: l, a, h => by
  rw [List.foldl_cons]; refine zo8 q l ?_; cases q x with
  | none => exact h
  | some g => exact zj8 h
theorem ztx {α : Type} (q : α → Option zB) : ∀ (l : List α) (a : List zB), (l.foldl (fun acc x => match q x with | some g => zjg acc g | none => acc) a).length ≤ a.length + l.length
 | [], a => by simp
 | x :: l, a => by
  rw [List.foldl_cons]; refine Nat.le_trans (ztx q l _) ?_; cases q x with
  | none => simp only [lnc]; omega
  | some g => have := zmc (l := a) (f := g); simp only [lnc]; omega
def zv0 (x : zC) (l : List zB) (g : zB) : Option zB := cond (zex l ⟨g.Register, x.zD, x.Place.Offset⟩) (some ⟨x.R, g.zD, g.Offset⟩) none
theorem z6j (N : Nat) (hN : 20000 < N) (x : zC) (l a : List zB) (h : l.length ≤ 5000) (ha : a.length ≤ 6000) :
 ze (za1.r1 N) N (l, a, 0, x) = some (l, l.foldl (fun acc y => match zv0 x l y with | some g => zjg acc g | none => acc) a, (l.length : Int), x) := by
 have := (z5o (f := za1.r1 N) l (fun acc y => match zv0 x l y with | some g => zjg acc g | none => acc) (fun i acc => acc.length ≤ 6000 + i) (fun i acc => (l, acc, (i : Int), x)) a (by omega) (fun i y acc hy hacc => by
  have hi := (gei hy).1; simp only [za1.r1, za1.b1, zap, hy, obs, dct (show (i : Int) < (l.length : Int) by omega), ctr, zux N l _ (show l.length < N by omega) (by omega), zpo N (by omega) acc _ (show acc.length < N by omega) (by omega)]; rw [w6e]; unfold zv0; cases zex l ⟨y.Register, x.zD, x.Place.Offset⟩ with
  | true => exact ⟨rfl, by have := zmc (l := acc) (f := ⟨x.R, y.zD, y.Offset⟩); simp only [ctr]; omega⟩
  | false => exact ⟨rfl, by simp only [cfa]; omega⟩)
  (fun acc => by simp only [za1.r1, za1.b1, dcf (show ¬ (l.length : Int) < (l.length : Int) by omega), cfa]) (show l.length < N by omega)).1
 simpa using this
def zvz (x : zC) (g : zB) : Option zB := cond (decide (g.Register = x.A)) (some ⟨x.R, g.zD, g.Offset⟩) none
theorem z6i (N : Nat) (hN : 20000 < N) (x : zC) (l a : List zB) (h : l.length ≤ 5000) (ha : a.length ≤ 6000) :
 ze (za1.r3 N) N (l, a, 0, x) = some (l, l.foldl (fun acc y => match zvz x y with | some g => zjg acc g | none => acc) a, (l.length : Int), x) := by
 have := (z5o (f := za1.r3 N) l (fun acc y => match zvz x y with | some g => zjg acc g | none => acc) (fun i acc => acc.length ≤ 6000 + i) (fun i acc => (l, acc, (i : Int), x)) a (by omega) (fun i y acc hy hacc => by
  have hi := (gei hy).1; simp only [za1.r3, za1.b3, zap, hy, obs, dct (show (i : Int) < (l.length : Int) by omega), ctr, zpo N (by omega) acc _ (show acc.length < N by omega) (by omega), zct]; rw [w6e]; unfold zvz
  by_cases e : y.Register = x.A
  · rw [dct e]; exact ⟨rfl, by have := zmc (l := acc) (f := ⟨x.R, y.zD, y.Offset⟩); simp only [ctr]; omega⟩
  · rw [dcf e]; exact ⟨rfl, by simp only [cfa]; omega⟩)
  (fun acc => by simp only [za1.r3, za1.b3, dcf (show ¬ (l.length : Int) < (l.length : Int) by omega), cfa]) (show l.length < N by omega)).1
 simpa using this
theorem z2u (N : Nat) (hN : 20000 < N) {x : zC} (hx : InsX m c x) {l : List zB} (hf : ∀ f ∈ l, FctV m c f) (hl : l.length ≤ 5000) :
 ∃ ys, za1 N x l = some ys ∧ (∀ f, f ∈ ys ↔ Beh x l f) ∧ (zez l → zez ys) ∧ ys.length ≤ 20000 := by
 have ht : ∀ f ∈ l, zcb f.zD = 0 := fun f h => (hf f h).ty
 have hw : (woL x.R l).length ≤ l.length := List.length_filter_le _ _
 have sw : zez l → zez (woL x.R l) := fun h => List.Pairwise.filter _ h
 unfold za1
 rw [z02 N l x.R (by omega) (by omega), z4h N l (by omega) (by omega)]
 simp only [obs, zct]
 by_cases e0 : x.Op = 0
 · rw [dct e0, ctr, zpo N (by omega) _ _ (by omega) (by omega), obs]; have hl2 : (zjg (woL x.R l) ⟨x.R, x.zD, -1⟩).length ≤ l.length + 1 := Nat.le_trans zmc (by omega); cases hb : x.Place.Based with
   | true =>
    refine ⟨_, rfl, fun f => ?_, fun h => zj8 (sw h), by omega⟩; unfold Beh; rw [ifp e0, znn, zli, hb]; simp [or_comm]
   | false =>
    rw [cfa, zpo N (by omega) _ _ (by omega) (by omega), obs]; have hl3 : (zjg (zjg (woL x.R l) ⟨x.R, x.zD, -1⟩) ⟨x.R, x.zD, x.Place.Offset⟩).length ≤ l.length + 2 := Nat.le_trans zmc (by omega); rw [z6j N hN x l _ hl (by omega)]; refine ⟨_, rfl, fun f => ?_, fun h => zo8 _ _ (zj8 (zj8 (sw h))), Nat.le_trans (ztx _ _ _) (by omega)⟩; unfold Beh; rw [ifp e0, ztw, znn, znn, zli, hb]; have : (∃ y ∈ l, zv0 x l y = some f) ↔ ∃ h ∈ l, h.zD = x.zD ∧ h.Offset = x.Place.Offset ∧ ∃ g ∈ l, g.Register = h.Register ∧ f = ⟨x.R, g.zD, g.Offset⟩ := by
     constructor
     · rintro ⟨y, hy, h⟩
       unfold zv0 at h; cases hh : zex l ⟨y.Register, x.zD, x.Place.Offset⟩ with
       | true =>
        rw [hh] at h; cases h; exact ⟨_, zd8.1 hh, rfl, rfl, y, hy, rfl, rfl⟩
       | false => rw [hh] at h; cases h
     · rintro ⟨h, hh, e1, e2, g, hg, e3, rfl⟩
       refine ⟨g, hg, ?_⟩; unfold zv0; have : zex l ⟨g.Register, x.zD, x.Place.Offset⟩ = true := by rw [zd8, e3, ← e1, ← e2]; exact hh
       rw [this]; rfl
    rw [this]; constructor
    · rintro ((h | h | h) | h)
      · exact .inr (.inr ⟨rfl, .inl h⟩)
      · exact .inr (.inl h)
      · exact .inl h
      · exact .inr (.inr ⟨rfl, .inr h⟩)
    · rintro (h | h | ⟨_, h | h⟩)
      · exact .inl (.inr (.inr h))
      · exact .inl (.inr (.inl h))
      · exact .inl (.inl h)
      · exact .inr h
 · rw [dcf e0, cfa]
   by_cases e4 : x.Op = 4
   · rw [dct e4, ctr, zpo N (by omega) _ _ (by omega) (by omega), obs]; refine ⟨_, rfl, fun f => ?_, fun h => zj8 (sw h), Nat.le_trans zmc (by omega)⟩; unfold Beh; rw [ifn e0, ifp e4, znn, zli, or_comm]
   · rw [dcf e4, cfa]
     by_cases e2 : x.Op = 2 ∨ x.Op = 21
     · rw [show cond (decide (x.Op = 2)) (some (decide (x.Op = 2))) (some (decide (x.Op = 21))) = some true by rcases e2 with e | e <;> simp [e], obs, ctr]; refine ⟨_, rfl, fun f => ?_, sw, by omega⟩; unfold Beh; rw [ifn e0, ifn e4, ifp e2, zli]
     · rw [show cond (decide (x.Op = 2)) (some (decide (x.Op = 2))) (some (decide (x.Op = 21))) = some false by rw [not_or] at e2; simp [e2.1, e2.2], obs, cfa]
       by_cases e3 : x.Op = 3
       · rw [dct e3, ctr]
         by_cases ea : x.A = x.R
         · rw [dct ea, ctr]; refine ⟨_, rfl, fun f => ?_, id, by omega⟩; unfold Beh; rw [ifn e0, ifn e4, ifn e2, ifp e3, ea]; constructor
           · intro h
             by_cases er : f.Register = x.R
             · exact .inr ⟨f, h, er, by obtain ⟨r, t, o⟩ := f; subst er; rfl⟩
             · exact .inl ⟨h, er⟩
           · rintro (h | ⟨g, hg, er, rfl⟩)
             · exact h.1
             · obtain ⟨r, t, o⟩ := g; subst er; exact hg
         · rw [dcf ea, cfa, z6i N hN x l _ hl (by omega)]; refine ⟨_, rfl, fun f => ?_, fun h => zo8 _ _ (sw h), Nat.le_trans (ztx _ _ _) (by omega)⟩; unfold Beh; rw [ifn e0, ifn e4, ifn e2, ifp e3, ztw, zli]; have : (∃ y ∈ l, zvz x y = some f) ↔ ∃ g ∈ l, g.Register = x.A ∧ f = ⟨x.R, g.zD, g.Offset⟩ := by
            constructor
            · rintro ⟨y, hy, h⟩
              unfold zvz at h
              by_cases e : y.Register = x.A
              · rw [dct e] at h; cases h; exact ⟨y, hy, e, rfl⟩
              · rw [dcf e] at h; cases h
            · rintro ⟨g, hg, e, rfl⟩
              exact ⟨g, hg, by unfold zvz; rw [dct e]; rfl⟩
           rw [this]
       · rw [dcf e3, cfa]
         by_cases e1 : x.Op = 1 ∨ x.Op = 9 ∨ x.Op = 10
         · rw [show cond (decide (x.Op = 1)) (some (decide (x.Op = 1))) (cond (decide (x.Op = 9)) (some (decide (x.Op = 9))) (some (decide (x.Op = 10)))) = some true by rcases e1 with e | e | e <;> simp [e], obs, ctr]; cases hb : x.Place.Based with
           | true =>
            refine ⟨_, rfl, fun f => ?_, fun h => List.Pairwise.filter _ h, Nat.le_trans (List.length_filter_le _ _) (by omega)⟩; unfold Beh; rw [ifn e0, ifn e4, ifn e2, ifn e3, ifp e1, hb]; simp [List.mem_filter]
           | false =>
            have hla : (l.filter fun f => !apB x.Place.Offset (szE x.zD) f).length ≤ l.length := List.length_filter_le _ _; rw [cfa, zpn (hx.ty (by omega)), obs, zxw N l _ _ ht (by omega) (by omega), obs, zux N l _ (by omega) (by omega)]; simp only [obs, zh9]; rw [zpo N (by omega) _ _ (by omega) (by omega)]; cases hc : (decide (x.Op = 1) && zex l ⟨x.R, x.zD, -1⟩) with
            | true =>
             refine ⟨_, rfl, fun f => ?_, fun h => zj8 (List.Pairwise.filter _ h), Nat.le_trans zmc (by omega)⟩; rw [Bool.and_eq_true, decide_eq_true_eq, zd8] at hc; unfold Beh; rw [ifn e0, ifn e4, ifn e2, ifn e3, ifp e1, hb, znn]; simp [List.mem_filter, hc.1, hc.2, or_comm]
            | false =>
             refine ⟨_, rfl, fun f => ?_, fun h => List.Pairwise.filter _ h, Nat.le_trans (List.length_filter_le _ _) (by omega)⟩; unfold Beh; rw [ifn e0, ifn e4, ifn e2, ifn e3, ifp e1, hb]; have hno : ¬ (x.Op = 1 ∧ (⟨x.R, x.zD, -1⟩ : zB) ∈ l) := by
              rintro ⟨a, b⟩
              rw [dct a, zd8.2 b] at hc; cases hc
             simp only [List.mem_filter, Bool.not_eq_true', Bool.false_eq_true, false_and, false_or, true_and]; constructor
             · exact .inl
             · rintro (h | ⟨a, b, _⟩)
               · exact h
               · exact absurd ⟨a, b⟩ hno
         · rw [show cond (decide (x.Op = 1)) (some (decide (x.Op = 1))) (cond (decide (x.Op = 9)) (some (decide (x.Op = 9))) (some (decide (x.Op = 10)))) = some false by rw [not_or, not_or] at e1; simp [e1.1, e1.2.1, e1.2.2], obs, cfa]
           by_cases e5 : x.Op = 14 ∨ x.Op = 15 ∨ x.Op = 16
           · rw [show cond (decide (x.Op = 14)) (some (decide (x.Op = 14))) (cond (decide (x.Op = 15)) (some (decide (x.Op = 15))) (some (decide (x.Op = 16)))) = some true by rcases e5 with e | e | e <;> simp [e], obs, ctr,
              zxw N l _ _ ht (by omega) (by omega)]
             refine ⟨_, rfl, fun f => ?_, fun h => List.Pairwise.filter _ h, Nat.le_trans (List.length_filter_le _ _) (by omega)⟩; unfold Beh; rw [ifn e0, ifn e4, ifn e2, ifn e3, ifn e1, ifp e5]; simp [List.mem_filter]
           · rw [show cond (decide (x.Op = 14)) (some (decide (x.Op = 14))) (cond (decide (x.Op = 15)) (some (decide (x.Op = 15))) (some (decide (x.Op = 16)))) = some false by rw [not_or, not_or] at e5; simp [e5.1, e5.2.1, e5.2.2], obs, cfa]; refine ⟨_, rfl, fun f => ?_, id, by omega⟩; unfold Beh; rw [ifn e0, ifn e4, ifn e2, ifn e3, ifn e1, ifn e5]
theorem zjw {n : Nat} (f : Nat → Bool) {k : Nat} (v : Bool) : ((List.range n).map f).set k v = (List.range n).map fun i => if i = k then v else f i := by
 apply List.ext_getElem?
 intro i
 rw [List.getElem?_set, List.getElem?_map, List.getElem?_map, lnm, List.length_range]
 by_cases hi : i < n
 · rw [List.getElem?_range hi]
   by_cases e : k = i
   · subst e; simp [hi]
   · simp [e, Ne.symm e]
 · rw [List.getElem?_eq_none (by simpa using hi)]
   by_cases e : k = i
   · subst e; simp [hi]
   · simp [e]
theorem zch {n : Nat} (f : Nat → Bool) {k : Nat} (h : k < n) : ((List.range n).map f)[k]? = some (f k) := by
 rw [List.getElem?_map, List.getElem?_range h]
 rfl
theorem znz (n : Nat) : List.replicate n false = (List.range n).map fun _ => false := by
 apply List.ext_getElem
 · simp
 · intro i h1 h2; simp
def zmh (c : zF) (k : Nat) : Bool := decide (k = 0) || c.zP.any fun t => decide (t.Handler = (k : Int))
def zv6 (c : zF) (k : Nat) : Bool := match k with | 0 => false | j + 1 => (c.zA[j]?).any fun x => decide (x.Op = 18)
theorem zjx (c : zF) (j : Nat) : zv6 c (j + 1) = (c.zA[j]?).any fun x => decide (x.Op = 18) := rfl
def zd0 (c : zF) (k : Nat) : Bool := zmh c k || zv6 c k
def zb7 (c : zF) : List Bool := (List.range c.zA.length).map (zd0 c)
structure CdV (m : zI) (c : zF) : Prop where
 m1 : 2 ≤ m.Registers
 m2 : m.Registers ≤ 8
 sz : c.Storage.Bytes.size ≤ 1024
 len : c.zA.length ≤ 240
 pos : 0 < c.zA.length
 traps : c.zP.length ≤ 1048576
 ins : ∀ x ∈ c.zA, InsX m c x
 trap : ∀ t ∈ c.zP, 0 ≤ t.Handler ∧ t.Handler < (c.zA.length : Int)
variable {m : zI} {c : zF}
theorem z5z (N : Nat) (hN : 1048600 < N) (hc : CdV m c) : ze (zw.r0 N) N (((List.range c.zA.length).map fun k => decide (k = 0)), c.zP, (c.zP.length : Int), 0, c) = some ((List.range c.zA.length).map (zmh c), c.zP, (c.zP.length : Int), (c.zP.length : Int), c) := by
 have ht := hc.traps
 have := zdf (f := zw.r0 N) (fun i => ((List.range c.zA.length).map (fun k : Nat => decide (k = 0) || (c.zP.take i).any fun t => decide (t.Handler = (k : Int))), c.zP, (c.zP.length : Int), (i : Int), c)) c.zP.length (fun i hi => by
  have hx := lge hi; obtain ⟨h0, h1⟩ := hc.trap _ (lmg hx); generalize c.zP[i] = x at hx h0 h1; simp only [zw.r0, zw.b0, zap, hx, obs, dct (show (i : Int) < (c.zP.length : Int) by omega), ctr, ifp h0]; rw [ifp (by simpa using h1), zch _ (by omega), w6e, obs, zjw, List.take_add_one, hx]
  congr 3
  apply List.map_congr_left; intro k _; simp only [List.any_append, Option.toList_some, List.any_cons, List.any_nil, Bool.or_false]
  by_cases e : k = x.Handler.toNat
  · subst e; have : x.Handler = ((x.Handler.toNat : Nat) : Int) := by omega
    simp [← this]
  · have : ¬ x.Handler = (k : Int) := by omega
    simp [e, this])
  (by simp only [zw.r0, zw.b0, dcf (show ¬ (c.zP.length : Int) < (c.zP.length : Int) by omega), cfa]) (show c.zP.length < N by omega)
 rw [show zmh c = (fun k : Nat => decide (k = 0) || c.zP.any fun t => decide (t.Handler = (k : Int))) from rfl]
 simpa using this
theorem z6g (N : Nat) (hN : 1048600 < N) (hc : CdV m c) : ze (zay.r0 N) N (((List.range c.zA.length).map fun k => decide (k = 0)), 0, c) = some ((List.range c.zA.length).map (zmh c), (c.zP.length : Int), c) := by
 have ht := hc.traps
 have := zdf (f := zay.r0 N) (fun i => ((List.range c.zA.length).map (fun k : Nat => decide (k = 0) || (c.zP.take i).any fun t => decide (t.Handler = (k : Int))), (i : Int), c)) c.zP.length (fun i hi => by
  have hx := lge hi; obtain ⟨h0, h1⟩ := hc.trap _ (lmg hx); generalize c.zP[i] = x at hx h0 h1; simp only [zay.r0, zay.b0, zap, hx, obs, dct (show (i : Int) < (c.zP.length : Int) by omega), ctr, ifp h0]; rw [ifp (by simpa using h1), zch _ (by omega), w6e, obs, zjw, List.take_add_one, hx]
  congr 3
  apply List.map_congr_left; intro k _; simp only [List.any_append, Option.toList_some, List.any_cons, List.any_nil, Bool.or_false]
  by_cases e : k = x.Handler.toNat
  · subst e; have : x.Handler = ((x.Handler.toNat : Nat) : Int) := by omega
    simp [← this]
  · have : ¬ x.Handler = (k : Int) := by omega
    simp [e, this])
  (by simp only [zay.r0, zay.b0, dcf (show ¬ (c.zP.length : Int) < (c.zP.length : Int) by omega), cfa]) (show c.zP.length < N by omega)
 rw [show zmh c = (fun k : Nat => decide (k = 0) || c.zP.any fun t => decide (t.Handler = (k : Int))) from rfl]
 simpa using this
def zjn (c : zF) : List Int := (List.range c.zA.length).filterMap fun i => (c.zA[i]?).bind fun x => if x.Op = 18 ∧ i + 1 < c.zA.length then some ((i : Int) + 1) else none
theorem z4c (N : Nat) (hN : 1000 < N) (hc : CdV m c) : zao N c = some (zjn c) := by
 unfold zao
 have hl := hc.len
 have := zsb (f := zao.r0 N) (List.range c.zA.length) (fun i => (c.zA[i]?).bind fun x => if x.Op = 18 ∧ i + 1 < c.zA.length then some ((i : Int) + 1) else none) (fun i acc => (acc, c.zA, (c.zA.length : Int), (i : Int), c)) (fun i j acc hj hacc => by
  obtain ⟨hi, rfl⟩ := gei hj; have hi : i < c.zA.length := by simpa using hi
  have hx := lge hi; simp only [List.getElem_range]; generalize c.zA[i] = x at hx; simp only [zao.r0, zao.b0, zap, hx, obs, dct (show (i : Int) < (c.zA.length : Int) by omega), ctr, zct, lnc, ln0, zm8 (show acc.length + (0 + 1) ≤ 1000000 by omega)]; rw [w6e, zh9, obs]
  by_cases e1 : x.Op = 18 <;> by_cases e2 : i + 1 < c.zA.length
  · simp [e1, e2, show ((i : Int) + 1 < (c.zA.length : Int)) by omega]
  · simp [e1, e2, show ¬ ((i : Int) + 1 < (c.zA.length : Int)) by omega]
  · simp [e1]
  · simp [e1])
  (fun acc => by simp only [zao.r0, zao.b0, List.length_range, dcf (show ¬ (c.zA.length : Int) < (c.zA.length : Int) by omega), cfa]) (show (List.range c.zA.length).length < N by simp; omega)
 simp only [nc0] at this
 rw [this]
 rfl
theorem zub {z : Int} : z ∈ zjn c ↔ ∃ k : Nat, z = (k : Int) ∧ k < c.zA.length ∧ zv6 c k = true := by
 unfold zjn
 rw [List.mem_filterMap]
 constructor
 · rintro ⟨i, hi, h⟩
   have hi : i < c.zA.length := by simpa using hi
   rw [lge hi, obs] at h; split at h
   · rename_i e; cases h; refine ⟨i + 1, rfl, e.2, ?_⟩; rw [zjx, lge hi]; simp [e.1]
   · cases h
 · rintro ⟨k, rfl, hk, h⟩
   cases k with
   | zero => cases h
   | succ j =>
    have hj : j < c.zA.length := by omega
    refine ⟨j, by simpa using hj, ?_⟩; rw [zjx, lge hj] at h; rw [lge hj]; have h18 : c.zA[j].Op = 18 := by simpa using h
    rw [obs, ifp ⟨h18, hk⟩]; rfl
theorem z0r (N : Nat) (hN : 1048600 < N) (hc : CdV m c) : zw N c = some (zb7 c) := by
 unfold zw
 have hl := hc.len
 have hp := hc.pos
 rw [ifp, ifp, itn, zy6 (by omega), ctr, ifp, ifp (by simp; omega), Int.toNat_zero, znz, zch _ hp, obs, zjw]
 have e : ((List.range c.zA.length).map fun i => if i = 0 then true else false) = (List.range c.zA.length).map fun k => decide (k = 0) := by
  apply List.map_congr_left; intro k _
  by_cases h : k = 0 <;> simp [h]
 rw [e, z5z N hN hc]
 simp only [obs]
 rw [z4c N (by omega) hc]
 simp only [obs]
 have hcl : (zjn c).length ≤ c.zA.length := by
  unfold zjn; exact Nat.le_trans (List.length_filterMap_le _ _) (by simp)
 have := zdf (f := zw.r2 N) (fun i => ((List.range c.zA.length).map (fun k : Nat => zmh c k || ((zjn c).take i).any fun t => decide (t = (k : Int))), zjn c, ((zjn c).length : Int), (i : Int))) (zjn c).length (fun i hi => by
  have hx := lge hi; obtain ⟨k0, hk0, hk1, _⟩ := zub.1 (lmg hx); generalize (zjn c)[i] = x at hx hk0; subst hk0; simp only [zw.r2, zw.b2, zap, hx, obs, dct (show (i : Int) < ((zjn c).length : Int) by omega), ctr, ifp (show 0 ≤ (k0 : Int) by omega)]; rw [ifp (by simp; omega), itn, zch _ hk1, w6e, obs, zjw, List.take_add_one, hx]
  congr 3
  apply List.map_congr_left; intro k _; simp only [List.any_append, Option.toList_some, List.any_cons, List.any_nil, Bool.or_false]
  by_cases e : k = k0
  · subst e; simp
  · have : ¬ ((k0 : Int) = (k : Int)) := by omega
    simp [e, this])
  (by simp only [zw.r2, zw.b2, dcf (show ¬ ((zjn c).length : Int) < ((zjn c).length : Int) by omega), cfa]) (show (zjn c).length < N by omega)
 simp only [nc0, List.take_zero, List.any_nil, Bool.or_false, List.take_length] at this
 rw [this]
 simp only [obs]
 congr 1
 apply List.map_congr_left
 intro k hk
 have hk : k < c.zA.length := by simpa using hk
 unfold zd0
 congr 1
 rw [Bool.eq_iff_iff, List.any_eq_true]
 constructor
 · rintro ⟨z, hz, h⟩
   have h := of_decide_eq_true h; subst h; obtain ⟨k', e, _, h⟩ := zub.1 hz; obtain rfl : k = k' := by omega
   exact h
 · intro h; exact ⟨(k : Int), zub.2 ⟨k, rfl, hk, h⟩, by simp⟩
theorem zuy (N : Nat) (hN : 1048600 < N) (hc : CdV m c) : zay N c = some (zb7 c) := by
 unfold zay
 have hl := hc.len
 have hp := hc.pos
 rw [ifp, ifp, itn, zy6 (by omega), ctr, ifp, ifp (by simp; omega), Int.toNat_zero, znz, zch _ hp, obs, zjw]
 have e : ((List.range c.zA.length).map fun i => if i = 0 then true else false) = (List.range c.zA.length).map fun k => decide (k = 0) := by
  apply List.map_congr_left; intro k _
  by_cases h : k = 0 <;> simp [h]
 rw [e, z6g N hN hc]
 simp only [obs]
 have := zdf (f := zay.r2 N) (fun i => ((List.range c.zA.length).map (fun k : Nat => zmh c k || (decide (k ≤ i) && zv6 c k)), (i : Int), c)) (c.zA.length - 1) (fun i hi => by
  have hi' : i < c.zA.length := by omega
  have hx := lge hi'; have e1 : ((i : Int) + 1).toNat = i + 1 := by omega
  simp only [zay.r2, zay.b2]; rw [w6e, lnm, List.length_range, dct (show (i : Int) + 1 < (c.zA.length : Int) by omega), ctr, ifp, ifp, e1, zch _ (by omega), obs, zap, hx, obs, orB, obs, ifp, ifp, obs, zjw]; have e2 : (i : Int) + 1 = ((i + 1 : Nat) : Int) := by omega
  rw [e2]
  congr 3
  apply List.map_congr_left; intro k _
  by_cases e : k = i + 1
  · subst e; rw [ifp rfl]; simp only [dcf (show ¬ i + 1 ≤ i by omega), Bool.false_and, Bool.or_false, dct (Nat.le_refl (i + 1)), Bool.true_and]
    congr 1
    rw [zjx, hx, zct]; rfl
  · rw [ifn e]; have : decide (k ≤ i) = decide (k ≤ i + 1) := by
     by_cases h : k ≤ i
     · rw [dct h, dct (by omega)]
     · rw [dcf h, dcf (by omega)]
    rw [this])
  (by
   simp only [zay.r2, zay.b2]; rw [w6e, lnm, List.length_range, dcf (by omega), cfa]) (show c.zA.length - 1 < N by omega)
 have e0 : ((List.range c.zA.length).map (fun k : Nat => zmh c k || (decide (k ≤ 0) && zv6 c k))) = (List.range c.zA.length).map (zmh c) := by
  apply List.map_congr_left; intro k _; cases k with
  | zero => simp [zv6]
  | succ j => simp
 simp only [nc0, e0] at this
 rw [this]
 simp only [obs]
 congr 1
 apply List.map_congr_left
 intro k hk
 have hk : k < c.zA.length := by simpa using hk
 unfold zd0
 rw [dct (by omega), Bool.true_and]
def zlv (o : Int) : Bool := decide (o ≠ 8) && (decide (o ≠ 18) && (decide (o ≠ 19) && (decide (o ≠ 20) && decide (o ≠ 26))))
def zdj (o : Int) : Bool := decide (o = 6) || (decide (o = 7) || (decide (o = 8) || decide (o = 18)))
def zam (c : zF) (i : Nat) : List Int := match c.zA[i]? with
 | none => []
 | some x => (if i + 1 < c.zA.length ∧ zlv x.Op = true then [(i : Int) + 1] else []) ++ (if zdj x.Op = true then [x.Target] else [])
theorem zxe (o : Int) : zci o = some (zdj o) := by
 unfold zci zdj
 simp only [zct, orB, obs, Bool.or_assoc]
theorem zzk (o : Int) : zj6 o = some (zdj o) := by
 unfold zj6 zdj
 simp only [zct, orB, obs, Bool.or_assoc]
theorem zzu (hl : c.zA.length ≤ 1000000) {i : Nat} (hi : i < c.zA.length) : zcy c (i : Int) = some (zam c i) := by
 unfold zcy zam
 have hx := lge hi
 rw [zap, hx, obs]
 simp only
 generalize c.zA[i] = x
 have q : (cond (x.Op == 8) (some (x.Op == 8)) (cond (x.Op == 18) (some (x.Op == 18)) (cond (x.Op == 19) (some (x.Op == 19)) (cond (x.Op == 20) (some (x.Op == 20)) (some (x.Op == 26)))))) = some (!zlv x.Op) := by
  unfold zlv; simp only [zct]
  by_cases h1 : x.Op = 8
  · simp [h1]
  · by_cases h2 : x.Op = 18
    · simp [h2]
    · by_cases h3 : x.Op = 19
      · simp [h3]
      · by_cases h4 : x.Op = 20
        · simp [h4]
        · by_cases h5 : x.Op = 26 <;> simp [h1, h2, h3, h4, h5]
 rw [q, obs, zxe, w6e]
 simp only [obs, lnc, ln0, zm8 (show 0 + 1 ≤ 1000000 by omega), zm8 (show 0 + 1 + (0 + 1) ≤ 1000000 by omega), ctr]
 cases hg : zlv x.Op with
 | false => simp; cases zdj x.Op <;> simp
 | true =>
  by_cases h : i + 1 < c.zA.length
  · rw [dct (show (i : Int) + 1 < (c.zA.length : Int) by omega)]; simp [h]; cases zdj x.Op <;> simp
  · rw [dcf (show ¬ (i : Int) + 1 < (c.zA.length : Int) by omega)]; simp [h]; cases zdj x.Op <;> simp
theorem zzz (hl : c.zA.length ≤ 1000000) {i : Nat} (hi : i < c.zA.length) : ziw c (i : Int) = some (zam c i) := by
 unfold ziw zam
 have hx := lge hi
 rw [zap, hx, obs]
 simp only
 generalize c.zA[i] = x
 rw [w6e]
 simp only [zh9, obs, zdq, zzk, lnc, ln0, zm8 (show 0 + 1 ≤ 1000000 by omega), zm8 (show 0 + 1 + (0 + 1) ≤ 1000000 by omega), ctr]
 have e : (decide ((i : Int) + 1 < (c.zA.length : Int)) && decide (x.Op ≠ 8) && decide (x.Op ≠ 18) && decide (x.Op ≠ 19) && decide (x.Op ≠ 20) && decide (x.Op ≠ 26)) = (decide (i + 1 < c.zA.length) && zlv x.Op) := by
  unfold zlv; simp only [Bool.and_assoc]
  congr 1
  by_cases h : i + 1 < c.zA.length
  · rw [dct h, dct (by omega)]
  · rw [dcf h, dcf (by omega)]
 rw [e]
 by_cases h : i + 1 < c.zA.length <;> cases hg : zlv x.Op <;> cases hj : zdj x.Op <;> simp [h]
theorem zgl (hc : CdV m c) {i : Nat} {z : Int} (h : z ∈ zam c i) : ∃ k : Nat, z = (k : Int) ∧ k < c.zA.length := by
 unfold zam at h
 cases hx : c.zA[i]? with
 | none => rw [hx] at h; simp at h
 | some x =>
  rw [hx] at h; simp only [List.mem_append] at h; rcases h with h | h
  · split at h
    · rename_i e; have : z = (i : Int) + 1 := by simpa using h
      exact ⟨i + 1, by omega, e.1⟩
    · simp at h
  · split at h
    · rename_i e; have hz : z = x.Target := by simpa using h
      unfold zdj at e; simp only [Bool.or_eq_true, decide_eq_true_eq] at e; have := (hc.ins x (lmg hx)).tg (by omega); exact ⟨x.Target.toNat, by omega, by omega⟩
    · simp at h
variable {m : zI} {c : zF}
theorem z2v {m : zI} {c : zF} {n : Int} (h : zmm m c = (n, 0)) : (∀ x ∈ c.zA, zgp m c x = 0) ∧ (∀ t ∈ c.zP, zis c t = true) ∧ n = (c.zA.length : Int) := by
 have h1 := z6k h
 refine ⟨h1, ?_⟩
 unfold zmm at h
 cases hf : (List.range c.zA.length).findSome? (gI m c) with
 | some r =>
  exfalso
  obtain ⟨j, _, hj⟩ := eof hf; unfold gI at hj; rw [Option.bind_eq_some_iff] at hj; obtain ⟨y, hy1, hy⟩ := hj; rw [ifp (h1 y (lmg hy1))] at hy; cases hy
 | none =>
  rw [hf] at h; cases hg : (List.range c.zP.length).findSome? (gT c) with
  | some r =>
   exfalso
   rw [hg] at h; obtain ⟨j, _, hj⟩ := eof hg; unfold gT at hj; rw [Option.bind_eq_some_iff] at hj; obtain ⟨y, hy1, hy⟩ := hj; split at hy
   · cases hy
   · cases hy; have h3 : (3 : Int) = 0 := congrArg Prod.snd h; exact absurd h3 (by decide)
  | none =>
   rw [hg] at h; refine ⟨fun t ht => ?_, (congrArg Prod.fst h).symm⟩; rw [List.findSome?_eq_none_iff] at hg; obtain ⟨i, hi⟩ := List.getElem?_of_mem ht; have := hg i (by simp; exact (gei hi).1); unfold gT at this; rw [hi, obs] at this; split at this
   · assumption
   · cases this
theorem z8n (N : Nat) (hN : 1048600 < N) {m : zI} {c : zF} (hc : Wft En 1048576 Ty.zF c) {n : Int} (h : zaa N m c = some (n, 0)) : CdV m c ∧ n = (c.zA.length : Int) := by
 obtain ⟨e, _, he2, he3⟩ := zqv m
 obtain ⟨i1, e1, e2, _, hs2, hs⟩ := zti N (by omega) c.Storage
 obtain ⟨w1, w2, w3, w4, w5⟩ := zlf hc
 unfold zaa at h
 try simp only [eS, eM, eC] at h
 rw [he2, hs2] at h
 simp only [obs] at h
 by_cases h0 : e = 0
 · subst h0; have hm := he3 rfl; simp only [bsf, cfa] at h
   by_cases h2 : e2 = 0
   · rcases hs with ⟨rfl, hs⟩ | ⟨ok, htl, _, _⟩
     · exact absurd h2 hs
     · subst h2; obtain ⟨l, hl1, hl2⟩ := zvu N c.Storage htl (by omega); rw [hl1] at h; simp only [bsf, cfa, obs, orB] at h; cases hd : decide ((l.length : Int) > 0) with
       | true => rw [hd] at h; cases h
       | false =>
        rw [hd] at h hl2; simp only [cfa] at h
        by_cases hz : (c.zA.length : Int) = 0
        · rw [hz] at h; cases h
        · rw [zct, dcf hz] at h; simp only [cfa] at h; cases hb : (decide ((c.zA.length : Int) > 240) || decide ((c.zP.length : Int) > 40)) with
          | true => rw [hb] at h; cases h
          | false =>
           rw [hb] at h; simp only [cfa] at h; have := zqi N hN hm ok hc; rw [this] at h; simp only [Bool.or_eq_false_iff, decide_eq_false_iff_not] at hb; obtain ⟨r1, r2, r3⟩ := z2v (Option.some.inj h); have hand : ∀ t ∈ c.zP, 0 ≤ t.Handler ∧ t.Handler < (c.zA.length : Int) := fun t ht => by
            have h5 := r2 t ht; unfold zis at h5; simp only [Bool.and_eq_true] at h5; have h6 := zb6.1 h5.2.2.2; omega
           exact ⟨⟨hm.1, hm.2, ok.le, by omega, by omega, by omega, fun x hx => z5k (r1 x hx), hand⟩, r3⟩
   · rw [zdq, dct h2] at h; simp only [ctr, Option.some.injEq, Prod.mk.injEq] at h; exact absurd h.2 h2
 · rw [zdq, dct h0] at h; simp only [ctr, Option.some.injEq, Prod.mk.injEq] at h; exact absurd h.2 h0
variable {m : zI} {c : zF}
theorem zqc {i : Nat} : (zam c i).length ≤ 2 := by
 unfold zam
 cases c.zA[i]? with
 | none => simp
 | some x =>
  simp only [lna]; split <;> split <;> simp
variable {F : List (List zB)}
variable {m : zI} {c : zF} {F : List (List zB)}
theorem z7k : zkn 2000000 = some true := by kernel_rfl
variable {m : zI} {c : zF}
theorem zqz {α : Type} {f : α → Option (Stp α)} (I J : α → Prop) (μ : α → Nat) (h : ∀ s, I s → (∃ s', f s = some (.again s') ∧ I s' ∧ μ s' < μ s) ∨ (∃ s', f s = some (.leave s') ∧ J s')) :
 ∀ (N : Nat) (s : α), I s → μ s < N → ∃ s', ze f N s = some s' ∧ J s'
 | 0, s, _, hN => by omega
 | N + 1, s, hI, hN => by
  rcases h s hI with ⟨s', h1, h2, h3⟩ | ⟨s', h1, h2⟩
  · obtain ⟨s2, h4, h5⟩ := zqz I J μ h N s' h2 (by omega); exact ⟨s2, by rw [ze, h1]; exact h4, h5⟩
  · exact ⟨s', by rw [ze, h1]; rfl, h2⟩
def cnt (p : Nat → Bool) : Nat → Nat
 | 0 => 0
 | n + 1 => cnt p n + cond (p n) 0 1
def upd (p : Nat → Bool) (x : Nat) (k : Nat) : Bool := if k = x then true else p k
theorem zvi (p : Nat → Bool) : ∀ n, cnt p n ≤ n
 | 0 => Nat.le_refl _
 | n + 1 => by have := zvi p n; simp only [cnt]; cases p n <;> simp <;> omega
theorem zv7 (p : Nat → Bool) (x : Nat) : ∀ n, cnt (upd p x) n + cond (decide (x < n) && !p x) 1 0 = cnt p n
 | 0 => by simp [cnt]
 | n + 1 => by
  have ih := zv7 p x n; simp only [cnt]
  by_cases e : n = x
  · subst e; rw [dcf (Nat.lt_irrefl n)] at ih; simp only [Bool.false_and, cfa, Nat.add_zero] at ih; rw [dct (Nat.lt_succ_self n), ih]; have : upd p n n = true := by simp [upd]
    rw [this]; cases p n <;> simp
  · have h1 : upd p x n = p n := by simp [upd, e]
    have h2 : decide (x < n + 1) = decide (x < n) := by
     by_cases h : x < n
     · rw [dct h, dct (by omega)]
     · rw [dcf h, dcf (by omega)]
    rw [h1, h2]; omega
theorem zpl {n : Nat} (p : Nat → Bool) (x : Nat) : ((List.range n).map p).set x true = (List.range n).map (upd p x) := zjw p true
inductive Rch (c : zF) : Nat → Prop
 | ent {k : Nat} (h : k < c.zA.length) (he : zd0 c k = true) : Rch c k
 | step {i k : Nat} (h : Rch c i) (hs : (k : Int) ∈ zam c i) : Rch c k
theorem Rch.lt (hc : CdV m c) {k : Nat} (h : Rch c k) : k < c.zA.length := by
 cases h with
 | ent h _ => exact h
 | step _ hs =>
  obtain ⟨k', e, hk⟩ := zgl hc hs; omega
theorem zno {n : Nat} {p q : Nat → Bool} (h : ∀ k, k < n → p k = q k) : (List.range n).map p = (List.range n).map q := List.map_congr_left fun k hk => h k (by simpa using hk)
theorem z2x (hc : CdV m c) {p : Nat → Bool} (h1 : ∀ k, k < c.zA.length → p k = true → Rch c k) (h2 : ∀ k, k < c.zA.length → zd0 c k = true → p k = true)
 (h3 : ∀ i, i < c.zA.length → p i = true → ∀ k : Nat, (k : Int) ∈ zam c i → p k = true) : ∀ k, Rch c k → p k = true := by
 intro k h
 induction h with
 | ent h he => exact h2 _ h he
 | step h hs ih => exact h3 _ (h.lt hc) ih _ hs
theorem z06 (hc : CdV m c) {p q : Nat → Bool} (h1 : ∀ k, k < c.zA.length → p k = true → Rch c k) (h2 : ∀ k, Rch c k → p k = true) (g1 : ∀ k, k < c.zA.length → q k = true → Rch c k) (g2 : ∀ k, Rch c k → q k = true) :
 ∀ k, k < c.zA.length → p k = q k := fun k hk => by
 rw [Bool.eq_iff_iff]
 exact ⟨fun h => g2 k (h1 k hk h), fun h => h2 k (g1 k hk h)⟩
def zt7 (c : zF) : List Int := (List.range c.zA.length).filterMap fun i => if zd0 c i = true then some (i : Int) else none
theorem z13 (N : Nat) (hN : 1000 < N) (hc : CdV m c) (s : List Bool) : ze (zu.r0 N) N (s, [], zb7 c, (c.zA.length : Int), 0, c) = some (s, zt7 c, zb7 c, (c.zA.length : Int), (c.zA.length : Int), c) := by
 have hl := hc.len
 have := zsb (f := zu.r0 N) (List.range c.zA.length) (fun i => if zd0 c i = true then some (i : Int) else none) (fun i acc => (s, acc, zb7 c, (c.zA.length : Int), (i : Int), c)) (fun i j acc hj hacc => by
  obtain ⟨hi, rfl⟩ := gei hj; have hi : i < c.zA.length := by simpa using hi
  have hent : (zb7 c)[i]? = some (zd0 c i) := zch _ hi; simp only [List.getElem_range]; simp only [zu.r0, zu.b0, zap, hent, obs, dct (show (i : Int) < (c.zA.length : Int) by omega), ctr, lnc, ln0, zm8 (show acc.length + (0 + 1) ≤ 1000000 by omega)]; rw [w6e]; cases zd0 c i <;> simp)
  (fun acc => by simp only [zu.r0, zu.b0, List.length_range, dcf (show ¬ (c.zA.length : Int) < (c.zA.length : Int) by omega), cfa]) (show (List.range c.zA.length).length < N by simp; omega)
 simp only [nc0, List.length_range] at this
 exact this
theorem zyq {z : Int} : z ∈ zt7 c ↔ ∃ k : Nat, z = (k : Int) ∧ k < c.zA.length ∧ zd0 c k = true := by
 unfold zt7
 rw [List.mem_filterMap]
 constructor
 · rintro ⟨i, hi, h⟩
   split at h
   · rename_i e; cases h; exact ⟨i, rfl, by simpa using hi, e⟩
   · cases h
 · rintro ⟨k, rfl, hk, he⟩
   exact ⟨k, by simpa using hk, by rw [ifp he]⟩
structure QR (c : zF) (p : Nat → Bool) (l : List Int) : Prop where
 r : ∀ k, k < c.zA.length → p k = true → Rch c k
 w : ∀ z ∈ l, ∃ k : Nat, z = (k : Int) ∧ Rch c k
 e : ∀ k, k < c.zA.length → zd0 c k = true → p k = true ∨ (k : Int) ∈ l
 s : ∀ i, i < c.zA.length → p i = true → ∀ k : Nat, (k : Int) ∈ zam c i → p k = true ∨ (k : Int) ∈ l
theorem z38 (N : Nat) (hN : 1048600 < N) (hc : CdV m c) : ∃ p : Nat → Bool, zu N c (zb7 c) = some ((List.range c.zA.length).map p) ∧ (∀ k, k < c.zA.length → p k = true → Rch c k) ∧ ∀ k, Rch c k → p k = true := by
 have hl := hc.len
 have hle : (zb7 c).length = c.zA.length := by simp [zb7]
 unfold zu
 rw [hle, ifp, ifp, itn, zy6 (by omega), ctr, z13 N (by omega) hc]
 simp only [obs]
 have hol : (zt7 c).length ≤ c.zA.length := Nat.le_trans (List.length_filterMap_le _ _) (by simp)
 obtain ⟨s, hs, p, rfl, hq⟩ := zqz (f := zu.r2 N) (fun s => ∃ p o, s = ((List.range c.zA.length).map p, o, c) ∧ QR c p o ∧ o.length + 3 * cnt p c.zA.length ≤ 4 * c.zA.length)
  (fun s => ∃ p, s = ((List.range c.zA.length).map p, [], c) ∧ QR c p []) (fun s => match s with | (b, o, _) => o.length + 3 * cnt (fun k => (b[k]?).getD false) c.zA.length) (by
  rintro s ⟨p, o, rfl, hq, hm⟩
  have hcp : cnt (fun k => (((List.range c.zA.length).map p)[k]?).getD false) c.zA.length = cnt p c.zA.length := by
   have : ∀ j, j ≤ c.zA.length → cnt (fun k => (((List.range c.zA.length).map p)[k]?).getD false) j = cnt p j := by
    intro j
    induction j with
    | zero => intro _; rfl
    | succ j ih =>
     intro hj; simp only [cnt]; rw [ih (by omega), zch p (show j < c.zA.length by omega)]; rfl
   exact this _ (Nat.le_refl _)
  cases o with
  | nil => exact .inr ⟨_, by simp [zu.r2, zu.b2], p, rfl, hq⟩
  | cons z o =>
   left; obtain ⟨x, rfl, hx⟩ := hq.w z (by simp); have hxl := hx.lt hc; have hol2 : o.length + 1 ≤ 4 * c.zA.length := by simp only [lnc] at hm; omega
   simp only [zu.r2, zu.b2, lnc]; rw [dct (by omega), ctr, ifp, ifp]; simp only [Int.toNat_zero, List.getElem?_cons_zero, obs]; rw [ifp, ifp, ifp (by simp; omega), itn, zch p hxl, obs]; cases hp : p x with
   | true =>
    refine ⟨_, rfl, ⟨p, o, rfl, ⟨hq.r, fun z hz => hq.w z (by simp [hz]), fun k hk he => ?_, fun i hi hpi k hk => ?_⟩, by simp only [lnc] at hm; omega⟩, ?_⟩
    · rcases hq.e k hk he with h | h
      · exact .inl h
      · rcases List.mem_cons.1 h with h | h
        · obtain rfl : k = x := by omega
          exact .inl hp
        · exact .inr h
    · rcases hq.s i hi hpi k hk with h | h
      · exact .inl h
      · rcases List.mem_cons.1 h with h | h
        · obtain rfl : k = x := by omega
          exact .inl hp
        · exact .inr h
    · simp
   | false =>
    have hsl := zqc (c := c) (i := x); have hcu := zv7 p x c.zA.length; rw [dct hxl, hp] at hcu; simp only [Bool.not_false, Bool.and_true, ctr] at hcu; have hone : (1 : Int).toNat = 1 := rfl; rw [zzu (by omega) hxl]; simp only [Bool.not_false, ctr, obs, hone, List.drop_succ_cons, dr0]; rw [ifp, ifp (by simp; omega), zm8 (by omega), ctr, zpl]; refine ⟨_, rfl, ⟨upd p x, o ++ zam c x, rfl, ⟨fun k hk hpk => ?_, fun z hz => ?_, fun k hk he => ?_, fun i hi hpi k hk => ?_⟩, ?_⟩, ?_⟩
    · unfold upd at hpk; split at hpk
      · rename_i e; subst e; exact hx
      · exact hq.r k hk hpk
    · rcases List.mem_append.1 hz with hz | hz
      · exact hq.w z (by simp [hz])
      · obtain ⟨k, rfl, _⟩ := zgl hc hz; exact ⟨k, rfl, .step hx hz⟩
    · unfold upd; split
      · exact .inl rfl
      · rename_i e; rcases hq.e k hk he with h | h
        · exact .inl h
        · rcases List.mem_cons.1 h with h | h
          · omega
          · exact .inr (by simp [h])
    · unfold upd at hpi ⊢; split at hpi
      · rename_i e; subst e; exact .inr (by simp [hk])
      · split
        · exact .inl rfl
        · rename_i e; rcases hq.s i hi hpi k hk with h | h
          · exact .inl h
          · rcases List.mem_cons.1 h with h | h
            · omega
            · exact .inr (by simp [h])
    · simp only [lnc] at hm; rw [lna]; omega
    · have : cnt (fun k => (((List.range c.zA.length).map (upd p x))[k]?).getD false) c.zA.length = cnt (upd p x) c.zA.length := by
       have : ∀ j, j ≤ c.zA.length → cnt (fun k => (((List.range c.zA.length).map (upd p x))[k]?).getD false) j = cnt (upd p x) j := by
        intro j
        induction j with
        | zero => intro _; rfl
        | succ j ih =>
         intro hj; simp only [cnt]; rw [ih (by omega), zch (upd p x) (show j < c.zA.length by omega)]; rfl
       exact this _ (Nat.le_refl _)
      simp only [this, hcp, lna, lnc]; omega) N (List.replicate c.zA.length false, zt7 c, c) ⟨fun _ => false, zt7 c, by rw [znz], ⟨fun k _ h => by simp at h, fun z hz => by
   obtain ⟨k, e, hk, he⟩ := zyq.1 hz; exact ⟨k, e, .ent hk he⟩, fun k hk he => .inr (zyq.2 ⟨k, rfl, hk, he⟩), fun i _ h => by simp at h⟩, by have := zvi (fun _ => false) c.zA.length; omega⟩ (by
    show (zt7 c).length + 3 * cnt _ _ < N; have := zvi (fun k => ((List.replicate c.zA.length false)[k]?).getD false) c.zA.length; omega)
 rw [hs]
 refine ⟨p, rfl, hq.r, z2x hc hq.r (fun k hk he => ?_) fun i hi hp k hk => ?_⟩
 · rcases hq.e k hk he with h | h
   · exact h
   · simp at h
 · rcases hq.s i hi hp k hk with h | h
   · exact h
   · simp at h
end
end Go.Proofs.YtnpfkhdbmlhfhaaGreatDoor.M
