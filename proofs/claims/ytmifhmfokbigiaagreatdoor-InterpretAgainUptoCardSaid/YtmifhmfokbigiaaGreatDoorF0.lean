/- What the program's functions compute, each tied to its code: part 0. -/
import Derived.Test.YtmifhmfokbigiaaGreatDoorU
namespace Go.Proofs.YtmifhmfokbigiaaGreatDoor.M
open Go Go.Amx
set_option linter.unusedVariables false
set_option maxRecDepth 100000
noncomputable section
def zt6  : Option zB :=
 some (⟨([(⟨(⟨#[65]⟩ : ByteArray), 0, (⟨1, 3, 0⟩ : DataType), (⟨7, (⟨#[]⟩ : ByteArray)⟩ : Value), (⟨#[]⟩ : ByteArray), 0, 0⟩ : zF), (⟨(⟨#[79, 78, 69]⟩ : ByteArray), 4, (⟨1, 1, 0⟩ : DataType), (⟨1, (⟨#[]⟩ : ByteArray)⟩ : Value), (⟨#[]⟩ : ByteArray), 0, 0⟩ : zF)] : List zF), ([(⟨2, ([0, 0, 1] : List Int)⟩ : zI), (⟨17, ([0] : List Int)⟩ : zI), (⟨18, []⟩ : zI)] : List zI), []⟩ : zB)
def zt6.k : Kq := ⟨39, (cvv [Ty.zB] [] zt6), go [] {lits := [8, 10]} [] Proofs.Tryz.func39⟩
def zb9 (a0 : Bool) (a1 : Int) : Option Int :=
 cond a0 (some a1) (some 0)
def zb9.k : Kq := ⟨128, (cvv [T6] [Ty.bool, T6] zb9), go [] {} [] Proofs.Tryz.func128⟩
def zbs.b0 (N : Nat) (s5 : List Int) (s6 : Int) (s7 : Int) : Option (Round Int ((List Int) × Int × Int)) :=
 cond (decide (s7 < s6)) ((idx s5 s7).bind fun x1001 => cond (x1001 != 0) (some (.result x1001)) (some (.again (s5, s6, (w6 (s7 + 1)))))) (some (.leave (s5, s6, s7)))
def zbs.r0 (N : Nat) (x : (List Int) × Int × Int) := zbs.b0 N x.1 x.2.1 x.2.2
def zbs (N : Nat) (a0 : List Int) : Option Int :=
 (zj (zbs.r0 N) N (a0, (a0.length : Int), 0)).bind fun z2 => zb5 z2 (fun z => some z) (fun y1 => some 0)
def zbs.k (N : Nat) : Kq := ⟨127, (cvv [T6] [(Ty.sl T6)] (zbs N)), go [] {} [(0, .rets { slots := [(5, .val (Ty.sl T6)), (6, .val T6), (7, .val T6)], boxes := [] } [(Ty.sl T6), T6, T6] (zj (zbs.r0 N) N))] Proofs.Tryz.func127 (hL := ⟨⟨_, _, rfl, by kernel_rfl⟩, trivial⟩)⟩
def zcu.b0 (N : Nat) (s15 : List Int) (s16 : Int) (s17 : Int) : Option (Round Bool ((List Int) × Int × Int)) :=
 cond (decide (s17 < s16)) (if 0 ≤ s17 then (if s17 < (s15.length : Int) then ((s15[s17.toNat]?).bind fun x1001 => (cond (decide (65 ≤ x1001)) (some (decide (x1001 ≤ 90)))
  (some false)).bind fun g1002 => (cond g1002 (some true) (some (x1001 == 35))).bind fun g1003 => (cond g1003 (some true) (some (x1001 == 36))).bind fun g1004 =>
  (cond g1004 (some true) (some (x1001 == 64))).bind fun g1005 => (cond (decide (48 ≤ x1001)) (some (decide (x1001 ≤ 57))) (some false)).bind fun g1006 => (cond g1006 (some true)
  (some (x1001 == 95))).bind fun g1007 => (cond g1007 (some true) (some (x1001 == 46))).bind fun g1008 => (cond (!g1005) ((cond (s17 == 0) (some true)
  (some (!g1008))).bind fun g1009 => some g1009) (some false)).bind fun g1010 => cond g1010 (some (.result false))
  (some (.again (s15, s16, (w6 (s17 + 1)))))) else none) else none) (some (.leave (s15, s16, s17)))
def zcu.r0 (N : Nat) (x : (List Int) × Int × Int) := zcu.b0 N x.1 x.2.1 x.2.2
def zcu (N : Nat) (a0 : ByteArray) : Option Bool :=
 (cond (a0.toList == (⟨#[]⟩ : ByteArray).toList) (some true) (some (decide ((a0.size : Int) > 10)))).bind fun g1 => cond g1 (some false)
  ((zj (zcu.r0 N) N ((zex a0), ((zex a0).length : Int), 0)).bind fun z3 => zb5 z3 (fun z => some z) (fun y2 => some true))
def zcu.k (N : Nat) : Kq := ⟨183, (cvv [Ty.bool] [Ty.str] (zcu N)), go [] {} [(0, .rets { slots := [(15, .own 5000015 (Ty.int .u8)), (16, .val T6), (17, .val T6)], boxes := [] } [(Ty.sl (Ty.int .u8)), T6, T6] (zj (zcu.r0 N) N))] Proofs.Tryz.func183 (hL := ⟨⟨_, _, rfl, by kernel_rfl⟩, trivial⟩)⟩
def zlk (a0 : zF) (a1 : ByteArray) : Option Bool :=
 some (a0.Name.toList == a1.toList)
def zlk.k : Kq := ⟨193, (ctv [.val Ty.zF, .ptr Ty.str false []] [Ty.bool] [] [] [Ty.zF, Ty.str] zlk), go [] {ro := [1000000], pk := [1000000]} [] Proofs.Tryz.func193⟩
def zn.b0 (N : Nat) (s0 : List zF) (s7 : Int) (s8 : Int) (b1000000 : ByteArray) : Option (Round Int ((List zF) × Int × Int × ByteArray)) :=
 cond (decide (s8 < s7)) ((idx s0 s8).bind fun x1001 => (zlk x1001 b1000000).bind fun r1002 => cond r1002 (some (.result s8))
  (some (.again (s0, s7, (w6 (s8 + 1)), b1000000)))) (some (.leave (s0, s7, s8, b1000000)))
def zn.r0 (N : Nat) (x : (List zF) × Int × Int × ByteArray) := zn.b0 N x.1 x.2.1 x.2.2.1 x.2.2.2
def zn (N : Nat) (a0 : List zF) (a1 : ByteArray) : Option Int :=
 (zj (zn.r0 N) N (a0, (a0.length : Int), 0, a1)).bind fun z2 => zb5 z2 (fun z => some z) (fun y1 => some (-1))
def zn.k (N : Nat) : Kq := ⟨172, (ctv [.val (Ty.sl Ty.zF), .clo 193 1, .ptr Ty.str false []] [T6] [] [] [(Ty.sl Ty.zF), Ty.str] (zn N)), go [zlk.k] {ro := [1000000], pk := [1000000]} [(0, .rets { slots := [(0, .val (Ty.sl Ty.zF)), (1, .fn 193 [1000000]), (7, .val T6), (8, .val T6)], boxes := [(1000000, Ty.str, [])] } [(Ty.sl Ty.zF), T6, T6, Ty.str] (zj (zn.r0 N) N))] Proofs.Tryz.func172 (hL := ⟨⟨_, _, rfl, by kernel_rfl⟩, trivial⟩)⟩
def zgs (N : Nat) (a0 : List zF) (a1 : ByteArray) : Option Int :=
 (zn N a0 a1).bind fun r1 => some r1
def zgs.k (N : Nat) : Kq := ⟨140, (cvv [T6] [(Ty.sl Ty.zF), Ty.str] (zgs N)), go [zn.k N] {} [] Proofs.Tryz.func140⟩
def zd4 (a0 : Int) (a1 : Int) (a2 : Int) : Option Bool :=
 (cond (decide (a1 ≤ a0)) (some (decide (a0 ≤ a2))) (some false)).bind fun g1 => some g1
def zd4.k : Kq := ⟨184, (cvv [Ty.bool] [T6, T6, T6] zd4), go [] {} [] Proofs.Tryz.func184⟩
def zfs (a0 : zF) : Option Bool :=
 (cond (a0.Kind == 0) (some true) (some (a0.Kind == 1))).bind fun g1 => (cond g1 (some true) (some (a0.Kind == 2))).bind fun g2 => (cond g2 (some true)
  (some (a0.Kind == 4))).bind fun g3 => some g3
def zfs.k : Kq := ⟨186, (cvv [Ty.bool] [Ty.zF] zfs), go [] {} [] Proofs.Tryz.func186⟩
def zln (a0 : zF) : Option zF :=
 (zfs a0).bind fun r1 => cond r1 ((cond (a0.Kind == 0) (some (a0.Kind == 0)) (some (a0.Kind == 4))).bind fun q2 =>
  cond q2 (some (⟨a0.Name, a0.Kind, a0.zJ, a0.Value, (⟨#[]⟩ : ByteArray), 0, 0⟩ : zF)) ((cond (a0.Kind == 1) (some (a0.Kind == 1)) (some (a0.Kind == 2))).bind fun q3 =>
  cond q3 (some (⟨a0.Name, a0.Kind, a0.zJ, (⟨0, (⟨#[]⟩ : ByteArray)⟩ : Value), a0.Base, a0.Offset, 0⟩ : zF)) (cond (a0.Kind == 5)
  (some (⟨a0.Name, a0.Kind, a0.zJ, (⟨0, (⟨#[]⟩ : ByteArray)⟩ : Value), (⟨#[]⟩ : ByteArray), 0, a0.Target⟩ : zF))
  (some (⟨a0.Name, a0.Kind, a0.zJ, (⟨0, (⟨#[]⟩ : ByteArray)⟩ : Value), (⟨#[]⟩ : ByteArray), 0, 0⟩ : zF))))) ((cond (a0.Kind == 0) (some (a0.Kind == 0))
  (some (a0.Kind == 4))).bind fun q4 => cond q4 (some (⟨a0.Name, a0.Kind, (⟨0, 0, 0⟩ : DataType), a0.Value, (⟨#[]⟩ : ByteArray), 0, 0⟩ : zF)) ((cond (a0.Kind == 1)
  (some (a0.Kind == 1)) (some (a0.Kind == 2))).bind fun q5 =>
  cond q5 (some (⟨a0.Name, a0.Kind, (⟨0, 0, 0⟩ : DataType), (⟨0, (⟨#[]⟩ : ByteArray)⟩ : Value), a0.Base, a0.Offset, 0⟩ : zF)) (cond (a0.Kind == 5)
  (some (⟨a0.Name, a0.Kind, (⟨0, 0, 0⟩ : DataType), (⟨0, (⟨#[]⟩ : ByteArray)⟩ : Value), (⟨#[]⟩ : ByteArray), 0, a0.Target⟩ : zF))
  (some (⟨a0.Name, a0.Kind, (⟨0, 0, 0⟩ : DataType), (⟨0, (⟨#[]⟩ : ByteArray)⟩ : Value), (⟨#[]⟩ : ByteArray), 0, 0⟩ : zF)))))
def zln.k : Kq := ⟨185, (cvv [Ty.zF] [Ty.zF] zln), go [zfs.k] {bj := [16, 22]} [] Proofs.Tryz.func185⟩
def zep (a0 : Int) (a1 : Int) (a2 : Int) : Option Bool :=
 (cond (decide (a1 ≤ a0)) (some (decide (a0 ≤ a2))) (some false)).bind fun g1 => some g1
def zep.k : Kq := ⟨202, (cvv [Ty.bool] [T6, T6, T6] zep), go [] {} [] Proofs.Tryz.func202⟩
def za3 (a0 : Bool) (a1 : Int) : Option Int :=
 cond a0 (some a1) (some 0)
def za3.k : Kq := ⟨200, (cvv [T6] [Ty.bool, T6] za3), go [] {} [] Proofs.Tryz.func200⟩
def zq.b0 (N : Nat) (s5 : List Int) (s6 : Int) (s7 : Int) : Option (Round Int ((List Int) × Int × Int)) :=
 cond (decide (s7 < s6)) ((idx s5 s7).bind fun x1001 => cond (x1001 != 0) (some (.result x1001)) (some (.again (s5, s6, (w6 (s7 + 1)))))) (some (.leave (s5, s6, s7)))
def zq.r0 (N : Nat) (x : (List Int) × Int × Int) := zq.b0 N x.1 x.2.1 x.2.2
def zq (N : Nat) (a0 : List Int) : Option Int :=
 (zj (zq.r0 N) N (a0, (a0.length : Int), 0)).bind fun z2 => zb5 z2 (fun z => some z) (fun y1 => some 0)
def zq.k (N : Nat) : Kq := ⟨199, (cvv [T6] [(Ty.sl T6)] (zq N)), go [] {} [(0, .rets { slots := [(5, .val (Ty.sl T6)), (6, .val T6), (7, .val T6)], boxes := [] } [(Ty.sl T6), T6, T6] (zj (zq.r0 N) N))] Proofs.Tryz.func199 (hL := ⟨⟨_, _, rfl, by kernel_rfl⟩, trivial⟩)⟩
def zbo (N : Nat) (a0 : DataType) : Option Int :=
 cond (a0.Kind == 0) ((zep a0.Length 1 256).bind fun r1 => (za3 (!r1) 18).bind fun r2 => (za3 (!(a0.Scale == 0)) 3).bind fun r3 =>
  (zq N ([r2, r3] : List Int)).bind fun r4 => some r4) ((cond (a0.Kind == 1) (some (a0.Kind == 1)) (some (a0.Kind == 2))).bind fun q5 =>
  cond q5 ((zep a0.Length 1 15).bind fun r6 => (zep a0.Scale 0 a0.Length).bind fun r7 => (za3 (!r6) 18).bind fun r8 => (za3 (!r7) 3).bind fun r9 =>
  (zq N ([r8, r9] : List Int)).bind fun r10 => some r10) (cond (a0.Kind == 3) ((cond (a0.Length == 4) (some true) (some (a0.Length == 9))).bind fun g11 =>
  (zep a0.Scale 0 a0.Length).bind fun r12 => (za3 (!g11) 18).bind fun r13 => (za3 (!r12) 3).bind fun r14 =>
  (zq N ([r13, r14] : List Int)).bind fun r15 => some r15) (cond (a0.Kind == 4) ((za3 (!(a0.Length == 0)) 18).bind fun r16 =>
  (za3 (!(a0.Scale == 0)) 3).bind fun r17 => (zq N ([r16, r17] : List Int)).bind fun r18 => some r18) (some 4))))
def zbo.k (N : Nat) : Kq := ⟨187, (cvv [T6] [Ty.DataType] (zbo N)), go [zq.k N, za3.k, zep.k] {lits := [48, 51, 52], bj := [15]} [] Proofs.Tryz.func187⟩
def zc2.b0 (N : Nat) (s3 : Int) (s5 : Int) (s6 : Int) : Option (Stp (Int × Int × Int)) :=
 cond (decide (s6 < s5)) (some (.again ((w6 (s3 * 10)), s5, (w6 (s6 + 1))))) (some (.leave (s3, s5, s6)))
def zc2.r0 (N : Nat) (x : Int × Int × Int) := zc2.b0 N x.1 x.2.1 x.2.2
def zc2 (N : Nat) (a0 : Int) : Option Int :=
 (zl (zc2.r0 N) N (1, (if 18 < a0 then 18 else a0), 0)).bind fun y1 => some y1.1
def zc2.k (N : Nat) : Kq := ⟨201, (cvv [T6] [T6] (zc2 N)), go [] {} [(0, .plain { slots := [(3, .val T6), (5, .val T6), (6, .val T6)], boxes := [] } [T6, T6, T6] (zl (zc2.r0 N) N))] Proofs.Tryz.func201 (hL := ⟨⟨_, _, rfl, by kernel_rfl⟩, trivial⟩)⟩
def zb3 (N : Nat) (a0 : DataType) (a1 : Value) : Option Int :=
 (zbo N a0).bind fun r1 => (za3 (a0.Kind == 4) 17).bind fun r2 => (zq N ([r1, r2] : List Int)).bind fun r3 => cond (r3 != 0) (some r3)
  (cond (a0.Kind == 0) ((za3 (a1.N != 0) 5).bind fun r4 => (za3 ((a1.S.size : Int) != a0.Length) 18).bind fun r5 =>
  (zq N ([r4, r5] : List Int)).bind fun r6 => some r6) ((zc2 N a0.Length).bind fun r7 =>
  (za3 (!(a1.S.toList == (⟨#[]⟩ : ByteArray).toList)) 5).bind fun r8 => (zep a1.N (w6 (0 - (w6 (r7 - 1))))
  (w6 (r7 - 1))).bind fun r9 => (za3 (!r9) 19).bind fun r10 => (zq N ([r8, r10] : List Int)).bind fun r11 => some r11))
def zb3.k (N : Nat) : Kq := ⟨143, (cvv [T6] [Ty.DataType, Ty.Value] (zb3 N)), go [zbo.k N, zq.k N, za3.k, zc2.k N, zep.k] {lits := [8, 12, 13, 24, 31, 32, 41, 49, 50]} [] Proofs.Tryz.func143⟩
def zhs (a0 : DataType) : Option Int :=
 cond (a0.Kind == 1) (some (w6 ((w6 (a0.Length.tdiv 2)) + 1))) (cond (a0.Kind == 3)
  (some (w6 (2 + (w6 ((w6 (a0.Length.tdiv 9)) * 2))))) (cond (a0.Kind == 4) (some 16) (some a0.Length)))
def zhs.k : Kq := ⟨205, (cvv [T6] [Ty.DataType] zhs), go [] {} [] Proofs.Tryz.func205⟩
def zik (N : Nat) (a0 : DataType) : Option (Int × Int) :=
 (zbo N a0).bind fun r1 => cond (r1 != 0) (some (0, r1)) ((zhs a0).bind fun r2 => some (r2, 0))
def zik.k (N : Nat) : Kq := ⟨176, (cvv [T6, T6] [Ty.DataType] (zik N)), go [zbo.k N, zhs.k] {} [] Proofs.Tryz.func176⟩
def zix (N : Nat) (a0 : zF) : Option Int :=
 (zik N a0.zJ).bind fun r1 => some r1.1
def zix.k (N : Nat) : Kq := ⟨139, (cvv [T6] [Ty.zF] (zix N)), go [zik.k N] {} [] Proofs.Tryz.func139⟩
def ziz (N : Nat) (a0 : zF) (a1 : List zF) : Option Int :=
 (zgs N a1 a0.Base).bind fun r1 => cond (decide (r1 < 0)) (some 11) ((idx a1 r1).bind fun x2 => cond (a0.Kind == 2) ((zb9 (x2.Kind != 3) 17).bind fun r3 =>
  (zd4 a0.Offset 0 256).bind fun r4 => (zb9 (!r4) 3).bind fun r5 => (zbs N ([r3, r5] : List Int)).bind fun r6 => some r6) (cond (x2.Kind != 0) (some 17)
  ((zix N x2).bind fun r7 => (zix N a0).bind fun r8 => (zd4 a0.Offset 0 (w6 (r7 - r8))).bind fun r9 => (zb9 (!r9) 3).bind fun r10 =>
  some r10)))
def ziz.k (N : Nat) : Kq := ⟨188, (cvv [T6] [Ty.zF, (Ty.sl Ty.zF)] (ziz N)), go [zbs.k N, zb9.k, zix.k N, zgs.k N, zd4.k] {lits := [23, 28, 29]} [] Proofs.Tryz.func188⟩
def zie (N : Nat) (a0 : zB) (a1 : Int) : Option Int :=
 (idx a0.zA a1).bind fun x1 => if 0 ≤ a1 ∧ a1 ≤ (a0.zA.length : Int) then (if 0 ≤ (0 : Int) ∧ (0 : Int) ≤ a1 then ((zcu N x1.Name).bind fun r2 =>
  (zb9 (!r2) 7).bind fun r3 => (zgs N ((a0.zA.take a1.toNat).drop (0 : Int).toNat) x1.Name).bind fun r4 =>
  (zb9 (decide (r4 ≥ 0)) 13).bind fun r5 => (zd4 x1.Kind 0 5).bind fun r6 => (zb9 (!r6) 4).bind fun r7 => (zln x1).bind fun r8 =>
  (zb9 (!(zfd [(r8.Name == x1.Name), (r8.Kind == x1.Kind), (r8.zJ.Kind == x1.zJ.Kind), (r8.zJ.Length == x1.zJ.Length), (r8.zJ.Scale == x1.zJ.Scale), (r8.Value.N == x1.Value.N), (r8.Value.S == x1.Value.S), (r8.Base == x1.Base), (r8.Offset == x1.Offset), (r8.Target == x1.Target)])) 5).bind fun r9 =>
  (zbs N ([r3, r5, r7, r9] : List Int)).bind fun r10 => cond (r10 != 0) (some r10) ((zfs x1).bind fun r11 =>
  cond r11 ((zbo N x1.zJ).bind fun r12 => (zb9 (x1.zJ.Kind == 4) 17).bind fun r13 => (zbs N ([r12, r13] : List Int)).bind fun r14 =>
  cond (r14 != 0) (some r14) ((cond (x1.Kind == 0) (some (x1.Kind == 0)) (some (x1.Kind == 4))).bind fun q15 => cond q15 ((zb3 N x1.zJ x1.Value).bind fun r16 =>
  some r16) ((cond (x1.Kind == 1) (some (x1.Kind == 1)) (some (x1.Kind == 2))).bind fun q17 =>
  cond q17 ((ziz N x1 ((a0.zA.take a1.toNat).drop (0 : Int).toNat)).bind fun r18 => some r18) (cond (x1.Kind == 5)
  ((zd4 x1.Target 0 (w6 ((a0.zG.length : Int) - 1))).bind fun r19 => (zb9 (!r19) 3).bind fun r20 => some r20) (some 0)))))
  ((cond (x1.Kind == 0) (some (x1.Kind == 0)) (some (x1.Kind == 4))).bind fun q21 => cond q21 ((zb3 N x1.zJ x1.Value).bind fun r22 => some r22)
  ((cond (x1.Kind == 1) (some (x1.Kind == 1)) (some (x1.Kind == 2))).bind fun q23 =>
  cond q23 ((ziz N x1 ((a0.zA.take a1.toNat).drop (0 : Int).toNat)).bind fun r24 => some r24) (cond (x1.Kind == 5)
  ((zd4 x1.Target 0 (w6 ((a0.zG.length : Int) - 1))).bind fun r25 => (zb9 (!r25) 3).bind fun r26 => some r26)
  (some 0)))))) else none) else none
def zie.k (N : Nat) : Kq := ⟨129, (cvv [T6] [Ty.zB, T6] (zie N)), go [zbs.k N, zb9.k, zgs.k N, zb3.k N, zcu.k N, zd4.k, zln.k, zfs.k, zbo.k N, ziz.k N] {lits := [22, 28, 33, 38, 39, 48, 53, 54], bj := [61, 69]} [] Proofs.Tryz.func129⟩
def zdr (a0 : Int) (a1 : Int) : Option (Int × Int) :=
 some ((IntKind.wrap .u64 ((IntKind.wrap .u64 ((IntKind.wrap .u64 ((a0.fdiv (2 ^ (min (32 : Int).toNat 64))) * (a1.fdiv (2 ^ (min (32 : Int).toNat 64))))) + ((IntKind.wrap .u64 ((IntKind.wrap .u64 ((a0.fdiv (2 ^ (min (32 : Int).toNat 64))) * (zf7 .u64 a1 4294967295))) + ((IntKind.wrap .u64 ((zf7 .u64 a0 4294967295) * (zf7 .u64 a1 4294967295))).fdiv (2 ^ (min (32 : Int).toNat 64))))).fdiv (2 ^ (min (32 : Int).toNat 64))))) + ((IntKind.wrap .u64 ((zf7 .u64 (IntKind.wrap .u64 ((IntKind.wrap .u64 ((a0.fdiv (2 ^ (min (32 : Int).toNat 64))) * (zf7 .u64 a1 4294967295))) + ((IntKind.wrap .u64 ((zf7 .u64 a0 4294967295) * (zf7 .u64 a1 4294967295))).fdiv (2 ^ (min (32 : Int).toNat 64))))) 4294967295) + (IntKind.wrap .u64 ((zf7 .u64 a0 4294967295) * (a1.fdiv (2 ^ (min (32 : Int).toNat 64))))))).fdiv (2 ^ (min (32 : Int).toNat 64))))), (IntKind.wrap .u64 (a0 * a1)))
def zdr.k : Kq := ⟨233, (cvv [(Ty.int .u64), (Ty.int .u64)] [(Ty.int .u64), (Ty.int .u64)] zdr), go [] {} [] Proofs.Tryz.func233⟩
def zov (a0 : Int) (a1 : Int) : Option (Int × Int) :=
 (zdr a0 a1).bind fun r1 => some (r1.1, r1.2)
def zov.k : Kq := ⟨192, (cvv [(Ty.int .u64), (Ty.int .u64)] [(Ty.int .u64), (Ty.int .u64)] zov), go [zdr.k] {} [] Proofs.Tryz.func192⟩
def zb8.b0 (N : Nat) (s7 : List Int) (s8 : Int) : Option (Stp ((List Int) × Int)) :=
 cond (decide (s8 < (s7.length : Int)))
  (if 0 ≤ s8 ∧ s8 ≤ (s7.length : Int) then (if 0 ≤ s8 ∧ s8 ≤ (s7.length : Int) then (if 0 ≤ (0 : Int) ∧ (0 : Int) ≤ s8 then (some (.again ((s7.take s8.toNat ++ ((s7.drop ((0 : Int).toNat)).take (s8.toNat - (0 : Int).toNat)).take (min ((s7.drop ((0 : Int).toNat)).take (s8.toNat - (0 : Int).toNat)).length (s7.length - s8.toNat)) ++ s7.drop (s8.toNat + (min ((s7.drop ((0 : Int).toNat)).take (s8.toNat - (0 : Int).toNat)).length (s7.length - s8.toNat)))), (w6 (s8 + (((min ((s7.drop ((0 : Int).toNat)).take (s8.toNat - (0 : Int).toNat)).length (s7.length - s8.toNat)) : Nat) : Int)))))) else none) else none) else none)
  (some (.leave (s7, s8)))
def zb8.r0 (N : Nat) (x : (List Int) × Int) := zb8.b0 N x.1 x.2
def zb8 (N : Nat) (a0 : List Int) (a1 : Int) : Option ((List Int)) :=
 cond (decide (a1 < 0)) (none) ((zov (IntKind.wrap .u64 (a0.length : Int)) (IntKind.wrap .u64 a1)).bind fun r1 => (cond (decide (r1.1 > 0)) (some true)
  (some (decide (r1.2 > 9223372036854775807)))).bind fun g2 => cond g2 (none)
  (if 0 ≤ (w6 r1.2) then (if (w6 r1.2) ≤ (w6 r1.2) then (cond (Nat.ble ((w6 r1.2).toNat * 8) zbr)
  ((zl (zb8.r0 N) N ((a0.take (min a0.length (List.replicate (w6 r1.2).toNat (0 : Int)).length) ++ (List.replicate (w6 r1.2).toNat (0 : Int)).drop (min a0.length (List.replicate (w6 r1.2).toNat (0 : Int)).length)), (((min a0.length (List.replicate (w6 r1.2).toNat (0 : Int)).length) : Nat) : Int))).bind fun y3 =>
  some y3.1) none) else none) else none))
def zb8.k (N : Nat) : Kq := ⟨138, (ctv [.val (Ty.sl T6), .val T6] [(Ty.sl T6)] [] [0] [(Ty.sl T6), T6] (zb8 N)), go [zov.k] {} [(0, .plain { slots := [(7, .own 5000007 T6), (8, .val T6)], boxes := [] } [(Ty.sl T6), T6] (zl (zb8.r0 N) N))] Proofs.Tryz.func138 (hL := ⟨⟨_, _, rfl, by kernel_rfl⟩, trivial⟩)⟩
def zm.b0 (N : Nat) (s0 : List zF) (s4 : List Int) (s5 : Int) (s16 : List zF) (s17 : Int) (s18 : Int) : Option (Stp ((List zF) × (List Int) × Int × (List zF) × Int × Int)) :=
 cond (decide (s18 < s17)) ((idx s16 s18).bind fun x1001 => cond (x1001.Kind == 3) (if 0 ≤ s18 then (if s18 < (s4.length : Int) then ((s4[s18.toNat]?).bind fun x1002 =>
  some (.again (s0, (s4.set s18.toNat s5), (w6 (s5 + 16)), s16, s17, (w6 (s18 + 1))))) else none) else none)
  (some (.again (s0, s4, s5, s16, s17, (w6 (s18 + 1)))))) (some (.leave (s0, s4, s5, s16, s17, s18)))
def zm.r0 (N : Nat) (x : (List zF) × (List Int) × Int × (List zF) × Int × Int) := zm.b0 N x.1 x.2.1 x.2.2.1 x.2.2.2.1 x.2.2.2.2.1 x.2.2.2.2.2
def zm.b2 (N : Nat) (s0 : List zF) (s4 : List Int) (s5 : Int) (s33 : List zF) (s34 : Int) (s35 : Int) : Option (Stp ((List zF) × (List Int) × Int × (List zF) × Int × Int)) :=
 cond (decide (s35 < s34)) ((idx s33 s35).bind fun x3001 => cond (x3001.Kind == 0) ((zix N x3001).bind fun r3002 =>
  if 0 ≤ s35 then (if s35 < (s4.length : Int) then ((s4[s35.toNat]?).bind fun x3003 =>
  some (.again (s0, (s4.set s35.toNat s5), (w6 (s5 + r3002)), s33, s34, (w6 (s35 + 1))))) else none) else none)
  (some (.again (s0, s4, s5, s33, s34, (w6 (s35 + 1)))))) (some (.leave (s0, s4, s5, s33, s34, s35)))
def zm.r2 (N : Nat) (x : (List zF) × (List Int) × Int × (List zF) × Int × Int) := zm.b2 N x.1 x.2.1 x.2.2.1 x.2.2.2.1 x.2.2.2.2.1 x.2.2.2.2.2
def zm.b4 (N : Nat) (s0 : List zF) (s4 : List Int) (s5 : Int) (s52 : List zF) (s53 : Int) (s54 : Int) : Option (Stp ((List zF) × (List Int) × Int × (List zF) × Int × Int)) :=
 cond (decide (s54 < s53)) ((idx s52 s54).bind fun x5001 => cond (x5001.Kind == 1) ((zgs N s0 x5001.Base).bind fun r5002 =>
  if 0 ≤ r5002 then (if r5002 < (s4.length : Int) then ((s4[r5002.toNat]?).bind fun x5003 => if 0 ≤ s54 then (if s54 < (s4.length : Int) then ((s4[s54.toNat]?).bind fun x5004 =>
  some (.again (s0, (s4.set s54.toNat (w6 (x5003 + x5001.Offset))), s5, s52, s53, (w6 (s54 + 1))))) else none) else none) else none) else none)
  (some (.again (s0, s4, s5, s52, s53, (w6 (s54 + 1)))))) (some (.leave (s0, s4, s5, s52, s53, s54)))
def zm.r4 (N : Nat) (x : (List zF) × (List Int) × Int × (List zF) × Int × Int) := zm.b4 N x.1 x.2.1 x.2.2.1 x.2.2.2.1 x.2.2.2.2.1 x.2.2.2.2.2
def zm (N : Nat) (a0 : List zF) : Option ((List Int) × Int) :=
 (zb8 N ([(-1)] : List Int) (a0.length : Int)).bind fun r1 => (zl (zm.r0 N) N (a0, r1, 0, a0, (a0.length : Int), 0)).bind fun y2 =>
  (zl (zm.r2 N) N (y2.1, y2.2.1, y2.2.2.1, y2.1, (y2.1.length : Int), 0)).bind fun y3 =>
  (zl (zm.r4 N) N (y3.1, y3.2.1, y3.2.2.1, y3.1, (y3.1.length : Int), 0)).bind fun y4 =>
  some (y4.2.1, (w6 ((w6 ((w6 (y4.2.2.1 + 16)) - 1)).tdiv 16)))
def zm.k (N : Nat) : Kq := ⟨87, (cvv [(Ty.sl T6), T6] [(Ty.sl Ty.zF)] (zm N)), go [zb8.k N, zix.k N, zgs.k N] {lits := [12, 14]} [(0, .plain { slots := [(0, .val (Ty.sl Ty.zF)), (4, .own 5000004 T6), (5, .val T6), (16, .val (Ty.sl Ty.zF)), (17, .val T6), (18, .val T6)], boxes := [] } [(Ty.sl Ty.zF), (Ty.sl T6), T6, (Ty.sl Ty.zF), T6, T6] (zl (zm.r0 N) N)), (2, .plain { slots := [(0, .val (Ty.sl Ty.zF)), (4, .own 5000004 T6), (5, .val T6), (33, .val (Ty.sl Ty.zF)), (34, .val T6), (35, .val T6)], boxes := [] } [(Ty.sl Ty.zF), (Ty.sl T6), T6, (Ty.sl Ty.zF), T6, T6] (zl (zm.r2 N) N)), (4, .plain { slots := [(0, .val (Ty.sl Ty.zF)), (4, .own 5000004 T6), (5, .val T6), (52, .val (Ty.sl Ty.zF)), (53, .val T6), (54, .val T6)], boxes := [] } [(Ty.sl Ty.zF), (Ty.sl T6), T6, (Ty.sl Ty.zF), T6, T6] (zl (zm.r4 N) N))] Proofs.Tryz.func87 (hL := ⟨⟨_, _, rfl, by kernel_rfl⟩, ⟨_, _, rfl, by kernel_rfl⟩, ⟨_, _, rfl, by kernel_rfl⟩, trivial⟩)⟩
def zhf (a0 : zF) : Option Bool :=
 some (a0.zJ.Kind != 0)
def zhf.k : Kq := ⟨231, (cvv [Ty.bool] [Ty.zF] zhf), go [] {} [] Proofs.Tryz.func231⟩
def zng (a0 : zF) (a1 : zF) (a2 : Int) : Option Bool :=
 cond (a2 == 5) (some (a0.Kind == 3)) (cond (a2 == 6) (some (a0.Kind == 5)) ((cond (a2 == 0) (some true) (some (a2 == 2))).bind fun g1 => (cond (a2 == 2) (some true)
  (some (a2 == 3))).bind fun g2 => (zfs a0).bind fun r3 => (cond r3 ((cond g1 (some (a0.Kind == 4)) (some false)).bind fun g4 => some (!g4)) (some false)).bind fun g5 =>
  (cond g5 ((cond g2 ((zhf a0).bind fun r6 => some (!r6)) (some false)).bind fun g7 => some (!g7)) (some false)).bind fun g8 => (cond g8 ((cond (a2 == 4)
  ((zhf a0).bind fun r9 => (zhf a1).bind fun r10 => some (!(r9 == r10))) (some false)).bind fun g11 => some (!g11)) (some false)).bind fun g12 =>
  some g12))
def zng.k : Kq := ⟨189, (cvv [Ty.bool] [Ty.zF, Ty.zF, T6] zng), go [zfs.k, zhf.k] {} [] Proofs.Tryz.func189⟩
def zat.b0 (N : Nat) (s22 : List Int) (s23 : Int) (s24 : Int) (b2 : zB) (b3 : zI) (b5 : zF) : Option (Round Int ((List Int) × Int × Int × zB × zI × zF)) :=
 cond (decide (s24 < s23)) ((idx s22 s24).bind fun x1001 => (zd4 x1001 0 (w6 ((b2.zA.length : Int) - 1))).bind fun r1002 => cond (!r1002)
  (some (.result 3)) ((idx b2.zA x1001).bind fun x1003 => (idx zw6 b3.Op).bind fun x1004 => (idx x1004 s24).bind fun x1005 => (zng x1003 b5 x1005).bind fun r1006 =>
  cond (!r1006) (some (.result 17)) ((idx b2.zA x1001).bind fun x1007 => some (.again (s22, s23, (w6 (s24 + 1)), b2, b3, x1007)))))
  (some (.leave (s22, s23, s24, b2, b3, b5)))
def zat.r0 (N : Nat) (x : (List Int) × Int × Int × zB × zI × zF) := zat.b0 N x.1 x.2.1 x.2.2.1 x.2.2.2.1 x.2.2.2.2.1 x.2.2.2.2.2
def zat (N : Nat) (a0 : zB) (a1 : zI) : Option Int :=
 (zd4 a1.Op 0 18).bind fun r1 => cond (!r1) (some 4) ((idx zw6 a1.Op).bind fun x2 => cond ((a1.Args.length : Int) != (x2.length : Int)) (some 37)
  ((zj (zat.r0 N) N (a1.Args, (a1.Args.length : Int), 0, a0, a1, (⟨(⟨#[]⟩ : ByteArray), 0, (⟨0, 0, 0⟩ : DataType), (⟨0, (⟨#[]⟩ : ByteArray)⟩ : Value), (⟨#[]⟩ : ByteArray), 0, 0⟩ : zF))).bind fun z4 =>
  zb5 z4 (fun z => some z) (fun y3 => some 0)))
def zat.k (N : Nat) : Kq := ⟨130, (cvv [T6] [Ty.zB, Ty.zI] (zat N)), go [zd4.k, zng.k] {} [(0, .rets { slots := [(2, .ptr 2 0), (3, .ptr 3 0), (5, .ptr 5 0), (22, .val (Ty.sl T6)), (23, .val T6), (24, .val T6)], boxes := [(2, Ty.zB, []), (3, Ty.zI, []), (5, Ty.zF, [])] } [(Ty.sl T6), T6, T6, Ty.zB, Ty.zI, Ty.zF] (zj (zat.r0 N) N))] Proofs.Tryz.func130 (hL := ⟨⟨_, _, rfl, by kernel_rfl⟩, trivial⟩)⟩
def zif (a0 : zB) (a1 : zN) : Option Int :=
 (cond (decide (a1.From ≥ 0)) (some (decide (a1.From < a1.To))) (some false)).bind fun g1 => (cond g1 (some (decide (a1.To ≤ (a0.zG.length : Int))))
  (some false)).bind fun g2 => (cond g2 ((zd4 a1.Exception 0 999).bind fun r3 => some r3) (some false)).bind fun g4 =>
  (cond g4 ((zd4 a1.Handler 0 (w6 ((a0.zG.length : Int) - 1))).bind fun r5 => some r5) (some false)).bind fun g6 =>
  (zb9 (!g6) 3).bind fun r7 => some r7
def zif.k : Kq := ⟨131, (cvv [T6] [Ty.zB, Ty.zN] zif), go [zb9.k, zd4.k] {} [] Proofs.Tryz.func131⟩
def ze.b0 (N : Nat) (s47 : Int) (s48 : Int) (b1 : zB) (b2 : zM) : Option (Round (zM × Int) (Int × Int × zB × zM)) :=
 cond (decide (s48 < s47)) ((zie N b1 s48).bind fun r1001 => cond (r1001 != 0) (some (.result ((⟨1, s48⟩ : zM), r1001)))
  (some (.again (s47, (w6 (s48 + 1)), b1, b2)))) (some (.leave (s47, s48, b1, b2)))
def ze.r0 (N : Nat) (x : Int × Int × zB × zM) := ze.b0 N x.1 x.2.1 x.2.2.1 x.2.2.2
def ze.b2 (N : Nat) (s70 : List zI) (s71 : Int) (s72 : Int) (b1 : zB) (b2 : zM) : Option (Round (zM × Int) ((List zI) × Int × Int × zB × zM)) :=
 cond (decide (s72 < s71)) ((idx s70 s72).bind fun x3001 => (zat N b1 x3001).bind fun r3002 => cond (r3002 != 0) (some (.result ((⟨2, s72⟩ : zM), r3002)))
  (some (.again (s70, s71, (w6 (s72 + 1)), b1, b2)))) (some (.leave (s70, s71, s72, b1, b2)))
def ze.r2 (N : Nat) (x : (List zI) × Int × Int × zB × zM) := ze.b2 N x.1 x.2.1 x.2.2.1 x.2.2.2.1 x.2.2.2.2
def ze.b4 (N : Nat) (s87 : List zN) (s88 : Int) (s89 : Int) (b1 : zB) (b2 : zM) : Option (Round (zM × Int) ((List zN) × Int × Int × zB × zM)) :=
 cond (decide (s89 < s88)) ((idx s87 s89).bind fun x5001 => (zif b1 x5001).bind fun r5002 => cond (r5002 != 0) (some (.result ((⟨3, s89⟩ : zM), r5002)))
  (some (.again (s87, s88, (w6 (s89 + 1)), b1, b2)))) (some (.leave (s87, s88, s89, b1, b2)))
def ze.r4 (N : Nat) (x : (List zN) × Int × Int × zB × zM) := ze.b4 N x.1 x.2.1 x.2.2.1 x.2.2.2.1 x.2.2.2.2
def ze (N : Nat) (a0 : zB) : Option (zM × Int) :=
 (cond (decide ((a0.zA.length : Int) > 24)) (some true) (some (decide ((a0.zG.length : Int) > 40)))).bind fun g1 => (cond g1 (some true)
  (some (decide ((a0.zL.length : Int) > 6)))).bind fun g2 => (zb9 g2 2).bind fun r3 => (zb9 ((a0.zG.length : Int) == 0) 1).bind fun r4 =>
  (zbs N ([r3, r4] : List Int)).bind fun r5 => cond (r5 != 0) (some ((⟨0, 0⟩ : zM), r5))
  ((zj (ze.r0 N) N ((a0.zA.length : Int), 0, a0, (⟨0, 0⟩ : zM))).bind fun z7 => zb5 z7 (fun z => some z) (fun y6 =>
  (zm N y6.2.2.1.zA).bind fun r8 => cond (decide (r8.2 > 24)) (some ((⟨0, 0⟩ : zM), 30))
  ((zj (ze.r2 N) N (y6.2.2.1.zG, (y6.2.2.1.zG.length : Int), 0, y6.2.2.1, y6.2.2.2)).bind fun z10 => zb5 z10 (fun z => some z) (fun y9 =>
  (zj (ze.r4 N) N (y9.2.2.2.1.zL, (y9.2.2.2.1.zL.length : Int), 0, y9.2.2.2.1, y9.2.2.2.2)).bind fun z12 => zb5 z12 (fun z => some z) (fun y11 =>
  some ((⟨0, 0⟩ : zM), 0))))))
def ze.k (N : Nat) : Kq := ⟨81, (cvv [Ty.zM, T6] [Ty.zB] (ze N)), go [zm.k N, zbs.k N, zb9.k, zie.k N, zat.k N, zif.k] {lits := [33, 38, 39]} [(0, .rets { slots := [(1, .ptr 1 0), (2, .ptr 2 0), (47, .val T6), (48, .val T6)], boxes := [(1, Ty.zB, []), (2, Ty.zM, [])] } [T6, T6, Ty.zB, Ty.zM] (zj (ze.r0 N) N)), (2, .rets { slots := [(1, .ptr 1 0), (2, .ptr 2 0), (70, .val (Ty.sl Ty.zI)), (71, .val T6), (72, .val T6)], boxes := [(1, Ty.zB, []), (2, Ty.zM, [])] } [(Ty.sl Ty.zI), T6, T6, Ty.zB, Ty.zM] (zj (ze.r2 N) N)), (4, .rets { slots := [(1, .ptr 1 0), (2, .ptr 2 0), (87, .val (Ty.sl Ty.zN)), (88, .val T6), (89, .val T6)], boxes := [(1, Ty.zB, []), (2, Ty.zM, [])] } [(Ty.sl Ty.zN), T6, T6, Ty.zB, Ty.zM] (zj (ze.r4 N) N))] Proofs.Tryz.func81 (hL := ⟨⟨_, _, rfl, by kernel_rfl⟩, ⟨_, _, rfl, by kernel_rfl⟩, ⟨_, _, rfl, by kernel_rfl⟩, trivial⟩)⟩
def zfb (N : Nat) (a0 : zB) : Option Int :=
 (ze N a0).bind fun r1 => some r1.2
def zfb.k (N : Nat) : Kq := ⟨86, (cvv [T6] [Ty.zB] (zfb N)), go [ze.k N] {} [] Proofs.Tryz.func86⟩
def zfl (a0 : Int) (a1 : Int) (a2 : Int) : Option Bool :=
 (cond (decide (a1 ≤ a0)) (some (decide (a0 ≤ a2))) (some false)).bind fun g1 => some g1
def zfl.k : Kq := ⟨141, (cvv [Ty.bool] [T6, T6, T6] zfl), go [] {} [] Proofs.Tryz.func141⟩
def z1b : Ct U := { params := [.val Ty.str, .val T6], results := [Ty.str], outs := [], fresh := [], fn := app U [Ty.str, T6] (R := PT U [Ty.str]) (znn) }
theorem z1b.meets : zgv (zzw [] [] [] [] [] [] [] []) 142 z1b :=
 zs8 ⟨_, Proofs.Tryz.func142, rfl, by kernel_rfl⟩ (t := Ty.str) rfl rfl rfl rfl fun ds y hy E0 h0 ha μ H w us hA hm hG => by
  obtain ⟨s, n, rfl, hx⟩ := z8w hy; unfold znn at hx; split at hx
  · rename_i hn; cases hx; have hE : some ([.sc (.string s), .sc (.int .i64 n)], []) = some (E0, h0) := ha; cases hE; cases hA with
    | cons h1 h2 =>
     cases h2 with
     | cons h2 h3 =>
      cases h3; have hu := h1.int; have hu2 := h2.int; subst hu hu2; refine ⟨_, rfl, ?_⟩; have hc := Proofs.Tryz.strings_Repeat s n.toNat w (by omega) hn.2.2; have he : ((n.toNat : Nat) : Int) = n := by omega
      rw [he] at hc; exact hc.mono fun e w' hh => ⟨_, hh.1, zy3 hh.2, .sc _⟩
  · cases hx
def z1b.k : Kq := ⟨142, z1b, z1b.meets⟩
def zi5 (a0 : Int) : Option (Storage × Int) :=
 (zfl a0 0 64).bind fun r1 => cond (!r1) (some ((⟨(⟨#[]⟩ : ByteArray), []⟩ : Storage), 3)) ((znn (⟨#[0]⟩ : ByteArray) (w6 (a0 * 16))).bind fun r2 =>
  if 0 ≤ a0 then (if a0 ≤ a0 then (cond (Nat.ble (a0.toNat * 1) zbr) (some ((⟨r2, (List.replicate a0.toNat (false : Bool))⟩ : Storage), 0)) none) else none) else none)
def zi5.k : Kq := ⟨88, (cvv [Ty.Storage, T6] [T6] zi5), go [zfl.k, z1b.k] {} [] Proofs.Tryz.func88⟩
def zba.b0 (N : Nat) (s0 : Int) (s5 : List Int) (s6 : Int) : Option (Stp (Int × (List Int) × Int)) :=
 cond (decide (s6 ≥ 0)) (if 0 ≤ s6 then (if s6 < (s5.length : Int) then ((s5[s6.toNat]?).bind fun x1001 =>
  some (.again ((w6 (s0.tdiv 10)), (s5.set s6.toNat (IntKind.wrap .u8 (s0.tmod 10))), (w6 (s6 - 1))))) else none) else none)
  (some (.leave (s0, s5, s6)))
def zba.r0 (N : Nat) (x : Int × (List Int) × Int) := zba.b0 N x.1 x.2.1 x.2.2
def zba (N : Nat) (a0 : Int) (a1 : Int) : Option ((List Int)) :=
 if 0 ≤ a1 then (if a1 ≤ a1 then (cond (Nat.ble (a1.toNat * 1) zbr)
  ((zl (zba.r0 N) N (a0, (List.replicate a1.toNat (0 : Int)), (w6 (a1 - 1)))).bind fun y1 => some y1.2.1) none) else none) else none
def zba.k (N : Nat) : Kq := ⟨203, (ctv [.val T6, .val T6] [(Ty.sl (Ty.int .u8))] [] [0] [T6, T6] (zba N)), go [] {} [(0, .plain { slots := [(0, .val T6), (5, .own 5000005 (Ty.int .u8)), (6, .val T6)], boxes := [] } [T6, (Ty.sl (Ty.int .u8)), T6] (zl (zba.r0 N) N))] Proofs.Tryz.func203 (hL := ⟨⟨_, _, rfl, by kernel_rfl⟩, trivial⟩)⟩
def zby.b0 (N : Nat) (s0 : List Int) (s3 : List Int) (s4 : Int) : Option (Stp ((List Int) × (List Int) × Int)) :=
 cond (decide (s4 < (s0.length : Int))) ((idx s0 s4).bind fun x1001 => (idx s0 (w6 (s4 + 1))).bind fun x1002 =>
  cond (Nat.ble ((s3.length + ([(orI .u8 (IntKind.wrap .u8 (x1001 * 2 ^ (min (4 : Int).toNat 8))) x1002)] : List Int).length) * 1) zbr)
  (some (.again (s0, (s3 ++ ([(orI .u8 (IntKind.wrap .u8 (x1001 * 2 ^ (min (4 : Int).toNat 8))) x1002)] : List Int)), (w6 (s4 + 2))))) none)
  (some (.leave (s0, s3, s4)))
def zby.r0 (N : Nat) (x : (List Int) × (List Int) × Int) := zby.b0 N x.1 x.2.1 x.2.2
def zby (N : Nat) (a0 : List Int) : Option ByteArray :=
 (zl (zby.r0 N) N (a0, [], 0)).bind fun y1 => some (zd3 y1.2.1)
def zby.k (N : Nat) : Kq := ⟨204, (cvv [Ty.str] [(Ty.sl (Ty.int .u8))] (zby N)), go [] {lits := [23]} [(0, .plain { slots := [(0, .val (Ty.sl (Ty.int .u8))), (3, .own 5000003 (Ty.int .u8)), (4, .val T6)], boxes := [] } [(Ty.sl (Ty.int .u8)), (Ty.sl (Ty.int .u8)), T6] (zl (zby.r0 N) N))] Proofs.Tryz.func204 (hL := ⟨⟨_, _, rfl, by kernel_rfl⟩, trivial⟩)⟩
def zac.b1 (N : Nat) (s5 : List Int) (s25 : Int) (s26 : Int) (b3 : Value) : Option (Stp ((List Int) × Int × Int × Value)) :=
 cond (decide (s26 < s25)) (if 0 ≤ s26 then (if s26 < (s5.length : Int) then ((s5[s26.toNat]?).bind fun x2001 =>
  if 0 ≤ s26 then (if s26 < (s5.length : Int) then ((s5[s26.toNat]?).bind fun x2002 =>
  some (.again ((s5.set s26.toNat (IntKind.wrap .u8 (x2001 + 240))), s25, (w6 (s26 + 1)), b3))) else none) else none) else none) else none)
  (some (.leave (s5, s25, s26, b3)))
def zac.r1 (N : Nat) (x : (List Int) × Int × Int × Value) := zac.b1 N x.1 x.2.1 x.2.2.1 x.2.2.2
def zac.b3 (N : Nat) (s8 : List Int) (s9 : Int) (s10 : Int) : Option (Stp ((List Int) × Int × Int)) :=
 cond (decide (s9 ≥ 0)) (if 0 ≤ s9 then (if s9 < (s8.length : Int) then ((s8[s9.toNat]?).bind fun x4001 =>
  some (.again ((s8.set s9.toNat (IntKind.wrap .u8 s10)), (w6 (s9 - 1)), (s10.fdiv (2 ^ (min (8 : Int).toNat 64)))))) else none) else none)
  (some (.leave (s8, s9, s10)))
def zac.r3 (N : Nat) (x : (List Int) × Int × Int) := zac.b3 N x.1 x.2.1 x.2.2
def zac (N : Nat) (a0 : DataType) (a1 : Value) : Option ByteArray :=
 (zba N (if (w6 (0 - a1.N)) > a1.N then (w6 (0 - a1.N)) else a1.N) a0.Length).bind fun r1 => cond (a0.Kind == 2)
  ((zl (zac.r1 N) N (r1, (r1.length : Int), 0, a1)).bind fun y2 => cond (decide (y2.2.2.2.N < 0))
  (if 0 ≤ (w6 ((y2.1.length : Int) - 1)) then (if (w6 ((y2.1.length : Int) - 1)) < (y2.1.length : Int) then ((y2.1[(w6 ((y2.1.length : Int) - 1)).toNat]?).bind fun x3 =>
  if 0 ≤ (w6 ((y2.1.length : Int) - 1)) then (if (w6 ((y2.1.length : Int) - 1)) < (y2.1.length : Int) then ((y2.1[(w6 ((y2.1.length : Int) - 1)).toNat]?).bind fun x4 =>
  some (zd3 (y2.1.set ((w6 ((y2.1.length : Int) - 1)).toNat) (IntKind.wrap .u8 (x3 - 32))))) else none) else none) else none) else none) (some (zd3 y2.1)))
  (cond (a0.Kind == 1) (cond (decide (a1.N < 0)) (cond (((r1.length : Int).tmod 2) == 0) (cond (Nat.ble ((([0] : List Int).length + r1.length) * 1) zbr)
  (cond (Nat.ble (((([0] : List Int) ++ r1).length + ([13] : List Int).length) * 1) zbr) ((zby N ((([0] : List Int) ++ r1) ++ ([13] : List Int))).bind fun r5 =>
  some r5) none) none) (cond (Nat.ble ((r1.length + ([13] : List Int).length) * 1) zbr) ((zby N (r1 ++ ([13] : List Int))).bind fun r6 => some r6) none))
  (cond (((r1.length : Int).tmod 2) == 0) (cond (Nat.ble ((([0] : List Int).length + r1.length) * 1) zbr)
  (cond (Nat.ble (((([0] : List Int) ++ r1).length + ([15] : List Int).length) * 1) zbr) ((zby N ((([0] : List Int) ++ r1) ++ ([15] : List Int))).bind fun r7 =>
  some r7) none) none) (cond (Nat.ble ((r1.length + ([15] : List Int).length) * 1) zbr) ((zby N (r1 ++ ([15] : List Int))).bind fun r8 => some r8) none)))
  (cond (a0.Kind == 3) ((zhs a0).bind fun r9 => if 0 ≤ r9 then (if r9 ≤ r9 then (cond (Nat.ble (r9.toNat * 1) zbr)
  ((zl (zac.r3 N) N ((List.replicate r9.toNat (0 : Int)), (w6 (((List.replicate r9.toNat (0 : Int)).length : Int) - 1)), a1.N)).bind fun y10 =>
  some (zd3 y10.1)) none) else none) else none) (some a1.S)))
def zac.k (N : Nat) : Kq := ⟨144, (cvv [Ty.str] [Ty.DataType, Ty.Value] (zac N)), go [zba.k N, zby.k N, zhs.k] {lits := [16, 63, 64]} [(1, .plain { slots := [(3, .ptr 3 0), (5, .own 5000005 (Ty.int .u8)), (25, .val T6), (26, .val T6)], boxes := [(3, Ty.Value, [])] } [(Ty.sl (Ty.int .u8)), T6, T6, Ty.Value] (zl (zac.r1 N) N)), (3, .plain { slots := [(8, .own 5000008 (Ty.int .u8)), (9, .val T6), (10, .val T6)], boxes := [] } [(Ty.sl (Ty.int .u8)), T6, T6] (zl (zac.r3 N) N))] Proofs.Tryz.func144 (hL := ⟨⟨_, _, rfl, by kernel_rfl⟩, ⟨_, _, rfl, by kernel_rfl⟩, trivial⟩)⟩
def zc8 (N : Nat) (a0 : DataType) (a1 : Value) : Option (ByteArray × Int) :=
 (zb3 N a0 a1).bind fun r1 => cond (r1 != 0) (some ((⟨#[]⟩ : ByteArray), r1)) ((zac N a0 a1).bind fun r2 => some (r2, 0))
def zc8.k (N : Nat) : Kq := ⟨89, (cvv [Ty.str, T6] [Ty.DataType, Ty.Value] (zc8 N)), go [zb3.k N, zac.k N] {} [] Proofs.Tryz.func89⟩
def zck.b0 (N : Nat) (s0 : ByteArray) (s3 : Int) (s6 : Int) (s7 : Int) : Option (Stp (ByteArray × Int × Int × Int)) :=
 cond (decide (s7 < s6)) ((zhl s0 s7).bind fun x1001 => some (.again (s0, (orI .i64 (w6 (s3 * 2 ^ (min (8 : Int).toNat 64)))
  (w6 (x1001.toNat : Int))), s6, (w6 (s7 + 1))))) (some (.leave (s0, s3, s6, s7)))
def zck.r0 (N : Nat) (x : ByteArray × Int × Int × Int) := zck.b0 N x.1 x.2.1 x.2.2.1 x.2.2.2
def zck (N : Nat) (a0 : ByteArray) : Option Int :=
 (zl (zck.r0 N) N (a0, 0, (a0.size : Int), 0)).bind fun y1 => some y1.2.1
def zck.k (N : Nat) : Kq := ⟨207, (cvv [T6] [Ty.str] (zck N)), go [] {} [(0, .plain { slots := [(0, .val Ty.str), (3, .val T6), (6, .val T6), (7, .val T6)], boxes := [] } [Ty.str, T6, T6, T6] (zl (zck.r0 N) N))] Proofs.Tryz.func207 (hL := ⟨⟨_, _, rfl, by kernel_rfl⟩, trivial⟩)⟩
def zem (a0 : Pointer) : Option Int :=
 (zfl a0.Kind 0 2).bind fun r1 => cond (!r1) (some 4) (((zfl a0.Address.zU 0 1099511627775).bind fun r2 => cond (!r2) (some (!r2))
  ((zfl a0.Address.Offset 0 16777215).bind fun r3 => cond (!r3) (some (!r3)) ((zfl a0.Authority 0 1023).bind fun r4 => some (!r4)))).bind fun q5 =>
  cond q5 (some 3) ((cond (a0.Authority != 0) (some (a0.Kind != 1)) (some false)).bind fun g6 => cond g6 (some 5) (some 0)))
def zem.k : Kq := ⟨208, (cvv [T6] [Ty.Pointer] zem), go [zfl.k] {bj := [8]} [] Proofs.Tryz.func208⟩
def zgg (N : Nat) (a0 : ByteArray) : Option (Pointer × Int) :=
 cond ((a0.size : Int) != 16) (some ((⟨0, (⟨0, 0⟩ : Address), 0⟩ : Pointer), 18)) ((zhl a0 1).bind fun x1 => cond ((x1.toNat : Int) != 0)
  (some ((⟨0, (⟨0, 0⟩ : Address), 0⟩ : Pointer), 5)) ((zhl a0 0).bind fun x2 =>
  if 0 ≤ (4 : Int) ∧ (4 : Int) ≤ (a0.size : Int) then (if 0 ≤ (2 : Int) ∧ (2 : Int) ≤ (4 : Int) then ((zck N (a0.extract (2 : Int).toNat (4 : Int).toNat)).bind fun r3 =>
  if 0 ≤ (10 : Int) ∧ (10 : Int) ≤ (a0.size : Int) then (if 0 ≤ (4 : Int) ∧ (4 : Int) ≤ (10 : Int) then ((zck N (a0.extract (4 : Int).toNat (10 : Int).toNat)).bind fun r4 =>
  if 0 ≤ (10 : Int) ∧ (10 : Int) ≤ (a0.size : Int) then ((zck N (a0.extract (10 : Int).toNat a0.size)).bind fun r5 =>
  (zem (⟨(w6 (x2.toNat : Int)), (⟨r4, r5⟩ : Address), r3⟩ : Pointer)).bind fun r6 => cond (r6 != 0)
  (some ((⟨0, (⟨0, 0⟩ : Address), 0⟩ : Pointer), r6))
  (some ((⟨(w6 (x2.toNat : Int)), (⟨r4, r5⟩ : Address), r3⟩ : Pointer), 0))) else none) else none) else none) else none) else none))
def zgg.k (N : Nat) : Kq := ⟨147, (cvv [Ty.Pointer, T6] [Ty.str] (zgg N)), go [zck.k N, zem.k] {} [] Proofs.Tryz.func147⟩
def zaa.b1 (N : Nat) (s27 : List Bool) (s28 : Int) (s29 : Int) (b1 : Storage) : Option (Round (Int × Int) ((List Bool) × Int × Int × Storage)) :=
 cond (decide (s29 < s28)) ((idx s27 s29).bind fun x2001 => cond (!x2001) (some (.again (s27, s28, (w6 (s29 + 1)), b1)))
  (if 0 ≤ (w6 ((w6 (s29 * 16)) + 16)) ∧ (w6 ((w6 (s29 * 16)) + 16)) ≤ (b1.Bytes.size : Int) then (if 0 ≤ (w6 (s29 * 16)) ∧ (w6 (s29 * 16)) ≤ (w6 ((w6 (s29 * 16)) + 16)) then ((zgg N (b1.Bytes.extract (w6 (s29 * 16)).toNat (w6 ((w6 (s29 * 16)) + 16)).toNat)).bind fun r2002 =>
  cond (r2002.2 != 0) (some (.result (s29, 22))) (some (.again (s27, s28, (w6 (s29 + 1)), b1)))) else none) else none)) (some (.leave (s27, s28, s29, b1)))
def zaa.r1 (N : Nat) (x : (List Bool) × Int × Int × Storage) := zaa.b1 N x.1 x.2.1 x.2.2.1 x.2.2.2
def zaa (N : Nat) (a0 : Storage) : Option (Int × Int) :=
 cond (decide ((a0.Bytes.size : Int) > 1024)) (some (0, 2)) (cond (((a0.Bytes.size : Int).tmod 16) != 0) (some (0, 18))
  (cond ((a0.Tags.length : Int) != (w6 ((a0.Bytes.size : Int).tdiv 16))) (some (0, 6))
  ((zj (zaa.r1 N) N (a0.Tags, (a0.Tags.length : Int), 0, a0)).bind fun z2 => zb5 z2 (fun z => some z) (fun y1 => some ((y1.2.2.2.Tags.length : Int), 0)))))
def zaa.k (N : Nat) : Kq := ⟨93, (cvv [T6, T6] [Ty.Storage] (zaa N)), go [zgg.k N] {} [(1, .rets { slots := [(1, .ptr 1 0), (27, .val (Ty.sl Ty.bool)), (28, .val T6), (29, .val T6)], boxes := [(1, Ty.Storage, [])] } [(Ty.sl Ty.bool), T6, T6, Ty.Storage] (zj (zaa.r1 N) N))] Proofs.Tryz.func93 (hL := ⟨⟨_, _, rfl, by kernel_rfl⟩, trivial⟩)⟩
def zoo (N : Nat) (a0 : Storage) (a1 : Int) (a2 : Int) : Option Int :=
 (zaa N a0).bind fun r1 => cond (r1.2 != 0) (some r1.2) ((cond (decide (a1 < 0)) (some true) (some (decide (a2 < 0)))).bind fun g2 => (cond g2 (some true)
  (some (decide (a1 > (a0.Bytes.size : Int))))).bind fun g3 => (cond g3 (some true) (some (decide (a2 > (w6 ((a0.Bytes.size : Int) - a1)))))).bind fun g4 =>
  cond g4 (some 3) (some 0))
def zoo.k (N : Nat) : Kq := ⟨145, (cvv [T6] [Ty.Storage, T6, T6] (zoo N)), go [zaa.k N] {} [] Proofs.Tryz.func145⟩
def z6e : Ct U := { params := [.val (Ty.sl Ty.bool)], results := [(Ty.sl Ty.bool)], outs := [], fresh := [0], fn := app U [(Ty.sl Ty.bool)] (R := PT U [(Ty.sl Ty.bool)]) (zki 1) }
theorem z6e.meets : zgv (zzw [] [] [] [] [] [] [] []) 206 z6e :=
 zpc z55 (zut (l := []) rfl zdb) (zt9 (l := []) rfl zdb) (Lp := pick []) Proofs.Tryz.func206 (by kernel_rfl) (zuv (l := []) rfl zdb) (fun y => by kernel_rfl) (e := 4) (t := Ty.bool) rfl rfl rfl rfl rfl rfl rfl (by kernel_rfl) rfl rfl rfl rfl rfl rfl (fun xs => by kernel_rfl) fun ds y h => by
  obtain ⟨xs, rfl, hx⟩ := zy1 h; refine ⟨xs, rfl, fun b hb => ?_⟩; cases b with
  | true =>
   have := hb rfl; subst this; exact Eq.trans (by kernel_rfl) hx
  | false => exact Eq.trans (b := cond (Nat.ble ((0 + xs.length) * 1) zbr) (some xs) none) (by kernel_rfl) (by rw [Nat.zero_add]; exact hx)
def z6e.k : Kq := ⟨206, z6e, z6e.meets⟩
def zl1 (a0 : Storage) (a1 : Int) (a2 : ByteArray) : Option Storage :=
 if 0 ≤ a1 ∧ a1 ≤ (a0.Bytes.size : Int) then (if 0 ≤ (0 : Int) ∧ (0 : Int) ≤ a1 then (if (((a0.Bytes.extract (0 : Int).toNat a1.toNat).size + a2.size : Nat) : Int) > IntKind.i64.max then none else if 0 ≤ (w6 (a1 + (a2.size : Int))) ∧ (w6 (a1 + (a2.size : Int))) ≤ (a0.Bytes.size : Int) then (if ((((a0.Bytes.extract (0 : Int).toNat a1.toNat) ++ a2).size + (a0.Bytes.extract (w6 (a1 + (a2.size : Int))).toNat a0.Bytes.size).size : Nat) : Int) > IntKind.i64.max then none else (zki 1 a0.Tags).bind fun r1 =>
  cond (!(a2.toList == (⟨#[]⟩ : ByteArray).toList))
  (if 0 ≤ (w6 ((w6 ((w6 ((w6 (a1 + (a2.size : Int))) - 1)).tdiv 16)) + 1)) ∧ (w6 ((w6 ((w6 ((w6 (a1 + (a2.size : Int))) - 1)).tdiv 16)) + 1)) ≤ (r1.length : Int) then (if 0 ≤ (w6 (a1.tdiv 16)) ∧ (w6 (a1.tdiv 16)) ≤ (w6 ((w6 ((w6 ((w6 (a1 + (a2.size : Int))) - 1)).tdiv 16)) + 1)) then (some (⟨(((a0.Bytes.extract (0 : Int).toNat a1.toNat) ++ a2) ++ (a0.Bytes.extract (w6 (a1 + (a2.size : Int))).toNat a0.Bytes.size)), (r1.take ((w6 (a1.tdiv 16)).toNat) ++ List.replicate ((w6 ((w6 ((w6 ((w6 (a1 + (a2.size : Int))) - 1)).tdiv 16)) + 1)).toNat - (w6 (a1.tdiv 16)).toNat)
  (false : Bool) ++ r1.drop ((w6 (a1.tdiv 16)).toNat + ((w6 ((w6 ((w6 ((w6 (a1 + (a2.size : Int))) - 1)).tdiv 16)) + 1)).toNat - (w6 (a1.tdiv 16)).toNat)))⟩ : Storage)) else none) else none)
  (some (⟨(((a0.Bytes.extract (0 : Int).toNat a1.toNat) ++ a2) ++ (a0.Bytes.extract (w6 (a1 + (a2.size : Int))).toNat a0.Bytes.size)), r1⟩ : Storage))) else none) else none) else none
def zl1.k : Kq := ⟨146, (ctv [.val Ty.Storage, .val T6, .val Ty.str] [Ty.Storage] [] [1] [Ty.Storage, T6, Ty.str] zl1), go [z6e.k] {} [] Proofs.Tryz.func146⟩
def zf3 (N : Nat) (a0 : Storage) (a1 : Int) (a2 : ByteArray) : Option (Storage × Int) :=
 (zoo N a0 a1 (a2.size : Int)).bind fun r1 => cond (r1 != 0) (some ((⟨(⟨#[]⟩ : ByteArray), []⟩ : Storage), r1)) ((zl1 a0 a1 a2).bind fun r2 => some (r2, 0))
def zf3.k (N : Nat) : Kq := ⟨90, (cvv [Ty.Storage, T6] [Ty.Storage, T6, Ty.str] (zf3 N)), go [zoo.k N, zl1.k] {lits := [12]} [] Proofs.Tryz.func90⟩
def zav.b0 (N : Nat) (s5 : List Int) (s8 : Int) (s31 : List zF) (s32 : Int) (s33 : Int) (b2 : Storage) (b7 : Storage) : Option (Round (Storage × Int) ((List Int) × Int × (List zF) × Int × Int × Storage × Storage)) :=
 cond (decide (s33 < s32)) ((idx s31 s33).bind fun x1001 => (cond (x1001.Kind != 0) (some true) (some (s8 != 0))).bind fun g1002 =>
  cond g1002 (some (.again (s5, s8, s31, s32, (w6 (s33 + 1)), b2, b7))) ((zc8 N x1001.zJ x1001.Value).bind fun r1003 => cond (r1003.2 != 0)
  (some (.result ((⟨(⟨#[]⟩ : ByteArray), []⟩ : Storage), r1003.2))) ((idx s5 s33).bind fun x1004 => (zf3 N b7 x1004 r1003.1).bind fun r1005 =>
  some (.again (s5, r1005.2, s31, s32, (w6 (s33 + 1)), b2, r1005.1))))) (some (.leave (s5, s8, s31, s32, s33, b2, b7)))
def zav.r0 (N : Nat) (x : (List Int) × Int × (List zF) × Int × Int × Storage × Storage) := zav.b0 N x.1 x.2.1 x.2.2.1 x.2.2.2.1 x.2.2.2.2.1 x.2.2.2.2.2.1 x.2.2.2.2.2.2
def zav (N : Nat) (a0 : zB) : Option (Storage × Int) :=
 (zfb N a0).bind fun r1 => cond (r1 != 0) (some ((⟨(⟨#[]⟩ : ByteArray), []⟩ : Storage), r1)) ((zm N a0.zA).bind fun r2 =>
  (zi5 r2.2).bind fun r3 =>
  (zj (zav.r0 N) N (r2.1, r3.2, a0.zA, (a0.zA.length : Int), 0, (⟨(⟨#[]⟩ : ByteArray), []⟩ : Storage), r3.1)).bind fun z5 => zb5 z5 (fun z =>
  some z) (fun y4 => some (y4.2.2.2.2.2.2, y4.2.1)))
def zav.k (N : Nat) : Kq := ⟨50, (cvv [Ty.Storage, T6] [Ty.zB] (zav N)), go [zfb.k N, zm.k N, zi5.k, zc8.k N, zf3.k N] {} [(0, .rets { slots := [(2, .ptr 2 0), (5, .val (Ty.sl T6)), (7, .ptr 7 0), (8, .val T6), (31, .val (Ty.sl Ty.zF)), (32, .val T6), (33, .val T6)], boxes := [(2, Ty.Storage, [1]), (7, Ty.Storage, [])] } [(Ty.sl T6), T6, (Ty.sl Ty.zF), T6, T6, Ty.Storage, Ty.Storage] (zj (zav.r0 N) N))] Proofs.Tryz.func50 (hL := ⟨⟨_, _, rfl, by kernel_rfl⟩, trivial⟩)⟩
def ze7 (N : Nat) (a0 : zB) : Option (zC × Int) :=
 (zav N a0).bind fun r1 => cond (r1.2 != 0) (some ((⟨(⟨(⟨#[]⟩ : ByteArray), []⟩ : Storage), 0, [], [], 0, 0, 0⟩ : zC), r1.2))
  (some ((⟨r1.1, 0, [], [], 0, 0, 0⟩ : zC), 0))
def ze7.k (N : Nat) : Kq := ⟨22, (cvv [Ty.zC, T6] [Ty.zB] (ze7 N)), go [zav.k N] {} [] Proofs.Tryz.func22⟩
def zd0 (N : Nat) (a0 : zB) : Option ((List Int) × Int × Int) :=
 (zfb N a0).bind fun r1 => cond (r1 != 0) (some ([], 0, r1)) ((zm N a0.zA).bind fun r2 => some (r2.1, r2.2, 0))
def zd0.k (N : Nat) : Kq := ⟨64, (cvv [(Ty.sl T6), T6, T6] [Ty.zB] (zd0 N)), go [zfb.k N, zm.k N] {} [] Proofs.Tryz.func64⟩
def zh9 (a0 : zC) (a1 : zC) : Option zC :=
 some a0
def zh9.k : Kq := ⟨69, (ctv [.val Ty.zC, .ptr Ty.zC true []] [] [Ty.zC] [] [Ty.zC, Ty.zC] zh9), go [] {pk := [1000000]} [] Proofs.Tryz.func69⟩
def zda (a0 : zF) : Option Bool :=
 some (a0.zJ.Kind != 0)
def zda.k : Kq := ⟨115, (cvv [Ty.bool] [Ty.zF] zda), go [] {} [] Proofs.Tryz.func115⟩
def zez (a0 : zF) (a1 : zF) : Option Bool :=
 some (a0.Name.toList == a1.Base.toList)
def zez.k : Kq := ⟨173, (ctv [.val Ty.zF, .ptr Ty.zF false []] [Ty.bool] [] [] [Ty.zF, Ty.zF] zez), go [] {ro := [1000000], pk := [1000000]} [] Proofs.Tryz.func173⟩
def zh.b0 (N : Nat) (s0 : List zF) (s7 : Int) (s8 : Int) (b1000000 : zF) : Option (Round Int ((List zF) × Int × Int × zF)) :=
 cond (decide (s8 < s7)) ((idx s0 s8).bind fun x1001 => (zez x1001 b1000000).bind fun r1002 => cond r1002 (some (.result s8))
  (some (.again (s0, s7, (w6 (s8 + 1)), b1000000)))) (some (.leave (s0, s7, s8, b1000000)))
def zh.r0 (N : Nat) (x : (List zF) × Int × Int × zF) := zh.b0 N x.1 x.2.1 x.2.2.1 x.2.2.2
def zh (N : Nat) (a0 : List zF) (a1 : zF) : Option Int :=
 (zj (zh.r0 N) N (a0, (a0.length : Int), 0, a1)).bind fun z2 => zb5 z2 (fun z => some z) (fun y1 => some (-1))
def zh.k (N : Nat) : Kq := ⟨172, (ctv [.val (Ty.sl Ty.zF), .clo 173 1, .ptr Ty.zF false []] [T6] [] [] [(Ty.sl Ty.zF), Ty.zF] (zh N)), go [zez.k] {ro := [1000000], pk := [1000000]} [(0, .rets { slots := [(0, .val (Ty.sl Ty.zF)), (1, .fn 173 [1000000]), (7, .val T6), (8, .val T6)], boxes := [(1000000, Ty.zF, [])] } [(Ty.sl Ty.zF), T6, T6, Ty.zF] (zj (zh.r0 N) N))] Proofs.Tryz.func172 (hL := ⟨⟨_, _, rfl, by kernel_rfl⟩, trivial⟩)⟩
def zis (N : Nat) (a0 : Storage) (a1 : Int) : Option Int :=
 (zaa N a0).bind fun r1 => cond (r1.2 != 0) (some r1.2) ((cond (decide (a1 < 0)) (some true) (some (decide (a1 ≥ (a0.Bytes.size : Int))))).bind fun g2 =>
  (cond g2 (some true) (some ((a1.tmod 16) != 0))).bind fun g3 => cond g3 (some 3) (some 0))
def zis.k (N : Nat) : Kq := ⟨148, (cvv [T6] [Ty.Storage, T6] (zis N)), go [zaa.k N] {} [] Proofs.Tryz.func148⟩
def zdj (N : Nat) (a0 : Storage) (a1 : Int) : Option (Pointer × Int) :=
 (zis N a0 a1).bind fun r1 => cond (r1 != 0) (some ((⟨0, (⟨0, 0⟩ : Address), 0⟩ : Pointer), r1)) ((idx a0.Tags (w6 (a1.tdiv 16))).bind fun x2 => cond (!x2)
  (some ((⟨0, (⟨0, 0⟩ : Address), 0⟩ : Pointer), 22))
  (if 0 ≤ (w6 (a1 + 16)) ∧ (w6 (a1 + 16)) ≤ (a0.Bytes.size : Int) then (if 0 ≤ a1 ∧ a1 ≤ (w6 (a1 + 16)) then ((zgg N (a0.Bytes.extract a1.toNat (w6 (a1 + 16)).toNat)).bind fun r3 =>
  some (r3.1, r3.2)) else none) else none))
def zdj.k (N : Nat) : Kq := ⟨96, (cvv [Ty.Pointer, T6] [Ty.Storage, T6] (zdj N)), go [zgg.k N, zis.k N] {} [] Proofs.Tryz.func96⟩
def zt (a0 : zD) (a1 : Int) : Option zD :=
 cond (a0.raised == 0) (some (⟨a0.zB, a0.zC, a0.layout, a1⟩ : zD)) (some a0)
def zt.k : Kq := ⟨175, (ctv [.ptr Ty.zD true [], .val T6] [] [Ty.zD] [] [Ty.zD, T6] zt), go [] {pk := [1000000]} [] Proofs.Tryz.func175⟩
def zb0 (N : Nat) (a0 : zD) (a1 : Int) : Option (Pointer × Int × zD) :=
 (idx a0.layout a1).bind fun x1 => (zdj N a0.zC.Storage x1).bind fun r2 => cond (r2.2 != 0) ((zt a0 4).bind fun r3 => some (r2.1, x1, r3))
  (some (r2.1, x1, a0))
def zb0.k (N : Nat) : Kq := ⟨174, (ctv [.ptr Ty.zD true [], .val T6] [Ty.Pointer, T6] [Ty.zD] [] [Ty.zD, T6] (zb0 N)), go [zdj.k N, zt.k] {pk := [1000000]} [] Proofs.Tryz.func174⟩
def zdn (N : Nat) (a0 : zF) : Option Int :=
 (zik N a0.zJ).bind fun r1 => some r1.1
def zdn.k (N : Nat) : Kq := ⟨114, (cvv [T6] [Ty.zF] (zdn N)), go [zik.k N] {} [] Proofs.Tryz.func114⟩
def za2 (N : Nat) (a0 : zD) (a1 : Int) : Option (Int × zD) :=
 (idx a0.zB.zA a1).bind fun x1 => cond (x1.Kind != 2) ((idx a0.layout a1).bind fun x2 => some (x2, a0))
  ((zh N a0.zB.zA x1).bind fun r3 => (zb0 N a0 r3).bind fun r4 => (cond (r4.2.2.raised == 0)
  ((zdn N x1).bind fun r5 => some (decide ((w6 (r4.1.Address.Offset + x1.Offset)) > (w6 ((r4.2.2.zC.Storage.Bytes.size : Int) - r5)))))
  (some false)).bind fun g6 => cond g6 ((zt r4.2.2 5).bind fun r7 => some ((w6 (r4.1.Address.Offset + x1.Offset)), r7))
  (some ((w6 (r4.1.Address.Offset + x1.Offset)), r4.2.2)))
def za2.k (N : Nat) : Kq := ⟨113, (ctv [.ptr Ty.zD true [], .val T6] [T6] [Ty.zD] [] [Ty.zD, T6] (za2 N)), go [zdn.k N, zh.k N, zb0.k N, zt.k] {pk := [1000000]} [] Proofs.Tryz.func113⟩
def zah (N : Nat) (a0 : zD) (a1 : Int) : Option (ByteArray × zD) :=
 (idx a0.zB.zA a1).bind fun x1 => cond (x1.Kind == 4) ((zc8 N x1.zJ x1.Value).bind fun r2 => some (r2.1, a0))
  ((za2 N a0 a1).bind fun r3 => cond (r3.2.raised != 0) (some ((⟨#[]⟩ : ByteArray), r3.2)) ((zdn N x1).bind fun r4 =>
  if 0 ≤ (w6 (r3.1 + r4)) ∧ (w6 (r3.1 + r4)) ≤ (r3.2.zC.Storage.Bytes.size : Int) then (if 0 ≤ r3.1 ∧ r3.1 ≤ (w6 (r3.1 + r4)) then (some ((r3.2.zC.Storage.Bytes.extract r3.1.toNat (w6 (r3.1 + r4)).toNat), r3.2)) else none) else none))
def zah.k (N : Nat) : Kq := ⟨71, (ctv [.ptr Ty.zD true [], .val T6] [Ty.str] [Ty.zD] [] [Ty.zD, T6] (zah N)), go [zc8.k N, za2.k N, zdn.k N] {pk := [1000000]} [] Proofs.Tryz.func71⟩
def zcc.b0 (N : Nat) (s3 : Int) (s12 : List Int) (s13 : Int) (s14 : Int) : Option (Stp (Int × (List Int) × Int × Int)) :=
 cond (decide (s14 < s13)) (if 0 ≤ s14 then (if s14 < (s12.length : Int) then ((s12[s14.toNat]?).bind fun x1001 =>
  some (.again ((orI .i64 (w6 (s3 * 2 ^ (min (8 : Int).toNat 64))) (w6 x1001)), s12, s13, (w6 (s14 + 1))))) else none) else none)
  (some (.leave (s3, s12, s13, s14)))
def zcc.r0 (N : Nat) (x : Int × (List Int) × Int × Int) := zcc.b0 N x.1 x.2.1 x.2.2.1 x.2.2.2
def zcc (N : Nat) (a0 : ByteArray) : Option Int :=
 (zhl a0 0).bind fun x1 =>
  if 0 ≤ (1 : Int) ∧ (1 : Int) ≤ (a0.size : Int) then ((zl (zcc.r0 N) N ((w6 (IntKind.wrap .i8 (x1.toNat : Int))), (zex (a0.extract (1 : Int).toNat a0.size)), ((zex (a0.extract (1 : Int).toNat a0.size)).length : Int), 0)).bind fun y2 =>
  some y2.1) else none
def zcc.k (N : Nat) : Kq := ⟨228, (cvv [T6] [Ty.str] (zcc N)), go [] {} [(0, .plain { slots := [(3, .val T6), (12, .own 5000012 (Ty.int .u8)), (13, .val T6), (14, .val T6)], boxes := [] } [T6, (Ty.sl (Ty.int .u8)), T6, T6] (zl (zcc.r0 N) N))] Proofs.Tryz.func228 (hL := ⟨⟨_, _, rfl, by kernel_rfl⟩, trivial⟩)⟩
def zbl.b0 (N : Nat) (s1 : ByteArray) (s4 : List Int) (s5 : List Int) (s10 : Int) (s11 : Int) (b2 : DataType) : Option (Stp (ByteArray × (List Int) × (List Int) × Int × Int × DataType)) :=
 cond (decide (s11 < s10)) ((zhl s1 s11).bind fun x1001 => (zhl s1 s11).bind fun x1002 => cond (b2.Kind == 1)
  (cond (Nat.ble ((s4.length + ([((x1001.toNat : Int).fdiv (2 ^ (min (4 : Int).toNat 8))), (zf7 .u8 (x1002.toNat : Int) 15)] : List Int).length) * 1) zbr)
  (cond (Nat.ble ((s5.length + ([s11, s11] : List Int).length) * 8) zbr)
  (some (.again (s1, (s4 ++ ([((x1001.toNat : Int).fdiv (2 ^ (min (4 : Int).toNat 8))), (zf7 .u8 (x1002.toNat : Int) 15)] : List Int)), (s5 ++ ([s11, s11] : List Int)), s10, (w6 (s11 + 1)), b2))) none) none)
  (cond (Nat.ble ((s4.length + ([(zf7 .u8 (x1002.toNat : Int) 15)] : List Int).length) * 1) zbr) (cond (Nat.ble ((s5.length + ([s11] : List Int).length) * 8) zbr)
  (some (.again (s1, (s4 ++ ([(zf7 .u8 (x1002.toNat : Int) 15)] : List Int)), (s5 ++ ([s11] : List Int)), s10, (w6 (s11 + 1)), b2))) none) none))
  (some (.leave (s1, s4, s5, s10, s11, b2)))
def zbl.r0 (N : Nat) (x : ByteArray × (List Int) × (List Int) × Int × Int × DataType) := zbl.b0 N x.1 x.2.1 x.2.2.1 x.2.2.2.1 x.2.2.2.2.1 x.2.2.2.2.2
def zbl (N : Nat) (a0 : DataType) (a1 : ByteArray) : Option ((List Int) × (List Int)) :=
 (zl (zbl.r0 N) N (a1, [], [], (a1.size : Int), 0, a0)).bind fun y1 => cond (y1.2.2.2.2.2.Kind == 2)
  ((zhl y1.1 (w6 ((y1.1.size : Int) - 1))).bind fun x2 =>
  cond (Nat.ble ((y1.2.1.length + ([((x2.toNat : Int).fdiv (2 ^ (min (4 : Int).toNat 8)))] : List Int).length) * 1) zbr)
  (cond (Nat.ble ((y1.2.2.1.length + ([(w6 ((y1.1.size : Int) - 1))] : List Int).length) * 8) zbr)
  (some ((y1.2.1 ++ ([((x2.toNat : Int).fdiv (2 ^ (min (4 : Int).toNat 8)))] : List Int)), (y1.2.2.1 ++ ([(w6 ((y1.1.size : Int) - 1))] : List Int)))) none) none)
  (some (y1.2.1, y1.2.2.1))
def zbl.k (N : Nat) : Kq := ⟨258, (cvv [(Ty.sl (Ty.int .u8)), (Ty.sl T6)] [Ty.DataType, Ty.str] (zbl N)), go [] {lits := [24, 28, 37, 42, 55, 61]} [(0, .plain { slots := [(1, .val Ty.str), (2, .ptr 2 0), (4, .own 5000004 (Ty.int .u8)), (5, .own 5000005 T6), (10, .val T6), (11, .val T6)], boxes := [(2, Ty.DataType, [])] } [Ty.str, (Ty.sl (Ty.int .u8)), (Ty.sl T6), T6, T6, Ty.DataType] (zl (zbl.r0 N) N))] Proofs.Tryz.func258 (hL := ⟨⟨_, _, rfl, by kernel_rfl⟩, trivial⟩)⟩
def zb1.b0 (N : Nat) (s7 : List Int) (s8 : List Int) (s9 : Int) (s10 : Int) (s24 : List Int) (s25 : Int) (s26 : Int) (b2 : DataType) : Option (Round (Int × Int × Int) ((List Int) × (List Int) × Int × Int × (List Int) × Int × Int × DataType)) :=
 cond (decide (s26 < s25)) ((idx s24 s26).bind fun x1001 => (cond (decide (x1001 > 9)) (some true) ((cond (decide (x1001 > 0))
  (some (decide (s26 < (w6 (s9 - b2.Length))))) (some false)).bind fun g1002 => some g1002)).bind fun g1003 => cond g1003 ((idx s8 s26).bind fun x1004 =>
  some (.result (0, x1004, 21)))
  (some (.again (s7, s8, s9, (w6 ((w6 (s10 * 10)) + (w6 x1001))), s24, s25, (w6 (s26 + 1)), b2))))
  (some (.leave (s7, s8, s9, s10, s24, s25, s26, b2)))
def zb1.r0 (N : Nat) (x : (List Int) × (List Int) × Int × Int × (List Int) × Int × Int × DataType) := zb1.b0 N x.1 x.2.1 x.2.2.1 x.2.2.2.1 x.2.2.2.2.1 x.2.2.2.2.2.1 x.2.2.2.2.2.2.1 x.2.2.2.2.2.2.2
def zb1 (N : Nat) (a0 : DataType) (a1 : ByteArray) : Option (Int × Int × Int) :=
 (zbl N a0 a1).bind fun r1 =>
  if 0 ≤ (w6 ((r1.1.length : Int) - 1)) ∧ (w6 ((r1.1.length : Int) - 1)) ≤ (r1.1.length : Int) then (if 0 ≤ (0 : Int) ∧ (0 : Int) ≤ (w6 ((r1.1.length : Int) - 1)) then ((zj (zb1.r0 N) N (r1.1, r1.2, (w6 ((r1.1.length : Int) - 1)), 0, ((r1.1.take (w6 ((r1.1.length : Int) - 1)).toNat).drop (0 : Int).toNat), (((r1.1.take (w6 ((r1.1.length : Int) - 1)).toNat).drop (0 : Int).toNat).length : Int), 0, a0)).bind fun z3 =>
  zb5 z3 (fun z => some z) (fun y2 => (idx y2.1 y2.2.2.1).bind fun x4 => cond (decide (x4 < 10)) ((idx y2.2.1 y2.2.2.1).bind fun x5 => some (0, x5, 21))
  ((idx y2.1 y2.2.2.1).bind fun x6 => (cond (x6 == 11) (some true) ((idx y2.1 y2.2.2.1).bind fun x7 => some (x7 == 13))).bind fun g8 =>
  cond g8 (some ((w6 (0 - y2.2.2.2.1)), 0, 0)) (some (y2.2.2.2.1, 0, 0))))) else none) else none
def zb1.k (N : Nat) : Kq := ⟨229, (cvv [T6, T6, T6] [Ty.DataType, Ty.str] (zb1 N)), go [zbl.k N] {} [(0, .rets { slots := [(2, .ptr 2 0), (7, .val (Ty.sl (Ty.int .u8))), (8, .val (Ty.sl T6)), (9, .val T6), (10, .val T6), (24, .val (Ty.sl (Ty.int .u8))), (25, .val T6), (26, .val T6)], boxes := [(2, Ty.DataType, [])] } [(Ty.sl (Ty.int .u8)), (Ty.sl T6), T6, T6, (Ty.sl (Ty.int .u8)), T6, T6, Ty.DataType] (zj (zb1.r0 N) N))] Proofs.Tryz.func229 (hL := ⟨⟨_, _, rfl, by kernel_rfl⟩, trivial⟩)⟩
def zkz (N : Nat) (a0 : DataType) (a1 : ByteArray) : Option (Value × Int × Int) :=
 (zbo N a0).bind fun r1 => (za3 (a0.Kind == 4) 17).bind fun r2 => (zq N ([r1, r2] : List Int)).bind fun r3 => cond (r3 == 0)
  ((zhs a0).bind fun r4 => (za3 ((a1.size : Int) != r4) 18).bind fun r5 => cond (r5 != 0) (some ((⟨0, (⟨#[]⟩ : ByteArray)⟩ : Value), 0, r5)) (cond (a0.Kind == 0)
  (some ((⟨0, a1⟩ : Value), 0, 0)) (cond (a0.Kind == 3) ((zcc N a1).bind fun r6 => (zb3 N a0 (⟨r6, (⟨#[]⟩ : ByteArray)⟩ : Value)).bind fun r7 =>
  cond (r7 != 0) (some ((⟨0, (⟨#[]⟩ : ByteArray)⟩ : Value), 0, r7)) (some ((⟨r6, (⟨#[]⟩ : ByteArray)⟩ : Value), 0, 0))) ((zb1 N a0 a1).bind fun r8 =>
  some ((⟨r8.1, (⟨#[]⟩ : ByteArray)⟩ : Value), r8.2.1, r8.2.2))))) (cond (r3 != 0) (some ((⟨0, (⟨#[]⟩ : ByteArray)⟩ : Value), 0, r3)) (cond (a0.Kind == 0)
  (some ((⟨0, a1⟩ : Value), 0, 0)) (cond (a0.Kind == 3) ((zcc N a1).bind fun r9 => (zb3 N a0 (⟨r9, (⟨#[]⟩ : ByteArray)⟩ : Value)).bind fun r10 =>
  cond (r10 != 0) (some ((⟨0, (⟨#[]⟩ : ByteArray)⟩ : Value), 0, r10)) (some ((⟨r9, (⟨#[]⟩ : ByteArray)⟩ : Value), 0, 0))) ((zb1 N a0 a1).bind fun r11 =>
  some ((⟨r11.1, (⟨#[]⟩ : ByteArray)⟩ : Value), r11.2.1, r11.2.2)))))
def zkz.k (N : Nat) : Kq := ⟨179, (cvv [Ty.Value, T6, T6] [Ty.DataType, Ty.str] (zkz N)), go [zb3.k N, zbo.k N, zq.k N, za3.k, zhs.k, zcc.k N, zb1.k N] {lits := [13, 17, 18]} [] Proofs.Tryz.func179⟩
def zp (N : Nat) (a0 : zD) (a1 : Int) : Option (Number × zD) :=
 (zah N a0 a1).bind fun r1 => cond (r1.2.raised != 0) (some ((⟨0, 0⟩ : Number), r1.2)) ((idx r1.2.zB.zA a1).bind fun x2 =>
  (zkz N x2.zJ r1.1).bind fun r3 => cond (r3.2.2 != 0) ((zt r1.2 1).bind fun r4 => some ((⟨0, 0⟩ : Number), r4))
  (some ((⟨r3.1.N, x2.zJ.Scale⟩ : Number), r1.2)))
def zp.k (N : Nat) : Kq := ⟨117, (ctv [.ptr Ty.zD true [], .val T6] [Ty.Number] [Ty.zD] [] [Ty.zD, T6] (zp N)), go [zah.k N, zt.k, zkz.k N] {pk := [1000000]} [] Proofs.Tryz.func117⟩
def zbv (a0 : Number) : Option Int :=
 (zep a0.N (-999999999999999) 999999999999999).bind fun r1 => (cond (!r1) (some true) ((zep a0.Scale 0 15).bind fun r2 => some (!r2))).bind fun g3 =>
  (za3 g3 3).bind fun r4 => some r4
def zbv.k : Kq := ⟨177, (cvv [T6] [Ty.Number] zbv), go [za3.k, zep.k] {} [] Proofs.Tryz.func177⟩
def zf6 (a0 : DataType) : Option Bool :=
 (cond (a0.Kind == 1) (some true) (some (a0.Kind == 2))).bind fun g1 => (cond g1 (some true) (some (a0.Kind == 3))).bind fun g2 => some g2
def zf6.k : Kq := ⟨216, (cvv [Ty.bool] [Ty.DataType] zf6), go [] {} [] Proofs.Tryz.func216⟩
def zbx (a0 : Int) : Option zH :=
 some (⟨a0, 0, 0, 0⟩ : zH)
def zbx.k : Kq := ⟨244, (cvv [Ty.zH] [(Ty.int .u64)] zbx), go [] {} [] Proofs.Tryz.func244⟩
def za4.b0 (N : Nat) (s1 : Int) (s6 : Int) (s12 : Int) (b2 : zH) (b4 : zH) (b5 : zH) : Option (Stp (Int × Int × Int × zH × zH × zH)) :=
 cond (decide (s12 < 4)) (if 0 ≤ s12 then (if s12 < 4 then ((zdr (zaq [b2.e0, b2.e1, b2.e2, b2.e3] s12.toNat) s1).bind fun r1001 =>
  if 0 ≤ s12 then (if s12 < 4 then (some (.again (s1, (IntKind.wrap .u64 (r1001.1 + (((r1001.2.toNat + s6.toNat + (0 : Int).toNat) / 2 ^ 64 : Nat) : Int))), (w6 (s12 + 1)), b2, b4, (⟨(if s12.toNat = 0 then (((r1001.2.toNat + s6.toNat + (0 : Int).toNat) % 2 ^ 64 : Nat) : Int) else b5.e0), (if s12.toNat = 1 then (((r1001.2.toNat + s6.toNat + (0 : Int).toNat) % 2 ^ 64 : Nat) : Int) else b5.e1), (if s12.toNat = 2 then (((r1001.2.toNat + s6.toNat + (0 : Int).toNat) % 2 ^ 64 : Nat) : Int) else b5.e2), (if s12.toNat = 3 then (((r1001.2.toNat + s6.toNat + (0 : Int).toNat) % 2 ^ 64 : Nat) : Int) else b5.e3)⟩ : zH)))) else none) else none) else none) else none)
  (some (.leave (s1, s6, s12, b2, b4, b5)))
def za4.r0 (N : Nat) (x : Int × Int × Int × zH × zH × zH) := za4.b0 N x.1 x.2.1 x.2.2.1 x.2.2.2.1 x.2.2.2.2.1 x.2.2.2.2.2
def za4 (N : Nat) (a0 : zH) (a1 : Int) : Option zH :=
 (zl (za4.r0 N) N (a1, 0, 0, a0, (⟨0, 0, 0, 0⟩ : zH), (⟨0, 0, 0, 0⟩ : zH))).bind fun y1 => some y1.2.2.2.2.2
def za4.k (N : Nat) : Kq := ⟨266, (cvv [Ty.zH] [Ty.zH, (Ty.int .u64)] (za4 N)), go [zdr.k] {X := [(268, 0)]} [(0, .plain { slots := [(1, .val (Ty.int .u64)), (2, .ptr 2 0), (4, .ptr 4 0), (5, .ptr 5 0), (6, .val (Ty.int .u64)), (12, .val T6)], boxes := [(2, Ty.zH, []), (4, Ty.zH, []), (5, Ty.zH, [])] } [(Ty.int .u64), (Ty.int .u64), T6, Ty.zH, Ty.zH, Ty.zH] (zl (za4.r0 N) N))] Proofs.Tryz.func266 (hL := ⟨⟨_, _, rfl, by kernel_rfl⟩, trivial⟩) (hX := all_cons (zaen) (zdb))⟩
def zg.b0 (N : Nat) (s5 : Int) (s6 : Int) (b2 : zH) (b4 : zH) : Option (Stp (Int × Int × zH × zH)) :=
 cond (decide (s6 < s5)) ((za4 N b2 10).bind fun r1001 => some (.again (s5, (w6 (s6 + 1)), r1001, b4))) (some (.leave (s5, s6, b2, b4)))
def zg.r0 (N : Nat) (x : Int × Int × zH × zH) := zg.b0 N x.1 x.2.1 x.2.2.1 x.2.2.2
def zg (N : Nat) (a0 : zH) (a1 : Int) : Option zH :=
 (zl (zg.r0 N) N (a1, 0, a0, (⟨0, 0, 0, 0⟩ : zH))).bind fun y1 => some y1.2.2.1
def zg.k (N : Nat) : Kq := ⟨245, (cvv [Ty.zH] [Ty.zH, T6] (zg N)), go [za4.k N] {} [(0, .plain { slots := [(2, .ptr 2 0), (4, .ptr 4 0), (5, .val T6), (6, .val T6)], boxes := [(2, Ty.zH, []), (4, Ty.zH, [])] } [T6, T6, Ty.zH, Ty.zH] (zl (zg.r0 N) N))] Proofs.Tryz.func245 (hL := ⟨⟨_, _, rfl, by kernel_rfl⟩, trivial⟩)⟩
def zc5 (N : Nat) (a0 : Number) (a1 : Int) : Option zH :=
 (zbx (IntKind.wrap .u64 (if (w6 (0 - a0.N)) > a0.N then (w6 (0 - a0.N)) else a0.N))).bind fun r1 =>
  (zg N r1 a1).bind fun r2 => some r2
def zc5.k (N : Nat) : Kq := ⟨243, (cvv [Ty.zH] [Ty.Number, T6] (zc5 N)), go [zbx.k, zg.k N] {lits := [12]} [] Proofs.Tryz.func243⟩
def zr8 (N : Nat) (a0 : Number) : Option zO :=
 (zc5 N a0 0).bind fun r1 => (zbx 1).bind fun r2 => (zg N r2 a0.Scale).bind fun r3 => some (⟨(decide (a0.N < 0)), r1, r3⟩ : zO)
def zr8.k (N : Nat) : Kq := ⟨217, (cvv [Ty.zO] [Ty.Number] (zr8 N)), go [zc5.k N, zbx.k, zg.k N] {lits := [8]} [] Proofs.Tryz.func217⟩
def zy.b0 (N : Nat) (s6 : Int) (s8 : Int) (b2 : zH) (b3 : zH) (b4 : zH) (b5 : zH) : Option (Stp (Int × Int × zH × zH × zH × zH)) :=
 cond (decide (s8 < 4))
  (if 0 ≤ s8 then (if s8 < 4 then (if 0 ≤ s8 then (if s8 < 4 then (if s6.toNat > 1 then none else if 0 ≤ s8 then (if s8 < 4 then (some (.again (((((zaq [b2.e0, b2.e1, b2.e2, b2.e3] s8.toNat).toNat + (zaq [b3.e0, b3.e1, b3.e2, b3.e3] s8.toNat).toNat + s6.toNat) / 2 ^ 64 : Nat) : Int), (w6 (s8 + 1)), b2, b3, b4, (⟨(if s8.toNat = 0 then ((((zaq [b2.e0, b2.e1, b2.e2, b2.e3] s8.toNat).toNat + (zaq [b3.e0, b3.e1, b3.e2, b3.e3] s8.toNat).toNat + s6.toNat) % 2 ^ 64 : Nat) : Int) else b5.e0), (if s8.toNat = 1 then ((((zaq [b2.e0, b2.e1, b2.e2, b2.e3] s8.toNat).toNat + (zaq [b3.e0, b3.e1, b3.e2, b3.e3] s8.toNat).toNat + s6.toNat) % 2 ^ 64 : Nat) : Int) else b5.e1), (if s8.toNat = 2 then ((((zaq [b2.e0, b2.e1, b2.e2, b2.e3] s8.toNat).toNat + (zaq [b3.e0, b3.e1, b3.e2, b3.e3] s8.toNat).toNat + s6.toNat) % 2 ^ 64 : Nat) : Int) else b5.e2), (if s8.toNat = 3 then ((((zaq [b2.e0, b2.e1, b2.e2, b2.e3] s8.toNat).toNat + (zaq [b3.e0, b3.e1, b3.e2, b3.e3] s8.toNat).toNat + s6.toNat) % 2 ^ 64 : Nat) : Int) else b5.e3)⟩ : zH)))) else none) else none) else none) else none) else none) else none)
  (some (.leave (s6, s8, b2, b3, b4, b5)))
def zy.r0 (N : Nat) (x : Int × Int × zH × zH × zH × zH) := zy.b0 N x.1 x.2.1 x.2.2.1 x.2.2.2.1 x.2.2.2.2.1 x.2.2.2.2.2
def zy (N : Nat) (a0 : zH) (a1 : zH) : Option zH :=
 (zl (zy.r0 N) N (0, 0, a0, a1, (⟨0, 0, 0, 0⟩ : zH), (⟨0, 0, 0, 0⟩ : zH))).bind fun y1 => some y1.2.2.2.2.2
def zy.k (N : Nat) : Kq := ⟨247, (cvv [Ty.zH] [Ty.zH, Ty.zH] (zy N)), go [] {X := [(268, 0)]} [(0, .plain { slots := [(2, .ptr 2 0), (3, .ptr 3 0), (4, .ptr 4 0), (5, .ptr 5 0), (6, .val (Ty.int .u64)), (8, .val T6)], boxes := [(2, Ty.zH, []), (3, Ty.zH, []), (4, Ty.zH, []), (5, Ty.zH, [])] } [(Ty.int .u64), T6, Ty.zH, Ty.zH, Ty.zH, Ty.zH] (zl (zy.r0 N) N))] Proofs.Tryz.func247 (hL := ⟨⟨_, _, rfl, by kernel_rfl⟩, trivial⟩) (hX := all_cons (zaen) (zdb))⟩
def zk.b0 (N : Nat) (s5 : Int) (b2 : zH) (b3 : zH) : Option (Round Int (Int × zH × zH)) :=
 cond (decide (s5 ≥ 0))
  (if 0 ≤ s5 then (if s5 < 4 then (if 0 ≤ s5 then (if s5 < 4 then (cond (decide ((zaq [b2.e0, b2.e1, b2.e2, b2.e3] s5.toNat) < (zaq [b3.e0, b3.e1, b3.e2, b3.e3] s5.toNat)))
  (some (.result (-1)))
  (if 0 ≤ s5 then (if s5 < 4 then (if 0 ≤ s5 then (if s5 < 4 then (cond (decide ((zaq [b2.e0, b2.e1, b2.e2, b2.e3] s5.toNat) > (zaq [b3.e0, b3.e1, b3.e2, b3.e3] s5.toNat)))
  (some (.result 1)) (some (.again ((w6 (s5 - 1)), b2, b3)))) else none) else none) else none) else none)) else none) else none) else none) else none)
  (some (.leave (s5, b2, b3)))
def zk.r0 (N : Nat) (x : Int × zH × zH) := zk.b0 N x.1 x.2.1 x.2.2
def zk (N : Nat) (a0 : zH) (a1 : zH) : Option Int :=
 (zj (zk.r0 N) N (3, a0, a1)).bind fun z2 => zb5 z2 (fun z => some z) (fun y1 => some 0)
def zk.k (N : Nat) : Kq := ⟨240, (cvv [T6] [Ty.zH, Ty.zH] (zk N)), go [] {} [(0, .rets { slots := [(2, .ptr 2 0), (3, .ptr 3 0), (5, .val T6)], boxes := [(2, Ty.zH, []), (3, Ty.zH, [])] } [T6, Ty.zH, Ty.zH] (zj (zk.r0 N) N))] Proofs.Tryz.func240 (hL := ⟨⟨_, _, rfl, by kernel_rfl⟩, trivial⟩)⟩
def zx.b0 (N : Nat) (s6 : Int) (s8 : Int) (b2 : zH) (b3 : zH) (b4 : zH) (b5 : zH) : Option (Stp (Int × Int × zH × zH × zH × zH)) :=
 cond (decide (s8 < 4))
  (if 0 ≤ s8 then (if s8 < 4 then (if 0 ≤ s8 then (if s8 < 4 then (if s6.toNat > 1 then none else if 0 ≤ s8 then (if s8 < 4 then (some (.again (((if (zaq [b2.e0, b2.e1, b2.e2, b2.e3] s8.toNat).toNat < (zaq [b3.e0, b3.e1, b3.e2, b3.e3] s8.toNat).toNat + s6.toNat then 1 else 0 : Nat) : Int), (w6 (s8 + 1)), b2, b3, b4, (⟨(if s8.toNat = 0 then ((((zaq [b2.e0, b2.e1, b2.e2, b2.e3] s8.toNat).toNat + 2 ^ 64 - (zaq [b3.e0, b3.e1, b3.e2, b3.e3] s8.toNat).toNat - s6.toNat) % 2 ^ 64 : Nat) : Int) else b5.e0), (if s8.toNat = 1 then ((((zaq [b2.e0, b2.e1, b2.e2, b2.e3] s8.toNat).toNat + 2 ^ 64 - (zaq [b3.e0, b3.e1, b3.e2, b3.e3] s8.toNat).toNat - s6.toNat) % 2 ^ 64 : Nat) : Int) else b5.e1), (if s8.toNat = 2 then ((((zaq [b2.e0, b2.e1, b2.e2, b2.e3] s8.toNat).toNat + 2 ^ 64 - (zaq [b3.e0, b3.e1, b3.e2, b3.e3] s8.toNat).toNat - s6.toNat) % 2 ^ 64 : Nat) : Int) else b5.e2), (if s8.toNat = 3 then ((((zaq [b2.e0, b2.e1, b2.e2, b2.e3] s8.toNat).toNat + 2 ^ 64 - (zaq [b3.e0, b3.e1, b3.e2, b3.e3] s8.toNat).toNat - s6.toNat) % 2 ^ 64 : Nat) : Int) else b5.e3)⟩ : zH)))) else none) else none) else none) else none) else none) else none)
  (some (.leave (s6, s8, b2, b3, b4, b5)))
def zx.r0 (N : Nat) (x : Int × Int × zH × zH × zH × zH) := zx.b0 N x.1 x.2.1 x.2.2.1 x.2.2.2.1 x.2.2.2.2.1 x.2.2.2.2.2
def zx (N : Nat) (a0 : zH) (a1 : zH) : Option zH :=
 (zl (zx.r0 N) N (0, 0, a0, a1, (⟨0, 0, 0, 0⟩ : zH), (⟨0, 0, 0, 0⟩ : zH))).bind fun y1 => some y1.2.2.2.2.2
def zx.k (N : Nat) : Kq := ⟨267, (cvv [Ty.zH] [Ty.zH, Ty.zH] (zx N)), go [] {X := [(276, 1)]} [(0, .plain { slots := [(2, .ptr 2 0), (3, .ptr 3 0), (4, .ptr 4 0), (5, .ptr 5 0), (6, .val (Ty.int .u64)), (8, .val T6)], boxes := [(2, Ty.zH, []), (3, Ty.zH, []), (4, Ty.zH, []), (5, Ty.zH, [])] } [(Ty.int .u64), T6, Ty.zH, Ty.zH, Ty.zH, Ty.zH] (zl (zx.r0 N) N))] Proofs.Tryz.func267 (hL := ⟨⟨_, _, rfl, by kernel_rfl⟩, trivial⟩) (hX := all_cons (zahi) (zdb))⟩
def za7.b0 (N : Nat) (s6 : Int) (b2 : zH) (b3 : zH) (b4 : zH) (b5 : zH) : Option (Stp (Int × zH × zH × zH × zH)) :=
 cond (decide (s6 ≥ 0)) ((zy N b5 b5).bind fun r1001 =>
  if 0 ≤ (w6 (s6.tdiv 64)) then (if (w6 (s6.tdiv 64)) < 4 then (if (s6.tmod 64) < 0 then none else (zk N (⟨(if 0 = 0 then (orI .u64 (zaq [r1001.e0, r1001.e1, r1001.e2, r1001.e3] 0)
  (zf7 .u64 (((zaq [b2.e0, b2.e1, b2.e2, b2.e3] ((w6 (s6.tdiv 64)).toNat)) : Int).fdiv (2 ^ (min (s6.tmod 64).toNat 64))) 1)) else r1001.e0), (if 0 = 1 then (orI .u64 (zaq [r1001.e0, r1001.e1, r1001.e2, r1001.e3] 0)
  (zf7 .u64 (((zaq [b2.e0, b2.e1, b2.e2, b2.e3] ((w6 (s6.tdiv 64)).toNat)) : Int).fdiv (2 ^ (min (s6.tmod 64).toNat 64))) 1)) else r1001.e1), (if 0 = 2 then (orI .u64 (zaq [r1001.e0, r1001.e1, r1001.e2, r1001.e3] 0)
  (zf7 .u64 (((zaq [b2.e0, b2.e1, b2.e2, b2.e3] ((w6 (s6.tdiv 64)).toNat)) : Int).fdiv (2 ^ (min (s6.tmod 64).toNat 64))) 1)) else r1001.e2), (if 0 = 3 then (orI .u64 (zaq [r1001.e0, r1001.e1, r1001.e2, r1001.e3] 0)
  (zf7 .u64 (((zaq [b2.e0, b2.e1, b2.e2, b2.e3] ((w6 (s6.tdiv 64)).toNat)) : Int).fdiv (2 ^ (min (s6.tmod 64).toNat 64))) 1)) else r1001.e3)⟩ : zH) b3).bind fun r1002 =>
  cond (decide (r1002 ≥ 0)) ((zx N (⟨(if 0 = 0 then (orI .u64 (zaq [r1001.e0, r1001.e1, r1001.e2, r1001.e3] 0)
  (zf7 .u64 (((zaq [b2.e0, b2.e1, b2.e2, b2.e3] ((w6 (s6.tdiv 64)).toNat)) : Int).fdiv (2 ^ (min (s6.tmod 64).toNat 64))) 1)) else r1001.e0), (if 0 = 1 then (orI .u64 (zaq [r1001.e0, r1001.e1, r1001.e2, r1001.e3] 0)
  (zf7 .u64 (((zaq [b2.e0, b2.e1, b2.e2, b2.e3] ((w6 (s6.tdiv 64)).toNat)) : Int).fdiv (2 ^ (min (s6.tmod 64).toNat 64))) 1)) else r1001.e1), (if 0 = 2 then (orI .u64 (zaq [r1001.e0, r1001.e1, r1001.e2, r1001.e3] 0)
  (zf7 .u64 (((zaq [b2.e0, b2.e1, b2.e2, b2.e3] ((w6 (s6.tdiv 64)).toNat)) : Int).fdiv (2 ^ (min (s6.tmod 64).toNat 64))) 1)) else r1001.e2), (if 0 = 3 then (orI .u64 (zaq [r1001.e0, r1001.e1, r1001.e2, r1001.e3] 0)
  (zf7 .u64 (((zaq [b2.e0, b2.e1, b2.e2, b2.e3] ((w6 (s6.tdiv 64)).toNat)) : Int).fdiv (2 ^ (min (s6.tmod 64).toNat 64))) 1)) else r1001.e3)⟩ : zH) b3).bind fun r1003 =>
  if 0 ≤ (w6 (s6.tdiv 64)) then (if (w6 (s6.tdiv 64)) < 4 then (if (s6.tmod 64) < 0 then none else if 0 ≤ (w6 (s6.tdiv 64)) then (if (w6 (s6.tdiv 64)) < 4 then (some (.again ((w6 (s6 - 1)), b2, b3, (⟨(if (w6 (s6.tdiv 64)).toNat = 0 then (orI .u64 (zaq [b4.e0, b4.e1, b4.e2, b4.e3] ((w6 (s6.tdiv 64)).toNat))
  (IntKind.wrap .u64 (1 * 2 ^ (min (s6.tmod 64).toNat 64)))) else b4.e0), (if (w6 (s6.tdiv 64)).toNat = 1 then (orI .u64 (zaq [b4.e0, b4.e1, b4.e2, b4.e3] ((w6 (s6.tdiv 64)).toNat))
  (IntKind.wrap .u64 (1 * 2 ^ (min (s6.tmod 64).toNat 64)))) else b4.e1), (if (w6 (s6.tdiv 64)).toNat = 2 then (orI .u64 (zaq [b4.e0, b4.e1, b4.e2, b4.e3] ((w6 (s6.tdiv 64)).toNat))
  (IntKind.wrap .u64 (1 * 2 ^ (min (s6.tmod 64).toNat 64)))) else b4.e2), (if (w6 (s6.tdiv 64)).toNat = 3 then (orI .u64 (zaq [b4.e0, b4.e1, b4.e2, b4.e3] ((w6 (s6.tdiv 64)).toNat))
  (IntKind.wrap .u64 (1 * 2 ^ (min (s6.tmod 64).toNat 64)))) else b4.e3)⟩ : zH), r1003))) else none) else none) else none) else none)
  (some (.again ((w6 (s6 - 1)), b2, b3, b4, (⟨(if 0 = 0 then (orI .u64 (zaq [r1001.e0, r1001.e1, r1001.e2, r1001.e3] 0)
  (zf7 .u64 (((zaq [b2.e0, b2.e1, b2.e2, b2.e3] ((w6 (s6.tdiv 64)).toNat)) : Int).fdiv (2 ^ (min (s6.tmod 64).toNat 64))) 1)) else r1001.e0), (if 0 = 1 then (orI .u64 (zaq [r1001.e0, r1001.e1, r1001.e2, r1001.e3] 0)
  (zf7 .u64 (((zaq [b2.e0, b2.e1, b2.e2, b2.e3] ((w6 (s6.tdiv 64)).toNat)) : Int).fdiv (2 ^ (min (s6.tmod 64).toNat 64))) 1)) else r1001.e1), (if 0 = 2 then (orI .u64 (zaq [r1001.e0, r1001.e1, r1001.e2, r1001.e3] 0)
  (zf7 .u64 (((zaq [b2.e0, b2.e1, b2.e2, b2.e3] ((w6 (s6.tdiv 64)).toNat)) : Int).fdiv (2 ^ (min (s6.tmod 64).toNat 64))) 1)) else r1001.e2), (if 0 = 3 then (orI .u64 (zaq [r1001.e0, r1001.e1, r1001.e2, r1001.e3] 0)
  (zf7 .u64 (((zaq [b2.e0, b2.e1, b2.e2, b2.e3] ((w6 (s6.tdiv 64)).toNat)) : Int).fdiv (2 ^ (min (s6.tmod 64).toNat 64))) 1)) else r1001.e3)⟩ : zH))))) else none) else none)
  (some (.leave (s6, b2, b3, b4, b5)))
def za7.r0 (N : Nat) (x : Int × zH × zH × zH × zH) := za7.b0 N x.1 x.2.1 x.2.2.1 x.2.2.2.1 x.2.2.2.2
def za7 (N : Nat) (a0 : zH) (a1 : zH) : Option (zH × zH) :=
 (zl (za7.r0 N) N (255, a0, a1, (⟨0, 0, 0, 0⟩ : zH), (⟨0, 0, 0, 0⟩ : zH))).bind fun y1 => some (y1.2.2.2.1, y1.2.2.2.2)
def za7.k (N : Nat) : Kq := ⟨246, (cvv [Ty.zH, Ty.zH] [Ty.zH, Ty.zH] (za7 N)), go [zk.k N, zy.k N, zx.k N] {} [(0, .plain { slots := [(2, .ptr 2 0), (3, .ptr 3 0), (4, .ptr 4 0), (5, .ptr 5 0), (6, .val T6)], boxes := [(2, Ty.zH, []), (3, Ty.zH, []), (4, Ty.zH, []), (5, Ty.zH, [])] } [T6, Ty.zH, Ty.zH, Ty.zH, Ty.zH] (zl (za7.r0 N) N))] Proofs.Tryz.func246 (hL := ⟨⟨_, _, rfl, by kernel_rfl⟩, trivial⟩)⟩
def zd6 (N : Nat) (a0 : zO) (a1 : DataType) (a2 : Bool) : Option (Value × Int) :=
 (zg N a0.amount a1.Scale).bind fun r1 => (za7 N r1 a0.division).bind fun r2 => (cond a2 ((zy N r2.2 r2.2).bind fun r3 =>
  (zk N r3 a0.division).bind fun r4 => some (decide (r4 ≥ 0))) (some false)).bind fun g5 => cond g5 ((zbx 1).bind fun r6 =>
  (zy N r2.1 r6).bind fun r7 => (zbx 1).bind fun r8 => (zg N r8 a1.Length).bind fun r9 => (zk N r7 r9).bind fun r10 =>
  cond (decide (r10 ≥ 0)) (some ((⟨0, (⟨#[]⟩ : ByteArray)⟩ : Value), 19))
  (cond a0.below (some ((⟨(w6 (0 - (w6 (zaq [r7.e0, r7.e1, r7.e2, r7.e3] 0)))), (⟨#[]⟩ : ByteArray)⟩ : Value), 0))
  (some ((⟨(w6 (zaq [r7.e0, r7.e1, r7.e2, r7.e3] 0)), (⟨#[]⟩ : ByteArray)⟩ : Value), 0)))) ((zbx 1).bind fun r11 =>
  (zg N r11 a1.Length).bind fun r12 => (zk N r2.1 r12).bind fun r13 => cond (decide (r13 ≥ 0)) (some ((⟨0, (⟨#[]⟩ : ByteArray)⟩ : Value), 19))
  (cond a0.below (some ((⟨(w6 (0 - (w6 (zaq [r2.1.e0, r2.1.e1, r2.1.e2, r2.1.e3] 0)))), (⟨#[]⟩ : ByteArray)⟩ : Value), 0))
  (some ((⟨(w6 (zaq [r2.1.e0, r2.1.e1, r2.1.e2, r2.1.e3] 0)), (⟨#[]⟩ : ByteArray)⟩ : Value), 0))))
def zd6.k (N : Nat) : Kq := ⟨218, (cvv [Ty.Value, T6] [Ty.zO, Ty.DataType, Ty.bool] (zd6 N)), go [zk.k N, zbx.k, zg.k N, za7.k N, zy.k N] {lits := [16, 26, 33, 36, 39]} [] Proofs.Tryz.func218⟩
def zdw (N : Nat) (a0 : Number) (a1 : DataType) (a2 : Bool) : Option (Value × Int) :=
 (zbv a0).bind fun r1 => (zbo N a1).bind fun r2 => (zf6 a1).bind fun r3 => (za3 (!r3) 17).bind fun r4 =>
  (zq N ([r1, r2, r4] : List Int)).bind fun r5 => cond (r5 != 0) (some ((⟨0, (⟨#[]⟩ : ByteArray)⟩ : Value), r5)) ((zr8 N a0).bind fun r6 =>
  (zd6 N r6 a1 a2).bind fun r7 => some (r7.1, r7.2))
def zdw.k (N : Nat) : Kq := ⟨161, (cvv [Ty.Value, T6] [Ty.Number, Ty.DataType, Ty.bool] (zdw N)), go [zbv.k, zbo.k N, zq.k N, za3.k, zf6.k, zr8.k N, zd6.k N] {lits := [10, 12, 16, 17, 24]} [] Proofs.Tryz.func161⟩
def zaz (N : Nat) (a0 : zD) (a1 : Int) (a2 : ByteArray) : Option zD :=
 (za2 N a0 a1).bind fun r1 => cond (r1.2.raised == 0) ((zf3 N r1.2.zC.Storage r1.1 a2).bind fun r2 =>
  some (⟨r1.2.zB, (⟨r2.1, r1.2.zC.At, r1.2.zC.Stack, r1.2.zC.Lines, r1.2.zC.Status, r1.2.zC.Exception, r1.2.zC.Steps⟩ : zC), r1.2.layout, r1.2.raised⟩ : zD))
  (some r1.2)
def zaz.k (N : Nat) : Kq := ⟨209, (ctv [.ptr Ty.zD true [], .val T6, .val Ty.str] [] [Ty.zD] [] [Ty.zD, T6, Ty.str] (zaz N)), go [zf3.k N, za2.k N] {pk := [1000000]} [] Proofs.Tryz.func209⟩
def zap (N : Nat) (a0 : zD) (a1 : Int) (a2 : Value) (a3 : Int) : Option zD :=
 cond (a3 == 20) ((zt a0 3).bind fun r1 => cond (r1.raised == 0) ((idx r1.zB.zA a1).bind fun x2 => (zc8 N x2.zJ a2).bind fun r3 =>
  (zaz N r1 a1 r3.1).bind fun r4 => some r4) (some r1)) (cond (a3 == 19) ((zt a0 2).bind fun r5 => cond (r5.raised == 0)
  ((idx r5.zB.zA a1).bind fun x6 => (zc8 N x6.zJ a2).bind fun r7 => (zaz N r5 a1 r7.1).bind fun r8 => some r8) (some r5))
  (cond (a0.raised == 0) ((idx a0.zB.zA a1).bind fun x9 => (zc8 N x9.zJ a2).bind fun r10 => (zaz N a0 a1 r10.1).bind fun r11 =>
  some r11) (some a0)))
def zap.k (N : Nat) : Kq := ⟨162, (ctv [.ptr Ty.zD true [], .val T6, .val Ty.Value, .val T6] [] [Ty.zD] [] [Ty.zD, T6, Ty.Value, T6] (zap N)), go [zc8.k N, zt.k, zaz.k N] {pk := [1000000]} [] Proofs.Tryz.func162⟩
def zet (a0 : ByteArray) (a1 : Int) : Option ByteArray :=
 (znn (⟨#[32]⟩ : ByteArray) (if 0 > (w6 (a1 - (a0.size : Int))) then 0 else (w6 (a1 - (a0.size : Int))))).bind fun r1 =>
  if ((a0.size + r1.size : Nat) : Int) > IntKind.i64.max then none else some (a0 ++ r1)
def zet.k : Kq := ⟨210, (cvv [Ty.str] [Ty.str, T6] zet), go [z1b.k] {lits := [10]} [] Proofs.Tryz.func210⟩
def zdk (N : Nat) (a0 : zD) (a1 : Int) (a2 : Int) (a3 : Bool) : Option zD :=
 (idx a0.zB.zA a1).bind fun x1 => (zda x1).bind fun r2 => cond r2 ((zp N a0 a2).bind fun r3 =>
  (zdw N r3.1 x1.zJ a3).bind fun r4 => (zap N r3.2 a1 r4.1 r4.2).bind fun r5 => some r5) ((zah N a0 a2).bind fun r6 =>
  (zdn N x1).bind fun r7 => (zet r6.1 r7).bind fun r8 => (zdn N x1).bind fun r9 =>
  if 0 ≤ r9 ∧ r9 ≤ (r8.size : Int) then (if 0 ≤ (0 : Int) ∧ (0 : Int) ≤ r9 then ((zaz N r6.2 a1 (r8.extract (0 : Int).toNat r9.toNat)).bind fun r10 =>
  some r10) else none) else none)
def zdk.k (N : Nat) : Kq := ⟨151, (ctv [.ptr Ty.zD true [], .val T6, .val T6, .val Ty.bool] [] [Ty.zD] [] [Ty.zD, T6, T6, Ty.bool] (zdk N)), go [zah.k N, zdn.k N, zda.k, zp.k N, zdw.k N, zap.k N, zaz.k N, zet.k] {lits := [46], pk := [1000000]} [] Proofs.Tryz.func151⟩
def zpi (a0 : Int) : Option Bool :=
 (zep a0 0 4).bind fun r1 => some r1
def zpi.k : Kq := ⟨237, (cvv [Ty.bool] [T6] zpi), go [zep.k] {} [] Proofs.Tryz.func237⟩
def zmq (a0 : Int) : Option Bool :=
 (cond (a0 == 3) (some true) (some (a0 == 4))).bind fun g1 => some g1
def zmq.k : Kq := ⟨261, (cvv [Ty.bool] [T6] zmq), go [] {} [] Proofs.Tryz.func261⟩
def ze4 (N : Nat) (a0 : Number) (a1 : Number) : Option (zH × zH × Int) :=
 (zc5 N a0 (w6 ((if a1.Scale > a0.Scale then a1.Scale else a0.Scale) - a0.Scale))).bind fun r1 =>
  (zc5 N a1 (w6 ((if a1.Scale > a0.Scale then a1.Scale else a0.Scale) - a1.Scale))).bind fun r2 =>
  some (r1, r2, (if a1.Scale > a0.Scale then a1.Scale else a0.Scale))
def ze4.k (N : Nat) : Kq := ⟨239, (cvv [Ty.zH, Ty.zH, T6] [Ty.Number, Ty.Number] (ze4 N)), go [zc5.k N] {} [] Proofs.Tryz.func239⟩
def zm5 (N : Nat) (a0 : Number) (a1 : Number) : Option zO :=
 (ze4 N a0 a1).bind fun r1 => (zy N r1.1 r1.2.1).bind fun r2 => (zbx 1).bind fun r3 => (zg N r3 r1.2.2).bind fun r4 =>
  cond (!((decide (a0.N < 0)) == (decide (a1.N < 0)))) ((zx N r1.1 r1.2.1).bind fun r5 => (zk N r1.1 r1.2.1).bind fun r6 => cond (decide (r6 < 0))
  ((zx N r1.2.1 r1.1).bind fun r7 => some (⟨(decide (a1.N < 0)), r7, r4⟩ : zO)) (some (⟨(decide (a0.N < 0)), r5, r4⟩ : zO)))
  (some (⟨(decide (a0.N < 0)), r2, r4⟩ : zO))
def zm5.k (N : Nat) : Kq := ⟨274, (cvv [Ty.zO] [Ty.Number, Ty.Number] (zm5 N)), go [ze4.k N, zk.k N, zbx.k, zg.k N, zy.k N, zx.k N] {lits := [22]} [] Proofs.Tryz.func274⟩
def znp (N : Nat) (a0 : Int) (a1 : Number) (a2 : Number) : Option zO :=
 cond (a0 == 0) ((zm5 N a1 a2).bind fun r1 => some r1) (cond (a0 == 1) ((zm5 N a1 (⟨(w6 (0 - a2.N)), a2.Scale⟩ : Number)).bind fun r2 => some r2)
  (cond (a0 == 2) ((zc5 N a1 0).bind fun r3 =>
  (za4 N r3 (IntKind.wrap .u64 (if (w6 (0 - a2.N)) > a2.N then (w6 (0 - a2.N)) else a2.N))).bind fun r4 =>
  (zbx 1).bind fun r5 => (zg N r5 (w6 (a1.Scale + a2.Scale))).bind fun r6 =>
  some (⟨(!((decide (a1.N < 0)) == (decide (a2.N < 0)))), r4, r6⟩ : zO)) (cond (a0 == 3) ((zc5 N a1 a2.Scale).bind fun r7 =>
  (zc5 N a2 a1.Scale).bind fun r8 => some (⟨(!((decide (a1.N < 0)) == (decide (a2.N < 0)))), r7, r8⟩ : zO)) ((ze4 N a1 a2).bind fun r9 =>
  (za7 N r9.1 r9.2.1).bind fun r10 => (zbx 1).bind fun r11 => (zg N r11 r9.2.2).bind fun r12 =>
  some (⟨(decide (a1.N < 0)), r10.2, r12⟩ : zO)))))
def znp.k (N : Nat) : Kq := ⟨262, (cvv [Ty.zO] [T6, Ty.Number, Ty.Number] (znp N)), go [ze4.k N, zc5.k N, zbx.k, zg.k N, za7.k N, za4.k N, zm5.k N] {lits := [40, 49, 86]} [] Proofs.Tryz.func262⟩
def zkc (N : Nat) (a0 : Int) (a1 : Number) (a2 : Number) (a3 : DataType) (a4 : Bool) : Option (Value × Int) :=
 (zmq a0).bind fun r1 => (cond r1 (some (a2.N == 0)) (some false)).bind fun g2 => cond g2 (some ((⟨0, (⟨#[]⟩ : ByteArray)⟩ : Value), 20))
  ((znp N a0 a1 a2).bind fun r3 => (zd6 N r3 a3 a4).bind fun r4 => some (r4.1, r4.2))
def zkc.k (N : Nat) : Kq := ⟨238, (cvv [Ty.Value, T6] [T6, Ty.Number, Ty.Number, Ty.DataType, Ty.bool] (zkc N)), go [zd6.k N, zmq.k, znp.k N] {lits := [23]} [] Proofs.Tryz.func238⟩
def zgj (N : Nat) (a0 : Int) (a1 : Number) (a2 : Number) (a3 : DataType) (a4 : Bool) : Option (Value × Int) :=
 (zpi a0).bind fun r1 => (za3 (!r1) 4).bind fun r2 => (zbv a1).bind fun r3 => (zbv a2).bind fun r4 =>
  (zbo N a3).bind fun r5 => (zf6 a3).bind fun r6 => (za3 (!r6) 17).bind fun r7 =>
  (zq N ([r2, r3, r4, r5, r7] : List Int)).bind fun r8 => cond (r8 != 0) (some ((⟨0, (⟨#[]⟩ : ByteArray)⟩ : Value), r8))
  ((zkc N a0 a1 a2 a3 a4).bind fun r9 => some (r9.1, r9.2))
def zgj.k (N : Nat) : Kq := ⟨211, (cvv [Ty.Value, T6] [T6, Ty.Number, Ty.Number, Ty.DataType, Ty.bool] (zgj N)), go [zbv.k, zbo.k N, zq.k N, za3.k, zf6.k, zpi.k, zkc.k N] {lits := [16, 18, 20, 22, 26, 27]} [] Proofs.Tryz.func211⟩
def zdv (N : Nat) (a0 : zD) (a1 : Int) (a2 : List Int) : Option zD :=
 (idx a2 1).bind fun x1 => (zp N a0 x1).bind fun r2 => (idx a2 2).bind fun x3 => (zp N r2.2 x3).bind fun r4 => cond (r4.2.raised != 0)
  (some r4.2) ((idx a2 0).bind fun x5 => (idx r4.2.zB.zA x5).bind fun x6 => (zgj N a1 r2.1 r4.1 x6.zJ false).bind fun r7 => (idx a2 0).bind fun x8 =>
  (zap N r4.2 x8 r7.1 r7.2).bind fun r9 => some r9)
def zdv.k (N : Nat) : Kq := ⟨152, (ctv [.ptr Ty.zD true [], .val T6, .val (Ty.sl T6)] [] [Ty.zD] [] [Ty.zD, T6, (Ty.sl T6)] (zdv N)), go [zp.k N, zap.k N, zgj.k N] {pk := [1000000]} [] Proofs.Tryz.func152⟩
def zju (N : Nat) (a0 : Number) (a1 : Number) : Option (Int × Int) :=
 (zbv a0).bind fun r1 => (zbv a1).bind fun r2 => (zq N ([r1, r2] : List Int)).bind fun r3 => cond (r3 != 0) (some (0, r3))
  ((ze4 N a0 a1).bind fun r4 => (cond (decide (a0.N < 0)) (some (decide (a1.N < 0))) (some false)).bind fun g5 =>
  cond g5 ((zk N r4.2.1 r4.1).bind fun r6 => some (r6, 0)) (cond (decide (a0.N < 0)) (some ((-1), 0)) (cond (decide (a1.N < 0)) (some (1, 0))
  ((zk N r4.1 r4.2.1).bind fun r7 => some (r7, 0)))))
def zju.k (N : Nat) : Kq := ⟨212, (cvv [T6, T6] [Ty.Number, Ty.Number] (zju N)), go [zbv.k, zq.k N, ze4.k N, zk.k N] {lits := [11, 13, 14]} [] Proofs.Tryz.func212⟩
def zea (a0 : ByteArray) (a1 : ByteArray) : Option Int :=
 some (Extern.BytealgCompare.cmp a0 a1)
def zea.k : Kq := ⟨241, (cvv [T6] [Ty.str, Ty.str] zea), go [] {X := [(263, 2)]} [] Proofs.Tryz.func241 (hX := all_cons (zahj) (zdb))⟩
def zke (a0 : ByteArray) (a1 : ByteArray) : Option Int :=
 (zea a0 a1).bind fun r1 => some r1
def zke.k : Kq := ⟨213, (cvv [T6] [Ty.str, Ty.str] zke), go [zea.k] {} [] Proofs.Tryz.func213⟩
def zdc (N : Nat) (a0 : zD) (a1 : Int) (a2 : Int) : Option (Int × zD) :=
 (idx a0.zB.zA a1).bind fun x1 => (zda x1).bind fun r2 => cond r2 ((zp N a0 a1).bind fun r3 =>
  (zp N r3.2 a2).bind fun r4 => (zju N r3.1 r4.1).bind fun r5 => some (r5.1, r4.2)) ((zah N a0 a1).bind fun r6 =>
  (zah N r6.2 a2).bind fun r7 => (zet r6.1 (r7.1.size : Int)).bind fun r8 => (zet r7.1 (r6.1.size : Int)).bind fun r9 =>
  (zke r8 r9).bind fun r10 => some (r10, r7.2))
def zdc.k (N : Nat) : Kq := ⟨153, (ctv [.ptr Ty.zD true [], .val T6, .val T6] [T6] [Ty.zD] [] [Ty.zD, T6, T6] (zdc N)), go [zah.k N, zda.k, zp.k N, zet.k, zju.k N, zke.k] {lits := [43, 44, 47, 48], pk := [1000000]} [] Proofs.Tryz.func153⟩
def zcy (a0 : zD) (a1 : Int) : Option Int :=
 (idx a0.zB.zA a1).bind fun x1 => some x1.Target
def zcy.k : Kq := ⟨154, (ctv [.ptr Ty.zD false [], .val T6] [T6] [] [] [Ty.zD, T6] zcy), go [] {ro := [1000000], pk := [1000000]} [] Proofs.Tryz.func154⟩
def zcj.b0 (N : Nat) (s0 : Int) (s1 : Int) (s5 : List Int) (s10 : Int) (s11 : Int) : Option (Stp (Int × Int × (List Int) × Int × Int)) :=
 cond (decide (s11 < s10))
  (if (w6 (8 * s11)) < 0 then none else if 0 ≤ (w6 ((w6 (s1 - 1)) - s11)) then (if (w6 ((w6 (s1 - 1)) - s11)) < (s5.length : Int) then ((s5[(w6 ((w6 (s1 - 1)) - s11)).toNat]?).bind fun x1001 =>
  some (.again (s0, s1, (s5.set ((w6 ((w6 (s1 - 1)) - s11)).toNat)
  (IntKind.wrap .u8 ((s0 : Int).fdiv (2 ^ (min (w6 (8 * s11)).toNat 64))))), s10, (w6 (s11 + 1))))) else none) else none)
  (some (.leave (s0, s1, s5, s10, s11)))
def zcj.r0 (N : Nat) (x : Int × Int × (List Int) × Int × Int) := zcj.b0 N x.1 x.2.1 x.2.2.1 x.2.2.2.1 x.2.2.2.2
def zcj (N : Nat) (a0 : Int) (a1 : Int) : Option ((List Int)) :=
 if 0 ≤ a1 then (if a1 ≤ a1 then (cond (Nat.ble (a1.toNat * 1) zbr)
  ((zl (zcj.r0 N) N (a0, a1, (List.replicate a1.toNat (0 : Int)), ((List.replicate a1.toNat (0 : Int)).length : Int), 0)).bind fun y1 =>
  some y1.2.2.1) none) else none) else none
def zcj.k (N : Nat) : Kq := ⟨265, (cvv [(Ty.sl (Ty.int .u8))] [T6, T6] (zcj N)), go [] {} [(0, .plain { slots := [(0, .val T6), (1, .val T6), (5, .own 5000005 (Ty.int .u8)), (10, .val T6), (11, .val T6)], boxes := [] } [T6, T6, (Ty.sl (Ty.int .u8)), T6, T6] (zl (zcj.r0 N) N))] Proofs.Tryz.func265 (hL := ⟨⟨_, _, rfl, by kernel_rfl⟩, trivial⟩)⟩
def zla (a0 : Unit) (a1 : Int) : Option ((List Int)) :=
 cond (decide (a1 < 0)) (none) (cond (decide ((w6 (a1 - 0)) > 0))
  (if 0 ≤ (w6 (a1 - 0)) then (cond (Nat.ble ((w6 (a1 - 0)).toNat * 1) zbr)
  (if 0 ≤ (0 : Int) ∧ (0 : Int) ≤ ((List.replicate (w6 (a1 - 0)).toNat (0 : Int)).length : Int) then (if 0 ≤ (0 : Int) ∧ (0 : Int) ≤ (0 : Int) then (some (((List.replicate (w6 (a1 - 0)).toNat (0 : Int)).drop ((0 : Int).toNat)).take ((0 : Int).toNat - (0 : Int).toNat))) else none) else none) none) else none)
  (some []))
def zla.k : Kq := ⟨275, (ctv [.val Ty.nil, .val T6] [(Ty.sl (Ty.int .u8))] [] [0] [Ty.nil, T6] zla), go [] {} [] Proofs.Tryz.func275⟩
def zbg.b0 (N : Nat) (s0 : List (List Int)) (s3 : Int) (s9 : List (List Int)) (s10 : Int) (s11 : Int) : Option (Stp ((List (List Int)) × Int × (List (List Int)) × Int × Int)) :=
 cond (decide (s11 < s10)) ((idx s9 s11).bind fun x1001 => cond (decide ((w6 (s3 + (x1001.length : Int))) < 0)) (none)
  (some (.again (s0, (w6 (s3 + (x1001.length : Int))), s9, s10, (w6 (s11 + 1)))))) (some (.leave (s0, s3, s9, s10, s11)))
def zbg.r0 (N : Nat) (x : (List (List Int)) × Int × (List (List Int)) × Int × Int) := zbg.b0 N x.1 x.2.1 x.2.2.1 x.2.2.2.1 x.2.2.2.2
def zbg.b2 (N : Nat) (s6 : List Int) (s25 : List (List Int)) (s26 : Int) (s27 : Int) : Option (Stp ((List Int) × (List (List Int)) × Int × Int)) :=
 cond (decide (s27 < s26)) ((idx s25 s27).bind fun x3001 => cond (Nat.ble ((s6.length + x3001.length) * 1) zbr)
  (some (.again ((s6 ++ x3001), s25, s26, (w6 (s27 + 1))))) none) (some (.leave (s6, s25, s26, s27)))
def zbg.r2 (N : Nat) (x : (List Int) × (List (List Int)) × Int × Int) := zbg.b2 N x.1 x.2.1 x.2.2.1 x.2.2.2
def zbg (N : Nat) (a0 : List (List Int)) : Option ((List Int)) :=
 (zl (zbg.r0 N) N (a0, 0, a0, (a0.length : Int), 0)).bind fun y1 => (zla () y1.2.1).bind fun r2 =>
  (zl (zbg.r2 N) N (r2, y1.1, (y1.1.length : Int), 0)).bind fun y3 => some y3.1
def zbg.k (N : Nat) : Kq := ⟨264, (ctv [.val (Ty.sl (Ty.sl (Ty.int .u8)))] [(Ty.sl (Ty.int .u8))] [] [0] [(Ty.sl (Ty.sl (Ty.int .u8)))] (zbg N)), go [zla.k] {} [(0, .plain { slots := [(0, .val (Ty.sl (Ty.sl (Ty.int .u8)))), (3, .val T6), (9, .val (Ty.sl (Ty.sl (Ty.int .u8)))), (10, .val T6), (11, .val T6)], boxes := [] } [(Ty.sl (Ty.sl (Ty.int .u8))), T6, (Ty.sl (Ty.sl (Ty.int .u8))), T6, T6] (zl (zbg.r0 N) N)), (2, .plain { slots := [(6, .own 5000006 (Ty.int .u8)), (25, .val (Ty.sl (Ty.sl (Ty.int .u8)))), (26, .val T6), (27, .val T6)], boxes := [] } [(Ty.sl (Ty.int .u8)), (Ty.sl (Ty.sl (Ty.int .u8))), T6, T6] (zl (zbg.r2 N) N))] Proofs.Tryz.func264 (hL := ⟨⟨_, _, rfl, by kernel_rfl⟩, ⟨_, _, rfl, by kernel_rfl⟩, trivial⟩)⟩
def zku (N : Nat) (a0 : Pointer) : Option ByteArray :=
 (zcj N a0.Kind 1).bind fun r1 => (zcj N 0 1).bind fun r2 => (zcj N a0.Authority 2).bind fun r3 => (zcj N a0.Address.zU 6).bind fun r4 =>
  (zcj N a0.Address.Offset 6).bind fun r5 => (zbg N ([r1, r2, r3, r4, r5] : List (List Int))).bind fun r6 => some (zd3 r6)
def zku.k (N : Nat) : Kq := ⟨242, (cvv [Ty.str] [Ty.Pointer] (zku N)), go [zbg.k N, zcj.k N] {lits := [5, 6, 9, 13, 17, 18]} [] Proofs.Tryz.func242⟩
def zcz (N : Nat) (a0 : Storage) (a1 : Int) (a2 : Pointer) : Option (Storage × Int) :=
 (zis N a0 a1).bind fun r1 => cond (r1 != 0) (some ((⟨(⟨#[]⟩ : ByteArray), []⟩ : Storage), r1)) ((zem a2).bind fun r2 => cond (r2 != 0)
  (some ((⟨(⟨#[]⟩ : ByteArray), []⟩ : Storage), r2)) ((zku N a2).bind fun r3 => (zl1 a0 a1 r3).bind fun r4 =>
  if 0 ≤ (w6 (a1.tdiv 16)) then (if (w6 (a1.tdiv 16)) < (r4.Tags.length : Int) then ((r4.Tags[(w6 (a1.tdiv 16)).toNat]?).bind fun x5 =>
  some ((⟨r4.Bytes, (r4.Tags.set ((w6 (a1.tdiv 16)).toNat) true)⟩ : Storage), 0)) else none) else none))
def zcz.k (N : Nat) : Kq := ⟨214, (cvv [Ty.Storage, T6] [Ty.Storage, T6, Ty.Pointer] (zcz N)), go [zl1.k, zis.k N, zem.k, zku.k N] {lits := [27]} [] Proofs.Tryz.func214⟩
def zd2 (N : Nat) (a0 : zD) (a1 : List Int) : Option zD :=
 (idx a1 1).bind fun x1 => (za2 N a0 x1).bind fun r2 => cond (r2.2.raised == 0) ((idx a1 0).bind fun x3 => (idx r2.2.layout x3).bind fun x4 =>
  (zcz N r2.2.zC.Storage x4 (⟨0, (⟨1, r2.1⟩ : Address), 0⟩ : Pointer)).bind fun r5 =>
  some (⟨r2.2.zB, (⟨r5.1, r2.2.zC.At, r2.2.zC.Stack, r2.2.zC.Lines, r2.2.zC.Status, r2.2.zC.Exception, r2.2.zC.Steps⟩ : zC), r2.2.layout, r2.2.raised⟩ : zD))
  (some r2.2)
def zd2.k (N : Nat) : Kq := ⟨155, (ctv [.ptr Ty.zD true [], .val (Ty.sl T6)] [] [Ty.zD] [] [Ty.zD, (Ty.sl T6)] (zd2 N)), go [za2.k N, zcz.k N] {pk := [1000000]} [] Proofs.Tryz.func155⟩
def zdg (N : Nat) (a0 : zD) (a1 : List Int) : Option zD :=
 (idx a1 1).bind fun x1 => (zb0 N a0 x1).bind fun r2 => cond (r2.2.2.raised == 0) ((idx a1 0).bind fun x3 => (idx r2.2.2.layout x3).bind fun x4 =>
  (zcz N r2.2.2.zC.Storage x4 r2.1).bind fun r5 =>
  some (⟨r2.2.2.zB, (⟨r5.1, r2.2.2.zC.At, r2.2.2.zC.Stack, r2.2.2.zC.Lines, r2.2.2.zC.Status, r2.2.2.zC.Exception, r2.2.2.zC.Steps⟩ : zC), r2.2.2.layout, r2.2.2.raised⟩ : zD))
  (some r2.2.2)
def zdg.k (N : Nat) : Kq := ⟨156, (ctv [.ptr Ty.zD true [], .val (Ty.sl T6)] [] [Ty.zD] [] [Ty.zD, (Ty.sl T6)] (zdg N)), go [zb0.k N, zcz.k N] {pk := [1000000]} [] Proofs.Tryz.func156⟩
def zbw.b0 (N : Nat) (s4 : Int) (s5 : Int) (b1 : Number) : Option (Stp (Int × Int × Number)) :=
 cond (decide (s5 < s4)) (some (.again (s4, (w6 (s5 + 1)), (⟨(w6 (b1.N.tdiv 10)), b1.Scale⟩ : Number)))) (some (.leave (s4, s5, b1)))
def zbw.r0 (N : Nat) (x : Int × Int × Number) := zbw.b0 N x.1 x.2.1 x.2.2
def zbw (N : Nat) (a0 : Number) : Option Int :=
 (zl (zbw.r0 N) N (a0.Scale, 0, a0)).bind fun y1 => some y1.2.2.N
def zbw.k (N : Nat) : Kq := ⟨215, (cvv [T6] [Ty.Number] (zbw N)), go [] {} [(0, .plain { slots := [(1, .ptr 1 0), (4, .val T6), (5, .val T6)], boxes := [(1, Ty.Number, [])] } [T6, T6, Ty.Number] (zl (zbw.r0 N) N))] Proofs.Tryz.func215 (hL := ⟨⟨_, _, rfl, by kernel_rfl⟩, trivial⟩)⟩
def zct (a0 : Int) (a1 : Int) (a2 : Int) : Option Bool :=
 (cond (decide (a1 ≤ a0)) (some (decide (a0 ≤ a2))) (some false)).bind fun g1 => some g1
def zct.k : Kq := ⟨43, (cvv [Ty.bool] [T6, T6, T6] zct), go [] {} [] Proofs.Tryz.func43⟩
def zeg (N : Nat) (a0 : zD) (a1 : List Int) : Option zD :=
 (idx a1 0).bind fun x1 => (zb0 N a0 x1).bind fun r2 => cond (r2.2.2.raised != 0) (some r2.2.2) ((idx a1 1).bind fun x3 =>
  (zp N r2.2.2 x3).bind fun r4 => (zbw N r4.1).bind fun r5 => cond (r4.2.raised != 0) (some r4.2)
  ((zct (w6 (r2.1.Address.Offset + r5)) 0 16777215).bind fun r6 => cond (!r6) ((zt r4.2 5).bind fun r7 => some r7)
  ((zcz N r4.2.zC.Storage r2.2.1 (⟨r2.1.Kind, (⟨r2.1.Address.zU, (w6 (r2.1.Address.Offset + r5))⟩ : Address), r2.1.Authority⟩ : Pointer)).bind fun r8 =>
  some (⟨r4.2.zB, (⟨r8.1, r4.2.zC.At, r4.2.zC.Stack, r4.2.zC.Lines, r4.2.zC.Status, r4.2.zC.Exception, r4.2.zC.Steps⟩ : zC), r4.2.layout, r4.2.raised⟩ : zD))))
def zeg.k (N : Nat) : Kq := ⟨157, (ctv [.ptr Ty.zD true [], .val (Ty.sl T6)] [] [Ty.zD] [] [Ty.zD, (Ty.sl T6)] (zeg N)), go [zct.k, zp.k N, zb0.k N, zt.k, zcz.k N, zbw.k N] {lits := [24], pk := [1000000]} [] Proofs.Tryz.func157⟩
def z08 : Ct U := { params := [.val (Ty.sl T6)], results := [(Ty.sl T6)], outs := [], fresh := [0], fn := app U [(Ty.sl T6)] (R := PT U [(Ty.sl T6)]) (zki 8) }
theorem z08.meets : zgv (zzw [] [] [] [] [] [] [] []) 164 z08 :=
 zpc z55 (zut (l := []) rfl zdb) (zt9 (l := []) rfl zdb) (Lp := pick []) Proofs.Tryz.func164 (by kernel_rfl) (zuv (l := []) rfl zdb) (fun y => by kernel_rfl) (e := 3) (t := T6) rfl rfl rfl rfl rfl rfl rfl (by kernel_rfl) rfl rfl rfl rfl rfl rfl (fun xs => by kernel_rfl) fun ds y h => by
  obtain ⟨xs, rfl, hx⟩ := zy1 h; refine ⟨xs, rfl, fun b hb => ?_⟩; cases b with
  | true =>
   have := hb rfl; subst this; exact Eq.trans (by kernel_rfl) hx
  | false => exact Eq.trans (b := cond (Nat.ble ((0 + xs.length) * 8) zbr) (some xs) none) (by kernel_rfl) (by rw [Nat.zero_add]; exact hx)
def z08.k : Kq := ⟨164, z08, z08.meets⟩
def zfx (a0 : zD) (a1 : Int) : Option (Int × zD) :=
 cond (decide ((a0.zC.Stack.length : Int) ≥ 6)) ((zt a0 6).bind fun r1 => some (r1.zC.At, r1)) ((zki 8 a0.zC.Stack).bind fun r2 =>
  cond (Nat.ble ((r2.length + ([a0.zC.At] : List Int).length) * 8) zbr)
  (some (a1, (⟨a0.zB, (⟨a0.zC.Storage, a0.zC.At, (r2 ++ ([a0.zC.At] : List Int)), a0.zC.Lines, a0.zC.Status, a0.zC.Exception, a0.zC.Steps⟩ : zC), a0.layout, a0.raised⟩ : zD))) none)
def zfx.k : Kq := ⟨158, (ctv [.ptr Ty.zD true [], .val T6] [T6] [Ty.zD] [] [Ty.zD, T6] zfx), go [z08.k, zt.k] {lits := [31], pk := [1000000]} [] Proofs.Tryz.func158⟩
def zas (a0 : zD) (a1 : Int) : Option zD :=
 some (⟨a0.zB, (⟨a0.zC.Storage, a0.zC.At, a0.zC.Stack, a0.zC.Lines, a1, a0.zC.Exception, a0.zC.Steps⟩ : zC), a0.layout, a0.raised⟩ : zD)
def zas.k : Kq := ⟨107, (ctv [.ptr Ty.zD true [], .val T6] [] [Ty.zD] [] [Ty.zD, T6] zas), go [] {pk := [1000000]} [] Proofs.Tryz.func107⟩
def zfy (a0 : zD) : Option (Int × zD) :=
 cond ((a0.zC.Stack.length : Int) == 0) ((zas a0 1).bind fun r1 => some (r1.zC.At, r1))
  ((idx a0.zC.Stack (w6 ((a0.zC.Stack.length : Int) - 1))).bind fun x2 =>
  if 0 ≤ (w6 ((a0.zC.Stack.length : Int) - 1)) ∧ (w6 ((a0.zC.Stack.length : Int) - 1)) ≤ (a0.zC.Stack.length : Int) then (if 0 ≤ (0 : Int) ∧ (0 : Int) ≤ (w6 ((a0.zC.Stack.length : Int) - 1)) then ((zki 8 ((a0.zC.Stack.take (w6 ((a0.zC.Stack.length : Int) - 1)).toNat).drop (0 : Int).toNat)).bind fun r3 =>
  some ((w6 (x2 + 1)), (⟨a0.zB, (⟨a0.zC.Storage, a0.zC.At, r3, a0.zC.Lines, a0.zC.Status, a0.zC.Exception, a0.zC.Steps⟩ : zC), a0.layout, a0.raised⟩ : zD))) else none) else none)
def zfy.k : Kq := ⟨159, (ctv [.ptr Ty.zD true []] [T6] [Ty.zD] [] [Ty.zD] zfy), go [zas.k, z08.k] {pk := [1000000]} [] Proofs.Tryz.func159⟩
def zev (N : Nat) (a0 : zD) (a1 : Int) : Option zD :=
 (zp N a0 a1).bind fun r1 => (zbw N r1.1).bind fun r2 => (zct r2 100 999).bind fun r3 => cond (!r3)
  ((zt r1.2 2).bind fun r4 => some r4) ((zt r1.2 r2).bind fun r5 => some r5)
def zev.k (N : Nat) : Kq := ⟨160, (ctv [.ptr Ty.zD true [], .val T6] [] [Ty.zD] [] [Ty.zD, T6] (zev N)), go [zct.k, zp.k N, zt.k, zbw.k N] {lits := [7], pk := [1000000]} [] Proofs.Tryz.func160⟩
def z6f : Ct U := { params := [.val T6], results := [Ty.str], outs := [], fresh := [], fn := app U [T6] (R := PT U [Ty.str]) (z0f) }
theorem z6f.meets : zgv (zzw [] [] [] [] [] [] [] []) 178 z6f :=
 zs8 ⟨_, Proofs.Tryz.func178, rfl, by kernel_rfl⟩ (t := Ty.str) rfl rfl rfl rfl fun ds y hy E0 h0 ha μ H w us hA hm hG => by
  obtain ⟨n, rfl, hx⟩ := zy1 hy; unfold z0f at hx; split at hx
  · rename_i hn; cases hx; have hE : some ([.sc (.int .i64 n)], []) = some (E0, h0) := ha; cases hE; cases hA with
    | cons h1 h2 =>
     cases h2; have hu := h1.int; subst hu; have ht := z6s hG hm (g := 2) (name := "internal/strconv.uint64pow10") (t := Ty.int .u64) (xs := zaet) (k := .u64) (zs := Lib.pow10Tab) rfl (by kernel_rfl) (fun i x hi => ⟨x, hi, rfl⟩) rfl rfl; refine ⟨_, rfl, (Proofs.Tryz.strconv_Itoa n hn.1 hn.2 w ht).mono fun e w' hh => ?_⟩; obtain ⟨rfl, k, os, rfl⟩ := hh; exact ⟨_, rfl, z5h w k os, .sc _⟩
  · cases hx
def z6f.k : Kq := ⟨178, z6f, z6f.meets⟩
def zgu (a0 : Number) : Option (ByteArray × Int) :=
 (zbv a0).bind fun r1 => cond (r1 != 0) (some ((⟨#[]⟩ : ByteArray), r1))
  ((z0f (if (w6 (0 - a0.N)) > a0.N then (w6 (0 - a0.N)) else a0.N)).bind fun r2 => cond (decide ((r2.size : Int) ≤ a0.Scale))
  ((znn (⟨#[48]⟩ : ByteArray) (w6 ((w6 (a0.Scale + 1)) - (r2.size : Int)))).bind fun r3 =>
  if ((r3.size + r2.size : Nat) : Int) > IntKind.i64.max then none else cond (decide (a0.Scale > 0))
  (if 0 ≤ (w6 (((r3 ++ r2).size : Int) - a0.Scale)) ∧ (w6 (((r3 ++ r2).size : Int) - a0.Scale)) ≤ ((r3 ++ r2).size : Int) then (if 0 ≤ (0 : Int) ∧ (0 : Int) ≤ (w6 (((r3 ++ r2).size : Int) - a0.Scale)) then (if ((((r3 ++ r2).extract (0 : Int).toNat (w6 (((r3 ++ r2).size : Int) - a0.Scale)).toNat).size + (⟨#[46]⟩ : ByteArray).size : Nat) : Int) > IntKind.i64.max then none else if 0 ≤ (w6 (((r3 ++ r2).size : Int) - a0.Scale)) ∧ (w6 (((r3 ++ r2).size : Int) - a0.Scale)) ≤ ((r3 ++ r2).size : Int) then (if (((((r3 ++ r2).extract (0 : Int).toNat (w6 (((r3 ++ r2).size : Int) - a0.Scale)).toNat) ++ (⟨#[46]⟩ : ByteArray)).size + ((r3 ++ r2).extract (w6 (((r3 ++ r2).size : Int) - a0.Scale)).toNat (r3 ++ r2).size).size : Nat) : Int) > IntKind.i64.max then none else cond (decide (a0.N < 0))
  (if (((⟨#[45]⟩ : ByteArray).size + ((((r3 ++ r2).extract (0 : Int).toNat (w6 (((r3 ++ r2).size : Int) - a0.Scale)).toNat) ++ (⟨#[46]⟩ : ByteArray)) ++ ((r3 ++ r2).extract (w6 (((r3 ++ r2).size : Int) - a0.Scale)).toNat (r3 ++ r2).size)).size : Nat) : Int) > IntKind.i64.max then none else some (((⟨#[45]⟩ : ByteArray) ++ ((((r3 ++ r2).extract (0 : Int).toNat (w6 (((r3 ++ r2).size : Int) - a0.Scale)).toNat) ++ (⟨#[46]⟩ : ByteArray)) ++ ((r3 ++ r2).extract (w6 (((r3 ++ r2).size : Int) - a0.Scale)).toNat (r3 ++ r2).size))), 0))
  (some (((((r3 ++ r2).extract (0 : Int).toNat (w6 (((r3 ++ r2).size : Int) - a0.Scale)).toNat) ++ (⟨#[46]⟩ : ByteArray)) ++ ((r3 ++ r2).extract (w6 (((r3 ++ r2).size : Int) - a0.Scale)).toNat (r3 ++ r2).size)), 0))) else none) else none) else none)
  (cond (decide (a0.N < 0)) (if (((⟨#[45]⟩ : ByteArray).size + (r3 ++ r2).size : Nat) : Int) > IntKind.i64.max then none else some (((⟨#[45]⟩ : ByteArray) ++ (r3 ++ r2)), 0))
  (some ((r3 ++ r2), 0)))) (cond (decide (a0.Scale > 0))
  (if 0 ≤ (w6 ((r2.size : Int) - a0.Scale)) ∧ (w6 ((r2.size : Int) - a0.Scale)) ≤ (r2.size : Int) then (if 0 ≤ (0 : Int) ∧ (0 : Int) ≤ (w6 ((r2.size : Int) - a0.Scale)) then (if (((r2.extract (0 : Int).toNat (w6 ((r2.size : Int) - a0.Scale)).toNat).size + (⟨#[46]⟩ : ByteArray).size : Nat) : Int) > IntKind.i64.max then none else if 0 ≤ (w6 ((r2.size : Int) - a0.Scale)) ∧ (w6 ((r2.size : Int) - a0.Scale)) ≤ (r2.size : Int) then (if ((((r2.extract (0 : Int).toNat (w6 ((r2.size : Int) - a0.Scale)).toNat) ++ (⟨#[46]⟩ : ByteArray)).size + (r2.extract (w6 ((r2.size : Int) - a0.Scale)).toNat r2.size).size : Nat) : Int) > IntKind.i64.max then none else cond (decide (a0.N < 0))
  (if (((⟨#[45]⟩ : ByteArray).size + (((r2.extract (0 : Int).toNat (w6 ((r2.size : Int) - a0.Scale)).toNat) ++ (⟨#[46]⟩ : ByteArray)) ++ (r2.extract (w6 ((r2.size : Int) - a0.Scale)).toNat r2.size)).size : Nat) : Int) > IntKind.i64.max then none else some (((⟨#[45]⟩ : ByteArray) ++ (((r2.extract (0 : Int).toNat (w6 ((r2.size : Int) - a0.Scale)).toNat) ++ (⟨#[46]⟩ : ByteArray)) ++ (r2.extract (w6 ((r2.size : Int) - a0.Scale)).toNat r2.size))), 0))
  (some ((((r2.extract (0 : Int).toNat (w6 ((r2.size : Int) - a0.Scale)).toNat) ++ (⟨#[46]⟩ : ByteArray)) ++ (r2.extract (w6 ((r2.size : Int) - a0.Scale)).toNat r2.size)), 0))) else none) else none) else none)
  (cond (decide (a0.N < 0)) (if (((⟨#[45]⟩ : ByteArray).size + r2.size : Nat) : Int) > IntKind.i64.max then none else some (((⟨#[45]⟩ : ByteArray) ++ r2), 0)) (some (r2, 0)))))
def zgu.k : Kq := ⟨116, (cvv [Ty.str, T6] [Ty.Number] zgu), go [z1b.k, zbv.k, z6f.k] {lits := [16]} [] Proofs.Tryz.func116⟩
def zef (N : Nat) (a0 : zD) (a1 : Int) : Option (ByteArray × zD) :=
 (idx a0.zB.zA a1).bind fun x1 => (zda x1).bind fun r2 => cond (!r2) ((zah N a0 a1).bind fun r3 => some (r3.1, r3.2))
  ((zp N a0 a1).bind fun r4 => (zgu r4.1).bind fun r5 => some (r5.1, r4.2))
def zef.k (N : Nat) : Kq := ⟨73, (ctv [.ptr Ty.zD true [], .val T6] [Ty.str] [Ty.zD] [] [Ty.zD, T6] (zef N)), go [zah.k N, zda.k, zgu.k, zp.k N] {lits := [23], pk := [1000000]} [] Proofs.Tryz.func73⟩
def z6d : Ct U := { params := [.val (Ty.sl Ty.str)], results := [(Ty.sl Ty.str)], outs := [], fresh := [0], fn := app U [(Ty.sl Ty.str)] (R := PT U [(Ty.sl Ty.str)]) (zki 16) }
theorem z6d.meets : zgv (zzw [] [] [] [] [] [] [] []) 219 z6d :=
 zpc z55 (zut (l := []) rfl zdb) (zt9 (l := []) rfl zdb) (Lp := pick []) Proofs.Tryz.func219 (by kernel_rfl) (zuv (l := []) rfl zdb) (fun y => by kernel_rfl) (e := 9) (t := Ty.str) rfl rfl rfl rfl rfl rfl rfl (by kernel_rfl) rfl rfl rfl rfl rfl rfl (fun xs => by kernel_rfl) fun ds y h => by
  obtain ⟨xs, rfl, hx⟩ := zy1 h; refine ⟨xs, rfl, fun b hb => ?_⟩; cases b with
  | true =>
   have := hb rfl; subst this; exact Eq.trans (by kernel_rfl) hx
  | false => exact Eq.trans (b := cond (Nat.ble ((0 + xs.length) * 16) zbr) (some xs) none) (by kernel_rfl) (by rw [Nat.zero_add]; exact hx)
def z6d.k : Kq := ⟨219, z6d, z6d.meets⟩
def zfe (N : Nat) (a0 : zD) (a1 : Int) : Option zD :=
 (zef N a0 a1).bind fun r1 => cond (r1.2.raised != 0) (some r1.2) (cond ((r1.2.zC.Lines.length : Int) == 40) ((zas r1.2 3).bind fun r2 =>
  some r2) ((zki 16 r1.2.zC.Lines).bind fun r3 => cond (Nat.ble ((r3.length + ([r1.1] : List ByteArray).length) * 16) zbr)
  (some (⟨r1.2.zB, (⟨r1.2.zC.Storage, r1.2.zC.At, r1.2.zC.Stack, (r3 ++ ([r1.1] : List ByteArray)), r1.2.zC.Status, r1.2.zC.Exception, r1.2.zC.Steps⟩ : zC), r1.2.layout, r1.2.raised⟩ : zD)) none))
def zfe.k (N : Nat) : Kq := ⟨163, (ctv [.ptr Ty.zD true [], .val T6] [] [Ty.zD] [] [Ty.zD, T6] (zfe N)), go [zef.k N, zas.k, z6d.k] {lits := [16], pk := [1000000]} [] Proofs.Tryz.func163⟩
def zd (N : Nat) (a0 : zD) (a1 : zI) : Option (Int × zD) :=
 (cond (a1.Op == 0) (some (a1.Op == 0)) (some (a1.Op == 1))).bind fun q1 => cond q1 ((idx a1.Args 0).bind fun x2 => (idx a1.Args 1).bind fun x3 =>
  (zdk N a0 x2 x3 (a1.Op == 1)).bind fun r4 => some ((w6 (a0.zC.At + 1)), r4)) ((cond (a1.Op == 2) (some (a1.Op == 2)) (cond (a1.Op == 3)
  (some (a1.Op == 3)) (cond (a1.Op == 4) (some (a1.Op == 4)) (cond (a1.Op == 5) (some (a1.Op == 5)) (some (a1.Op == 6)))))).bind fun q5 =>
  cond q5 ((zdv N a0 (w6 ((w6 (a1.Op - 2)) + 0)) a1.Args).bind fun r6 => some ((w6 (a0.zC.At + 1)), r6))
  ((cond (a1.Op == 7) (some (a1.Op == 7)) (some (a1.Op == 8))).bind fun q7 => cond q7 ((idx a1.Args 0).bind fun x8 => (idx a1.Args 1).bind fun x9 =>
  (zdc N a0 x8 x9).bind fun r10 => (cond (a1.Op == 7) (some (r10.1 == 0)) (some false)).bind fun g11 => (cond g11 (some true) ((cond (a1.Op == 8)
  (some (decide (r10.1 < 0))) (some false)).bind fun g12 => some g12)).bind fun g13 => cond g13 ((idx a1.Args 2).bind fun x14 => (zcy r10.2 x14).bind fun r15 =>
  some (r15, r10.2)) (some ((w6 (a0.zC.At + 1)), r10.2))) (cond (a1.Op == 9) ((idx a1.Args 0).bind fun x16 => (zcy a0 x16).bind fun r17 =>
  some (r17, a0)) (cond (a1.Op == 10) ((zd2 N a0 a1.Args).bind fun r18 => some ((w6 (a0.zC.At + 1)), r18)) (cond (a1.Op == 11)
  ((zdg N a0 a1.Args).bind fun r19 => some ((w6 (a0.zC.At + 1)), r19)) (cond (a1.Op == 12)
  ((zeg N a0 a1.Args).bind fun r20 => some ((w6 (a0.zC.At + 1)), r20)) (cond (a1.Op == 13) ((idx a1.Args 0).bind fun x21 =>
  (zcy a0 x21).bind fun r22 => (zfx a0 r22).bind fun r23 => some (r23.1, r23.2)) (cond (a1.Op == 14)
  ((zfy a0).bind fun r24 => some (r24.1, r24.2)) (cond (a1.Op == 15) ((idx a1.Args 0).bind fun x25 => (zev N a0 x25).bind fun r26 =>
  some ((w6 (a0.zC.At + 1)), r26)) (cond (a1.Op == 16) ((idx a1.Args 0).bind fun x27 => (idx a0.zB.zA x27).bind fun x28 =>
  (zdw N (⟨a0.zC.Exception, 0⟩ : Number) x28.zJ false).bind fun r29 => (idx a1.Args 0).bind fun x30 =>
  (zap N a0 x30 r29.1 r29.2).bind fun r31 => some ((w6 (a0.zC.At + 1)), r31)) (cond (a1.Op == 17) ((idx a1.Args 0).bind fun x32 =>
  (zfe N a0 x32).bind fun r33 => some ((w6 (a0.zC.At + 1)), r33)) (cond (a1.Op == 18) ((zas a0 1).bind fun r34 =>
  some ((w6 (a0.zC.At + 1)), r34)) (some ((w6 (a0.zC.At + 1)), a0))))))))))))))
def zd.k (N : Nat) : Kq := ⟨105, (ctv [.ptr Ty.zD true [], .val Ty.zI] [T6] [Ty.zD] [] [Ty.zD, Ty.zI] (zd N)), go [zas.k, zdk.k N, zdv.k N, zdc.k N, zcy.k, zd2.k N, zdg.k N, zeg.k N, zfx.k, zfy.k, zev.k N, zdw.k N, zap.k N, zfe.k N] {lits := [116], pk := [1000000], bj := [17, 33, 47]} [] Proofs.Tryz.func105⟩
def zg4 (a0 : zN) (a1 : Int) (a2 : Int) : Option Bool :=
 (zct a1 a0.From (w6 (a0.To - 1))).bind fun r1 => (cond r1 ((cond (a0.Exception == 0) (some true) (some (a0.Exception == a2))).bind fun g2 => some g2)
  (some false)).bind fun g3 => some g3
def zg4.k : Kq := ⟨85, (ctv [.val Ty.zN, .ptr T6 false [], .ptr T6 false []] [Ty.bool] [] [] [Ty.zN, T6, T6] zg4), go [zct.k] {ro := [1000000, 1000001], pk := [1000000, 1000001]} [] Proofs.Tryz.func85⟩
def zo.b0 (N : Nat) (s0 : List zN) (s7 : Int) (s8 : Int) (b1000000 : Int) (b1000001 : Int) : Option (Round Int ((List zN) × Int × Int × Int × Int)) :=
 cond (decide (s8 < s7)) ((idx s0 s8).bind fun x1001 => (zg4 x1001 b1000000 b1000001).bind fun r1002 => cond r1002 (some (.result s8))
  (some (.again (s0, s7, (w6 (s8 + 1)), b1000000, b1000001)))) (some (.leave (s0, s7, s8, b1000000, b1000001)))
def zo.r0 (N : Nat) (x : (List zN) × Int × Int × Int × Int) := zo.b0 N x.1 x.2.1 x.2.2.1 x.2.2.2.1 x.2.2.2.2
def zo (N : Nat) (a0 : List zN) (a1 : Int) (a2 : Int) : Option Int :=
 (zj (zo.r0 N) N (a0, (a0.length : Int), 0, a1, a2)).bind fun z2 => zb5 z2 (fun z => some z) (fun y1 => some (-1))
def zo.k (N : Nat) : Kq := ⟨84, (ctv [.val (Ty.sl Ty.zN), .clo 85 2, .ptr T6 false [], .ptr T6 false []] [T6] [] [] [(Ty.sl Ty.zN), T6, T6] (zo N)), go [zg4.k] {ro := [1000000, 1000001], pk := [1000000, 1000001]} [(0, .rets { slots := [(0, .val (Ty.sl Ty.zN)), (1, .fn 85 [1000000, 1000001]), (7, .val T6), (8, .val T6)], boxes := [(1000000, T6, []), (1000001, T6, [])] } [(Ty.sl Ty.zN), T6, T6, T6, T6] (zj (zo.r0 N) N))] Proofs.Tryz.func84 (hL := ⟨⟨_, _, rfl, by kernel_rfl⟩, trivial⟩)⟩
def zi7 (N : Nat) (a0 : zB) (a1 : Int) (a2 : Int) : Option Int :=
 (zo N a0.zL a1 a2).bind fun r1 => cond (decide (r1 < 0)) (some (-1)) ((idx a0.zL r1).bind fun x2 => some x2.Handler)
def zi7.k (N : Nat) : Kq := ⟨49, (cvv [T6] [Ty.zB, T6, T6] (zi7 N)), go [zo.k N] {} [] Proofs.Tryz.func49⟩
end
end Go.Proofs.YtmifhmfokbigiaaGreatDoor.M
