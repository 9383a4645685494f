/- What the program's functions compute, each tied to its code: part 0. -/
import Derived.Test.YtmifhmfokbigiaaGreatDoorU
namespace Go.Proofs.YtmifhmfokbigiaaGreatDoor.M
open Go Go.Amx
set_option linter.unusedVariables false
set_option maxRecDepth 100000
noncomputable section
def zlc  : Option zB :=
 some (⟨([(⟨(⟨#[65]⟩ : ByteArray), 0, (⟨1, 3, 0⟩ : DataType), (⟨7, (⟨#[]⟩ : ByteArray)⟩ : Value), (⟨#[]⟩ : ByteArray), 0, 0⟩ : zF), (⟨(⟨#[79, 78, 69]⟩ : ByteArray), 4, (⟨1, 1, 0⟩ : DataType), (⟨1, (⟨#[]⟩ : ByteArray)⟩ : Value), (⟨#[]⟩ : ByteArray), 0, 0⟩ : zF)] : List zF), ([(⟨2, ([0, 0, 1] : List Int)⟩ : zK), (⟨17, ([0] : List Int)⟩ : zK), (⟨18, []⟩ : zK)] : List zK), []⟩ : zB)
def zlc.k : Kq := ⟨39, (cvv [Ty.zB] [] zlc), go [] {lits := [8, 10]} [] Proofs.Tryz.func39⟩
def zaz (a0 : Bool) (a1 : Int) : Option Int :=
 cond a0 (some a1) (some 0)
def zaz.k : Kq := ⟨128, (cvv [T6] [Ty.bool, T6] zaz), go [] {} [] Proofs.Tryz.func128⟩
def zah.b0 (N : Nat) (s5 : List Int) (s6 : Int) (s7 : Int) : Option (Round Int ((List Int) × Int × Int)) :=
 cond (decide (s7 < s6)) ((idx s5 s7).bind fun x1001 => cond (x1001 != 0) (some (.result x1001)) (some (.again (s5, s6, (w6 (s7 + 1)))))) (some (.leave (s5, s6, s7)))
def zah.r0 (N : Nat) (x : (List Int) × Int × Int) := zah.b0 N x.1 x.2.1 x.2.2
def zah (N : Nat) (a0 : List Int) : Option Int :=
 (zr (zah.r0 N) N (a0, (a0.length : Int), 0)).bind fun z2 => zda z2 (fun z => some z) (fun y1 => some 0)
def zah.k (N : Nat) : Kq := ⟨127, (cvv [T6] [(Ty.sl T6)] (zah N)), go [] {} [(0, .rets { slots := [(5, .val (Ty.sl T6)), (6, .val T6), (7, .val T6)], boxes := [] } [(Ty.sl T6), T6, T6] (zr (zah.r0 N) N))] Proofs.Tryz.func127 (hL := ⟨⟨_, _, rfl, by kernel_rfl⟩, trivial⟩)⟩
def za8.b0 (N : Nat) (s15 : List Int) (s16 : Int) (s17 : Int) : Option (Round Bool ((List Int) × Int × Int)) :=
 cond (decide (s17 < s16)) (if 0 ≤ s17 then (if s17 < (s15.length : Int) then ((s15[s17.toNat]?).bind fun x1001 => (cond (decide (65 ≤ x1001)) (some (decide (x1001 ≤ 90)))
  (some false)).bind fun g1002 => (cond g1002 (some true) (some (x1001 == 35))).bind fun g1003 => (cond g1003 (some true) (some (x1001 == 36))).bind fun g1004 =>
  (cond g1004 (some true) (some (x1001 == 64))).bind fun g1005 => (cond (decide (48 ≤ x1001)) (some (decide (x1001 ≤ 57))) (some false)).bind fun g1006 => (cond g1006 (some true)
  (some (x1001 == 95))).bind fun g1007 => (cond g1007 (some true) (some (x1001 == 46))).bind fun g1008 => (cond (!g1005) ((cond (s17 == 0) (some true)
  (some (!g1008))).bind fun g1009 => some g1009) (some false)).bind fun g1010 => cond g1010 (some (.result false))
  (some (.again (s15, s16, (w6 (s17 + 1)))))) else none) else none) (some (.leave (s15, s16, s17)))
def za8.r0 (N : Nat) (x : (List Int) × Int × Int) := za8.b0 N x.1 x.2.1 x.2.2
def za8 (N : Nat) (a0 : ByteArray) : Option Bool :=
 (cond (a0.toList == (⟨#[]⟩ : ByteArray).toList) (some true) (some (decide ((a0.size : Int) > 10)))).bind fun g1 => cond g1 (some false)
  ((zr (za8.r0 N) N ((zd1 a0), ((zd1 a0).length : Int), 0)).bind fun z3 => zda z3 (fun z => some z) (fun y2 => some true))
def za8.k (N : Nat) : Kq := ⟨183, (cvv [Ty.bool] [Ty.str] (za8 N)), go [] {} [(0, .rets { slots := [(15, .own 5000015 (Ty.int .u8)), (16, .val T6), (17, .val T6)], boxes := [] } [(Ty.sl (Ty.int .u8)), T6, T6] (zr (za8.r0 N) N))] Proofs.Tryz.func183 (hL := ⟨⟨_, _, rfl, by kernel_rfl⟩, trivial⟩)⟩
def zf3 (a0 : zF) (a1 : ByteArray) : Option Bool :=
 some (a0.Name.toList == a1.toList)
def zf3.k : Kq := ⟨193, (ctv [.val Ty.zF, .ptr Ty.str false []] [Ty.bool] [] [] [Ty.zF, Ty.str] zf3), go [] {ro := [1000000], pk := [1000000]} [] Proofs.Tryz.func193⟩
def zf.b0 (N : Nat) (s0 : List zF) (s7 : Int) (s8 : Int) (b1000000 : ByteArray) : Option (Round Int ((List zF) × Int × Int × ByteArray)) :=
 cond (decide (s8 < s7)) ((idx s0 s8).bind fun x1001 => (zf3 x1001 b1000000).bind fun r1002 => cond r1002 (some (.result s8))
  (some (.again (s0, s7, (w6 (s8 + 1)), b1000000)))) (some (.leave (s0, s7, s8, b1000000)))
def zf.r0 (N : Nat) (x : (List zF) × Int × Int × ByteArray) := zf.b0 N x.1 x.2.1 x.2.2.1 x.2.2.2
def zf (N : Nat) (a0 : List zF) (a1 : ByteArray) : Option Int :=
 (zr (zf.r0 N) N (a0, (a0.length : Int), 0, a1)).bind fun z2 => zda z2 (fun z => some z) (fun y1 => some (-1))
def zf.k (N : Nat) : Kq := ⟨172, (ctv [.val (Ty.sl Ty.zF), .clo 193 1, .ptr Ty.str false []] [T6] [] [] [(Ty.sl Ty.zF), Ty.str] (zf N)), go [zf3.k] {ro := [1000000], pk := [1000000]} [(0, .rets { slots := [(0, .val (Ty.sl Ty.zF)), (1, .fn 193 [1000000]), (7, .val T6), (8, .val T6)], boxes := [(1000000, Ty.str, [])] } [(Ty.sl Ty.zF), T6, T6, Ty.str] (zr (zf.r0 N) N))] Proofs.Tryz.func172 (hL := ⟨⟨_, _, rfl, by kernel_rfl⟩, trivial⟩)⟩
def zdi (N : Nat) (a0 : List zF) (a1 : ByteArray) : Option Int :=
 (zf N a0 a1).bind fun r1 => some r1
def zdi.k (N : Nat) : Kq := ⟨140, (cvv [T6] [(Ty.sl Ty.zF), Ty.str] (zdi N)), go [zf.k N] {} [] Proofs.Tryz.func140⟩
def zb9 (a0 : Int) (a1 : Int) (a2 : Int) : Option Bool :=
 (cond (decide (a1 ≤ a0)) (some (decide (a0 ≤ a2))) (some false)).bind fun g1 => some g1
def zb9.k : Kq := ⟨184, (cvv [Ty.bool] [T6, T6, T6] zb9), go [] {} [] Proofs.Tryz.func184⟩
def zcz (a0 : zF) : Option Bool :=
 (cond (a0.Kind == 0) (some true) (some (a0.Kind == 1))).bind fun g1 => (cond g1 (some true) (some (a0.Kind == 2))).bind fun g2 => (cond g2 (some true)
  (some (a0.Kind == 4))).bind fun g3 => some g3
def zcz.k : Kq := ⟨186, (cvv [Ty.bool] [Ty.zF] zcz), go [] {} [] Proofs.Tryz.func186⟩
def zf4 (a0 : zF) : Option zF :=
 (zcz a0).bind fun r1 => cond r1 ((cond (a0.Kind == 0) (some (a0.Kind == 0)) (some (a0.Kind == 4))).bind fun q2 =>
  cond q2 (some (⟨a0.Name, a0.Kind, a0.zJ, a0.Value, (⟨#[]⟩ : ByteArray), 0, 0⟩ : zF)) ((cond (a0.Kind == 1) (some (a0.Kind == 1)) (some (a0.Kind == 2))).bind fun q3 =>
  cond q3 (some (⟨a0.Name, a0.Kind, a0.zJ, (⟨0, (⟨#[]⟩ : ByteArray)⟩ : Value), a0.Base, a0.Offset, 0⟩ : zF)) (cond (a0.Kind == 5)
  (some (⟨a0.Name, a0.Kind, a0.zJ, (⟨0, (⟨#[]⟩ : ByteArray)⟩ : Value), (⟨#[]⟩ : ByteArray), 0, a0.Target⟩ : zF))
  (some (⟨a0.Name, a0.Kind, a0.zJ, (⟨0, (⟨#[]⟩ : ByteArray)⟩ : Value), (⟨#[]⟩ : ByteArray), 0, 0⟩ : zF))))) ((cond (a0.Kind == 0) (some (a0.Kind == 0))
  (some (a0.Kind == 4))).bind fun q4 => cond q4 (some (⟨a0.Name, a0.Kind, (⟨0, 0, 0⟩ : DataType), a0.Value, (⟨#[]⟩ : ByteArray), 0, 0⟩ : zF)) ((cond (a0.Kind == 1)
  (some (a0.Kind == 1)) (some (a0.Kind == 2))).bind fun q5 =>
  cond q5 (some (⟨a0.Name, a0.Kind, (⟨0, 0, 0⟩ : DataType), (⟨0, (⟨#[]⟩ : ByteArray)⟩ : Value), a0.Base, a0.Offset, 0⟩ : zF)) (cond (a0.Kind == 5)
  (some (⟨a0.Name, a0.Kind, (⟨0, 0, 0⟩ : DataType), (⟨0, (⟨#[]⟩ : ByteArray)⟩ : Value), (⟨#[]⟩ : ByteArray), 0, a0.Target⟩ : zF))
  (some (⟨a0.Name, a0.Kind, (⟨0, 0, 0⟩ : DataType), (⟨0, (⟨#[]⟩ : ByteArray)⟩ : Value), (⟨#[]⟩ : ByteArray), 0, 0⟩ : zF)))))
def zf4.k : Kq := ⟨185, (cvv [Ty.zF] [Ty.zF] zf4), go [zcz.k] {bj := [16, 22]} [] Proofs.Tryz.func185⟩
def zcf (a0 : Int) (a1 : Int) (a2 : Int) : Option Bool :=
 (cond (decide (a1 ≤ a0)) (some (decide (a0 ≤ a2))) (some false)).bind fun g1 => some g1
def zcf.k : Kq := ⟨202, (cvv [Ty.bool] [T6, T6, T6] zcf), go [] {} [] Proofs.Tryz.func202⟩
def z8 (a0 : Bool) (a1 : Int) : Option Int :=
 cond a0 (some a1) (some 0)
def z8.k : Kq := ⟨200, (cvv [T6] [Ty.bool, T6] z8), go [] {} [] Proofs.Tryz.func200⟩
def zk.b0 (N : Nat) (s5 : List Int) (s6 : Int) (s7 : Int) : Option (Round Int ((List Int) × Int × Int)) :=
 cond (decide (s7 < s6)) ((idx s5 s7).bind fun x1001 => cond (x1001 != 0) (some (.result x1001)) (some (.again (s5, s6, (w6 (s7 + 1)))))) (some (.leave (s5, s6, s7)))
def zk.r0 (N : Nat) (x : (List Int) × Int × Int) := zk.b0 N x.1 x.2.1 x.2.2
def zk (N : Nat) (a0 : List Int) : Option Int :=
 (zr (zk.r0 N) N (a0, (a0.length : Int), 0)).bind fun z2 => zda z2 (fun z => some z) (fun y1 => some 0)
def zk.k (N : Nat) : Kq := ⟨199, (cvv [T6] [(Ty.sl T6)] (zk N)), go [] {} [(0, .rets { slots := [(5, .val (Ty.sl T6)), (6, .val T6), (7, .val T6)], boxes := [] } [(Ty.sl T6), T6, T6] (zr (zk.r0 N) N))] Proofs.Tryz.func199 (hL := ⟨⟨_, _, rfl, by kernel_rfl⟩, trivial⟩)⟩
def zag (N : Nat) (a0 : DataType) : Option Int :=
 cond (a0.Kind == 0) ((zcf a0.Length 1 256).bind fun r1 => (z8 (!r1) 18).bind fun r2 => (z8 (!(a0.Scale == 0)) 3).bind fun r3 =>
  (zk N ([r2, r3] : List Int)).bind fun r4 => some r4) ((cond (a0.Kind == 1) (some (a0.Kind == 1)) (some (a0.Kind == 2))).bind fun q5 =>
  cond q5 ((zcf a0.Length 1 15).bind fun r6 => (zcf a0.Scale 0 a0.Length).bind fun r7 => (z8 (!r6) 18).bind fun r8 => (z8 (!r7) 3).bind fun r9 =>
  (zk N ([r8, r9] : List Int)).bind fun r10 => some r10) (cond (a0.Kind == 3) ((cond (a0.Length == 4) (some true) (some (a0.Length == 9))).bind fun g11 =>
  (zcf a0.Scale 0 a0.Length).bind fun r12 => (z8 (!g11) 18).bind fun r13 => (z8 (!r12) 3).bind fun r14 =>
  (zk N ([r13, r14] : List Int)).bind fun r15 => some r15) (cond (a0.Kind == 4) ((z8 (!(a0.Length == 0)) 18).bind fun r16 =>
  (z8 (!(a0.Scale == 0)) 3).bind fun r17 => (zk N ([r16, r17] : List Int)).bind fun r18 => some r18) (some 4))))
def zag.k (N : Nat) : Kq := ⟨187, (cvv [T6] [Ty.DataType] (zag N)), go [zk.k N, z8.k, zcf.k] {lits := [48, 51, 52], bj := [15]} [] Proofs.Tryz.func187⟩
def zbg.b0 (N : Nat) (s3 : Int) (s5 : Int) (s6 : Int) : Option (Stp (Int × Int × Int)) :=
 cond (decide (s6 < s5)) (some (.again ((w6 (s3 * 10)), s5, (w6 (s6 + 1))))) (some (.leave (s3, s5, s6)))
def zbg.r0 (N : Nat) (x : Int × Int × Int) := zbg.b0 N x.1 x.2.1 x.2.2
def zbg (N : Nat) (a0 : Int) : Option Int :=
 (zt (zbg.r0 N) N (1, (if 18 < a0 then 18 else a0), 0)).bind fun y1 => some y1.1
def zbg.k (N : Nat) : Kq := ⟨201, (cvv [T6] [T6] (zbg N)), go [] {} [(0, .plain { slots := [(3, .val T6), (5, .val T6), (6, .val T6)], boxes := [] } [T6, T6, T6] (zt (zbg.r0 N) N))] Proofs.Tryz.func201 (hL := ⟨⟨_, _, rfl, by kernel_rfl⟩, trivial⟩)⟩
def zar (N : Nat) (a0 : DataType) (a1 : Value) : Option Int :=
 (zag N a0).bind fun r1 => (z8 (a0.Kind == 4) 17).bind fun r2 => (zk N ([r1, r2] : List Int)).bind fun r3 => cond (r3 != 0) (some r3)
  (cond (a0.Kind == 0) ((z8 (a1.N != 0) 5).bind fun r4 => (z8 ((a1.S.size : Int) != a0.Length) 18).bind fun r5 =>
  (zk N ([r4, r5] : List Int)).bind fun r6 => some r6) ((zbg N a0.Length).bind fun r7 =>
  (z8 (!(a1.S.toList == (⟨#[]⟩ : ByteArray).toList)) 5).bind fun r8 => (zcf a1.N (w6 (0 - (w6 (r7 - 1))))
  (w6 (r7 - 1))).bind fun r9 => (z8 (!r9) 19).bind fun r10 => (zk N ([r8, r10] : List Int)).bind fun r11 => some r11))
def zar.k (N : Nat) : Kq := ⟨143, (cvv [T6] [Ty.DataType, Ty.Value] (zar N)), go [zag.k N, zk.k N, z8.k, zbg.k N, zcf.k] {lits := [8, 12, 13, 24, 31, 32, 41, 49, 50]} [] Proofs.Tryz.func143⟩
def zd5 (a0 : DataType) : Option Int :=
 cond (a0.Kind == 1) (some (w6 ((w6 (a0.Length.tdiv 2)) + 1))) (cond (a0.Kind == 3)
  (some (w6 (2 + (w6 ((w6 (a0.Length.tdiv 9)) * 2))))) (cond (a0.Kind == 4) (some 16) (some a0.Length)))
def zd5.k : Kq := ⟨205, (cvv [T6] [Ty.DataType] zd5), go [] {} [] Proofs.Tryz.func205⟩
def zeh (N : Nat) (a0 : DataType) : Option (Int × Int) :=
 (zag N a0).bind fun r1 => cond (r1 != 0) (some (0, r1)) ((zd5 a0).bind fun r2 => some (r2, 0))
def zeh.k (N : Nat) : Kq := ⟨176, (cvv [T6, T6] [Ty.DataType] (zeh N)), go [zag.k N, zd5.k] {} [] Proofs.Tryz.func176⟩
def zen (N : Nat) (a0 : zF) : Option Int :=
 (zeh N a0.zJ).bind fun r1 => some r1.1
def zen.k (N : Nat) : Kq := ⟨139, (cvv [T6] [Ty.zF] (zen N)), go [zeh.k N] {} [] Proofs.Tryz.func139⟩
def zeo (N : Nat) (a0 : zF) (a1 : List zF) : Option Int :=
 (zdi N a1 a0.Base).bind fun r1 => cond (decide (r1 < 0)) (some 11) ((idx a1 r1).bind fun x2 => cond (a0.Kind == 2) ((zaz (x2.Kind != 3) 17).bind fun r3 =>
  (zb9 a0.Offset 0 256).bind fun r4 => (zaz (!r4) 3).bind fun r5 => (zah N ([r3, r5] : List Int)).bind fun r6 => some r6) (cond (x2.Kind != 0) (some 17)
  ((zen N x2).bind fun r7 => (zen N a0).bind fun r8 => (zb9 a0.Offset 0 (w6 (r7 - r8))).bind fun r9 => (zaz (!r9) 3).bind fun r10 =>
  some r10)))
def zeo.k (N : Nat) : Kq := ⟨188, (cvv [T6] [Ty.zF, (Ty.sl Ty.zF)] (zeo N)), go [zah.k N, zaz.k, zen.k N, zdi.k N, zb9.k] {lits := [23, 28, 29]} [] Proofs.Tryz.func188⟩
def zef (N : Nat) (a0 : zB) (a1 : Int) : Option Int :=
 (idx a0.zA a1).bind fun x1 => if 0 ≤ a1 ∧ a1 ≤ (a0.zA.length : Int) then (if 0 ≤ (0 : Int) ∧ (0 : Int) ≤ a1 then ((za8 N x1.Name).bind fun r2 =>
  (zaz (!r2) 7).bind fun r3 => (zdi N ((a0.zA.take a1.toNat).drop (0 : Int).toNat) x1.Name).bind fun r4 =>
  (zaz (decide (r4 ≥ 0)) 13).bind fun r5 => (zb9 x1.Kind 0 5).bind fun r6 => (zaz (!r6) 4).bind fun r7 => (zf4 x1).bind fun r8 =>
  (zaz (!(zel [(r8.Name == x1.Name), (r8.Kind == x1.Kind), (r8.zJ.Kind == x1.zJ.Kind), (r8.zJ.Length == x1.zJ.Length), (r8.zJ.Scale == x1.zJ.Scale), (r8.Value.N == x1.Value.N), (r8.Value.S == x1.Value.S), (r8.Base == x1.Base), (r8.Offset == x1.Offset), (r8.Target == x1.Target)])) 5).bind fun r9 =>
  (zah N ([r3, r5, r7, r9] : List Int)).bind fun r10 => cond (r10 != 0) (some r10) ((zcz x1).bind fun r11 =>
  cond r11 ((zag N x1.zJ).bind fun r12 => (zaz (x1.zJ.Kind == 4) 17).bind fun r13 => (zah N ([r12, r13] : List Int)).bind fun r14 =>
  cond (r14 != 0) (some r14) ((cond (x1.Kind == 0) (some (x1.Kind == 0)) (some (x1.Kind == 4))).bind fun q15 => cond q15 ((zar N x1.zJ x1.Value).bind fun r16 =>
  some r16) ((cond (x1.Kind == 1) (some (x1.Kind == 1)) (some (x1.Kind == 2))).bind fun q17 =>
  cond q17 ((zeo N x1 ((a0.zA.take a1.toNat).drop (0 : Int).toNat)).bind fun r18 => some r18) (cond (x1.Kind == 5)
  ((zb9 x1.Target 0 (w6 ((a0.zG.length : Int) - 1))).bind fun r19 => (zaz (!r19) 3).bind fun r20 => some r20) (some 0)))))
  ((cond (x1.Kind == 0) (some (x1.Kind == 0)) (some (x1.Kind == 4))).bind fun q21 => cond q21 ((zar N x1.zJ x1.Value).bind fun r22 => some r22)
  ((cond (x1.Kind == 1) (some (x1.Kind == 1)) (some (x1.Kind == 2))).bind fun q23 =>
  cond q23 ((zeo N x1 ((a0.zA.take a1.toNat).drop (0 : Int).toNat)).bind fun r24 => some r24) (cond (x1.Kind == 5)
  ((zb9 x1.Target 0 (w6 ((a0.zG.length : Int) - 1))).bind fun r25 => (zaz (!r25) 3).bind fun r26 => some r26)
  (some 0)))))) else none) else none
def zef.k (N : Nat) : Kq := ⟨129, (cvv [T6] [Ty.zB, T6] (zef N)), go [zah.k N, zaz.k, zdi.k N, zar.k N, za8.k N, zb9.k, zf4.k, zcz.k, zag.k N, zeo.k N] {lits := [22, 28, 33, 38, 39, 48, 53, 54], bj := [61, 69]} [] Proofs.Tryz.func129⟩
def zdy (a0 : Int) (a1 : Int) : Option (Int × Int) :=
 some ((IntKind.wrap .u64 ((IntKind.wrap .u64 ((IntKind.wrap .u64 ((a0.fdiv (2 ^ (min (32 : Int).toNat 64))) * (a1.fdiv (2 ^ (min (32 : Int).toNat 64))))) + ((IntKind.wrap .u64 ((IntKind.wrap .u64 ((a0.fdiv (2 ^ (min (32 : Int).toNat 64))) * (zfb .u64 a1 4294967295))) + ((IntKind.wrap .u64 ((zfb .u64 a0 4294967295) * (zfb .u64 a1 4294967295))).fdiv (2 ^ (min (32 : Int).toNat 64))))).fdiv (2 ^ (min (32 : Int).toNat 64))))) + ((IntKind.wrap .u64 ((zfb .u64 (IntKind.wrap .u64 ((IntKind.wrap .u64 ((a0.fdiv (2 ^ (min (32 : Int).toNat 64))) * (zfb .u64 a1 4294967295))) + ((IntKind.wrap .u64 ((zfb .u64 a0 4294967295) * (zfb .u64 a1 4294967295))).fdiv (2 ^ (min (32 : Int).toNat 64))))) 4294967295) + (IntKind.wrap .u64 ((zfb .u64 a0 4294967295) * (a1.fdiv (2 ^ (min (32 : Int).toNat 64))))))).fdiv (2 ^ (min (32 : Int).toNat 64))))), (IntKind.wrap .u64 (a0 * a1)))
def zdy.k : Kq := ⟨233, (cvv [(Ty.int .u64), (Ty.int .u64)] [(Ty.int .u64), (Ty.int .u64)] zdy), go [] {} [] Proofs.Tryz.func233⟩
def zhl (a0 : Int) (a1 : Int) : Option (Int × Int) :=
 (zdy a0 a1).bind fun r1 => some (r1.1, r1.2)
def zhl.k : Kq := ⟨192, (cvv [(Ty.int .u64), (Ty.int .u64)] [(Ty.int .u64), (Ty.int .u64)] zhl), go [zdy.k] {} [] Proofs.Tryz.func192⟩
def zax.b0 (N : Nat) (s7 : List Int) (s8 : Int) : Option (Stp ((List Int) × Int)) :=
 cond (decide (s8 < (s7.length : Int)))
  (if 0 ≤ s8 ∧ s8 ≤ (s7.length : Int) then (if 0 ≤ s8 ∧ s8 ≤ (s7.length : Int) then (if 0 ≤ (0 : Int) ∧ (0 : Int) ≤ s8 then (some (.again ((s7.take s8.toNat ++ ((s7.drop ((0 : Int).toNat)).take (s8.toNat - (0 : Int).toNat)).take (min ((s7.drop ((0 : Int).toNat)).take (s8.toNat - (0 : Int).toNat)).length (s7.length - s8.toNat)) ++ s7.drop (s8.toNat + (min ((s7.drop ((0 : Int).toNat)).take (s8.toNat - (0 : Int).toNat)).length (s7.length - s8.toNat)))), (w6 (s8 + (((min ((s7.drop ((0 : Int).toNat)).take (s8.toNat - (0 : Int).toNat)).length (s7.length - s8.toNat)) : Nat) : Int)))))) else none) else none) else none)
  (some (.leave (s7, s8)))
def zax.r0 (N : Nat) (x : (List Int) × Int) := zax.b0 N x.1 x.2
def zax (N : Nat) (a0 : List Int) (a1 : Int) : Option ((List Int)) :=
 cond (decide (a1 < 0)) (none) ((zhl (IntKind.wrap .u64 (a0.length : Int)) (IntKind.wrap .u64 a1)).bind fun r1 => (cond (decide (r1.1 > 0)) (some true)
  (some (decide (r1.2 > 9223372036854775807)))).bind fun g2 => cond g2 (none)
  (if 0 ≤ (w6 r1.2) then (if (w6 r1.2) ≤ (w6 r1.2) then (cond (Nat.ble ((w6 r1.2).toNat * 8) zbr)
  ((zt (zax.r0 N) N ((a0.take (min a0.length (List.replicate (w6 r1.2).toNat (0 : Int)).length) ++ (List.replicate (w6 r1.2).toNat (0 : Int)).drop (min a0.length (List.replicate (w6 r1.2).toNat (0 : Int)).length)), (((min a0.length (List.replicate (w6 r1.2).toNat (0 : Int)).length) : Nat) : Int))).bind fun y3 =>
  some y3.1) none) else none) else none))
def zax.k (N : Nat) : Kq := ⟨138, (ctv [.val (Ty.sl T6), .val T6] [(Ty.sl T6)] [] [0] [(Ty.sl T6), T6] (zax N)), go [zhl.k] {} [(0, .plain { slots := [(7, .own 5000007 T6), (8, .val T6)], boxes := [] } [(Ty.sl T6), T6] (zt (zax.r0 N) N))] Proofs.Tryz.func138 (hL := ⟨⟨_, _, rfl, by kernel_rfl⟩, trivial⟩)⟩
def ze.b0 (N : Nat) (s0 : List zF) (s4 : List Int) (s5 : Int) (s16 : List zF) (s17 : Int) (s18 : Int) : Option (Stp ((List zF) × (List Int) × Int × (List zF) × Int × Int)) :=
 cond (decide (s18 < s17)) ((idx s16 s18).bind fun x1001 => cond (x1001.Kind == 3) (if 0 ≤ s18 then (if s18 < (s4.length : Int) then ((s4[s18.toNat]?).bind fun x1002 =>
  some (.again (s0, (s4.set s18.toNat s5), (w6 (s5 + 16)), s16, s17, (w6 (s18 + 1))))) else none) else none)
  (some (.again (s0, s4, s5, s16, s17, (w6 (s18 + 1)))))) (some (.leave (s0, s4, s5, s16, s17, s18)))
def ze.r0 (N : Nat) (x : (List zF) × (List Int) × Int × (List zF) × Int × Int) := ze.b0 N x.1 x.2.1 x.2.2.1 x.2.2.2.1 x.2.2.2.2.1 x.2.2.2.2.2
def ze.b2 (N : Nat) (s0 : List zF) (s4 : List Int) (s5 : Int) (s33 : List zF) (s34 : Int) (s35 : Int) : Option (Stp ((List zF) × (List Int) × Int × (List zF) × Int × Int)) :=
 cond (decide (s35 < s34)) ((idx s33 s35).bind fun x3001 => cond (x3001.Kind == 0) ((zen N x3001).bind fun r3002 =>
  if 0 ≤ s35 then (if s35 < (s4.length : Int) then ((s4[s35.toNat]?).bind fun x3003 =>
  some (.again (s0, (s4.set s35.toNat s5), (w6 (s5 + r3002)), s33, s34, (w6 (s35 + 1))))) else none) else none)
  (some (.again (s0, s4, s5, s33, s34, (w6 (s35 + 1)))))) (some (.leave (s0, s4, s5, s33, s34, s35)))
def ze.r2 (N : Nat) (x : (List zF) × (List Int) × Int × (List zF) × Int × Int) := ze.b2 N x.1 x.2.1 x.2.2.1 x.2.2.2.1 x.2.2.2.2.1 x.2.2.2.2.2
def ze.b4 (N : Nat) (s0 : List zF) (s4 : List Int) (s5 : Int) (s52 : List zF) (s53 : Int) (s54 : Int) : Option (Stp ((List zF) × (List Int) × Int × (List zF) × Int × Int)) :=
 cond (decide (s54 < s53)) ((idx s52 s54).bind fun x5001 => cond (x5001.Kind == 1) ((zdi N s0 x5001.Base).bind fun r5002 =>
  if 0 ≤ r5002 then (if r5002 < (s4.length : Int) then ((s4[r5002.toNat]?).bind fun x5003 => if 0 ≤ s54 then (if s54 < (s4.length : Int) then ((s4[s54.toNat]?).bind fun x5004 =>
  some (.again (s0, (s4.set s54.toNat (w6 (x5003 + x5001.Offset))), s5, s52, s53, (w6 (s54 + 1))))) else none) else none) else none) else none)
  (some (.again (s0, s4, s5, s52, s53, (w6 (s54 + 1)))))) (some (.leave (s0, s4, s5, s52, s53, s54)))
def ze.r4 (N : Nat) (x : (List zF) × (List Int) × Int × (List zF) × Int × Int) := ze.b4 N x.1 x.2.1 x.2.2.1 x.2.2.2.1 x.2.2.2.2.1 x.2.2.2.2.2
def ze (N : Nat) (a0 : List zF) : Option ((List Int) × Int) :=
 (zax N ([(-1)] : List Int) (a0.length : Int)).bind fun r1 => (zt (ze.r0 N) N (a0, r1, 0, a0, (a0.length : Int), 0)).bind fun y2 =>
  (zt (ze.r2 N) N (y2.1, y2.2.1, y2.2.2.1, y2.1, (y2.1.length : Int), 0)).bind fun y3 =>
  (zt (ze.r4 N) N (y3.1, y3.2.1, y3.2.2.1, y3.1, (y3.1.length : Int), 0)).bind fun y4 =>
  some (y4.2.1, (w6 ((w6 ((w6 (y4.2.2.1 + 16)) - 1)).tdiv 16)))
def ze.k (N : Nat) : Kq := ⟨87, (cvv [(Ty.sl T6), T6] [(Ty.sl Ty.zF)] (ze N)), go [zax.k N, zen.k N, zdi.k N] {lits := [12, 14]} [(0, .plain { slots := [(0, .val (Ty.sl Ty.zF)), (4, .own 5000004 T6), (5, .val T6), (16, .val (Ty.sl Ty.zF)), (17, .val T6), (18, .val T6)], boxes := [] } [(Ty.sl Ty.zF), (Ty.sl T6), T6, (Ty.sl Ty.zF), T6, T6] (zt (ze.r0 N) N)), (2, .plain { slots := [(0, .val (Ty.sl Ty.zF)), (4, .own 5000004 T6), (5, .val T6), (33, .val (Ty.sl Ty.zF)), (34, .val T6), (35, .val T6)], boxes := [] } [(Ty.sl Ty.zF), (Ty.sl T6), T6, (Ty.sl Ty.zF), T6, T6] (zt (ze.r2 N) N)), (4, .plain { slots := [(0, .val (Ty.sl Ty.zF)), (4, .own 5000004 T6), (5, .val T6), (52, .val (Ty.sl Ty.zF)), (53, .val T6), (54, .val T6)], boxes := [] } [(Ty.sl Ty.zF), (Ty.sl T6), T6, (Ty.sl Ty.zF), T6, T6] (zt (ze.r4 N) N))] Proofs.Tryz.func87 (hL := ⟨⟨_, _, rfl, by kernel_rfl⟩, ⟨_, _, rfl, by kernel_rfl⟩, ⟨_, _, rfl, by kernel_rfl⟩, trivial⟩)⟩
def zdu (a0 : zF) : Option Bool :=
 some (a0.zJ.Kind != 0)
def zdu.k : Kq := ⟨231, (cvv [Ty.bool] [Ty.zF] zdu), go [] {} [] Proofs.Tryz.func231⟩
def zg0 (a0 : zF) (a1 : zF) (a2 : Int) : Option Bool :=
 cond (a2 == 5) (some (a0.Kind == 3)) (cond (a2 == 6) (some (a0.Kind == 5)) ((cond (a2 == 0) (some true) (some (a2 == 2))).bind fun g1 => (cond (a2 == 2) (some true)
  (some (a2 == 3))).bind fun g2 => (zcz a0).bind fun r3 => (cond r3 ((cond g1 (some (a0.Kind == 4)) (some false)).bind fun g4 => some (!g4)) (some false)).bind fun g5 =>
  (cond g5 ((cond g2 ((zdu a0).bind fun r6 => some (!r6)) (some false)).bind fun g7 => some (!g7)) (some false)).bind fun g8 => (cond g8 ((cond (a2 == 4)
  ((zdu a0).bind fun r9 => (zdu a1).bind fun r10 => some (!(r9 == r10))) (some false)).bind fun g11 => some (!g11)) (some false)).bind fun g12 =>
  some g12))
def zg0.k : Kq := ⟨189, (cvv [Ty.bool] [Ty.zF, Ty.zF, T6] zg0), go [zcz.k, zdu.k] {} [] Proofs.Tryz.func189⟩
def zw.b0 (N : Nat) (s22 : List Int) (s23 : Int) (s24 : Int) (b2 : zB) (b3 : zK) (b5 : zF) : Option (Round Int ((List Int) × Int × Int × zB × zK × zF)) :=
 cond (decide (s24 < s23)) ((idx s22 s24).bind fun x1001 => (zb9 x1001 0 (w6 ((b2.zA.length : Int) - 1))).bind fun r1002 => cond (!r1002)
  (some (.result 3)) ((idx b2.zA x1001).bind fun x1003 => (idx zne b3.Op).bind fun x1004 => (idx x1004 s24).bind fun x1005 => (zg0 x1003 b5 x1005).bind fun r1006 =>
  cond (!r1006) (some (.result 17)) ((idx b2.zA x1001).bind fun x1007 => some (.again (s22, s23, (w6 (s24 + 1)), b2, b3, x1007)))))
  (some (.leave (s22, s23, s24, b2, b3, b5)))
def zw.r0 (N : Nat) (x : (List Int) × Int × Int × zB × zK × zF) := zw.b0 N x.1 x.2.1 x.2.2.1 x.2.2.2.1 x.2.2.2.2.1 x.2.2.2.2.2
def zw (N : Nat) (a0 : zB) (a1 : zK) : Option Int :=
 (zb9 a1.Op 0 18).bind fun r1 => cond (!r1) (some 4) ((idx zne a1.Op).bind fun x2 => cond ((a1.Args.length : Int) != (x2.length : Int)) (some 37)
  ((zr (zw.r0 N) N (a1.Args, (a1.Args.length : Int), 0, a0, a1, (⟨(⟨#[]⟩ : ByteArray), 0, (⟨0, 0, 0⟩ : DataType), (⟨0, (⟨#[]⟩ : ByteArray)⟩ : Value), (⟨#[]⟩ : ByteArray), 0, 0⟩ : zF))).bind fun z4 =>
  zda z4 (fun z => some z) (fun y3 => some 0)))
def zw.k (N : Nat) : Kq := ⟨130, (cvv [T6] [Ty.zB, Ty.zK] (zw N)), go [zb9.k, zg0.k] {} [(0, .rets { slots := [(2, .ptr 2 0), (3, .ptr 3 0), (5, .ptr 5 0), (22, .val (Ty.sl T6)), (23, .val T6), (24, .val T6)], boxes := [(2, Ty.zB, []), (3, Ty.zK, []), (5, Ty.zF, [])] } [(Ty.sl T6), T6, T6, Ty.zB, Ty.zK, Ty.zF] (zr (zw.r0 N) N))] Proofs.Tryz.func130 (hL := ⟨⟨_, _, rfl, by kernel_rfl⟩, trivial⟩)⟩
def zeg (a0 : zB) (a1 : zM) : Option Int :=
 (cond (decide (a1.From ≥ 0)) (some (decide (a1.From < a1.To))) (some false)).bind fun g1 => (cond g1 (some (decide (a1.To ≤ (a0.zG.length : Int))))
  (some false)).bind fun g2 => (cond g2 ((zb9 a1.Exception 0 999).bind fun r3 => some r3) (some false)).bind fun g4 =>
  (cond g4 ((zb9 a1.Handler 0 (w6 ((a0.zG.length : Int) - 1))).bind fun r5 => some r5) (some false)).bind fun g6 =>
  (zaz (!g6) 3).bind fun r7 => some r7
def zeg.k : Kq := ⟨131, (cvv [T6] [Ty.zB, Ty.zM] zeg), go [zaz.k, zb9.k] {} [] Proofs.Tryz.func131⟩
def zc.b0 (N : Nat) (s47 : Int) (s48 : Int) (b1 : zB) (b2 : zL) : Option (Round (zL × Int) (Int × Int × zB × zL)) :=
 cond (decide (s48 < s47)) ((zef N b1 s48).bind fun r1001 => cond (r1001 != 0) (some (.result ((⟨1, s48⟩ : zL), r1001)))
  (some (.again (s47, (w6 (s48 + 1)), b1, b2)))) (some (.leave (s47, s48, b1, b2)))
def zc.r0 (N : Nat) (x : Int × Int × zB × zL) := zc.b0 N x.1 x.2.1 x.2.2.1 x.2.2.2
def zc.b2 (N : Nat) (s70 : List zK) (s71 : Int) (s72 : Int) (b1 : zB) (b2 : zL) : Option (Round (zL × Int) ((List zK) × Int × Int × zB × zL)) :=
 cond (decide (s72 < s71)) ((idx s70 s72).bind fun x3001 => (zw N b1 x3001).bind fun r3002 => cond (r3002 != 0) (some (.result ((⟨2, s72⟩ : zL), r3002)))
  (some (.again (s70, s71, (w6 (s72 + 1)), b1, b2)))) (some (.leave (s70, s71, s72, b1, b2)))
def zc.r2 (N : Nat) (x : (List zK) × Int × Int × zB × zL) := zc.b2 N x.1 x.2.1 x.2.2.1 x.2.2.2.1 x.2.2.2.2
def zc.b4 (N : Nat) (s87 : List zM) (s88 : Int) (s89 : Int) (b1 : zB) (b2 : zL) : Option (Round (zL × Int) ((List zM) × Int × Int × zB × zL)) :=
 cond (decide (s89 < s88)) ((idx s87 s89).bind fun x5001 => (zeg b1 x5001).bind fun r5002 => cond (r5002 != 0) (some (.result ((⟨3, s89⟩ : zL), r5002)))
  (some (.again (s87, s88, (w6 (s89 + 1)), b1, b2)))) (some (.leave (s87, s88, s89, b1, b2)))
def zc.r4 (N : Nat) (x : (List zM) × Int × Int × zB × zL) := zc.b4 N x.1 x.2.1 x.2.2.1 x.2.2.2.1 x.2.2.2.2
def zc (N : Nat) (a0 : zB) : Option (zL × Int) :=
 (cond (decide ((a0.zA.length : Int) > 24)) (some true) (some (decide ((a0.zG.length : Int) > 40)))).bind fun g1 => (cond g1 (some true)
  (some (decide ((a0.zI.length : Int) > 6)))).bind fun g2 => (zaz g2 2).bind fun r3 => (zaz ((a0.zG.length : Int) == 0) 1).bind fun r4 =>
  (zah N ([r3, r4] : List Int)).bind fun r5 => cond (r5 != 0) (some ((⟨0, 0⟩ : zL), r5))
  ((zr (zc.r0 N) N ((a0.zA.length : Int), 0, a0, (⟨0, 0⟩ : zL))).bind fun z7 => zda z7 (fun z => some z) (fun y6 =>
  (ze N y6.2.2.1.zA).bind fun r8 => cond (decide (r8.2 > 24)) (some ((⟨0, 0⟩ : zL), 30))
  ((zr (zc.r2 N) N (y6.2.2.1.zG, (y6.2.2.1.zG.length : Int), 0, y6.2.2.1, y6.2.2.2)).bind fun z10 => zda z10 (fun z => some z) (fun y9 =>
  (zr (zc.r4 N) N (y9.2.2.2.1.zI, (y9.2.2.2.1.zI.length : Int), 0, y9.2.2.2.1, y9.2.2.2.2)).bind fun z12 => zda z12 (fun z => some z) (fun y11 =>
  some ((⟨0, 0⟩ : zL), 0))))))
def zc.k (N : Nat) : Kq := ⟨81, (cvv [Ty.zL, T6] [Ty.zB] (zc N)), go [ze.k N, zah.k N, zaz.k, zef.k N, zw.k N, zeg.k] {lits := [33, 38, 39]} [(0, .rets { slots := [(1, .ptr 1 0), (2, .ptr 2 0), (47, .val T6), (48, .val T6)], boxes := [(1, Ty.zB, []), (2, Ty.zL, [])] } [T6, T6, Ty.zB, Ty.zL] (zr (zc.r0 N) N)), (2, .rets { slots := [(1, .ptr 1 0), (2, .ptr 2 0), (70, .val (Ty.sl Ty.zK)), (71, .val T6), (72, .val T6)], boxes := [(1, Ty.zB, []), (2, Ty.zL, [])] } [(Ty.sl Ty.zK), T6, T6, Ty.zB, Ty.zL] (zr (zc.r2 N) N)), (4, .rets { slots := [(1, .ptr 1 0), (2, .ptr 2 0), (87, .val (Ty.sl Ty.zM)), (88, .val T6), (89, .val T6)], boxes := [(1, Ty.zB, []), (2, Ty.zL, [])] } [(Ty.sl Ty.zM), T6, T6, Ty.zB, Ty.zL] (zr (zc.r4 N) N))] Proofs.Tryz.func81 (hL := ⟨⟨_, _, rfl, by kernel_rfl⟩, ⟨_, _, rfl, by kernel_rfl⟩, ⟨_, _, rfl, by kernel_rfl⟩, trivial⟩)⟩
def zee (N : Nat) (a0 : zB) : Option Int :=
 (zc N a0).bind fun r1 => some r1.2
def zee.k (N : Nat) : Kq := ⟨86, (cvv [T6] [Ty.zB] (zee N)), go [zc.k N] {} [] Proofs.Tryz.func86⟩
def zct (a0 : Int) (a1 : Int) (a2 : Int) : Option Bool :=
 (cond (decide (a1 ≤ a0)) (some (decide (a0 ≤ a2))) (some false)).bind fun g1 => some g1
def zct.k : Kq := ⟨141, (cvv [Ty.bool] [T6, T6, T6] zct), go [] {} [] Proofs.Tryz.func141⟩
def zp4 : Ct U := { params := [.val Ty.str, .val T6], results := [Ty.str], outs := [], fresh := [], fn := app U [Ty.str, T6] (R := PT U [Ty.str]) (zn5) }
theorem zp4.meets : zga (zpe [] [] [] [] [] [] [] []) 142 zp4 :=
 zrz ⟨_, Proofs.Tryz.func142, rfl, by kernel_rfl⟩ (t := Ty.str) rfl rfl rfl rfl fun ds y hy E0 h0 ha μ H w us hA hm hG => by
  obtain ⟨s, n, rfl, hx⟩ := z5p hy; unfold zn5 at hx; split at hx
  · rename_i hn; cases hx; have hE : some ([.sc (.string s), .sc (.int .i64 n)], []) = some (E0, h0) := ha; cases hE; cases hA with
    | cons h1 h2 =>
     cases h2 with
     | cons h2 h3 =>
      cases h3; have hu := h1.int; have hu2 := h2.int; subst hu hu2; refine ⟨_, rfl, ?_⟩; have hc := Proofs.Tryz.strings_Repeat s n.toNat w (by omega) hn.2.2; have he : ((n.toNat : Nat) : Int) = n := by omega
      rw [he] at hc; exact hc.mono fun e w' hh => ⟨_, hh.1, zw7 hh.2, .sc _⟩
  · cases hx
def zp4.k : Kq := ⟨142, zp4, zp4.meets⟩
def zgw (a0 : Int) : Option (Storage × Int) :=
 (zct a0 0 64).bind fun r1 => cond (!r1) (some ((⟨(⟨#[]⟩ : ByteArray), []⟩ : Storage), 3)) ((zn5 (⟨#[0]⟩ : ByteArray) (w6 (a0 * 16))).bind fun r2 =>
  if 0 ≤ a0 then (if a0 ≤ a0 then (cond (Nat.ble (a0.toNat * 1) zbr) (some ((⟨r2, (List.replicate a0.toNat (false : Bool))⟩ : Storage), 0)) none) else none) else none)
def zgw.k : Kq := ⟨88, (cvv [Ty.Storage, T6] [T6] zgw), go [zct.k, zp4.k] {} [] Proofs.Tryz.func88⟩
def za9.b0 (N : Nat) (s0 : Int) (s5 : List Int) (s6 : Int) : Option (Stp (Int × (List Int) × Int)) :=
 cond (decide (s6 ≥ 0)) (if 0 ≤ s6 then (if s6 < (s5.length : Int) then ((s5[s6.toNat]?).bind fun x1001 =>
  some (.again ((w6 (s0.tdiv 10)), (s5.set s6.toNat (IntKind.wrap .u8 (s0.tmod 10))), (w6 (s6 - 1))))) else none) else none)
  (some (.leave (s0, s5, s6)))
def za9.r0 (N : Nat) (x : Int × (List Int) × Int) := za9.b0 N x.1 x.2.1 x.2.2
def za9 (N : Nat) (a0 : Int) (a1 : Int) : Option ((List Int)) :=
 if 0 ≤ a1 then (if a1 ≤ a1 then (cond (Nat.ble (a1.toNat * 1) zbr)
  ((zt (za9.r0 N) N (a0, (List.replicate a1.toNat (0 : Int)), (w6 (a1 - 1)))).bind fun y1 => some y1.2.1) none) else none) else none
def za9.k (N : Nat) : Kq := ⟨203, (ctv [.val T6, .val T6] [(Ty.sl (Ty.int .u8))] [] [0] [T6, T6] (za9 N)), go [] {} [(0, .plain { slots := [(0, .val T6), (5, .own 5000005 (Ty.int .u8)), (6, .val T6)], boxes := [] } [T6, (Ty.sl (Ty.int .u8)), T6] (zt (za9.r0 N) N))] Proofs.Tryz.func203 (hL := ⟨⟨_, _, rfl, by kernel_rfl⟩, trivial⟩)⟩
def zak.b0 (N : Nat) (s0 : List Int) (s3 : List Int) (s4 : Int) : Option (Stp ((List Int) × (List Int) × Int)) :=
 cond (decide (s4 < (s0.length : Int))) ((idx s0 s4).bind fun x1001 => (idx s0 (w6 (s4 + 1))).bind fun x1002 =>
  cond (Nat.ble ((s3.length + ([(orI .u8 (IntKind.wrap .u8 (x1001 * 2 ^ (min (4 : Int).toNat 8))) x1002)] : List Int).length) * 1) zbr)
  (some (.again (s0, (s3 ++ ([(orI .u8 (IntKind.wrap .u8 (x1001 * 2 ^ (min (4 : Int).toNat 8))) x1002)] : List Int)), (w6 (s4 + 2))))) none)
  (some (.leave (s0, s3, s4)))
def zak.r0 (N : Nat) (x : (List Int) × (List Int) × Int) := zak.b0 N x.1 x.2.1 x.2.2
def zak (N : Nat) (a0 : List Int) : Option ByteArray :=
 (zt (zak.r0 N) N (a0, [], 0)).bind fun y1 => some (zds y1.2.1)
def zak.k (N : Nat) : Kq := ⟨204, (cvv [Ty.str] [(Ty.sl (Ty.int .u8))] (zak N)), go [] {lits := [23]} [(0, .plain { slots := [(0, .val (Ty.sl (Ty.int .u8))), (3, .own 5000003 (Ty.int .u8)), (4, .val T6)], boxes := [] } [(Ty.sl (Ty.int .u8)), (Ty.sl (Ty.int .u8)), T6] (zt (zak.r0 N) N))] Proofs.Tryz.func204 (hL := ⟨⟨_, _, rfl, by kernel_rfl⟩, trivial⟩)⟩
def zq.b1 (N : Nat) (s5 : List Int) (s25 : Int) (s26 : Int) (b3 : Value) : Option (Stp ((List Int) × Int × Int × Value)) :=
 cond (decide (s26 < s25)) (if 0 ≤ s26 then (if s26 < (s5.length : Int) then ((s5[s26.toNat]?).bind fun x2001 =>
  if 0 ≤ s26 then (if s26 < (s5.length : Int) then ((s5[s26.toNat]?).bind fun x2002 =>
  some (.again ((s5.set s26.toNat (IntKind.wrap .u8 (x2001 + 240))), s25, (w6 (s26 + 1)), b3))) else none) else none) else none) else none)
  (some (.leave (s5, s25, s26, b3)))
def zq.r1 (N : Nat) (x : (List Int) × Int × Int × Value) := zq.b1 N x.1 x.2.1 x.2.2.1 x.2.2.2
def zq.b3 (N : Nat) (s8 : List Int) (s9 : Int) (s10 : Int) : Option (Stp ((List Int) × Int × Int)) :=
 cond (decide (s9 ≥ 0)) (if 0 ≤ s9 then (if s9 < (s8.length : Int) then ((s8[s9.toNat]?).bind fun x4001 =>
  some (.again ((s8.set s9.toNat (IntKind.wrap .u8 s10)), (w6 (s9 - 1)), (s10.fdiv (2 ^ (min (8 : Int).toNat 64)))))) else none) else none)
  (some (.leave (s8, s9, s10)))
def zq.r3 (N : Nat) (x : (List Int) × Int × Int) := zq.b3 N x.1 x.2.1 x.2.2
def zq (N : Nat) (a0 : DataType) (a1 : Value) : Option ByteArray :=
 (za9 N (if (w6 (0 - a1.N)) > a1.N then (w6 (0 - a1.N)) else a1.N) a0.Length).bind fun r1 => cond (a0.Kind == 2)
  ((zt (zq.r1 N) N (r1, (r1.length : Int), 0, a1)).bind fun y2 => cond (decide (y2.2.2.2.N < 0))
  (if 0 ≤ (w6 ((y2.1.length : Int) - 1)) then (if (w6 ((y2.1.length : Int) - 1)) < (y2.1.length : Int) then ((y2.1[(w6 ((y2.1.length : Int) - 1)).toNat]?).bind fun x3 =>
  if 0 ≤ (w6 ((y2.1.length : Int) - 1)) then (if (w6 ((y2.1.length : Int) - 1)) < (y2.1.length : Int) then ((y2.1[(w6 ((y2.1.length : Int) - 1)).toNat]?).bind fun x4 =>
  some (zds (y2.1.set ((w6 ((y2.1.length : Int) - 1)).toNat) (IntKind.wrap .u8 (x3 - 32))))) else none) else none) else none) else none) (some (zds y2.1)))
  (cond (a0.Kind == 1) (cond (decide (a1.N < 0)) (cond (((r1.length : Int).tmod 2) == 0) (cond (Nat.ble ((([0] : List Int).length + r1.length) * 1) zbr)
  (cond (Nat.ble (((([0] : List Int) ++ r1).length + ([13] : List Int).length) * 1) zbr) ((zak N ((([0] : List Int) ++ r1) ++ ([13] : List Int))).bind fun r5 =>
  some r5) none) none) (cond (Nat.ble ((r1.length + ([13] : List Int).length) * 1) zbr) ((zak N (r1 ++ ([13] : List Int))).bind fun r6 => some r6) none))
  (cond (((r1.length : Int).tmod 2) == 0) (cond (Nat.ble ((([0] : List Int).length + r1.length) * 1) zbr)
  (cond (Nat.ble (((([0] : List Int) ++ r1).length + ([15] : List Int).length) * 1) zbr) ((zak N ((([0] : List Int) ++ r1) ++ ([15] : List Int))).bind fun r7 =>
  some r7) none) none) (cond (Nat.ble ((r1.length + ([15] : List Int).length) * 1) zbr) ((zak N (r1 ++ ([15] : List Int))).bind fun r8 => some r8) none)))
  (cond (a0.Kind == 3) ((zd5 a0).bind fun r9 => if 0 ≤ r9 then (if r9 ≤ r9 then (cond (Nat.ble (r9.toNat * 1) zbr)
  ((zt (zq.r3 N) N ((List.replicate r9.toNat (0 : Int)), (w6 (((List.replicate r9.toNat (0 : Int)).length : Int) - 1)), a1.N)).bind fun y10 =>
  some (zds y10.1)) none) else none) else none) (some a1.S)))
def zq.k (N : Nat) : Kq := ⟨144, (cvv [Ty.str] [Ty.DataType, Ty.Value] (zq N)), go [za9.k N, zak.k N, zd5.k] {lits := [16, 63, 64]} [(1, .plain { slots := [(3, .ptr 3 0), (5, .own 5000005 (Ty.int .u8)), (25, .val T6), (26, .val T6)], boxes := [(3, Ty.Value, [])] } [(Ty.sl (Ty.int .u8)), T6, T6, Ty.Value] (zt (zq.r1 N) N)), (3, .plain { slots := [(8, .own 5000008 (Ty.int .u8)), (9, .val T6), (10, .val T6)], boxes := [] } [(Ty.sl (Ty.int .u8)), T6, T6] (zt (zq.r3 N) N))] Proofs.Tryz.func144 (hL := ⟨⟨_, _, rfl, by kernel_rfl⟩, ⟨_, _, rfl, by kernel_rfl⟩, trivial⟩)⟩
def zb3 (N : Nat) (a0 : DataType) (a1 : Value) : Option (ByteArray × Int) :=
 (zar N a0 a1).bind fun r1 => cond (r1 != 0) (some ((⟨#[]⟩ : ByteArray), r1)) ((zq N a0 a1).bind fun r2 => some (r2, 0))
def zb3.k (N : Nat) : Kq := ⟨89, (cvv [Ty.str, T6] [Ty.DataType, Ty.Value] (zb3 N)), go [zar.k N, zq.k N] {} [] Proofs.Tryz.func89⟩
def za1.b0 (N : Nat) (s0 : ByteArray) (s3 : Int) (s6 : Int) (s7 : Int) : Option (Stp (ByteArray × Int × Int × Int)) :=
 cond (decide (s7 < s6)) ((zgd s0 s7).bind fun x1001 => some (.again (s0, (orI .i64 (w6 (s3 * 2 ^ (min (8 : Int).toNat 64)))
  (w6 (x1001.toNat : Int))), s6, (w6 (s7 + 1))))) (some (.leave (s0, s3, s6, s7)))
def za1.r0 (N : Nat) (x : ByteArray × Int × Int × Int) := za1.b0 N x.1 x.2.1 x.2.2.1 x.2.2.2
def za1 (N : Nat) (a0 : ByteArray) : Option Int :=
 (zt (za1.r0 N) N (a0, 0, (a0.size : Int), 0)).bind fun y1 => some y1.2.1
def za1.k (N : Nat) : Kq := ⟨207, (cvv [T6] [Ty.str] (za1 N)), go [] {} [(0, .plain { slots := [(0, .val Ty.str), (3, .val T6), (6, .val T6), (7, .val T6)], boxes := [] } [Ty.str, T6, T6, T6] (zt (za1.r0 N) N))] Proofs.Tryz.func207 (hL := ⟨⟨_, _, rfl, by kernel_rfl⟩, trivial⟩)⟩
def zcd (a0 : Pointer) : Option Int :=
 (zct a0.Kind 0 2).bind fun r1 => cond (!r1) (some 4) (((zct a0.Address.zU 0 1099511627775).bind fun r2 => cond (!r2) (some (!r2))
  ((zct a0.Address.Offset 0 16777215).bind fun r3 => cond (!r3) (some (!r3)) ((zct a0.Authority 0 1023).bind fun r4 => some (!r4)))).bind fun q5 =>
  cond q5 (some 3) ((cond (a0.Authority != 0) (some (a0.Kind != 1)) (some false)).bind fun g6 => cond g6 (some 5) (some 0)))
def zcd.k : Kq := ⟨208, (cvv [T6] [Ty.Pointer] zcd), go [zct.k] {bj := [8]} [] Proofs.Tryz.func208⟩
def zdd (N : Nat) (a0 : ByteArray) : Option (Pointer × Int) :=
 cond ((a0.size : Int) != 16) (some ((⟨0, (⟨0, 0⟩ : Address), 0⟩ : Pointer), 18)) ((zgd a0 1).bind fun x1 => cond ((x1.toNat : Int) != 0)
  (some ((⟨0, (⟨0, 0⟩ : Address), 0⟩ : Pointer), 5)) ((zgd a0 0).bind fun x2 =>
  if 0 ≤ (4 : Int) ∧ (4 : Int) ≤ (a0.size : Int) then (if 0 ≤ (2 : Int) ∧ (2 : Int) ≤ (4 : Int) then ((za1 N (a0.extract (2 : Int).toNat (4 : Int).toNat)).bind fun r3 =>
  if 0 ≤ (10 : Int) ∧ (10 : Int) ≤ (a0.size : Int) then (if 0 ≤ (4 : Int) ∧ (4 : Int) ≤ (10 : Int) then ((za1 N (a0.extract (4 : Int).toNat (10 : Int).toNat)).bind fun r4 =>
  if 0 ≤ (10 : Int) ∧ (10 : Int) ≤ (a0.size : Int) then ((za1 N (a0.extract (10 : Int).toNat a0.size)).bind fun r5 =>
  (zcd (⟨(w6 (x2.toNat : Int)), (⟨r4, r5⟩ : Address), r3⟩ : Pointer)).bind fun r6 => cond (r6 != 0)
  (some ((⟨0, (⟨0, 0⟩ : Address), 0⟩ : Pointer), r6))
  (some ((⟨(w6 (x2.toNat : Int)), (⟨r4, r5⟩ : Address), r3⟩ : Pointer), 0))) else none) else none) else none) else none) else none))
def zdd.k (N : Nat) : Kq := ⟨147, (cvv [Ty.Pointer, T6] [Ty.str] (zdd N)), go [za1.k N, zcd.k] {} [] Proofs.Tryz.func147⟩
def zx.b1 (N : Nat) (s27 : List Bool) (s28 : Int) (s29 : Int) (b1 : Storage) : Option (Round (Int × Int) ((List Bool) × Int × Int × Storage)) :=
 cond (decide (s29 < s28)) ((idx s27 s29).bind fun x2001 => cond (!x2001) (some (.again (s27, s28, (w6 (s29 + 1)), b1)))
  (if 0 ≤ (w6 ((w6 (s29 * 16)) + 16)) ∧ (w6 ((w6 (s29 * 16)) + 16)) ≤ (b1.Bytes.size : Int) then (if 0 ≤ (w6 (s29 * 16)) ∧ (w6 (s29 * 16)) ≤ (w6 ((w6 (s29 * 16)) + 16)) then ((zdd N (b1.Bytes.extract (w6 (s29 * 16)).toNat (w6 ((w6 (s29 * 16)) + 16)).toNat)).bind fun r2002 =>
  cond (r2002.2 != 0) (some (.result (s29, 22))) (some (.again (s27, s28, (w6 (s29 + 1)), b1)))) else none) else none)) (some (.leave (s27, s28, s29, b1)))
def zx.r1 (N : Nat) (x : (List Bool) × Int × Int × Storage) := zx.b1 N x.1 x.2.1 x.2.2.1 x.2.2.2
def zx (N : Nat) (a0 : Storage) : Option (Int × Int) :=
 cond (decide ((a0.Bytes.size : Int) > 1024)) (some (0, 2)) (cond (((a0.Bytes.size : Int).tmod 16) != 0) (some (0, 18))
  (cond ((a0.Tags.length : Int) != (w6 ((a0.Bytes.size : Int).tdiv 16))) (some (0, 6))
  ((zr (zx.r1 N) N (a0.Tags, (a0.Tags.length : Int), 0, a0)).bind fun z2 => zda z2 (fun z => some z) (fun y1 => some ((y1.2.2.2.Tags.length : Int), 0)))))
def zx.k (N : Nat) : Kq := ⟨93, (cvv [T6, T6] [Ty.Storage] (zx N)), go [zdd.k N] {} [(1, .rets { slots := [(1, .ptr 1 0), (27, .val (Ty.sl Ty.bool)), (28, .val T6), (29, .val T6)], boxes := [(1, Ty.Storage, [])] } [(Ty.sl Ty.bool), T6, T6, Ty.Storage] (zr (zx.r1 N) N))] Proofs.Tryz.func93 (hL := ⟨⟨_, _, rfl, by kernel_rfl⟩, trivial⟩)⟩
def zhj (N : Nat) (a0 : Storage) (a1 : Int) (a2 : Int) : Option Int :=
 (zx N a0).bind fun r1 => cond (r1.2 != 0) (some r1.2) ((cond (decide (a1 < 0)) (some true) (some (decide (a2 < 0)))).bind fun g2 => (cond g2 (some true)
  (some (decide (a1 > (a0.Bytes.size : Int))))).bind fun g3 => (cond g3 (some true) (some (decide (a2 > (w6 ((a0.Bytes.size : Int) - a1)))))).bind fun g4 =>
  cond g4 (some 3) (some 0))
def zhj.k (N : Nat) : Kq := ⟨145, (cvv [T6] [Ty.Storage, T6, T6] (zhj N)), go [zx.k N] {} [] Proofs.Tryz.func145⟩
def ztw : Ct U := { params := [.val (Ty.sl Ty.bool)], results := [(Ty.sl Ty.bool)], outs := [], fresh := [0], fn := app U [(Ty.sl Ty.bool)] (R := PT U [(Ty.sl Ty.bool)]) (ziv 1) }
theorem ztw.meets : zga (zpe [] [] [] [] [] [] [] []) 206 ztw :=
 zn1 ztr (ztg (l := []) rfl zc3) (zsy (l := []) rfl zc3) (Lp := pick []) Proofs.Tryz.func206 (by kernel_rfl) (zth (l := []) rfl zc3) (fun y => by kernel_rfl) (e := 4) (t := Ty.bool) rfl rfl rfl rfl rfl rfl rfl (by kernel_rfl) rfl rfl rfl rfl rfl rfl (fun xs => by kernel_rfl) fun ds y h => by
  obtain ⟨xs, rfl, hx⟩ := zw5 h; refine ⟨xs, rfl, fun b hb => ?_⟩; cases b with
  | true =>
   have := hb rfl; subst this; exact Eq.trans (by kernel_rfl) hx
  | false => exact Eq.trans (b := cond (Nat.ble ((0 + xs.length) * 1) zbr) (some xs) none) (by kernel_rfl) (by rw [Nat.zero_add]; exact hx)
def ztw.k : Kq := ⟨206, ztw, ztw.meets⟩
def zgh (a0 : Storage) (a1 : Int) (a2 : ByteArray) : Option Storage :=
 if 0 ≤ a1 ∧ a1 ≤ (a0.Bytes.size : Int) then (if 0 ≤ (0 : Int) ∧ (0 : Int) ≤ a1 then (if (((a0.Bytes.extract (0 : Int).toNat a1.toNat).size + a2.size : Nat) : Int) > IntKind.i64.max then none else if 0 ≤ (w6 (a1 + (a2.size : Int))) ∧ (w6 (a1 + (a2.size : Int))) ≤ (a0.Bytes.size : Int) then (if ((((a0.Bytes.extract (0 : Int).toNat a1.toNat) ++ a2).size + (a0.Bytes.extract (w6 (a1 + (a2.size : Int))).toNat a0.Bytes.size).size : Nat) : Int) > IntKind.i64.max then none else (ziv 1 a0.Tags).bind fun r1 =>
  cond (!(a2.toList == (⟨#[]⟩ : ByteArray).toList))
  (if 0 ≤ (w6 ((w6 ((w6 ((w6 (a1 + (a2.size : Int))) - 1)).tdiv 16)) + 1)) ∧ (w6 ((w6 ((w6 ((w6 (a1 + (a2.size : Int))) - 1)).tdiv 16)) + 1)) ≤ (r1.length : Int) then (if 0 ≤ (w6 (a1.tdiv 16)) ∧ (w6 (a1.tdiv 16)) ≤ (w6 ((w6 ((w6 ((w6 (a1 + (a2.size : Int))) - 1)).tdiv 16)) + 1)) then (some (⟨(((a0.Bytes.extract (0 : Int).toNat a1.toNat) ++ a2) ++ (a0.Bytes.extract (w6 (a1 + (a2.size : Int))).toNat a0.Bytes.size)), (r1.take ((w6 (a1.tdiv 16)).toNat) ++ List.replicate ((w6 ((w6 ((w6 ((w6 (a1 + (a2.size : Int))) - 1)).tdiv 16)) + 1)).toNat - (w6 (a1.tdiv 16)).toNat)
  (false : Bool) ++ r1.drop ((w6 (a1.tdiv 16)).toNat + ((w6 ((w6 ((w6 ((w6 (a1 + (a2.size : Int))) - 1)).tdiv 16)) + 1)).toNat - (w6 (a1.tdiv 16)).toNat)))⟩ : Storage)) else none) else none)
  (some (⟨(((a0.Bytes.extract (0 : Int).toNat a1.toNat) ++ a2) ++ (a0.Bytes.extract (w6 (a1 + (a2.size : Int))).toNat a0.Bytes.size)), r1⟩ : Storage))) else none) else none) else none
def zgh.k : Kq := ⟨146, (ctv [.val Ty.Storage, .val T6, .val Ty.str] [Ty.Storage] [] [1] [Ty.Storage, T6, Ty.str] zgh), go [ztw.k] {} [] Proofs.Tryz.func146⟩
def zc4 (N : Nat) (a0 : Storage) (a1 : Int) (a2 : ByteArray) : Option (Storage × Int) :=
 (zhj N a0 a1 (a2.size : Int)).bind fun r1 => cond (r1 != 0) (some ((⟨(⟨#[]⟩ : ByteArray), []⟩ : Storage), r1)) ((zgh a0 a1 a2).bind fun r2 => some (r2, 0))
def zc4.k (N : Nat) : Kq := ⟨90, (cvv [Ty.Storage, T6] [Ty.Storage, T6, Ty.str] (zc4 N)), go [zhj.k N, zgh.k] {lits := [12]} [] Proofs.Tryz.func90⟩
def zbh.b0 (N : Nat) (s5 : List Int) (s8 : Int) (s31 : List zF) (s32 : Int) (s33 : Int) (b2 : Storage) (b7 : Storage) : Option (Round (Storage × Int) ((List Int) × Int × (List zF) × Int × Int × Storage × Storage)) :=
 cond (decide (s33 < s32)) ((idx s31 s33).bind fun x1001 => (cond (x1001.Kind != 0) (some true) (some (s8 != 0))).bind fun g1002 =>
  cond g1002 (some (.again (s5, s8, s31, s32, (w6 (s33 + 1)), b2, b7))) ((zb3 N x1001.zJ x1001.Value).bind fun r1003 => cond (r1003.2 != 0)
  (some (.result ((⟨(⟨#[]⟩ : ByteArray), []⟩ : Storage), r1003.2))) ((idx s5 s33).bind fun x1004 => (zc4 N b7 x1004 r1003.1).bind fun r1005 =>
  some (.again (s5, r1005.2, s31, s32, (w6 (s33 + 1)), b2, r1005.1))))) (some (.leave (s5, s8, s31, s32, s33, b2, b7)))
def zbh.r0 (N : Nat) (x : (List Int) × Int × (List zF) × Int × Int × Storage × Storage) := zbh.b0 N x.1 x.2.1 x.2.2.1 x.2.2.2.1 x.2.2.2.2.1 x.2.2.2.2.2.1 x.2.2.2.2.2.2
def zbh (N : Nat) (a0 : zB) : Option (Storage × Int) :=
 (zee N a0).bind fun r1 => cond (r1 != 0) (some ((⟨(⟨#[]⟩ : ByteArray), []⟩ : Storage), r1)) ((ze N a0.zA).bind fun r2 =>
  (zgw r2.2).bind fun r3 =>
  (zr (zbh.r0 N) N (r2.1, r3.2, a0.zA, (a0.zA.length : Int), 0, (⟨(⟨#[]⟩ : ByteArray), []⟩ : Storage), r3.1)).bind fun z5 => zda z5 (fun z =>
  some z) (fun y4 => some (y4.2.2.2.2.2.2, y4.2.1)))
def zbh.k (N : Nat) : Kq := ⟨50, (cvv [Ty.Storage, T6] [Ty.zB] (zbh N)), go [zee.k N, ze.k N, zgw.k, zb3.k N, zc4.k N] {} [(0, .rets { slots := [(2, .ptr 2 0), (5, .val (Ty.sl T6)), (7, .ptr 7 0), (8, .val T6), (31, .val (Ty.sl Ty.zF)), (32, .val T6), (33, .val T6)], boxes := [(2, Ty.Storage, [1]), (7, Ty.Storage, [])] } [(Ty.sl T6), T6, (Ty.sl Ty.zF), T6, T6, Ty.Storage, Ty.Storage] (zr (zbh.r0 N) N))] Proofs.Tryz.func50 (hL := ⟨⟨_, _, rfl, by kernel_rfl⟩, trivial⟩)⟩
def zhy (N : Nat) (a0 : zB) : Option (zD × Int) :=
 (zbh N a0).bind fun r1 => cond (r1.2 != 0) (some ((⟨(⟨(⟨#[]⟩ : ByteArray), []⟩ : Storage), 0, [], [], 0, 0, 0⟩ : zD), r1.2))
  (some ((⟨r1.1, 0, [], [], 0, 0, 0⟩ : zD), 0))
def zhy.k (N : Nat) : Kq := ⟨22, (cvv [Ty.zD, T6] [Ty.zB] (zhy N)), go [zbh.k N] {} [] Proofs.Tryz.func22⟩
def zik (N : Nat) (a0 : zB) : Option ((List Int) × Int × Int) :=
 (zee N a0).bind fun r1 => cond (r1 != 0) (some ([], 0, r1)) ((ze N a0.zA).bind fun r2 => some (r2.1, r2.2, 0))
def zik.k (N : Nat) : Kq := ⟨64, (cvv [(Ty.sl T6), T6, T6] [Ty.zB] (zik N)), go [zee.k N, ze.k N] {} [] Proofs.Tryz.func64⟩
def zf6 (a0 : zD) (a1 : zD) : Option zD :=
 some a0
def zf6.k : Kq := ⟨69, (ctv [.val Ty.zD, .ptr Ty.zD true []] [] [Ty.zD] [] [Ty.zD, Ty.zD] zf6), go [] {pk := [1000000]} [] Proofs.Tryz.func69⟩
def zce (a0 : zF) : Option Bool :=
 some (a0.zJ.Kind != 0)
def zce.k : Kq := ⟨115, (cvv [Ty.bool] [Ty.zF] zce), go [] {} [] Proofs.Tryz.func115⟩
def zcj (a0 : zF) (a1 : zF) : Option Bool :=
 some (a0.Name.toList == a1.Base.toList)
def zcj.k : Kq := ⟨173, (ctv [.val Ty.zF, .ptr Ty.zF false []] [Ty.bool] [] [] [Ty.zF, Ty.zF] zcj), go [] {ro := [1000000], pk := [1000000]} [] Proofs.Tryz.func173⟩
def zd.b0 (N : Nat) (s0 : List zF) (s7 : Int) (s8 : Int) (b1000000 : zF) : Option (Round Int ((List zF) × Int × Int × zF)) :=
 cond (decide (s8 < s7)) ((idx s0 s8).bind fun x1001 => (zcj x1001 b1000000).bind fun r1002 => cond r1002 (some (.result s8))
  (some (.again (s0, s7, (w6 (s8 + 1)), b1000000)))) (some (.leave (s0, s7, s8, b1000000)))
def zd.r0 (N : Nat) (x : (List zF) × Int × Int × zF) := zd.b0 N x.1 x.2.1 x.2.2.1 x.2.2.2
def zd (N : Nat) (a0 : List zF) (a1 : zF) : Option Int :=
 (zr (zd.r0 N) N (a0, (a0.length : Int), 0, a1)).bind fun z2 => zda z2 (fun z => some z) (fun y1 => some (-1))
def zd.k (N : Nat) : Kq := ⟨172, (ctv [.val (Ty.sl Ty.zF), .clo 173 1, .ptr Ty.zF false []] [T6] [] [] [(Ty.sl Ty.zF), Ty.zF] (zd N)), go [zcj.k] {ro := [1000000], pk := [1000000]} [(0, .rets { slots := [(0, .val (Ty.sl Ty.zF)), (1, .fn 173 [1000000]), (7, .val T6), (8, .val T6)], boxes := [(1000000, Ty.zF, [])] } [(Ty.sl Ty.zF), T6, T6, Ty.zF] (zr (zd.r0 N) N))] Proofs.Tryz.func172 (hL := ⟨⟨_, _, rfl, by kernel_rfl⟩, trivial⟩)⟩
def zf0 (N : Nat) (a0 : Storage) (a1 : Int) : Option Int :=
 (zx N a0).bind fun r1 => cond (r1.2 != 0) (some r1.2) ((cond (decide (a1 < 0)) (some true) (some (decide (a1 ≥ (a0.Bytes.size : Int))))).bind fun g2 =>
  (cond g2 (some true) (some ((a1.tmod 16) != 0))).bind fun g3 => cond g3 (some 3) (some 0))
def zf0.k (N : Nat) : Kq := ⟨148, (cvv [T6] [Ty.Storage, T6] (zf0 N)), go [zx.k N] {} [] Proofs.Tryz.func148⟩
def zed (N : Nat) (a0 : Storage) (a1 : Int) : Option (Pointer × Int) :=
 (zf0 N a0 a1).bind fun r1 => cond (r1 != 0) (some ((⟨0, (⟨0, 0⟩ : Address), 0⟩ : Pointer), r1)) ((idx a0.Tags (w6 (a1.tdiv 16))).bind fun x2 => cond (!x2)
  (some ((⟨0, (⟨0, 0⟩ : Address), 0⟩ : Pointer), 22))
  (if 0 ≤ (w6 (a1 + 16)) ∧ (w6 (a1 + 16)) ≤ (a0.Bytes.size : Int) then (if 0 ≤ a1 ∧ a1 ≤ (w6 (a1 + 16)) then ((zdd N (a0.Bytes.extract a1.toNat (w6 (a1 + 16)).toNat)).bind fun r3 =>
  some (r3.1, r3.2)) else none) else none))
def zed.k (N : Nat) : Kq := ⟨96, (cvv [Ty.Pointer, T6] [Ty.Storage, T6] (zed N)), go [zdd.k N, zf0.k N] {} [] Proofs.Tryz.func96⟩
def zi (a0 : zC) (a1 : Int) : Option zC :=
 cond (a0.raised == 0) (some (⟨a0.zB, a0.zD, a0.layout, a1⟩ : zC)) (some a0)
def zi.k : Kq := ⟨175, (ctv [.ptr Ty.zC true [], .val T6] [] [Ty.zC] [] [Ty.zC, T6] zi), go [] {pk := [1000000]} [] Proofs.Tryz.func175⟩
def zao (N : Nat) (a0 : zC) (a1 : Int) : Option (Pointer × Int × zC) :=
 (idx a0.layout a1).bind fun x1 => (zed N a0.zD.Storage x1).bind fun r2 => cond (r2.2 != 0) ((zi a0 4).bind fun r3 => some (r2.1, x1, r3))
  (some (r2.1, x1, a0))
def zao.k (N : Nat) : Kq := ⟨174, (ctv [.ptr Ty.zC true [], .val T6] [Ty.Pointer, T6] [Ty.zC] [] [Ty.zC, T6] (zao N)), go [zed.k N, zi.k] {pk := [1000000]} [] Proofs.Tryz.func174⟩
def zci (N : Nat) (a0 : zF) : Option Int :=
 (zeh N a0.zJ).bind fun r1 => some r1.1
def zci.k (N : Nat) : Kq := ⟨114, (cvv [T6] [Ty.zF] (zci N)), go [zeh.k N] {} [] Proofs.Tryz.func114⟩
def zad (N : Nat) (a0 : zC) (a1 : Int) : Option (Int × zC) :=
 (idx a0.zB.zA a1).bind fun x1 => cond (x1.Kind != 2) ((idx a0.layout a1).bind fun x2 => some (x2, a0))
  ((zd N a0.zB.zA x1).bind fun r3 => (zao N a0 r3).bind fun r4 => (cond (r4.2.2.raised == 0)
  ((zci N x1).bind fun r5 => some (decide ((w6 (r4.1.Address.Offset + x1.Offset)) > (w6 ((r4.2.2.zD.Storage.Bytes.size : Int) - r5)))))
  (some false)).bind fun g6 => cond g6 ((zi r4.2.2 5).bind fun r7 => some ((w6 (r4.1.Address.Offset + x1.Offset)), r7))
  (some ((w6 (r4.1.Address.Offset + x1.Offset)), r4.2.2)))
def zad.k (N : Nat) : Kq := ⟨113, (ctv [.ptr Ty.zC true [], .val T6] [T6] [Ty.zC] [] [Ty.zC, T6] (zad N)), go [zci.k N, zd.k N, zao.k N, zi.k] {pk := [1000000]} [] Proofs.Tryz.func113⟩
def zan (N : Nat) (a0 : zC) (a1 : Int) : Option (ByteArray × zC) :=
 (idx a0.zB.zA a1).bind fun x1 => cond (x1.Kind == 4) ((zb3 N x1.zJ x1.Value).bind fun r2 => some (r2.1, a0))
  ((zad N a0 a1).bind fun r3 => cond (r3.2.raised != 0) (some ((⟨#[]⟩ : ByteArray), r3.2)) ((zci N x1).bind fun r4 =>
  if 0 ≤ (w6 (r3.1 + r4)) ∧ (w6 (r3.1 + r4)) ≤ (r3.2.zD.Storage.Bytes.size : Int) then (if 0 ≤ r3.1 ∧ r3.1 ≤ (w6 (r3.1 + r4)) then (some ((r3.2.zD.Storage.Bytes.extract r3.1.toNat (w6 (r3.1 + r4)).toNat), r3.2)) else none) else none))
def zan.k (N : Nat) : Kq := ⟨71, (ctv [.ptr Ty.zC true [], .val T6] [Ty.str] [Ty.zC] [] [Ty.zC, T6] (zan N)), go [zb3.k N, zad.k N, zci.k N] {pk := [1000000]} [] Proofs.Tryz.func71⟩
def zc1.b0 (N : Nat) (s3 : Int) (s12 : List Int) (s13 : Int) (s14 : Int) : Option (Stp (Int × (List Int) × Int × Int)) :=
 cond (decide (s14 < s13)) (if 0 ≤ s14 then (if s14 < (s12.length : Int) then ((s12[s14.toNat]?).bind fun x1001 =>
  some (.again ((orI .i64 (w6 (s3 * 2 ^ (min (8 : Int).toNat 64))) (w6 x1001)), s12, s13, (w6 (s14 + 1))))) else none) else none)
  (some (.leave (s3, s12, s13, s14)))
def zc1.r0 (N : Nat) (x : Int × (List Int) × Int × Int) := zc1.b0 N x.1 x.2.1 x.2.2.1 x.2.2.2
def zc1 (N : Nat) (a0 : ByteArray) : Option Int :=
 (zgd a0 0).bind fun x1 =>
  if 0 ≤ (1 : Int) ∧ (1 : Int) ≤ (a0.size : Int) then ((zt (zc1.r0 N) N ((w6 (IntKind.wrap .i8 (x1.toNat : Int))), (zd1 (a0.extract (1 : Int).toNat a0.size)), ((zd1 (a0.extract (1 : Int).toNat a0.size)).length : Int), 0)).bind fun y2 =>
  some y2.1) else none
def zc1.k (N : Nat) : Kq := ⟨228, (cvv [T6] [Ty.str] (zc1 N)), go [] {} [(0, .plain { slots := [(3, .val T6), (12, .own 5000012 (Ty.int .u8)), (13, .val T6), (14, .val T6)], boxes := [] } [T6, (Ty.sl (Ty.int .u8)), T6, T6] (zt (zc1.r0 N) N))] Proofs.Tryz.func228 (hL := ⟨⟨_, _, rfl, by kernel_rfl⟩, trivial⟩)⟩
def zdm.b0 (N : Nat) (s1 : ByteArray) (s4 : List Int) (s5 : List Int) (s10 : Int) (s11 : Int) (b2 : DataType) : Option (Stp (ByteArray × (List Int) × (List Int) × Int × Int × DataType)) :=
 cond (decide (s11 < s10)) ((zgd s1 s11).bind fun x1001 => (zgd s1 s11).bind fun x1002 => cond (b2.Kind == 1)
  (cond (Nat.ble ((s4.length + ([((x1001.toNat : Int).fdiv (2 ^ (min (4 : Int).toNat 8))), (zfb .u8 (x1002.toNat : Int) 15)] : List Int).length) * 1) zbr)
  (cond (Nat.ble ((s5.length + ([s11, s11] : List Int).length) * 8) zbr)
  (some (.again (s1, (s4 ++ ([((x1001.toNat : Int).fdiv (2 ^ (min (4 : Int).toNat 8))), (zfb .u8 (x1002.toNat : Int) 15)] : List Int)), (s5 ++ ([s11, s11] : List Int)), s10, (w6 (s11 + 1)), b2))) none) none)
  (cond (Nat.ble ((s4.length + ([(zfb .u8 (x1002.toNat : Int) 15)] : List Int).length) * 1) zbr) (cond (Nat.ble ((s5.length + ([s11] : List Int).length) * 8) zbr)
  (some (.again (s1, (s4 ++ ([(zfb .u8 (x1002.toNat : Int) 15)] : List Int)), (s5 ++ ([s11] : List Int)), s10, (w6 (s11 + 1)), b2))) none) none))
  (some (.leave (s1, s4, s5, s10, s11, b2)))
def zdm.r0 (N : Nat) (x : ByteArray × (List Int) × (List Int) × Int × Int × DataType) := zdm.b0 N x.1 x.2.1 x.2.2.1 x.2.2.2.1 x.2.2.2.2.1 x.2.2.2.2.2
def zdm (N : Nat) (a0 : DataType) (a1 : ByteArray) : Option ((List Int) × (List Int)) :=
 (zt (zdm.r0 N) N (a1, [], [], (a1.size : Int), 0, a0)).bind fun y1 => cond (y1.2.2.2.2.2.Kind == 2)
  ((zgd y1.1 (w6 ((y1.1.size : Int) - 1))).bind fun x2 =>
  cond (Nat.ble ((y1.2.1.length + ([((x2.toNat : Int).fdiv (2 ^ (min (4 : Int).toNat 8)))] : List Int).length) * 1) zbr)
  (cond (Nat.ble ((y1.2.2.1.length + ([(w6 ((y1.1.size : Int) - 1))] : List Int).length) * 8) zbr)
  (some ((y1.2.1 ++ ([((x2.toNat : Int).fdiv (2 ^ (min (4 : Int).toNat 8)))] : List Int)), (y1.2.2.1 ++ ([(w6 ((y1.1.size : Int) - 1))] : List Int)))) none) none)
  (some (y1.2.1, y1.2.2.1))
def zdm.k (N : Nat) : Kq := ⟨258, (cvv [(Ty.sl (Ty.int .u8)), (Ty.sl T6)] [Ty.DataType, Ty.str] (zdm N)), go [] {lits := [24, 28, 37, 42, 55, 61]} [(0, .plain { slots := [(1, .val Ty.str), (2, .ptr 2 0), (4, .own 5000004 (Ty.int .u8)), (5, .own 5000005 T6), (10, .val T6), (11, .val T6)], boxes := [(2, Ty.DataType, [])] } [Ty.str, (Ty.sl (Ty.int .u8)), (Ty.sl T6), T6, T6, Ty.DataType] (zt (zdm.r0 N) N))] Proofs.Tryz.func258 (hL := ⟨⟨_, _, rfl, by kernel_rfl⟩, trivial⟩)⟩
def zcl.b0 (N : Nat) (s7 : List Int) (s8 : List Int) (s9 : Int) (s10 : Int) (s24 : List Int) (s25 : Int) (s26 : Int) (b2 : DataType) : Option (Round (Int × Int × Int) ((List Int) × (List Int) × Int × Int × (List Int) × Int × Int × DataType)) :=
 cond (decide (s26 < s25)) ((idx s24 s26).bind fun x1001 => (cond (decide (x1001 > 9)) (some true) ((cond (decide (x1001 > 0))
  (some (decide (s26 < (w6 (s9 - b2.Length))))) (some false)).bind fun g1002 => some g1002)).bind fun g1003 => cond g1003 ((idx s8 s26).bind fun x1004 =>
  some (.result (0, x1004, 21)))
  (some (.again (s7, s8, s9, (w6 ((w6 (s10 * 10)) + (w6 x1001))), s24, s25, (w6 (s26 + 1)), b2))))
  (some (.leave (s7, s8, s9, s10, s24, s25, s26, b2)))
def zcl.r0 (N : Nat) (x : (List Int) × (List Int) × Int × Int × (List Int) × Int × Int × DataType) := zcl.b0 N x.1 x.2.1 x.2.2.1 x.2.2.2.1 x.2.2.2.2.1 x.2.2.2.2.2.1 x.2.2.2.2.2.2.1 x.2.2.2.2.2.2.2
def zcl (N : Nat) (a0 : DataType) (a1 : ByteArray) : Option (Int × Int × Int) :=
 (zdm N a0 a1).bind fun r1 =>
  if 0 ≤ (w6 ((r1.1.length : Int) - 1)) ∧ (w6 ((r1.1.length : Int) - 1)) ≤ (r1.1.length : Int) then (if 0 ≤ (0 : Int) ∧ (0 : Int) ≤ (w6 ((r1.1.length : Int) - 1)) then ((zr (zcl.r0 N) N (r1.1, r1.2, (w6 ((r1.1.length : Int) - 1)), 0, ((r1.1.take (w6 ((r1.1.length : Int) - 1)).toNat).drop (0 : Int).toNat), (((r1.1.take (w6 ((r1.1.length : Int) - 1)).toNat).drop (0 : Int).toNat).length : Int), 0, a0)).bind fun z3 =>
  zda z3 (fun z => some z) (fun y2 => (idx y2.1 y2.2.2.1).bind fun x4 => cond (decide (x4 < 10)) ((idx y2.2.1 y2.2.2.1).bind fun x5 => some (0, x5, 21))
  ((idx y2.1 y2.2.2.1).bind fun x6 => (cond (x6 == 11) (some true) ((idx y2.1 y2.2.2.1).bind fun x7 => some (x7 == 13))).bind fun g8 =>
  cond g8 (some ((w6 (0 - y2.2.2.2.1)), 0, 0)) (some (y2.2.2.2.1, 0, 0))))) else none) else none
def zcl.k (N : Nat) : Kq := ⟨229, (cvv [T6, T6, T6] [Ty.DataType, Ty.str] (zcl N)), go [zdm.k N] {} [(0, .rets { slots := [(2, .ptr 2 0), (7, .val (Ty.sl (Ty.int .u8))), (8, .val (Ty.sl T6)), (9, .val T6), (10, .val T6), (24, .val (Ty.sl (Ty.int .u8))), (25, .val T6), (26, .val T6)], boxes := [(2, Ty.DataType, [])] } [(Ty.sl (Ty.int .u8)), (Ty.sl T6), T6, T6, (Ty.sl (Ty.int .u8)), T6, T6, Ty.DataType] (zr (zcl.r0 N) N))] Proofs.Tryz.func229 (hL := ⟨⟨_, _, rfl, by kernel_rfl⟩, trivial⟩)⟩
def zim (N : Nat) (a0 : DataType) (a1 : ByteArray) : Option (Value × Int × Int) :=
 (zag N a0).bind fun r1 => (z8 (a0.Kind == 4) 17).bind fun r2 => (zk N ([r1, r2] : List Int)).bind fun r3 => cond (r3 == 0)
  ((zd5 a0).bind fun r4 => (z8 ((a1.size : Int) != r4) 18).bind fun r5 => cond (r5 != 0) (some ((⟨0, (⟨#[]⟩ : ByteArray)⟩ : Value), 0, r5)) (cond (a0.Kind == 0)
  (some ((⟨0, a1⟩ : Value), 0, 0)) (cond (a0.Kind == 3) ((zc1 N a1).bind fun r6 => (zar N a0 (⟨r6, (⟨#[]⟩ : ByteArray)⟩ : Value)).bind fun r7 =>
  cond (r7 != 0) (some ((⟨0, (⟨#[]⟩ : ByteArray)⟩ : Value), 0, r7)) (some ((⟨r6, (⟨#[]⟩ : ByteArray)⟩ : Value), 0, 0))) ((zcl N a0 a1).bind fun r8 =>
  some ((⟨r8.1, (⟨#[]⟩ : ByteArray)⟩ : Value), r8.2.1, r8.2.2))))) (cond (r3 != 0) (some ((⟨0, (⟨#[]⟩ : ByteArray)⟩ : Value), 0, r3)) (cond (a0.Kind == 0)
  (some ((⟨0, a1⟩ : Value), 0, 0)) (cond (a0.Kind == 3) ((zc1 N a1).bind fun r9 => (zar N a0 (⟨r9, (⟨#[]⟩ : ByteArray)⟩ : Value)).bind fun r10 =>
  cond (r10 != 0) (some ((⟨0, (⟨#[]⟩ : ByteArray)⟩ : Value), 0, r10)) (some ((⟨r9, (⟨#[]⟩ : ByteArray)⟩ : Value), 0, 0))) ((zcl N a0 a1).bind fun r11 =>
  some ((⟨r11.1, (⟨#[]⟩ : ByteArray)⟩ : Value), r11.2.1, r11.2.2)))))
def zim.k (N : Nat) : Kq := ⟨179, (cvv [Ty.Value, T6, T6] [Ty.DataType, Ty.str] (zim N)), go [zar.k N, zag.k N, zk.k N, z8.k, zd5.k, zc1.k N, zcl.k N] {lits := [13, 17, 18]} [] Proofs.Tryz.func179⟩
def zn (N : Nat) (a0 : zC) (a1 : Int) : Option (Number × zC) :=
 (zan N a0 a1).bind fun r1 => cond (r1.2.raised != 0) (some ((⟨0, 0⟩ : Number), r1.2)) ((idx r1.2.zB.zA a1).bind fun x2 =>
  (zim N x2.zJ r1.1).bind fun r3 => cond (r3.2.2 != 0) ((zi r1.2 1).bind fun r4 => some ((⟨0, 0⟩ : Number), r4))
  (some ((⟨r3.1.N, x2.zJ.Scale⟩ : Number), r1.2)))
def zn.k (N : Nat) : Kq := ⟨117, (ctv [.ptr Ty.zC true [], .val T6] [Ty.Number] [Ty.zC] [] [Ty.zC, T6] (zn N)), go [zan.k N, zi.k, zim.k N] {pk := [1000000]} [] Proofs.Tryz.func117⟩
def za2 (a0 : Number) : Option Int :=
 (zcf a0.N (-999999999999999) 999999999999999).bind fun r1 => (cond (!r1) (some true) ((zcf a0.Scale 0 15).bind fun r2 => some (!r2))).bind fun g3 =>
  (z8 g3 3).bind fun r4 => some r4
def za2.k : Kq := ⟨177, (cvv [T6] [Ty.Number] za2), go [z8.k, zcf.k] {} [] Proofs.Tryz.func177⟩
def zev (a0 : DataType) : Option Bool :=
 (cond (a0.Kind == 1) (some true) (some (a0.Kind == 2))).bind fun g1 => (cond g1 (some true) (some (a0.Kind == 3))).bind fun g2 => some g2
def zev.k : Kq := ⟨216, (cvv [Ty.bool] [Ty.DataType] zev), go [] {} [] Proofs.Tryz.func216⟩
def zbd (a0 : Int) : Option zH :=
 some (⟨a0, 0, 0, 0⟩ : zH)
def zbd.k : Kq := ⟨244, (cvv [Ty.zH] [(Ty.int .u64)] zbd), go [] {} [] Proofs.Tryz.func244⟩
def zbi.b0 (N : Nat) (s1 : Int) (s6 : Int) (s12 : Int) (b2 : zH) (b4 : zH) (b5 : zH) : Option (Stp (Int × Int × Int × zH × zH × zH)) :=
 cond (decide (s12 < 4)) (if 0 ≤ s12 then (if s12 < 4 then ((zdy (zae [b2.e0, b2.e1, b2.e2, b2.e3] s12.toNat) s1).bind fun r1001 =>
  if 0 ≤ s12 then (if s12 < 4 then (some (.again (s1, (IntKind.wrap .u64 (r1001.1 + (((r1001.2.toNat + s6.toNat + (0 : Int).toNat) / 2 ^ 64 : Nat) : Int))), (w6 (s12 + 1)), b2, b4, (⟨(if s12.toNat = 0 then (((r1001.2.toNat + s6.toNat + (0 : Int).toNat) % 2 ^ 64 : Nat) : Int) else b5.e0), (if s12.toNat = 1 then (((r1001.2.toNat + s6.toNat + (0 : Int).toNat) % 2 ^ 64 : Nat) : Int) else b5.e1), (if s12.toNat = 2 then (((r1001.2.toNat + s6.toNat + (0 : Int).toNat) % 2 ^ 64 : Nat) : Int) else b5.e2), (if s12.toNat = 3 then (((r1001.2.toNat + s6.toNat + (0 : Int).toNat) % 2 ^ 64 : Nat) : Int) else b5.e3)⟩ : zH)))) else none) else none) else none) else none)
  (some (.leave (s1, s6, s12, b2, b4, b5)))
def zbi.r0 (N : Nat) (x : Int × Int × Int × zH × zH × zH) := zbi.b0 N x.1 x.2.1 x.2.2.1 x.2.2.2.1 x.2.2.2.2.1 x.2.2.2.2.2
def zbi (N : Nat) (a0 : zH) (a1 : Int) : Option zH :=
 (zt (zbi.r0 N) N (a1, 0, 0, a0, (⟨0, 0, 0, 0⟩ : zH), (⟨0, 0, 0, 0⟩ : zH))).bind fun y1 => some y1.2.2.2.2.2
def zbi.k (N : Nat) : Kq := ⟨266, (cvv [Ty.zH] [Ty.zH, (Ty.int .u64)] (zbi N)), go [zdy.k] {X := [(268, 0)]} [(0, .plain { slots := [(1, .val (Ty.int .u64)), (2, .ptr 2 0), (4, .ptr 4 0), (5, .ptr 5 0), (6, .val (Ty.int .u64)), (12, .val T6)], boxes := [(2, Ty.zH, []), (4, Ty.zH, []), (5, Ty.zH, [])] } [(Ty.int .u64), (Ty.int .u64), T6, Ty.zH, Ty.zH, Ty.zH] (zt (zbi.r0 N) N))] Proofs.Tryz.func266 (hL := ⟨⟨_, _, rfl, by kernel_rfl⟩, trivial⟩) (hX := all_cons (z2c) (zc3))⟩
def zl.b0 (N : Nat) (s5 : Int) (s6 : Int) (b2 : zH) (b4 : zH) : Option (Stp (Int × Int × zH × zH)) :=
 cond (decide (s6 < s5)) ((zbi N b2 10).bind fun r1001 => some (.again (s5, (w6 (s6 + 1)), r1001, b4))) (some (.leave (s5, s6, b2, b4)))
def zl.r0 (N : Nat) (x : Int × Int × zH × zH) := zl.b0 N x.1 x.2.1 x.2.2.1 x.2.2.2
def zl (N : Nat) (a0 : zH) (a1 : Int) : Option zH :=
 (zt (zl.r0 N) N (a1, 0, a0, (⟨0, 0, 0, 0⟩ : zH))).bind fun y1 => some y1.2.2.1
def zl.k (N : Nat) : Kq := ⟨245, (cvv [Ty.zH] [Ty.zH, T6] (zl N)), go [zbi.k N] {} [(0, .plain { slots := [(2, .ptr 2 0), (4, .ptr 4 0), (5, .val T6), (6, .val T6)], boxes := [(2, Ty.zH, []), (4, Ty.zH, [])] } [T6, T6, Ty.zH, Ty.zH] (zt (zl.r0 N) N))] Proofs.Tryz.func245 (hL := ⟨⟨_, _, rfl, by kernel_rfl⟩, trivial⟩)⟩
def zch (N : Nat) (a0 : Number) (a1 : Int) : Option zH :=
 (zbd (IntKind.wrap .u64 (if (w6 (0 - a0.N)) > a0.N then (w6 (0 - a0.N)) else a0.N))).bind fun r1 =>
  (zl N r1 a1).bind fun r2 => some r2
def zch.k (N : Nat) : Kq := ⟨243, (cvv [Ty.zH] [Ty.Number, T6] (zch N)), go [zbd.k, zl.k N] {lits := [12]} [] Proofs.Tryz.func243⟩
def zl3 (N : Nat) (a0 : Number) : Option zN :=
 (zch N a0 0).bind fun r1 => (zbd 1).bind fun r2 => (zl N r2 a0.Scale).bind fun r3 => some (⟨(decide (a0.N < 0)), r1, r3⟩ : zN)
def zl3.k (N : Nat) : Kq := ⟨217, (cvv [Ty.zN] [Ty.Number] (zl3 N)), go [zch.k N, zbd.k, zl.k N] {lits := [8]} [] Proofs.Tryz.func217⟩
def zay.b0 (N : Nat) (s6 : Int) (s8 : Int) (b2 : zH) (b3 : zH) (b4 : zH) (b5 : zH) : Option (Stp (Int × Int × zH × zH × zH × zH)) :=
 cond (decide (s8 < 4))
  (if 0 ≤ s8 then (if s8 < 4 then (if 0 ≤ s8 then (if s8 < 4 then (if s6.toNat > 1 then none else if 0 ≤ s8 then (if s8 < 4 then (some (.again (((((zae [b2.e0, b2.e1, b2.e2, b2.e3] s8.toNat).toNat + (zae [b3.e0, b3.e1, b3.e2, b3.e3] s8.toNat).toNat + s6.toNat) / 2 ^ 64 : Nat) : Int), (w6 (s8 + 1)), b2, b3, b4, (⟨(if s8.toNat = 0 then ((((zae [b2.e0, b2.e1, b2.e2, b2.e3] s8.toNat).toNat + (zae [b3.e0, b3.e1, b3.e2, b3.e3] s8.toNat).toNat + s6.toNat) % 2 ^ 64 : Nat) : Int) else b5.e0), (if s8.toNat = 1 then ((((zae [b2.e0, b2.e1, b2.e2, b2.e3] s8.toNat).toNat + (zae [b3.e0, b3.e1, b3.e2, b3.e3] s8.toNat).toNat + s6.toNat) % 2 ^ 64 : Nat) : Int) else b5.e1), (if s8.toNat = 2 then ((((zae [b2.e0, b2.e1, b2.e2, b2.e3] s8.toNat).toNat + (zae [b3.e0, b3.e1, b3.e2, b3.e3] s8.toNat).toNat + s6.toNat) % 2 ^ 64 : Nat) : Int) else b5.e2), (if s8.toNat = 3 then ((((zae [b2.e0, b2.e1, b2.e2, b2.e3] s8.toNat).toNat + (zae [b3.e0, b3.e1, b3.e2, b3.e3] s8.toNat).toNat + s6.toNat) % 2 ^ 64 : Nat) : Int) else b5.e3)⟩ : zH)))) else none) else none) else none) else none) else none) else none)
  (some (.leave (s6, s8, b2, b3, b4, b5)))
def zay.r0 (N : Nat) (x : Int × Int × zH × zH × zH × zH) := zay.b0 N x.1 x.2.1 x.2.2.1 x.2.2.2.1 x.2.2.2.2.1 x.2.2.2.2.2
def zay (N : Nat) (a0 : zH) (a1 : zH) : Option zH :=
 (zt (zay.r0 N) N (0, 0, a0, a1, (⟨0, 0, 0, 0⟩ : zH), (⟨0, 0, 0, 0⟩ : zH))).bind fun y1 => some y1.2.2.2.2.2
def zay.k (N : Nat) : Kq := ⟨247, (cvv [Ty.zH] [Ty.zH, Ty.zH] (zay N)), go [] {X := [(268, 0)]} [(0, .plain { slots := [(2, .ptr 2 0), (3, .ptr 3 0), (4, .ptr 4 0), (5, .ptr 5 0), (6, .val (Ty.int .u64)), (8, .val T6)], boxes := [(2, Ty.zH, []), (3, Ty.zH, []), (4, Ty.zH, []), (5, Ty.zH, [])] } [(Ty.int .u64), T6, Ty.zH, Ty.zH, Ty.zH, Ty.zH] (zt (zay.r0 N) N))] Proofs.Tryz.func247 (hL := ⟨⟨_, _, rfl, by kernel_rfl⟩, trivial⟩) (hX := all_cons (z2c) (zc3))⟩
def zu.b0 (N : Nat) (s5 : Int) (b2 : zH) (b3 : zH) : Option (Round Int (Int × zH × zH)) :=
 cond (decide (s5 ≥ 0))
  (if 0 ≤ s5 then (if s5 < 4 then (if 0 ≤ s5 then (if s5 < 4 then (cond (decide ((zae [b2.e0, b2.e1, b2.e2, b2.e3] s5.toNat) < (zae [b3.e0, b3.e1, b3.e2, b3.e3] s5.toNat)))
  (some (.result (-1)))
  (if 0 ≤ s5 then (if s5 < 4 then (if 0 ≤ s5 then (if s5 < 4 then (cond (decide ((zae [b2.e0, b2.e1, b2.e2, b2.e3] s5.toNat) > (zae [b3.e0, b3.e1, b3.e2, b3.e3] s5.toNat)))
  (some (.result 1)) (some (.again ((w6 (s5 - 1)), b2, b3)))) else none) else none) else none) else none)) else none) else none) else none) else none)
  (some (.leave (s5, b2, b3)))
def zu.r0 (N : Nat) (x : Int × zH × zH) := zu.b0 N x.1 x.2.1 x.2.2
def zu (N : Nat) (a0 : zH) (a1 : zH) : Option Int :=
 (zr (zu.r0 N) N (3, a0, a1)).bind fun z2 => zda z2 (fun z => some z) (fun y1 => some 0)
def zu.k (N : Nat) : Kq := ⟨240, (cvv [T6] [Ty.zH, Ty.zH] (zu N)), go [] {} [(0, .rets { slots := [(2, .ptr 2 0), (3, .ptr 3 0), (5, .val T6)], boxes := [(2, Ty.zH, []), (3, Ty.zH, [])] } [T6, Ty.zH, Ty.zH] (zr (zu.r0 N) N))] Proofs.Tryz.func240 (hL := ⟨⟨_, _, rfl, by kernel_rfl⟩, trivial⟩)⟩
def zbb.b0 (N : Nat) (s6 : Int) (s8 : Int) (b2 : zH) (b3 : zH) (b4 : zH) (b5 : zH) : Option (Stp (Int × Int × zH × zH × zH × zH)) :=
 cond (decide (s8 < 4))
  (if 0 ≤ s8 then (if s8 < 4 then (if 0 ≤ s8 then (if s8 < 4 then (if s6.toNat > 1 then none else if 0 ≤ s8 then (if s8 < 4 then (some (.again (((if (zae [b2.e0, b2.e1, b2.e2, b2.e3] s8.toNat).toNat < (zae [b3.e0, b3.e1, b3.e2, b3.e3] s8.toNat).toNat + s6.toNat then 1 else 0 : Nat) : Int), (w6 (s8 + 1)), b2, b3, b4, (⟨(if s8.toNat = 0 then ((((zae [b2.e0, b2.e1, b2.e2, b2.e3] s8.toNat).toNat + 2 ^ 64 - (zae [b3.e0, b3.e1, b3.e2, b3.e3] s8.toNat).toNat - s6.toNat) % 2 ^ 64 : Nat) : Int) else b5.e0), (if s8.toNat = 1 then ((((zae [b2.e0, b2.e1, b2.e2, b2.e3] s8.toNat).toNat + 2 ^ 64 - (zae [b3.e0, b3.e1, b3.e2, b3.e3] s8.toNat).toNat - s6.toNat) % 2 ^ 64 : Nat) : Int) else b5.e1), (if s8.toNat = 2 then ((((zae [b2.e0, b2.e1, b2.e2, b2.e3] s8.toNat).toNat + 2 ^ 64 - (zae [b3.e0, b3.e1, b3.e2, b3.e3] s8.toNat).toNat - s6.toNat) % 2 ^ 64 : Nat) : Int) else b5.e2), (if s8.toNat = 3 then ((((zae [b2.e0, b2.e1, b2.e2, b2.e3] s8.toNat).toNat + 2 ^ 64 - (zae [b3.e0, b3.e1, b3.e2, b3.e3] s8.toNat).toNat - s6.toNat) % 2 ^ 64 : Nat) : Int) else b5.e3)⟩ : zH)))) else none) else none) else none) else none) else none) else none)
  (some (.leave (s6, s8, b2, b3, b4, b5)))
def zbb.r0 (N : Nat) (x : Int × Int × zH × zH × zH × zH) := zbb.b0 N x.1 x.2.1 x.2.2.1 x.2.2.2.1 x.2.2.2.2.1 x.2.2.2.2.2
def zbb (N : Nat) (a0 : zH) (a1 : zH) : Option zH :=
 (zt (zbb.r0 N) N (0, 0, a0, a1, (⟨0, 0, 0, 0⟩ : zH), (⟨0, 0, 0, 0⟩ : zH))).bind fun y1 => some y1.2.2.2.2.2
def zbb.k (N : Nat) : Kq := ⟨267, (cvv [Ty.zH] [Ty.zH, Ty.zH] (zbb N)), go [] {X := [(276, 1)]} [(0, .plain { slots := [(2, .ptr 2 0), (3, .ptr 3 0), (4, .ptr 4 0), (5, .ptr 5 0), (6, .val (Ty.int .u64)), (8, .val T6)], boxes := [(2, Ty.zH, []), (3, Ty.zH, []), (4, Ty.zH, []), (5, Ty.zH, [])] } [(Ty.int .u64), T6, Ty.zH, Ty.zH, Ty.zH, Ty.zH] (zt (zbb.r0 N) N))] Proofs.Tryz.func267 (hL := ⟨⟨_, _, rfl, by kernel_rfl⟩, trivial⟩) (hX := all_cons (z4o) (zc3))⟩
def za5.b0 (N : Nat) (s6 : Int) (b2 : zH) (b3 : zH) (b4 : zH) (b5 : zH) : Option (Stp (Int × zH × zH × zH × zH)) :=
 cond (decide (s6 ≥ 0)) ((zay N b5 b5).bind fun r1001 =>
  if 0 ≤ (w6 (s6.tdiv 64)) then (if (w6 (s6.tdiv 64)) < 4 then (if (s6.tmod 64) < 0 then none else (zu N (⟨(if 0 = 0 then (orI .u64 (zae [r1001.e0, r1001.e1, r1001.e2, r1001.e3] 0)
  (zfb .u64 (((zae [b2.e0, b2.e1, b2.e2, b2.e3] ((w6 (s6.tdiv 64)).toNat)) : Int).fdiv (2 ^ (min (s6.tmod 64).toNat 64))) 1)) else r1001.e0), (if 0 = 1 then (orI .u64 (zae [r1001.e0, r1001.e1, r1001.e2, r1001.e3] 0)
  (zfb .u64 (((zae [b2.e0, b2.e1, b2.e2, b2.e3] ((w6 (s6.tdiv 64)).toNat)) : Int).fdiv (2 ^ (min (s6.tmod 64).toNat 64))) 1)) else r1001.e1), (if 0 = 2 then (orI .u64 (zae [r1001.e0, r1001.e1, r1001.e2, r1001.e3] 0)
  (zfb .u64 (((zae [b2.e0, b2.e1, b2.e2, b2.e3] ((w6 (s6.tdiv 64)).toNat)) : Int).fdiv (2 ^ (min (s6.tmod 64).toNat 64))) 1)) else r1001.e2), (if 0 = 3 then (orI .u64 (zae [r1001.e0, r1001.e1, r1001.e2, r1001.e3] 0)
  (zfb .u64 (((zae [b2.e0, b2.e1, b2.e2, b2.e3] ((w6 (s6.tdiv 64)).toNat)) : Int).fdiv (2 ^ (min (s6.tmod 64).toNat 64))) 1)) else r1001.e3)⟩ : zH) b3).bind fun r1002 =>
  cond (decide (r1002 ≥ 0)) ((zbb N (⟨(if 0 = 0 then (orI .u64 (zae [r1001.e0, r1001.e1, r1001.e2, r1001.e3] 0)
  (zfb .u64 (((zae [b2.e0, b2.e1, b2.e2, b2.e3] ((w6 (s6.tdiv 64)).toNat)) : Int).fdiv (2 ^ (min (s6.tmod 64).toNat 64))) 1)) else r1001.e0), (if 0 = 1 then (orI .u64 (zae [r1001.e0, r1001.e1, r1001.e2, r1001.e3] 0)
  (zfb .u64 (((zae [b2.e0, b2.e1, b2.e2, b2.e3] ((w6 (s6.tdiv 64)).toNat)) : Int).fdiv (2 ^ (min (s6.tmod 64).toNat 64))) 1)) else r1001.e1), (if 0 = 2 then (orI .u64 (zae [r1001.e0, r1001.e1, r1001.e2, r1001.e3] 0)
  (zfb .u64 (((zae [b2.e0, b2.e1, b2.e2, b2.e3] ((w6 (s6.tdiv 64)).toNat)) : Int).fdiv (2 ^ (min (s6.tmod 64).toNat 64))) 1)) else r1001.e2), (if 0 = 3 then (orI .u64 (zae [r1001.e0, r1001.e1, r1001.e2, r1001.e3] 0)
  (zfb .u64 (((zae [b2.e0, b2.e1, b2.e2, b2.e3] ((w6 (s6.tdiv 64)).toNat)) : Int).fdiv (2 ^ (min (s6.tmod 64).toNat 64))) 1)) else r1001.e3)⟩ : zH) b3).bind fun r1003 =>
  if 0 ≤ (w6 (s6.tdiv 64)) then (if (w6 (s6.tdiv 64)) < 4 then (if (s6.tmod 64) < 0 then none else if 0 ≤ (w6 (s6.tdiv 64)) then (if (w6 (s6.tdiv 64)) < 4 then (some (.again ((w6 (s6 - 1)), b2, b3, (⟨(if (w6 (s6.tdiv 64)).toNat = 0 then (orI .u64 (zae [b4.e0, b4.e1, b4.e2, b4.e3] ((w6 (s6.tdiv 64)).toNat))
  (IntKind.wrap .u64 (1 * 2 ^ (min (s6.tmod 64).toNat 64)))) else b4.e0), (if (w6 (s6.tdiv 64)).toNat = 1 then (orI .u64 (zae [b4.e0, b4.e1, b4.e2, b4.e3] ((w6 (s6.tdiv 64)).toNat))
  (IntKind.wrap .u64 (1 * 2 ^ (min (s6.tmod 64).toNat 64)))) else b4.e1), (if (w6 (s6.tdiv 64)).toNat = 2 then (orI .u64 (zae [b4.e0, b4.e1, b4.e2, b4.e3] ((w6 (s6.tdiv 64)).toNat))
  (IntKind.wrap .u64 (1 * 2 ^ (min (s6.tmod 64).toNat 64)))) else b4.e2), (if (w6 (s6.tdiv 64)).toNat = 3 then (orI .u64 (zae [b4.e0, b4.e1, b4.e2, b4.e3] ((w6 (s6.tdiv 64)).toNat))
  (IntKind.wrap .u64 (1 * 2 ^ (min (s6.tmod 64).toNat 64)))) else b4.e3)⟩ : zH), r1003))) else none) else none) else none) else none)
  (some (.again ((w6 (s6 - 1)), b2, b3, b4, (⟨(if 0 = 0 then (orI .u64 (zae [r1001.e0, r1001.e1, r1001.e2, r1001.e3] 0)
  (zfb .u64 (((zae [b2.e0, b2.e1, b2.e2, b2.e3] ((w6 (s6.tdiv 64)).toNat)) : Int).fdiv (2 ^ (min (s6.tmod 64).toNat 64))) 1)) else r1001.e0), (if 0 = 1 then (orI .u64 (zae [r1001.e0, r1001.e1, r1001.e2, r1001.e3] 0)
  (zfb .u64 (((zae [b2.e0, b2.e1, b2.e2, b2.e3] ((w6 (s6.tdiv 64)).toNat)) : Int).fdiv (2 ^ (min (s6.tmod 64).toNat 64))) 1)) else r1001.e1), (if 0 = 2 then (orI .u64 (zae [r1001.e0, r1001.e1, r1001.e2, r1001.e3] 0)
  (zfb .u64 (((zae [b2.e0, b2.e1, b2.e2, b2.e3] ((w6 (s6.tdiv 64)).toNat)) : Int).fdiv (2 ^ (min (s6.tmod 64).toNat 64))) 1)) else r1001.e2), (if 0 = 3 then (orI .u64 (zae [r1001.e0, r1001.e1, r1001.e2, r1001.e3] 0)
  (zfb .u64 (((zae [b2.e0, b2.e1, b2.e2, b2.e3] ((w6 (s6.tdiv 64)).toNat)) : Int).fdiv (2 ^ (min (s6.tmod 64).toNat 64))) 1)) else r1001.e3)⟩ : zH))))) else none) else none)
  (some (.leave (s6, b2, b3, b4, b5)))
def za5.r0 (N : Nat) (x : Int × zH × zH × zH × zH) := za5.b0 N x.1 x.2.1 x.2.2.1 x.2.2.2.1 x.2.2.2.2
def za5 (N : Nat) (a0 : zH) (a1 : zH) : Option (zH × zH) :=
 (zt (za5.r0 N) N (255, a0, a1, (⟨0, 0, 0, 0⟩ : zH), (⟨0, 0, 0, 0⟩ : zH))).bind fun y1 => some (y1.2.2.2.1, y1.2.2.2.2)
def za5.k (N : Nat) : Kq := ⟨246, (cvv [Ty.zH, Ty.zH] [Ty.zH, Ty.zH] (za5 N)), go [zu.k N, zay.k N, zbb.k N] {} [(0, .plain { slots := [(2, .ptr 2 0), (3, .ptr 3 0), (4, .ptr 4 0), (5, .ptr 5 0), (6, .val T6)], boxes := [(2, Ty.zH, []), (3, Ty.zH, []), (4, Ty.zH, []), (5, Ty.zH, [])] } [T6, Ty.zH, Ty.zH, Ty.zH, Ty.zH] (zt (za5.r0 N) N))] Proofs.Tryz.func246 (hL := ⟨⟨_, _, rfl, by kernel_rfl⟩, trivial⟩)⟩
def zdn (N : Nat) (a0 : zN) (a1 : DataType) (a2 : Bool) : Option (Value × Int) :=
 (zl N a0.amount a1.Scale).bind fun r1 => (za5 N r1 a0.division).bind fun r2 => (cond a2 ((zay N r2.2 r2.2).bind fun r3 =>
  (zu N r3 a0.division).bind fun r4 => some (decide (r4 ≥ 0))) (some false)).bind fun g5 => cond g5 ((zbd 1).bind fun r6 =>
  (zay N r2.1 r6).bind fun r7 => (zbd 1).bind fun r8 => (zl N r8 a1.Length).bind fun r9 => (zu N r7 r9).bind fun r10 =>
  cond (decide (r10 ≥ 0)) (some ((⟨0, (⟨#[]⟩ : ByteArray)⟩ : Value), 19))
  (cond a0.below (some ((⟨(w6 (0 - (w6 (zae [r7.e0, r7.e1, r7.e2, r7.e3] 0)))), (⟨#[]⟩ : ByteArray)⟩ : Value), 0))
  (some ((⟨(w6 (zae [r7.e0, r7.e1, r7.e2, r7.e3] 0)), (⟨#[]⟩ : ByteArray)⟩ : Value), 0)))) ((zbd 1).bind fun r11 =>
  (zl N r11 a1.Length).bind fun r12 => (zu N r2.1 r12).bind fun r13 => cond (decide (r13 ≥ 0)) (some ((⟨0, (⟨#[]⟩ : ByteArray)⟩ : Value), 19))
  (cond a0.below (some ((⟨(w6 (0 - (w6 (zae [r2.1.e0, r2.1.e1, r2.1.e2, r2.1.e3] 0)))), (⟨#[]⟩ : ByteArray)⟩ : Value), 0))
  (some ((⟨(w6 (zae [r2.1.e0, r2.1.e1, r2.1.e2, r2.1.e3] 0)), (⟨#[]⟩ : ByteArray)⟩ : Value), 0))))
def zdn.k (N : Nat) : Kq := ⟨218, (cvv [Ty.Value, T6] [Ty.zN, Ty.DataType, Ty.bool] (zdn N)), go [zu.k N, zbd.k, zl.k N, za5.k N, zay.k N] {lits := [16, 26, 33, 36, 39]} [] Proofs.Tryz.func218⟩
def zew (N : Nat) (a0 : Number) (a1 : DataType) (a2 : Bool) : Option (Value × Int) :=
 (za2 a0).bind fun r1 => (zag N a1).bind fun r2 => (zev a1).bind fun r3 => (z8 (!r3) 17).bind fun r4 =>
  (zk N ([r1, r2, r4] : List Int)).bind fun r5 => cond (r5 != 0) (some ((⟨0, (⟨#[]⟩ : ByteArray)⟩ : Value), r5)) ((zl3 N a0).bind fun r6 =>
  (zdn N r6 a1 a2).bind fun r7 => some (r7.1, r7.2))
def zew.k (N : Nat) : Kq := ⟨161, (cvv [Ty.Value, T6] [Ty.Number, Ty.DataType, Ty.bool] (zew N)), go [za2.k, zag.k N, zk.k N, z8.k, zev.k, zl3.k N, zdn.k N] {lits := [10, 12, 16, 17, 24]} [] Proofs.Tryz.func161⟩
def zam (N : Nat) (a0 : zC) (a1 : Int) (a2 : ByteArray) : Option zC :=
 (zad N a0 a1).bind fun r1 => cond (r1.2.raised == 0) ((zc4 N r1.2.zD.Storage r1.1 a2).bind fun r2 =>
  some (⟨r1.2.zB, (⟨r2.1, r1.2.zD.At, r1.2.zD.Stack, r1.2.zD.Lines, r1.2.zD.Status, r1.2.zD.Exception, r1.2.zD.Steps⟩ : zD), r1.2.layout, r1.2.raised⟩ : zC))
  (some r1.2)
def zam.k (N : Nat) : Kq := ⟨209, (ctv [.ptr Ty.zC true [], .val T6, .val Ty.str] [] [Ty.zC] [] [Ty.zC, T6, Ty.str] (zam N)), go [zc4.k N, zad.k N] {pk := [1000000]} [] Proofs.Tryz.func209⟩
def zap (N : Nat) (a0 : zC) (a1 : Int) (a2 : Value) (a3 : Int) : Option zC :=
 cond (a3 == 20) ((zi a0 3).bind fun r1 => cond (r1.raised == 0) ((idx r1.zB.zA a1).bind fun x2 => (zb3 N x2.zJ a2).bind fun r3 =>
  (zam N r1 a1 r3.1).bind fun r4 => some r4) (some r1)) (cond (a3 == 19) ((zi a0 2).bind fun r5 => cond (r5.raised == 0)
  ((idx r5.zB.zA a1).bind fun x6 => (zb3 N x6.zJ a2).bind fun r7 => (zam N r5 a1 r7.1).bind fun r8 => some r8) (some r5))
  (cond (a0.raised == 0) ((idx a0.zB.zA a1).bind fun x9 => (zb3 N x9.zJ a2).bind fun r10 => (zam N a0 a1 r10.1).bind fun r11 =>
  some r11) (some a0)))
def zap.k (N : Nat) : Kq := ⟨162, (ctv [.ptr Ty.zC true [], .val T6, .val Ty.Value, .val T6] [] [Ty.zC] [] [Ty.zC, T6, Ty.Value, T6] (zap N)), go [zb3.k N, zi.k, zam.k N] {pk := [1000000]} [] Proofs.Tryz.func162⟩
def zfm (a0 : ByteArray) (a1 : Int) : Option ByteArray :=
 (zn5 (⟨#[32]⟩ : ByteArray) (if 0 > (w6 (a1 - (a0.size : Int))) then 0 else (w6 (a1 - (a0.size : Int))))).bind fun r1 =>
  if ((a0.size + r1.size : Nat) : Int) > IntKind.i64.max then none else some (a0 ++ r1)
def zfm.k : Kq := ⟨210, (cvv [Ty.str] [Ty.str, T6] zfm), go [zp4.k] {lits := [10]} [] Proofs.Tryz.func210⟩
def zff (N : Nat) (a0 : zC) (a1 : Int) (a2 : Int) (a3 : Bool) : Option zC :=
 (idx a0.zB.zA a1).bind fun x1 => (zce x1).bind fun r2 => cond r2 ((zn N a0 a2).bind fun r3 =>
  (zew N r3.1 x1.zJ a3).bind fun r4 => (zap N r3.2 a1 r4.1 r4.2).bind fun r5 => some r5) ((zan N a0 a2).bind fun r6 =>
  (zci N x1).bind fun r7 => (zfm r6.1 r7).bind fun r8 => (zci N x1).bind fun r9 =>
  if 0 ≤ r9 ∧ r9 ≤ (r8.size : Int) then (if 0 ≤ (0 : Int) ∧ (0 : Int) ≤ r9 then ((zam N r6.2 a1 (r8.extract (0 : Int).toNat r9.toNat)).bind fun r10 =>
  some r10) else none) else none)
def zff.k (N : Nat) : Kq := ⟨151, (ctv [.ptr Ty.zC true [], .val T6, .val T6, .val Ty.bool] [] [Ty.zC] [] [Ty.zC, T6, T6, Ty.bool] (zff N)), go [zan.k N, zci.k N, zce.k, zn.k N, zew.k N, zap.k N, zam.k N, zfm.k] {lits := [46], pk := [1000000]} [] Proofs.Tryz.func151⟩
def zkc (a0 : Int) : Option Bool :=
 (zcf a0 0 4).bind fun r1 => some r1
def zkc.k : Kq := ⟨237, (cvv [Ty.bool] [T6] zkc), go [zcf.k] {} [] Proofs.Tryz.func237⟩
def zhx (a0 : Int) : Option Bool :=
 (cond (a0 == 3) (some true) (some (a0 == 4))).bind fun g1 => some g1
def zhx.k : Kq := ⟨261, (cvv [Ty.bool] [T6] zhx), go [] {} [] Proofs.Tryz.func261⟩
def zdx (N : Nat) (a0 : Number) (a1 : Number) : Option (zH × zH × Int) :=
 (zch N a0 (w6 ((if a1.Scale > a0.Scale then a1.Scale else a0.Scale) - a0.Scale))).bind fun r1 =>
  (zch N a1 (w6 ((if a1.Scale > a0.Scale then a1.Scale else a0.Scale) - a1.Scale))).bind fun r2 =>
  some (r1, r2, (if a1.Scale > a0.Scale then a1.Scale else a0.Scale))
def zdx.k (N : Nat) : Kq := ⟨239, (cvv [Ty.zH, Ty.zH, T6] [Ty.Number, Ty.Number] (zdx N)), go [zch.k N] {} [] Proofs.Tryz.func239⟩
def zi0 (N : Nat) (a0 : Number) (a1 : Number) : Option zN :=
 (zdx N a0 a1).bind fun r1 => (zay N r1.1 r1.2.1).bind fun r2 => (zbd 1).bind fun r3 => (zl N r3 r1.2.2).bind fun r4 =>
  cond (!((decide (a0.N < 0)) == (decide (a1.N < 0)))) ((zbb N r1.1 r1.2.1).bind fun r5 => (zu N r1.1 r1.2.1).bind fun r6 => cond (decide (r6 < 0))
  ((zbb N r1.2.1 r1.1).bind fun r7 => some (⟨(decide (a1.N < 0)), r7, r4⟩ : zN)) (some (⟨(decide (a0.N < 0)), r5, r4⟩ : zN)))
  (some (⟨(decide (a0.N < 0)), r2, r4⟩ : zN))
def zi0.k (N : Nat) : Kq := ⟨274, (cvv [Ty.zN] [Ty.Number, Ty.Number] (zi0 N)), go [zdx.k N, zu.k N, zbd.k, zl.k N, zay.k N, zbb.k N] {lits := [22]} [] Proofs.Tryz.func274⟩
def zil (N : Nat) (a0 : Int) (a1 : Number) (a2 : Number) : Option zN :=
 cond (a0 == 0) ((zi0 N a1 a2).bind fun r1 => some r1) (cond (a0 == 1) ((zi0 N a1 (⟨(w6 (0 - a2.N)), a2.Scale⟩ : Number)).bind fun r2 => some r2)
  (cond (a0 == 2) ((zch N a1 0).bind fun r3 =>
  (zbi N r3 (IntKind.wrap .u64 (if (w6 (0 - a2.N)) > a2.N then (w6 (0 - a2.N)) else a2.N))).bind fun r4 =>
  (zbd 1).bind fun r5 => (zl N r5 (w6 (a1.Scale + a2.Scale))).bind fun r6 =>
  some (⟨(!((decide (a1.N < 0)) == (decide (a2.N < 0)))), r4, r6⟩ : zN)) (cond (a0 == 3) ((zch N a1 a2.Scale).bind fun r7 =>
  (zch N a2 a1.Scale).bind fun r8 => some (⟨(!((decide (a1.N < 0)) == (decide (a2.N < 0)))), r7, r8⟩ : zN)) ((zdx N a1 a2).bind fun r9 =>
  (za5 N r9.1 r9.2.1).bind fun r10 => (zbd 1).bind fun r11 => (zl N r11 r9.2.2).bind fun r12 =>
  some (⟨(decide (a1.N < 0)), r10.2, r12⟩ : zN)))))
def zil.k (N : Nat) : Kq := ⟨262, (cvv [Ty.zN] [T6, Ty.Number, Ty.Number] (zil N)), go [zdx.k N, zch.k N, zbd.k, zl.k N, za5.k N, zbi.k N, zi0.k N] {lits := [40, 49, 86]} [] Proofs.Tryz.func262⟩
def zgk (N : Nat) (a0 : Int) (a1 : Number) (a2 : Number) (a3 : DataType) (a4 : Bool) : Option (Value × Int) :=
 (zhx a0).bind fun r1 => (cond r1 (some (a2.N == 0)) (some false)).bind fun g2 => cond g2 (some ((⟨0, (⟨#[]⟩ : ByteArray)⟩ : Value), 20))
  ((zil N a0 a1 a2).bind fun r3 => (zdn N r3 a3 a4).bind fun r4 => some (r4.1, r4.2))
def zgk.k (N : Nat) : Kq := ⟨238, (cvv [Ty.Value, T6] [T6, Ty.Number, Ty.Number, Ty.DataType, Ty.bool] (zgk N)), go [zdn.k N, zhx.k, zil.k N] {lits := [23]} [] Proofs.Tryz.func238⟩
def zgl (N : Nat) (a0 : Int) (a1 : Number) (a2 : Number) (a3 : DataType) (a4 : Bool) : Option (Value × Int) :=
 (zkc a0).bind fun r1 => (z8 (!r1) 4).bind fun r2 => (za2 a1).bind fun r3 => (za2 a2).bind fun r4 =>
  (zag N a3).bind fun r5 => (zev a3).bind fun r6 => (z8 (!r6) 17).bind fun r7 =>
  (zk N ([r2, r3, r4, r5, r7] : List Int)).bind fun r8 => cond (r8 != 0) (some ((⟨0, (⟨#[]⟩ : ByteArray)⟩ : Value), r8))
  ((zgk N a0 a1 a2 a3 a4).bind fun r9 => some (r9.1, r9.2))
def zgl.k (N : Nat) : Kq := ⟨211, (cvv [Ty.Value, T6] [T6, Ty.Number, Ty.Number, Ty.DataType, Ty.bool] (zgl N)), go [za2.k, zag.k N, zk.k N, z8.k, zev.k, zkc.k, zgk.k N] {lits := [16, 18, 20, 22, 26, 27]} [] Proofs.Tryz.func211⟩
def zdz (N : Nat) (a0 : zC) (a1 : Int) (a2 : List Int) : Option zC :=
 (idx a2 1).bind fun x1 => (zn N a0 x1).bind fun r2 => (idx a2 2).bind fun x3 => (zn N r2.2 x3).bind fun r4 => cond (r4.2.raised != 0)
  (some r4.2) ((idx a2 0).bind fun x5 => (idx r4.2.zB.zA x5).bind fun x6 => (zgl N a1 r2.1 r4.1 x6.zJ false).bind fun r7 => (idx a2 0).bind fun x8 =>
  (zap N r4.2 x8 r7.1 r7.2).bind fun r9 => some r9)
def zdz.k (N : Nat) : Kq := ⟨152, (ctv [.ptr Ty.zC true [], .val T6, .val (Ty.sl T6)] [] [Ty.zC] [] [Ty.zC, T6, (Ty.sl T6)] (zdz N)), go [zn.k N, zap.k N, zgl.k N] {pk := [1000000]} [] Proofs.Tryz.func152⟩
def zhg (N : Nat) (a0 : Number) (a1 : Number) : Option (Int × Int) :=
 (za2 a0).bind fun r1 => (za2 a1).bind fun r2 => (zk N ([r1, r2] : List Int)).bind fun r3 => cond (r3 != 0) (some (0, r3))
  ((zdx N a0 a1).bind fun r4 => (cond (decide (a0.N < 0)) (some (decide (a1.N < 0))) (some false)).bind fun g5 =>
  cond g5 ((zu N r4.2.1 r4.1).bind fun r6 => some (r6, 0)) (cond (decide (a0.N < 0)) (some ((-1), 0)) (cond (decide (a1.N < 0)) (some (1, 0))
  ((zu N r4.1 r4.2.1).bind fun r7 => some (r7, 0)))))
def zhg.k (N : Nat) : Kq := ⟨212, (cvv [T6, T6] [Ty.Number, Ty.Number] (zhg N)), go [za2.k, zk.k N, zdx.k N, zu.k N] {lits := [11, 13, 14]} [] Proofs.Tryz.func212⟩
def zc9 (a0 : ByteArray) (a1 : ByteArray) : Option Int :=
 some (Extern.BytealgCompare.cmp a0 a1)
def zc9.k : Kq := ⟨241, (cvv [T6] [Ty.str, Ty.str] zc9), go [] {X := [(263, 2)]} [] Proofs.Tryz.func241 (hX := all_cons (z4p) (zc3))⟩
def zhw (a0 : ByteArray) (a1 : ByteArray) : Option Int :=
 (zc9 a0 a1).bind fun r1 => some r1
def zhw.k : Kq := ⟨213, (cvv [T6] [Ty.str, Ty.str] zhw), go [zc9.k] {} [] Proofs.Tryz.func213⟩
def ze3 (N : Nat) (a0 : zC) (a1 : Int) (a2 : Int) : Option (Int × zC) :=
 (idx a0.zB.zA a1).bind fun x1 => (zce x1).bind fun r2 => cond r2 ((zn N a0 a1).bind fun r3 =>
  (zn N r3.2 a2).bind fun r4 => (zhg N r3.1 r4.1).bind fun r5 => some (r5.1, r4.2)) ((zan N a0 a1).bind fun r6 =>
  (zan N r6.2 a2).bind fun r7 => (zfm r6.1 (r7.1.size : Int)).bind fun r8 => (zfm r7.1 (r6.1.size : Int)).bind fun r9 =>
  (zhw r8 r9).bind fun r10 => some (r10, r7.2))
def ze3.k (N : Nat) : Kq := ⟨153, (ctv [.ptr Ty.zC true [], .val T6, .val T6] [T6] [Ty.zC] [] [Ty.zC, T6, T6] (ze3 N)), go [zan.k N, zce.k, zn.k N, zfm.k, zhg.k N, zhw.k] {lits := [43, 44, 47, 48], pk := [1000000]} [] Proofs.Tryz.func153⟩
def zcq (a0 : zC) (a1 : Int) : Option Int :=
 (idx a0.zB.zA a1).bind fun x1 => some x1.Target
def zcq.k : Kq := ⟨154, (ctv [.ptr Ty.zC false [], .val T6] [T6] [] [] [Ty.zC, T6] zcq), go [] {ro := [1000000], pk := [1000000]} [] Proofs.Tryz.func154⟩
def zdk.b0 (N : Nat) (s0 : Int) (s1 : Int) (s5 : List Int) (s10 : Int) (s11 : Int) : Option (Stp (Int × Int × (List Int) × Int × Int)) :=
 cond (decide (s11 < s10))
  (if (w6 (8 * s11)) < 0 then none else if 0 ≤ (w6 ((w6 (s1 - 1)) - s11)) then (if (w6 ((w6 (s1 - 1)) - s11)) < (s5.length : Int) then ((s5[(w6 ((w6 (s1 - 1)) - s11)).toNat]?).bind fun x1001 =>
  some (.again (s0, s1, (s5.set ((w6 ((w6 (s1 - 1)) - s11)).toNat)
  (IntKind.wrap .u8 ((s0 : Int).fdiv (2 ^ (min (w6 (8 * s11)).toNat 64))))), s10, (w6 (s11 + 1))))) else none) else none)
  (some (.leave (s0, s1, s5, s10, s11)))
def zdk.r0 (N : Nat) (x : Int × Int × (List Int) × Int × Int) := zdk.b0 N x.1 x.2.1 x.2.2.1 x.2.2.2.1 x.2.2.2.2
def zdk (N : Nat) (a0 : Int) (a1 : Int) : Option ((List Int)) :=
 if 0 ≤ a1 then (if a1 ≤ a1 then (cond (Nat.ble (a1.toNat * 1) zbr)
  ((zt (zdk.r0 N) N (a0, a1, (List.replicate a1.toNat (0 : Int)), ((List.replicate a1.toNat (0 : Int)).length : Int), 0)).bind fun y1 =>
  some y1.2.2.1) none) else none) else none
def zdk.k (N : Nat) : Kq := ⟨265, (cvv [(Ty.sl (Ty.int .u8))] [T6, T6] (zdk N)), go [] {} [(0, .plain { slots := [(0, .val T6), (1, .val T6), (5, .own 5000005 (Ty.int .u8)), (10, .val T6), (11, .val T6)], boxes := [] } [T6, T6, (Ty.sl (Ty.int .u8)), T6, T6] (zt (zdk.r0 N) N))] Proofs.Tryz.func265 (hL := ⟨⟨_, _, rfl, by kernel_rfl⟩, trivial⟩)⟩
def zha (a0 : Unit) (a1 : Int) : Option ((List Int)) :=
 cond (decide (a1 < 0)) (none) (cond (decide ((w6 (a1 - 0)) > 0))
  (if 0 ≤ (w6 (a1 - 0)) then (cond (Nat.ble ((w6 (a1 - 0)).toNat * 1) zbr)
  (if 0 ≤ (0 : Int) ∧ (0 : Int) ≤ ((List.replicate (w6 (a1 - 0)).toNat (0 : Int)).length : Int) then (if 0 ≤ (0 : Int) ∧ (0 : Int) ≤ (0 : Int) then (some (((List.replicate (w6 (a1 - 0)).toNat (0 : Int)).drop ((0 : Int).toNat)).take ((0 : Int).toNat - (0 : Int).toNat))) else none) else none) none) else none)
  (some []))
def zha.k : Kq := ⟨275, (ctv [.val Ty.nil, .val T6] [(Ty.sl (Ty.int .u8))] [] [0] [Ty.nil, T6] zha), go [] {} [] Proofs.Tryz.func275⟩
def zaq.b0 (N : Nat) (s0 : List (List Int)) (s3 : Int) (s9 : List (List Int)) (s10 : Int) (s11 : Int) : Option (Stp ((List (List Int)) × Int × (List (List Int)) × Int × Int)) :=
 cond (decide (s11 < s10)) ((idx s9 s11).bind fun x1001 => cond (decide ((w6 (s3 + (x1001.length : Int))) < 0)) (none)
  (some (.again (s0, (w6 (s3 + (x1001.length : Int))), s9, s10, (w6 (s11 + 1)))))) (some (.leave (s0, s3, s9, s10, s11)))
def zaq.r0 (N : Nat) (x : (List (List Int)) × Int × (List (List Int)) × Int × Int) := zaq.b0 N x.1 x.2.1 x.2.2.1 x.2.2.2.1 x.2.2.2.2
def zaq.b2 (N : Nat) (s6 : List Int) (s25 : List (List Int)) (s26 : Int) (s27 : Int) : Option (Stp ((List Int) × (List (List Int)) × Int × Int)) :=
 cond (decide (s27 < s26)) ((idx s25 s27).bind fun x3001 => cond (Nat.ble ((s6.length + x3001.length) * 1) zbr)
  (some (.again ((s6 ++ x3001), s25, s26, (w6 (s27 + 1))))) none) (some (.leave (s6, s25, s26, s27)))
def zaq.r2 (N : Nat) (x : (List Int) × (List (List Int)) × Int × Int) := zaq.b2 N x.1 x.2.1 x.2.2.1 x.2.2.2
def zaq (N : Nat) (a0 : List (List Int)) : Option ((List Int)) :=
 (zt (zaq.r0 N) N (a0, 0, a0, (a0.length : Int), 0)).bind fun y1 => (zha () y1.2.1).bind fun r2 =>
  (zt (zaq.r2 N) N (r2, y1.1, (y1.1.length : Int), 0)).bind fun y3 => some y3.1
def zaq.k (N : Nat) : Kq := ⟨264, (ctv [.val (Ty.sl (Ty.sl (Ty.int .u8)))] [(Ty.sl (Ty.int .u8))] [] [0] [(Ty.sl (Ty.sl (Ty.int .u8)))] (zaq N)), go [zha.k] {} [(0, .plain { slots := [(0, .val (Ty.sl (Ty.sl (Ty.int .u8)))), (3, .val T6), (9, .val (Ty.sl (Ty.sl (Ty.int .u8)))), (10, .val T6), (11, .val T6)], boxes := [] } [(Ty.sl (Ty.sl (Ty.int .u8))), T6, (Ty.sl (Ty.sl (Ty.int .u8))), T6, T6] (zt (zaq.r0 N) N)), (2, .plain { slots := [(6, .own 5000006 (Ty.int .u8)), (25, .val (Ty.sl (Ty.sl (Ty.int .u8)))), (26, .val T6), (27, .val T6)], boxes := [] } [(Ty.sl (Ty.int .u8)), (Ty.sl (Ty.sl (Ty.int .u8))), T6, T6] (zt (zaq.r2 N) N))] Proofs.Tryz.func264 (hL := ⟨⟨_, _, rfl, by kernel_rfl⟩, ⟨_, _, rfl, by kernel_rfl⟩, trivial⟩)⟩
def zih (N : Nat) (a0 : Pointer) : Option ByteArray :=
 (zdk N a0.Kind 1).bind fun r1 => (zdk N 0 1).bind fun r2 => (zdk N a0.Authority 2).bind fun r3 => (zdk N a0.Address.zU 6).bind fun r4 =>
  (zdk N a0.Address.Offset 6).bind fun r5 => (zaq N ([r1, r2, r3, r4, r5] : List (List Int))).bind fun r6 => some (zds r6)
def zih.k (N : Nat) : Kq := ⟨242, (cvv [Ty.str] [Ty.Pointer] (zih N)), go [zaq.k N, zdk.k N] {lits := [5, 6, 9, 13, 17, 18]} [] Proofs.Tryz.func242⟩
def zcc (N : Nat) (a0 : Storage) (a1 : Int) (a2 : Pointer) : Option (Storage × Int) :=
 (zf0 N a0 a1).bind fun r1 => cond (r1 != 0) (some ((⟨(⟨#[]⟩ : ByteArray), []⟩ : Storage), r1)) ((zcd a2).bind fun r2 => cond (r2 != 0)
  (some ((⟨(⟨#[]⟩ : ByteArray), []⟩ : Storage), r2)) ((zih N a2).bind fun r3 => (zgh a0 a1 r3).bind fun r4 =>
  if 0 ≤ (w6 (a1.tdiv 16)) then (if (w6 (a1.tdiv 16)) < (r4.Tags.length : Int) then ((r4.Tags[(w6 (a1.tdiv 16)).toNat]?).bind fun x5 =>
  some ((⟨r4.Bytes, (r4.Tags.set ((w6 (a1.tdiv 16)).toNat) true)⟩ : Storage), 0)) else none) else none))
def zcc.k (N : Nat) : Kq := ⟨214, (cvv [Ty.Storage, T6] [Ty.Storage, T6, Ty.Pointer] (zcc N)), go [zgh.k, zf0.k N, zcd.k, zih.k N] {lits := [27]} [] Proofs.Tryz.func214⟩
def zea (N : Nat) (a0 : zC) (a1 : List Int) : Option zC :=
 (idx a1 1).bind fun x1 => (zad N a0 x1).bind fun r2 => cond (r2.2.raised == 0) ((idx a1 0).bind fun x3 => (idx r2.2.layout x3).bind fun x4 =>
  (zcc N r2.2.zD.Storage x4 (⟨0, (⟨1, r2.1⟩ : Address), 0⟩ : Pointer)).bind fun r5 =>
  some (⟨r2.2.zB, (⟨r5.1, r2.2.zD.At, r2.2.zD.Stack, r2.2.zD.Lines, r2.2.zD.Status, r2.2.zD.Exception, r2.2.zD.Steps⟩ : zD), r2.2.layout, r2.2.raised⟩ : zC))
  (some r2.2)
def zea.k (N : Nat) : Kq := ⟨155, (ctv [.ptr Ty.zC true [], .val (Ty.sl T6)] [] [Ty.zC] [] [Ty.zC, (Ty.sl T6)] (zea N)), go [zad.k N, zcc.k N] {pk := [1000000]} [] Proofs.Tryz.func155⟩
def zdb (N : Nat) (a0 : zC) (a1 : List Int) : Option zC :=
 (idx a1 1).bind fun x1 => (zao N a0 x1).bind fun r2 => cond (r2.2.2.raised == 0) ((idx a1 0).bind fun x3 => (idx r2.2.2.layout x3).bind fun x4 =>
  (zcc N r2.2.2.zD.Storage x4 r2.1).bind fun r5 =>
  some (⟨r2.2.2.zB, (⟨r5.1, r2.2.2.zD.At, r2.2.2.zD.Stack, r2.2.2.zD.Lines, r2.2.2.zD.Status, r2.2.2.zD.Exception, r2.2.2.zD.Steps⟩ : zD), r2.2.2.layout, r2.2.2.raised⟩ : zC))
  (some r2.2.2)
def zdb.k (N : Nat) : Kq := ⟨156, (ctv [.ptr Ty.zC true [], .val (Ty.sl T6)] [] [Ty.zC] [] [Ty.zC, (Ty.sl T6)] (zdb N)), go [zao.k N, zcc.k N] {pk := [1000000]} [] Proofs.Tryz.func156⟩
def zca.b0 (N : Nat) (s4 : Int) (s5 : Int) (b1 : Number) : Option (Stp (Int × Int × Number)) :=
 cond (decide (s5 < s4)) (some (.again (s4, (w6 (s5 + 1)), (⟨(w6 (b1.N.tdiv 10)), b1.Scale⟩ : Number)))) (some (.leave (s4, s5, b1)))
def zca.r0 (N : Nat) (x : Int × Int × Number) := zca.b0 N x.1 x.2.1 x.2.2
def zca (N : Nat) (a0 : Number) : Option Int :=
 (zt (zca.r0 N) N (a0.Scale, 0, a0)).bind fun y1 => some y1.2.2.N
def zca.k (N : Nat) : Kq := ⟨215, (cvv [T6] [Ty.Number] (zca N)), go [] {} [(0, .plain { slots := [(1, .ptr 1 0), (4, .val T6), (5, .val T6)], boxes := [(1, Ty.Number, [])] } [T6, T6, Ty.Number] (zt (zca.r0 N) N))] Proofs.Tryz.func215 (hL := ⟨⟨_, _, rfl, by kernel_rfl⟩, trivial⟩)⟩
def zck (a0 : Int) (a1 : Int) (a2 : Int) : Option Bool :=
 (cond (decide (a1 ≤ a0)) (some (decide (a0 ≤ a2))) (some false)).bind fun g1 => some g1
def zck.k : Kq := ⟨43, (cvv [Ty.bool] [T6, T6, T6] zck), go [] {} [] Proofs.Tryz.func43⟩
def zek (N : Nat) (a0 : zC) (a1 : List Int) : Option zC :=
 (idx a1 0).bind fun x1 => (zao N a0 x1).bind fun r2 => cond (r2.2.2.raised != 0) (some r2.2.2) ((idx a1 1).bind fun x3 =>
  (zn N r2.2.2 x3).bind fun r4 => (zca N r4.1).bind fun r5 => cond (r4.2.raised != 0) (some r4.2)
  ((zck (w6 (r2.1.Address.Offset + r5)) 0 16777215).bind fun r6 => cond (!r6) ((zi r4.2 5).bind fun r7 => some r7)
  ((zcc N r4.2.zD.Storage r2.2.1 (⟨r2.1.Kind, (⟨r2.1.Address.zU, (w6 (r2.1.Address.Offset + r5))⟩ : Address), r2.1.Authority⟩ : Pointer)).bind fun r8 =>
  some (⟨r4.2.zB, (⟨r8.1, r4.2.zD.At, r4.2.zD.Stack, r4.2.zD.Lines, r4.2.zD.Status, r4.2.zD.Exception, r4.2.zD.Steps⟩ : zD), r4.2.layout, r4.2.raised⟩ : zC))))
def zek.k (N : Nat) : Kq := ⟨157, (ctv [.ptr Ty.zC true [], .val (Ty.sl T6)] [] [Ty.zC] [] [Ty.zC, (Ty.sl T6)] (zek N)), go [zck.k, zn.k N, zao.k N, zi.k, zcc.k N, zca.k N] {lits := [24], pk := [1000000]} [] Proofs.Tryz.func157⟩
def zp3 : Ct U := { params := [.val (Ty.sl T6)], results := [(Ty.sl T6)], outs := [], fresh := [0], fn := app U [(Ty.sl T6)] (R := PT U [(Ty.sl T6)]) (ziv 8) }
theorem zp3.meets : zga (zpe [] [] [] [] [] [] [] []) 164 zp3 :=
 zn1 ztr (ztg (l := []) rfl zc3) (zsy (l := []) rfl zc3) (Lp := pick []) Proofs.Tryz.func164 (by kernel_rfl) (zth (l := []) rfl zc3) (fun y => by kernel_rfl) (e := 3) (t := T6) rfl rfl rfl rfl rfl rfl rfl (by kernel_rfl) rfl rfl rfl rfl rfl rfl (fun xs => by kernel_rfl) fun ds y h => by
  obtain ⟨xs, rfl, hx⟩ := zw5 h; refine ⟨xs, rfl, fun b hb => ?_⟩; cases b with
  | true =>
   have := hb rfl; subst this; exact Eq.trans (by kernel_rfl) hx
  | false => exact Eq.trans (b := cond (Nat.ble ((0 + xs.length) * 8) zbr) (some xs) none) (by kernel_rfl) (by rw [Nat.zero_add]; exact hx)
def zp3.k : Kq := ⟨164, zp3, zp3.meets⟩
def zfg (a0 : zC) (a1 : Int) : Option (Int × zC) :=
 cond (decide ((a0.zD.Stack.length : Int) ≥ 6)) ((zi a0 6).bind fun r1 => some (r1.zD.At, r1)) ((ziv 8 a0.zD.Stack).bind fun r2 =>
  cond (Nat.ble ((r2.length + ([a0.zD.At] : List Int).length) * 8) zbr)
  (some (a1, (⟨a0.zB, (⟨a0.zD.Storage, a0.zD.At, (r2 ++ ([a0.zD.At] : List Int)), a0.zD.Lines, a0.zD.Status, a0.zD.Exception, a0.zD.Steps⟩ : zD), a0.layout, a0.raised⟩ : zC))) none)
def zfg.k : Kq := ⟨158, (ctv [.ptr Ty.zC true [], .val T6] [T6] [Ty.zC] [] [Ty.zC, T6] zfg), go [zp3.k, zi.k] {lits := [31], pk := [1000000]} [] Proofs.Tryz.func158⟩
def zy (a0 : zC) (a1 : Int) : Option zC :=
 some (⟨a0.zB, (⟨a0.zD.Storage, a0.zD.At, a0.zD.Stack, a0.zD.Lines, a1, a0.zD.Exception, a0.zD.Steps⟩ : zD), a0.layout, a0.raised⟩ : zC)
def zy.k : Kq := ⟨107, (ctv [.ptr Ty.zC true [], .val T6] [] [Ty.zC] [] [Ty.zC, T6] zy), go [] {pk := [1000000]} [] Proofs.Tryz.func107⟩
def zfh (a0 : zC) : Option (Int × zC) :=
 cond ((a0.zD.Stack.length : Int) == 0) ((zy a0 1).bind fun r1 => some (r1.zD.At, r1))
  ((idx a0.zD.Stack (w6 ((a0.zD.Stack.length : Int) - 1))).bind fun x2 =>
  if 0 ≤ (w6 ((a0.zD.Stack.length : Int) - 1)) ∧ (w6 ((a0.zD.Stack.length : Int) - 1)) ≤ (a0.zD.Stack.length : Int) then (if 0 ≤ (0 : Int) ∧ (0 : Int) ≤ (w6 ((a0.zD.Stack.length : Int) - 1)) then ((ziv 8 ((a0.zD.Stack.take (w6 ((a0.zD.Stack.length : Int) - 1)).toNat).drop (0 : Int).toNat)).bind fun r3 =>
  some ((w6 (x2 + 1)), (⟨a0.zB, (⟨a0.zD.Storage, a0.zD.At, r3, a0.zD.Lines, a0.zD.Status, a0.zD.Exception, a0.zD.Steps⟩ : zD), a0.layout, a0.raised⟩ : zC))) else none) else none)
def zfh.k : Kq := ⟨159, (ctv [.ptr Ty.zC true []] [T6] [Ty.zC] [] [Ty.zC] zfh), go [zy.k, zp3.k] {pk := [1000000]} [] Proofs.Tryz.func159⟩
def zeq (N : Nat) (a0 : zC) (a1 : Int) : Option zC :=
 (zn N a0 a1).bind fun r1 => (zca N r1.1).bind fun r2 => (zck r2 100 999).bind fun r3 => cond (!r3)
  ((zi r1.2 2).bind fun r4 => some r4) ((zi r1.2 r2).bind fun r5 => some r5)
def zeq.k (N : Nat) : Kq := ⟨160, (ctv [.ptr Ty.zC true [], .val T6] [] [Ty.zC] [] [Ty.zC, T6] (zeq N)), go [zck.k, zn.k N, zi.k, zca.k N] {lits := [7], pk := [1000000]} [] Proofs.Tryz.func160⟩
def ztx : Ct U := { params := [.val T6], results := [Ty.str], outs := [], fresh := [], fn := app U [T6] (R := PT U [Ty.str]) (zyc) }
theorem ztx.meets : zga (zpe [] [] [] [] [] [] [] []) 178 ztx :=
 zrz ⟨_, Proofs.Tryz.func178, rfl, by kernel_rfl⟩ (t := Ty.str) rfl rfl rfl rfl fun ds y hy E0 h0 ha μ H w us hA hm hG => by
  obtain ⟨n, rfl, hx⟩ := zw5 hy; unfold zyc at hx; split at hx
  · rename_i hn; cases hx; have hE : some ([.sc (.int .i64 n)], []) = some (E0, h0) := ha; cases hE; cases hA with
    | cons h1 h2 =>
     cases h2; have hu := h1.int; subst hu; have ht := z3x hG hm (g := 2) (name := "internal/strconv.uint64pow10") (t := Ty.int .u64) (xs := z2i) (k := .u64) (zs := Lib.pow10Tab) rfl (by kernel_rfl) (fun i x hi => ⟨x, hi, rfl⟩) rfl rfl; refine ⟨_, rfl, (Proofs.Tryz.strconv_Itoa n hn.1 hn.2 w ht).mono fun e w' hh => ?_⟩; obtain ⟨rfl, k, os, rfl⟩ := hh; exact ⟨_, rfl, z2p w k os, .sc _⟩
  · cases hx
def ztx.k : Kq := ⟨178, ztx, ztx.meets⟩
def zfp (a0 : Number) : Option (ByteArray × Int) :=
 (za2 a0).bind fun r1 => cond (r1 != 0) (some ((⟨#[]⟩ : ByteArray), r1))
  ((zyc (if (w6 (0 - a0.N)) > a0.N then (w6 (0 - a0.N)) else a0.N)).bind fun r2 => cond (decide ((r2.size : Int) ≤ a0.Scale))
  ((zn5 (⟨#[48]⟩ : ByteArray) (w6 ((w6 (a0.Scale + 1)) - (r2.size : Int)))).bind fun r3 =>
  if ((r3.size + r2.size : Nat) : Int) > IntKind.i64.max then none else cond (decide (a0.Scale > 0))
  (if 0 ≤ (w6 (((r3 ++ r2).size : Int) - a0.Scale)) ∧ (w6 (((r3 ++ r2).size : Int) - a0.Scale)) ≤ ((r3 ++ r2).size : Int) then (if 0 ≤ (0 : Int) ∧ (0 : Int) ≤ (w6 (((r3 ++ r2).size : Int) - a0.Scale)) then (if ((((r3 ++ r2).extract (0 : Int).toNat (w6 (((r3 ++ r2).size : Int) - a0.Scale)).toNat).size + (⟨#[46]⟩ : ByteArray).size : Nat) : Int) > IntKind.i64.max then none else if 0 ≤ (w6 (((r3 ++ r2).size : Int) - a0.Scale)) ∧ (w6 (((r3 ++ r2).size : Int) - a0.Scale)) ≤ ((r3 ++ r2).size : Int) then (if (((((r3 ++ r2).extract (0 : Int).toNat (w6 (((r3 ++ r2).size : Int) - a0.Scale)).toNat) ++ (⟨#[46]⟩ : ByteArray)).size + ((r3 ++ r2).extract (w6 (((r3 ++ r2).size : Int) - a0.Scale)).toNat (r3 ++ r2).size).size : Nat) : Int) > IntKind.i64.max then none else cond (decide (a0.N < 0))
  (if (((⟨#[45]⟩ : ByteArray).size + ((((r3 ++ r2).extract (0 : Int).toNat (w6 (((r3 ++ r2).size : Int) - a0.Scale)).toNat) ++ (⟨#[46]⟩ : ByteArray)) ++ ((r3 ++ r2).extract (w6 (((r3 ++ r2).size : Int) - a0.Scale)).toNat (r3 ++ r2).size)).size : Nat) : Int) > IntKind.i64.max then none else some (((⟨#[45]⟩ : ByteArray) ++ ((((r3 ++ r2).extract (0 : Int).toNat (w6 (((r3 ++ r2).size : Int) - a0.Scale)).toNat) ++ (⟨#[46]⟩ : ByteArray)) ++ ((r3 ++ r2).extract (w6 (((r3 ++ r2).size : Int) - a0.Scale)).toNat (r3 ++ r2).size))), 0))
  (some (((((r3 ++ r2).extract (0 : Int).toNat (w6 (((r3 ++ r2).size : Int) - a0.Scale)).toNat) ++ (⟨#[46]⟩ : ByteArray)) ++ ((r3 ++ r2).extract (w6 (((r3 ++ r2).size : Int) - a0.Scale)).toNat (r3 ++ r2).size)), 0))) else none) else none) else none)
  (cond (decide (a0.N < 0)) (if (((⟨#[45]⟩ : ByteArray).size + (r3 ++ r2).size : Nat) : Int) > IntKind.i64.max then none else some (((⟨#[45]⟩ : ByteArray) ++ (r3 ++ r2)), 0))
  (some ((r3 ++ r2), 0)))) (cond (decide (a0.Scale > 0))
  (if 0 ≤ (w6 ((r2.size : Int) - a0.Scale)) ∧ (w6 ((r2.size : Int) - a0.Scale)) ≤ (r2.size : Int) then (if 0 ≤ (0 : Int) ∧ (0 : Int) ≤ (w6 ((r2.size : Int) - a0.Scale)) then (if (((r2.extract (0 : Int).toNat (w6 ((r2.size : Int) - a0.Scale)).toNat).size + (⟨#[46]⟩ : ByteArray).size : Nat) : Int) > IntKind.i64.max then none else if 0 ≤ (w6 ((r2.size : Int) - a0.Scale)) ∧ (w6 ((r2.size : Int) - a0.Scale)) ≤ (r2.size : Int) then (if ((((r2.extract (0 : Int).toNat (w6 ((r2.size : Int) - a0.Scale)).toNat) ++ (⟨#[46]⟩ : ByteArray)).size + (r2.extract (w6 ((r2.size : Int) - a0.Scale)).toNat r2.size).size : Nat) : Int) > IntKind.i64.max then none else cond (decide (a0.N < 0))
  (if (((⟨#[45]⟩ : ByteArray).size + (((r2.extract (0 : Int).toNat (w6 ((r2.size : Int) - a0.Scale)).toNat) ++ (⟨#[46]⟩ : ByteArray)) ++ (r2.extract (w6 ((r2.size : Int) - a0.Scale)).toNat r2.size)).size : Nat) : Int) > IntKind.i64.max then none else some (((⟨#[45]⟩ : ByteArray) ++ (((r2.extract (0 : Int).toNat (w6 ((r2.size : Int) - a0.Scale)).toNat) ++ (⟨#[46]⟩ : ByteArray)) ++ (r2.extract (w6 ((r2.size : Int) - a0.Scale)).toNat r2.size))), 0))
  (some ((((r2.extract (0 : Int).toNat (w6 ((r2.size : Int) - a0.Scale)).toNat) ++ (⟨#[46]⟩ : ByteArray)) ++ (r2.extract (w6 ((r2.size : Int) - a0.Scale)).toNat r2.size)), 0))) else none) else none) else none)
  (cond (decide (a0.N < 0)) (if (((⟨#[45]⟩ : ByteArray).size + r2.size : Nat) : Int) > IntKind.i64.max then none else some (((⟨#[45]⟩ : ByteArray) ++ r2), 0)) (some (r2, 0)))))
def zfp.k : Kq := ⟨116, (cvv [Ty.str, T6] [Ty.Number] zfp), go [zp4.k, za2.k, ztx.k] {lits := [16]} [] Proofs.Tryz.func116⟩
def zfe (N : Nat) (a0 : zC) (a1 : Int) : Option (ByteArray × zC) :=
 (idx a0.zB.zA a1).bind fun x1 => (zce x1).bind fun r2 => cond (!r2) ((zan N a0 a1).bind fun r3 => some (r3.1, r3.2))
  ((zn N a0 a1).bind fun r4 => (zfp r4.1).bind fun r5 => some (r5.1, r4.2))
def zfe.k (N : Nat) : Kq := ⟨73, (ctv [.ptr Ty.zC true [], .val T6] [Ty.str] [Ty.zC] [] [Ty.zC, T6] (zfe N)), go [zan.k N, zce.k, zfp.k, zn.k N] {lits := [23], pk := [1000000]} [] Proofs.Tryz.func73⟩
def ztv : Ct U := { params := [.val (Ty.sl Ty.str)], results := [(Ty.sl Ty.str)], outs := [], fresh := [0], fn := app U [(Ty.sl Ty.str)] (R := PT U [(Ty.sl Ty.str)]) (ziv 16) }
theorem ztv.meets : zga (zpe [] [] [] [] [] [] [] []) 219 ztv :=
 zn1 ztr (ztg (l := []) rfl zc3) (zsy (l := []) rfl zc3) (Lp := pick []) Proofs.Tryz.func219 (by kernel_rfl) (zth (l := []) rfl zc3) (fun y => by kernel_rfl) (e := 9) (t := Ty.str) rfl rfl rfl rfl rfl rfl rfl (by kernel_rfl) rfl rfl rfl rfl rfl rfl (fun xs => by kernel_rfl) fun ds y h => by
  obtain ⟨xs, rfl, hx⟩ := zw5 h; refine ⟨xs, rfl, fun b hb => ?_⟩; cases b with
  | true =>
   have := hb rfl; subst this; exact Eq.trans (by kernel_rfl) hx
  | false => exact Eq.trans (b := cond (Nat.ble ((0 + xs.length) * 16) zbr) (some xs) none) (by kernel_rfl) (by rw [Nat.zero_add]; exact hx)
def ztv.k : Kq := ⟨219, ztv, ztv.meets⟩
def ze2 (N : Nat) (a0 : zC) (a1 : Int) : Option zC :=
 (zfe N a0 a1).bind fun r1 => cond (r1.2.raised != 0) (some r1.2) (cond ((r1.2.zD.Lines.length : Int) == 40) ((zy r1.2 3).bind fun r2 =>
  some r2) ((ziv 16 r1.2.zD.Lines).bind fun r3 => cond (Nat.ble ((r3.length + ([r1.1] : List ByteArray).length) * 16) zbr)
  (some (⟨r1.2.zB, (⟨r1.2.zD.Storage, r1.2.zD.At, r1.2.zD.Stack, (r3 ++ ([r1.1] : List ByteArray)), r1.2.zD.Status, r1.2.zD.Exception, r1.2.zD.Steps⟩ : zD), r1.2.layout, r1.2.raised⟩ : zC)) none))
def ze2.k (N : Nat) : Kq := ⟨163, (ctv [.ptr Ty.zC true [], .val T6] [] [Ty.zC] [] [Ty.zC, T6] (ze2 N)), go [zfe.k N, zy.k, ztv.k] {lits := [16], pk := [1000000]} [] Proofs.Tryz.func163⟩
def zej (N : Nat) (a0 : zC) (a1 : zK) : Option (Int × zC) :=
 (cond (a1.Op == 0) (some (a1.Op == 0)) (some (a1.Op == 1))).bind fun q1 => cond q1 ((idx a1.Args 0).bind fun x2 => (idx a1.Args 1).bind fun x3 =>
  (zff N a0 x2 x3 (a1.Op == 1)).bind fun r4 => some ((w6 (a0.zD.At + 1)), r4)) ((cond (a1.Op == 2) (some (a1.Op == 2)) (cond (a1.Op == 3)
  (some (a1.Op == 3)) (cond (a1.Op == 4) (some (a1.Op == 4)) (cond (a1.Op == 5) (some (a1.Op == 5)) (some (a1.Op == 6)))))).bind fun q5 =>
  cond q5 ((zdz N a0 (w6 ((w6 (a1.Op - 2)) + 0)) a1.Args).bind fun r6 => some ((w6 (a0.zD.At + 1)), r6))
  ((cond (a1.Op == 7) (some (a1.Op == 7)) (some (a1.Op == 8))).bind fun q7 => cond q7 ((idx a1.Args 0).bind fun x8 => (idx a1.Args 1).bind fun x9 =>
  (ze3 N a0 x8 x9).bind fun r10 => (cond (a1.Op == 7) (some (r10.1 == 0)) (some false)).bind fun g11 => (cond g11 (some true) ((cond (a1.Op == 8)
  (some (decide (r10.1 < 0))) (some false)).bind fun g12 => some g12)).bind fun g13 => cond g13 ((idx a1.Args 2).bind fun x14 => (zcq r10.2 x14).bind fun r15 =>
  some (r15, r10.2)) (some ((w6 (a0.zD.At + 1)), r10.2))) (cond (a1.Op == 9) ((idx a1.Args 0).bind fun x16 => (zcq a0 x16).bind fun r17 =>
  some (r17, a0)) (cond (a1.Op == 10) ((zea N a0 a1.Args).bind fun r18 => some ((w6 (a0.zD.At + 1)), r18)) (cond (a1.Op == 11)
  ((zdb N a0 a1.Args).bind fun r19 => some ((w6 (a0.zD.At + 1)), r19)) (cond (a1.Op == 12)
  ((zek N a0 a1.Args).bind fun r20 => some ((w6 (a0.zD.At + 1)), r20)) (cond (a1.Op == 13) ((idx a1.Args 0).bind fun x21 =>
  (zcq a0 x21).bind fun r22 => (zfg a0 r22).bind fun r23 => some (r23.1, r23.2)) (cond (a1.Op == 14)
  ((zfh a0).bind fun r24 => some (r24.1, r24.2)) (cond (a1.Op == 15) ((idx a1.Args 0).bind fun x25 => (zeq N a0 x25).bind fun r26 =>
  some ((w6 (a0.zD.At + 1)), r26)) (cond (a1.Op == 16) ((idx a1.Args 0).bind fun x27 => (idx a0.zB.zA x27).bind fun x28 =>
  (zew N (⟨a0.zD.Exception, 0⟩ : Number) x28.zJ false).bind fun r29 => (idx a1.Args 0).bind fun x30 =>
  (zap N a0 x30 r29.1 r29.2).bind fun r31 => some ((w6 (a0.zD.At + 1)), r31)) (cond (a1.Op == 17) ((idx a1.Args 0).bind fun x32 =>
  (ze2 N a0 x32).bind fun r33 => some ((w6 (a0.zD.At + 1)), r33)) (cond (a1.Op == 18) ((zy a0 1).bind fun r34 =>
  some ((w6 (a0.zD.At + 1)), r34)) (some ((w6 (a0.zD.At + 1)), a0))))))))))))))
def zej.k (N : Nat) : Kq := ⟨105, (ctv [.ptr Ty.zC true [], .val Ty.zK] [T6] [Ty.zC] [] [Ty.zC, Ty.zK] (zej N)), go [zy.k, zff.k N, zdz.k N, ze3.k N, zcq.k, zea.k N, zdb.k N, zek.k N, zfg.k, zfh.k, zeq.k N, zew.k N, zap.k N, ze2.k N] {lits := [116], pk := [1000000], bj := [17, 33, 47]} [] Proofs.Tryz.func105⟩
def zdp (a0 : zM) (a1 : Int) (a2 : Int) : Option Bool :=
 (zck a1 a0.From (w6 (a0.To - 1))).bind fun r1 => (cond r1 ((cond (a0.Exception == 0) (some true) (some (a0.Exception == a2))).bind fun g2 => some g2)
  (some false)).bind fun g3 => some g3
def zdp.k : Kq := ⟨85, (ctv [.val Ty.zM, .ptr T6 false [], .ptr T6 false []] [Ty.bool] [] [] [Ty.zM, T6, T6] zdp), go [zck.k] {ro := [1000000, 1000001], pk := [1000000, 1000001]} [] Proofs.Tryz.func85⟩
def zg.b0 (N : Nat) (s0 : List zM) (s7 : Int) (s8 : Int) (b1000000 : Int) (b1000001 : Int) : Option (Round Int ((List zM) × Int × Int × Int × Int)) :=
 cond (decide (s8 < s7)) ((idx s0 s8).bind fun x1001 => (zdp x1001 b1000000 b1000001).bind fun r1002 => cond r1002 (some (.result s8))
  (some (.again (s0, s7, (w6 (s8 + 1)), b1000000, b1000001)))) (some (.leave (s0, s7, s8, b1000000, b1000001)))
def zg.r0 (N : Nat) (x : (List zM) × Int × Int × Int × Int) := zg.b0 N x.1 x.2.1 x.2.2.1 x.2.2.2.1 x.2.2.2.2
def zg (N : Nat) (a0 : List zM) (a1 : Int) (a2 : Int) : Option Int :=
 (zr (zg.r0 N) N (a0, (a0.length : Int), 0, a1, a2)).bind fun z2 => zda z2 (fun z => some z) (fun y1 => some (-1))
def zg.k (N : Nat) : Kq := ⟨84, (ctv [.val (Ty.sl Ty.zM), .clo 85 2, .ptr T6 false [], .ptr T6 false []] [T6] [] [] [(Ty.sl Ty.zM), T6, T6] (zg N)), go [zdp.k] {ro := [1000000, 1000001], pk := [1000000, 1000001]} [(0, .rets { slots := [(0, .val (Ty.sl Ty.zM)), (1, .fn 85 [1000000, 1000001]), (7, .val T6), (8, .val T6)], boxes := [(1000000, T6, []), (1000001, T6, [])] } [(Ty.sl Ty.zM), T6, T6, T6, T6] (zr (zg.r0 N) N))] Proofs.Tryz.func84 (hL := ⟨⟨_, _, rfl, by kernel_rfl⟩, trivial⟩)⟩
def zc6 (N : Nat) (a0 : zB) (a1 : Int) (a2 : Int) : Option Int :=
 (zg N a0.zI a1 a2).bind fun r1 => cond (decide (r1 < 0)) (some (-1)) ((idx a0.zI r1).bind fun x2 => some x2.Handler)
def zc6.k (N : Nat) : Kq := ⟨49, (cvv [T6] [Ty.zB, T6, T6] (zc6 N)), go [zg.k N] {} [] Proofs.Tryz.func49⟩
end
end Go.Proofs.YtmifhmfokbigiaaGreatDoor.M
