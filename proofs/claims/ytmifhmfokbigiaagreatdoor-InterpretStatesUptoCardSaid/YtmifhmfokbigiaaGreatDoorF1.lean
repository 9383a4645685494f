/- What the program's functions compute, each tied to its code: part 1. -/
import Derived.Test.YtmifhmfokbigiaaGreatDoorF0
namespace Go.Proofs.YtmifhmfokbigiaaGreatDoor.M
open Go Go.Amx
set_option linter.unusedVariables false
set_option maxRecDepth 100000
noncomputable section
def zbj.b0 (N : Nat) (b1000000 : zC) : Option (Round zC zC) :=
 (zh9 N b1000000.zB b1000000.zD.At b1000000.raised).bind fun r1001 => cond (decide (r1001 ≥ 0))
  (some (.result (⟨b1000000.zB, (⟨b1000000.zD.Storage, r1001, b1000000.zD.Stack, b1000000.zD.Lines, b1000000.zD.Status, b1000000.zD.Exception, b1000000.zD.Steps⟩ : zD), b1000000.layout, b1000000.raised⟩ : zC)))
  (cond ((b1000000.zD.Stack.length : Int) == 0) ((zae b1000000 2).bind fun r1002 => some (.result r1002))
  ((idx b1000000.zD.Stack (w6 ((b1000000.zD.Stack.length : Int) - 1))).bind fun x1003 =>
  if 0 ≤ (w6 ((b1000000.zD.Stack.length : Int) - 1)) ∧ (w6 ((b1000000.zD.Stack.length : Int) - 1)) ≤ (b1000000.zD.Stack.length : Int) then (if 0 ≤ (0 : Int) ∧ (0 : Int) ≤ (w6 ((b1000000.zD.Stack.length : Int) - 1)) then ((zki 8 ((b1000000.zD.Stack.take (w6 ((b1000000.zD.Stack.length : Int) - 1)).toNat).drop (0 : Int).toNat)).bind fun r1004 =>
  some (.again (⟨b1000000.zB, (⟨b1000000.zD.Storage, x1003, r1004, b1000000.zD.Lines, b1000000.zD.Status, b1000000.zD.Exception, b1000000.zD.Steps⟩ : zD), b1000000.layout, b1000000.raised⟩ : zC))) else none) else none))
def zbj.r0 (N : Nat) (x : zC) := zbj.b0 N x
def zbj (N : Nat) (a0 : zC) : Option zC :=
 (zj (zbj.r0 N) N (⟨a0.zB, (⟨a0.zD.Storage, a0.zD.At, a0.zD.Stack, a0.zD.Lines, a0.zD.Status, a0.raised, a0.zD.Steps⟩ : zD), a0.layout, a0.raised⟩ : zC)).bind fun z2 =>
  zb5 z2 (fun z => some z) (fun y1 => some y1)
def zbj.k (N : Nat) : Kq := ⟨106, (ctv [.ptr Ty.zC true []] [] [Ty.zC] [] [Ty.zC] (zbj N)), go [zh9.k N, zae.k, zre.k] {pk := [1000000]} [(0, .rets { slots := [(0, .ptr 1000000 0)], boxes := [(1000000, Ty.zC, [])] } [Ty.zC] (zj (zbj.r0 N) N))] Proofs.Tryz.func106 (hL := ⟨⟨_, _, rfl, by kernel_rfl⟩, trivial⟩)⟩
def zkd (N : Nat) (a0 : zB) (a1 : zD) (a2 : List Int) : Option zD :=
 (idx a0.zG a1.At).bind fun x1 =>
  (zfb N (⟨a0, (⟨a1.Storage, a1.At, a1.Stack, a1.Lines, a1.Status, a1.Exception, (w6 (a1.Steps + 1))⟩ : zD), a2, 0⟩ : zC) x1).bind fun r2 =>
  cond (r2.2.raised != 0) ((zbj N r2.2).bind fun r3 => (cond (r3.zD.Status == 0) (some (r3.zD.Steps == 300)) (some false)).bind fun g4 =>
  cond g4 ((zae r3 3).bind fun r5 => some r5.zD) (some r3.zD)) (cond (r2.2.zD.Status != 0) ((cond (r2.2.zD.Status == 0)
  (some (r2.2.zD.Steps == 300)) (some false)).bind fun g6 => cond g6 ((zae r2.2 3).bind fun r7 => some r7.zD) (some r2.2.zD))
  (cond (r2.1 == (a0.zG.length : Int)) ((zae r2.2 1).bind fun r8 => (cond (r8.zD.Status == 0) (some (r8.zD.Steps == 300))
  (some false)).bind fun g9 => cond g9 ((zae r8 3).bind fun r10 => some r10.zD) (some r8.zD)) ((cond (r2.2.zD.Status == 0)
  (some (r2.2.zD.Steps == 300)) (some false)).bind fun g11 =>
  cond g11 ((zae (⟨r2.2.zB, (⟨r2.2.zD.Storage, r2.1, r2.2.zD.Stack, r2.2.zD.Lines, r2.2.zD.Status, r2.2.zD.Exception, r2.2.zD.Steps⟩ : zD), r2.2.layout, r2.2.raised⟩ : zC) 3).bind fun r12 =>
  some r12.zD) (some (⟨r2.2.zD.Storage, r2.1, r2.2.zD.Stack, r2.2.zD.Lines, r2.2.zD.Status, r2.2.zD.Exception, r2.2.zD.Steps⟩ : zD)))))
def zkd.k (N : Nat) : Kq := ⟨65, (cvv [Ty.zD] [Ty.zB, Ty.zD, (Ty.sl T6)] (zkd N)), go [zfb.k N, zbj.k N, zae.k] {} [] Proofs.Tryz.func65⟩
def zb8.b0 (N : Nat) (s1 : Int) (s9 : List Int) (s11 : Int) (b1000000 : zD) (b3 : zB) (b7 : zD) : Option (Stp (Int × (List Int) × Int × zD × zB × zD)) :=
 (cond (decide (s11 < s1)) (some (b7.Status == 0)) (some false)).bind fun g1001 => cond g1001 ((zkd N b3 b7 s9).bind fun r1002 =>
  (zhd r1002 b1000000).bind fun r1003 => some (.again (s1, s9, (w6 (s11 + 1)), r1003, b3, r1002))) (some (.leave (s1, s9, s11, b1000000, b3, b7)))
def zb8.r0 (N : Nat) (x : Int × (List Int) × Int × zD × zB × zD) := zb8.b0 N x.1 x.2.1 x.2.2.1 x.2.2.2.1 x.2.2.2.2.1 x.2.2.2.2.2
def zb8 (N : Nat) (a0 : zB) (a1 : Int) (a2 : zD) : Option (Int × zD) :=
 (zdd N a0).bind fun r1 => cond (r1.2 != 0) (some (r1.2, a2)) ((ze9 N a0).bind fun r2 => cond (r2.2.2 != 0) (some (r2.2.2, a2))
  ((zhd r1.1 a2).bind fun r3 => (zl (zb8.r0 N) N (a1, r2.1, 0, r3, a0, r1.1)).bind fun y4 => some (0, y4.2.2.2.1)))
def zb8.k (N : Nat) : Kq := ⟨44, (ctv [.val Ty.zB, .val T6, .clo 69 1, .ptr Ty.zD true []] [T6] [Ty.zD] [] [Ty.zB, T6, Ty.zD] (zb8 N)), go [zdd.k N, ze9.k N, zkd.k N, zhd.k] {pk := [1000000]} [(0, .plain { slots := [(1, .val T6), (2, .fn 69 [1000000]), (3, .ptr 3 0), (7, .ptr 7 0), (9, .val (Ty.sl T6)), (11, .val T6)], boxes := [(1000000, Ty.zD, []), (3, Ty.zB, []), (7, Ty.zD, [])] } [T6, (Ty.sl T6), T6, Ty.zD, Ty.zB, Ty.zD] (zl (zb8.r0 N) N))] Proofs.Tryz.func44 (hL := ⟨⟨_, _, rfl, by kernel_rfl⟩, trivial⟩)⟩
def zkx (N : Nat) (a0 : zB) : Option (zP × Int) :=
 (zb8 N a0 300 (⟨(⟨(⟨#[]⟩ : ByteArray), []⟩ : Storage), 0, [], [], 0, 0, 0⟩ : zD)).bind fun r1 => cond (r1.1 != 0) (some ((⟨[], 0, 0, 0⟩ : zP), r1.1))
  (some ((⟨r1.2.Lines, r1.2.Status, r1.2.Exception, r1.2.Steps⟩ : zP), 0))
def zkx.k (N : Nat) : Kq := ⟨32, (cvv [Ty.zP, T6] [Ty.zB] (zkx N)), go [zb8.k N] {} [] Proofs.Tryz.func32⟩
def zbs.b0 (N : Nat) (s0 : List ByteArray) (s1 : List ByteArray) (s5 : Int) : Option (Round Bool ((List ByteArray) × (List ByteArray) × Int)) :=
 cond (decide (s5 < (s0.length : Int))) ((idx s0 s5).bind fun x1001 => (idx s1 s5).bind fun x1002 => cond (!(x1001.toList == x1002.toList)) (some (.result false))
  (some (.again (s0, s1, (w6 (s5 + 1)))))) (some (.leave (s0, s1, s5)))
def zbs.r0 (N : Nat) (x : (List ByteArray) × (List ByteArray) × Int) := zbs.b0 N x.1 x.2.1 x.2.2
def zbs (N : Nat) (a0 : List ByteArray) (a1 : List ByteArray) : Option Bool :=
 cond ((a0.length : Int) != (a1.length : Int)) (some false) ((zj (zbs.r0 N) N (a0, a1, 0)).bind fun z2 => zb5 z2 (fun z => some z) (fun y1 => some true))
def zbs.k (N : Nat) : Kq := ⟨31, (cvv [Ty.bool] [(Ty.sl Ty.str), (Ty.sl Ty.str)] (zbs N)), go [] {} [(0, .rets { slots := [(0, .val (Ty.sl Ty.str)), (1, .val (Ty.sl Ty.str)), (5, .val T6)], boxes := [] } [(Ty.sl Ty.str), (Ty.sl Ty.str), T6] (zj (zbs.r0 N) N))] Proofs.Tryz.func31 (hL := ⟨⟨_, _, rfl, by kernel_rfl⟩, trivial⟩)⟩
def ziu (N : Nat) (a0 : zP) (a1 : zP) : Option Bool :=
 (zbs N a0.Lines a1.Lines).bind fun r1 => (cond r1 (some (a0.Status == a1.Status)) (some false)).bind fun g2 => (cond g2 (some (a0.Exception == a1.Exception))
  (some false)).bind fun g3 => (cond g3 (some (a0.Steps == a1.Steps)) (some false)).bind fun g4 => some g4
def ziu.k (N : Nat) : Kq := ⟨33, (cvv [Ty.bool] [Ty.zP, Ty.zP] (ziu N)), go [zbs.k N] {} [] Proofs.Tryz.func33⟩
def zkm (N : Nat)  : Option Bool :=
 (zmr).bind fun r1 => (zkx N r1).bind fun r2 => (cond (r2.2 == 0)
  ((ziu N r2.1 (⟨([(⟨#[56]⟩ : ByteArray)] : List ByteArray), 1, 0, 3⟩ : zP)).bind fun r3 => some r3) (some false)).bind fun g4 => some g4
def zkm.k (N : Nat) : Kq := ⟨11, (cvv [Ty.bool] [] (zkm N)), go [zkx.k N, ziu.k N, zmr.k] {lits := [4, 12]} [] Proofs.Tryz.func11⟩
def zbg.b0 (N : Nat) (s3 : Int) (b1 : zB) : Option (Round Bool (Int × zB)) :=
 cond (decide (s3 < (b1.zA.length : Int))) ((idx b1.zA s3).bind fun x1001 => (cond (decide ((x1001.Name.size : Int) > 100)) (some true)
  (some (decide ((x1001.Base.size : Int) > 100)))).bind fun g1002 => (cond g1002 (some true) (some (decide ((x1001.Value.S.size : Int) > 600)))).bind fun g1003 =>
  cond g1003 (some (.result false)) (some (.again ((w6 (s3 + 1)), b1)))) (some (.leave (s3, b1)))
def zbg.r0 (N : Nat) (x : Int × zB) := zbg.b0 N x.1 x.2
def zbg.b2 (N : Nat) (s5 : Int) (b1 : zB) : Option (Round Bool (Int × zB)) :=
 cond (decide (s5 < (b1.zG.length : Int))) ((idx b1.zG s5).bind fun x3001 => cond (decide ((x3001.Args.length : Int) > 6)) (some (.result false))
  (some (.again ((w6 (s5 + 1)), b1)))) (some (.leave (s5, b1)))
def zbg.r2 (N : Nat) (x : Int × zB) := zbg.b2 N x.1 x.2
def zbg (N : Nat) (a0 : zB) : Option Bool :=
 (cond (decide ((a0.zA.length : Int) > 28)) (some true) (some (decide ((a0.zG.length : Int) > 44)))).bind fun g1 => (cond g1 (some true)
  (some (decide ((a0.zM.length : Int) > 9)))).bind fun g2 => cond g2 (some false) ((zj (zbg.r0 N) N (0, a0)).bind fun z4 => zb5 z4 (fun z => some z) (fun y3 =>
  (zj (zbg.r2 N) N (0, y3.2)).bind fun z6 => zb5 z6 (fun z => some z) (fun y5 => some true)))
def zbg.k (N : Nat) : Kq := ⟨12, (cvv [Ty.bool] [Ty.zB] (zbg N)), go [] {} [(0, .rets { slots := [(1, .ptr 1 0), (3, .val T6)], boxes := [(1, Ty.zB, [])] } [T6, Ty.zB] (zj (zbg.r0 N) N)), (2, .rets { slots := [(1, .ptr 1 0), (5, .val T6)], boxes := [(1, Ty.zB, [])] } [T6, Ty.zB] (zj (zbg.r2 N) N))] Proofs.Tryz.func12 (hL := ⟨⟨_, _, rfl, by kernel_rfl⟩, ⟨_, _, rfl, by kernel_rfl⟩, trivial⟩)⟩
def zdv.b0 (N : Nat) (s3 : Int) (b1 : zD) : Option (Round Bool (Int × zD)) :=
 (cond (decide (s3 < (b1.Lines.length : Int))) (some (decide (s3 < 44))) (some false)).bind fun g1001 => cond g1001 ((idx b1.Lines s3).bind fun x1002 =>
  cond (decide ((x1002.size : Int) > 300)) (some (.result false)) (some (.again ((w6 (s3 + 1)), b1)))) (some (.leave (s3, b1)))
def zdv.r0 (N : Nat) (x : Int × zD) := zdv.b0 N x.1 x.2
def zdv (N : Nat) (a0 : zD) : Option Bool :=
 (zj (zdv.r0 N) N (0, a0)).bind fun z2 => zb5 z2 (fun z => some z) (fun y1 => (cond (decide ((y1.2.Storage.Bytes.size : Int) ≤ 480))
  (some (decide ((y1.2.Storage.Tags.length : Int) ≤ 30))) (some false)).bind fun g3 => (cond g3 (some (decide ((y1.2.Stack.length : Int) ≤ 9))) (some false)).bind fun g4 =>
  (cond g4 (some (decide ((y1.2.Lines.length : Int) < 44))) (some false)).bind fun g5 => some g5)
def zdv.k (N : Nat) : Kq := ⟨19, (cvv [Ty.bool] [Ty.zD] (zdv N)), go [] {} [(0, .rets { slots := [(1, .ptr 1 0), (3, .val T6)], boxes := [(1, Ty.zD, [])] } [T6, Ty.zD] (zj (zdv.r0 N) N))] Proofs.Tryz.func19 (hL := ⟨⟨_, _, rfl, by kernel_rfl⟩, trivial⟩)⟩
def zfw (a0 : List Int) : Option ((List Int)) :=
 cond (Nat.ble (a0.length * 8) zbr) (some a0) none
def zfw.k : Kq := ⟨46, (ctv [.val (Ty.sl T6)] [(Ty.sl T6)] [] [0] [(Ty.sl T6)] zfw), go [] {} [] Proofs.Tryz.func46⟩
def zc0.b0 (N : Nat) (s4 : Int) (b1 : zB) (b2 : zB) (b3 : zB) : Option (Stp (Int × zB × zB × zB)) :=
 cond (decide (s4 < (b1.zG.length : Int))) ((idx b1.zG s4).bind fun x1001 => (idx b1.zG s4).bind fun x1002 =>
  (zfw x1002.Args).bind fun r1003 => cond (Nat.ble ((b3.zG.length + ([(⟨x1001.Op, r1003⟩ : zJ)] : List zJ).length) * 32) zbr)
  (some (.again ((w6 (s4 + 1)), b1, b2, (⟨b3.zA, (b3.zG ++ ([(⟨x1001.Op, r1003⟩ : zJ)] : List zJ)), b3.zM⟩ : zB)))) none)
  (some (.leave (s4, b1, b2, b3)))
def zc0.r0 (N : Nat) (x : Int × zB × zB × zB) := zc0.b0 N x.1 x.2.1 x.2.2.1 x.2.2.2
def zc0 (N : Nat) (a0 : zB) : Option zB :=
 cond (Nat.ble (a0.zA.length * 104) zbr) (cond (Nat.ble (a0.zM.length * 32) zbr)
  ((zl (zc0.r0 N) N (0, a0, (⟨[], [], []⟩ : zB), (⟨a0.zA, [], a0.zM⟩ : zB))).bind fun y1 => some y1.2.2.2) none) none
def zc0.k (N : Nat) : Kq := ⟨14, (cvv [Ty.zB] [Ty.zB] (zc0 N)), go [zfw.k] {lits := [33, 35]} [(0, .plain { slots := [(1, .ptr 1 0), (2, .ptr 2 0), (3, .ptr 3 0), (4, .val T6)], boxes := [(1, Ty.zB, []), (2, Ty.zB, [0, 1, 2]), (3, Ty.zB, [0, 1, 2])] } [T6, Ty.zB, Ty.zB, Ty.zB] (zl (zc0.r0 N) N))] Proofs.Tryz.func14 (hL := ⟨⟨_, _, rfl, by kernel_rfl⟩, trivial⟩)⟩
def ze (a0 : Int) (a1 : Int) (a2 : Int) : Option Bool :=
 (cond (decide (a1 ≤ a0)) (some (decide (a0 ≤ a2))) (some false)).bind fun g1 => some g1
def ze.k : Kq := ⟨16, (cvv [Ty.bool] [T6, T6, T6] ze), go [] {} [] Proofs.Tryz.func16⟩
def zj2 (a0 : Int) : Option Bool :=
 (cond (decide (65 ≤ a0)) (some (decide (a0 ≤ 90))) (some false)).bind fun g1 => some g1
def zj2.k : Kq := ⟨190, (cvv [Ty.bool] [(Ty.int .u8)] zj2), go [] {} [] Proofs.Tryz.func190⟩
def zj3 (a0 : Int) : Option Bool :=
 (cond (decide (48 ≤ a0)) (some (decide (a0 ≤ 57))) (some false)).bind fun g1 => some g1
def zj3.k : Kq := ⟨191, (cvv [Ty.bool] [(Ty.int .u8)] zj3), go [] {} [] Proofs.Tryz.func191⟩
def zcl.b0 (N : Nat) (s0 : ByteArray) (s3 : Int) : Option (Round Bool (ByteArray × Int)) :=
 cond (decide (s3 < (s0.size : Int))) ((zhl s0 s3).bind fun x1001 => (zj2 (x1001.toNat : Int)).bind fun r1002 => (cond r1002 (some true)
  (some ((x1001.toNat : Int) == 36))).bind fun g1003 => (cond g1003 (some true) (some ((x1001.toNat : Int) == 35))).bind fun g1004 => (cond g1004 (some true)
  (some ((x1001.toNat : Int) == 64))).bind fun g1005 => (cond (!g1005) ((cond (s3 == 0) (some true) ((zj3 (x1001.toNat : Int)).bind fun r1006 => (cond (!r1006)
  (some ((x1001.toNat : Int) != 95)) (some false)).bind fun g1007 => (cond g1007 (some ((x1001.toNat : Int) != 46)) (some false)).bind fun g1008 => some g1008)).bind fun g1009 =>
  some g1009) (some false)).bind fun g1010 => cond g1010 (some (.result false)) (some (.again (s0, (w6 (s3 + 1)))))) (some (.leave (s0, s3)))
def zcl.r0 (N : Nat) (x : ByteArray × Int) := zcl.b0 N x.1 x.2
def zcl (N : Nat) (a0 : ByteArray) : Option Bool :=
 (ze (a0.size : Int) 1 10).bind fun r1 => cond (!r1) (some false) ((zj (zcl.r0 N) N (a0, 0)).bind fun z3 => zb5 z3 (fun z => some z) (fun y2 => some true))
def zcl.k (N : Nat) : Kq := ⟨132, (cvv [Ty.bool] [Ty.str] (zcl N)), go [ze.k, zj2.k, zj3.k] {lits := [7]} [(0, .rets { slots := [(0, .val Ty.str), (3, .val T6)], boxes := [] } [Ty.str, T6] (zj (zcl.r0 N) N))] Proofs.Tryz.func132 (hL := ⟨⟨_, _, rfl, by kernel_rfl⟩, trivial⟩)⟩
def zcw.b0 (N : Nat) (s1 : ByteArray) (s5 : Int) (b2 : zB) : Option (Round Int (ByteArray × Int × zB)) :=
 cond (decide (s5 < (b2.zA.length : Int))) ((idx b2.zA s5).bind fun x1001 => cond (x1001.Name.toList == s1.toList) (some (.result s5))
  (some (.again (s1, (w6 (s5 + 1)), b2)))) (some (.leave (s1, s5, b2)))
def zcw.r0 (N : Nat) (x : ByteArray × Int × zB) := zcw.b0 N x.1 x.2.1 x.2.2
def zcw (N : Nat) (a0 : zB) (a1 : ByteArray) : Option Int :=
 (zj (zcw.r0 N) N (a1, 0, a0)).bind fun z2 => zb5 z2 (fun z => some z) (fun y1 => some (-1))
def zcw.k (N : Nat) : Kq := ⟨100, (cvv [T6] [Ty.zB, Ty.str] (zcw N)), go [] {} [(0, .rets { slots := [(1, .val Ty.str), (2, .ptr 2 0), (5, .val T6)], boxes := [(2, Ty.zB, [])] } [Ty.str, T6, Ty.zB] (zj (zcw.r0 N) N))] Proofs.Tryz.func100 (hL := ⟨⟨_, _, rfl, by kernel_rfl⟩, trivial⟩)⟩
def zg0 (a0 : zF) : Option Bool :=
 (cond (a0.Base.toList == (⟨#[]⟩ : ByteArray).toList) (some (a0.Offset == 0)) (some false)).bind fun g1 => (cond (a0.Kind == 0) (some (a0.Kind == 0))
  (some (a0.Kind == 4))).bind fun q2 => cond q2 ((cond (!g1) (some true) (some (a0.Target != 0))).bind fun g3 => some g3) ((cond (a0.Kind == 1) (some (a0.Kind == 1))
  (some (a0.Kind == 2))).bind fun q4 => cond q4 ((cond (!(zfd [(a0.Value.N == 0), (a0.Value.S == (⟨#[]⟩ : ByteArray))])) (some true) (some (a0.Target != 0))).bind fun g5 =>
  some g5) (cond (a0.Kind == 3) ((cond (!(zfd [(a0.zI.Kind == 0), (a0.zI.Length == 0), (a0.zI.Scale == 0)])) (some true)
  (some (!(zfd [(a0.Value.N == 0), (a0.Value.S == (⟨#[]⟩ : ByteArray))])))).bind fun g6 => (cond g6 (some true) (some (!g1))).bind fun g7 => (cond g7 (some true)
  (some (a0.Target != 0))).bind fun g8 => some g8) ((cond (!(zfd [(a0.zI.Kind == 0), (a0.zI.Length == 0), (a0.zI.Scale == 0)])) (some true)
  (some (!(zfd [(a0.Value.N == 0), (a0.Value.S == (⟨#[]⟩ : ByteArray))])))).bind fun g9 => (cond g9 (some true) (some (!g1))).bind fun g10 => some g10)))
def zg0.k : Kq := ⟨133, (cvv [Ty.bool] [Ty.zF] zg0), go [] {bj := [19, 29]} [] Proofs.Tryz.func133⟩
def zed (a0 : Int) : Option Bool :=
 (cond (a0 == 0) (some true) (some (a0 == 1))).bind fun g1 => (cond g1 (some true) (some (a0 == 2))).bind fun g2 => some g2
def zed.k : Kq := ⟨118, (cvv [Ty.bool] [T6] zed), go [] {} [] Proofs.Tryz.func118⟩
def zez (a0 : Int) : Option Bool :=
 (zed a0).bind fun r1 => (cond r1 (some true) (some (a0 == 4))).bind fun g2 => some g2
def zez.k : Kq := ⟨74, (cvv [Ty.bool] [T6] zez), go [zed.k] {} [] Proofs.Tryz.func74⟩
def zcs (a0 : Int) : Option Bool :=
 (ze a0 1 3).bind fun r1 => some r1
def zcs.k : Kq := ⟨124, (cvv [Ty.bool] [T6] zcs), go [ze.k] {} [] Proofs.Tryz.func124⟩
def zb3 (a0 : Bool) : Option Int :=
 cond a0 (some 1) (some 0)
def zb3.k : Kq := ⟨122, (cvv [T6] [Ty.bool] zb3), go [] {} [] Proofs.Tryz.func122⟩
def zfs (a0 : DataType) : Option Int :=
 (ze a0.Kind 0 4).bind fun r1 => cond (!r1) (some 4) (cond (a0.Kind == 0) ((ze a0.Length 1 256).bind fun r2 => cond (!r2) (some 18)
  ((zcs a0.Kind).bind fun r3 => cond r3 ((ze a0.Scale 0 a0.Length).bind fun r4 => (zb3 (!r4)).bind fun r5 => some (w6 (3 * r5)))
  ((ze a0.Scale 0 0).bind fun r6 => (zb3 (!r6)).bind fun r7 => some (w6 (3 * r7))))) ((cond (a0.Kind == 1) (some (a0.Kind == 1))
  (some (a0.Kind == 2))).bind fun q8 => cond q8 ((ze a0.Length 1 15).bind fun r9 => cond (!r9) (some 18) ((zcs a0.Kind).bind fun r10 =>
  cond r10 ((ze a0.Scale 0 a0.Length).bind fun r11 => (zb3 (!r11)).bind fun r12 => some (w6 (3 * r12))) ((ze a0.Scale 0 0).bind fun r13 =>
  (zb3 (!r13)).bind fun r14 => some (w6 (3 * r14))))) (cond (a0.Kind == 3) ((cond (a0.Length == 4) (some true) (some (a0.Length == 9))).bind fun g15 =>
  cond (!g15) (some 18) ((zcs a0.Kind).bind fun r16 => cond r16 ((ze a0.Scale 0 a0.Length).bind fun r17 => (zb3 (!r17)).bind fun r18 =>
  some (w6 (3 * r18))) ((ze a0.Scale 0 0).bind fun r19 => (zb3 (!r19)).bind fun r20 => some (w6 (3 * r20))))) (cond (!(a0.Length == 0))
  (some 18) ((zcs a0.Kind).bind fun r21 => cond r21 ((ze a0.Scale 0 a0.Length).bind fun r22 => (zb3 (!r22)).bind fun r23 =>
  some (w6 (3 * r23))) ((ze a0.Scale 0 0).bind fun r24 => (zb3 (!r24)).bind fun r25 => some (w6 (3 * r25))))))))
def zfs.k : Kq := ⟨134, (cvv [T6] [Ty.DataType] zfs), go [ze.k, zb3.k, zcs.k] {bj := [19]} [] Proofs.Tryz.func134⟩
def zc4.b0 (N : Nat) (s0 : Int) (s3 : Int) (s4 : Int) : Option (Stp (Int × Int × Int)) :=
 cond (decide (s4 < s0)) (some (.again (s0, (w6 (s3 * 10)), (w6 (s4 + 1))))) (some (.leave (s0, s3, s4)))
def zc4.r0 (N : Nat) (x : Int × Int × Int) := zc4.b0 N x.1 x.2.1 x.2.2
def zc4 (N : Nat) (a0 : Int) : Option Int :=
 (zl (zc4.r0 N) N (a0, 1, 0)).bind fun y1 => some y1.2.1
def zc4.k (N : Nat) : Kq := ⟨170, (cvv [T6] [T6] (zc4 N)), go [] {} [(0, .plain { slots := [(0, .val T6), (3, .val T6), (4, .val T6)], boxes := [] } [T6, T6, T6] (zl (zc4.r0 N) N))] Proofs.Tryz.func170 (hL := ⟨⟨_, _, rfl, by kernel_rfl⟩, trivial⟩)⟩
def zj9 (N : Nat) (a0 : DataType) : Option Int :=
 (zc4 N a0.Length).bind fun r1 => some (w6 (r1 - 1))
def zj9.k (N : Nat) : Kq := ⟨180, (cvv [T6] [Ty.DataType] (zj9 N)), go [zc4.k N] {} [] Proofs.Tryz.func180⟩
def zf3 (N : Nat) (a0 : DataType) (a1 : Value) : Option Int :=
 (zfs a0).bind fun r1 => cond (r1 != 0) (some r1) (cond (a0.Kind == 4) (some 17) ((cond (a0.Kind == 0) (some (a1.N != 0)) (some false)).bind fun g2 =>
  (cond g2 (some true) ((cond (a0.Kind != 0) (some (!(a1.S.toList == (⟨#[]⟩ : ByteArray).toList))) (some false)).bind fun g3 => some g3)).bind fun g4 => cond g4 (some 5)
  (cond (a0.Kind == 0) ((zb3 ((a1.S.size : Int) != a0.Length)).bind fun r5 => some (w6 (18 * r5))) ((zj9 N a0).bind fun r6 =>
  (zj9 N a0).bind fun r7 => (ze a1.N (w6 (0 - r6)) r7).bind fun r8 => (zb3 (!r8)).bind fun r9 => some (w6 (19 * r9))))))
def zf3.k (N : Nat) : Kq := ⟨135, (cvv [T6] [Ty.DataType, Ty.Value] (zf3 N)), go [ze.k, zb3.k, zfs.k, zj9.k N] {lits := [49]} [] Proofs.Tryz.func135⟩
def zc2 (a0 : DataType) : Option Int :=
 cond (a0.Kind == 1) (some (w6 ((w6 (a0.Length.tdiv 2)) + 1))) (cond (a0.Kind == 3) ((zb3 (a0.Length == 9)).bind fun r1 =>
  some (w6 (2 + (w6 (2 * r1))))) (cond (a0.Kind == 4) (some 16) (some a0.Length)))
def zc2.k : Kq := ⟨77, (cvv [T6] [Ty.DataType] zc2), go [zb3.k] {} [] Proofs.Tryz.func77⟩
def zf1 (N : Nat) (a0 : zB) (a1 : Int) : Option Int :=
 (idx a0.zA a1).bind fun x1 => (zcl N x1.Name).bind fun r2 => cond (!r2) (some 7) ((zcw N a0 x1.Name).bind fun r3 => cond (decide (r3 < a1)) (some 13)
  ((ze x1.Kind 0 5).bind fun r4 => cond (!r4) (some 4) ((zg0 x1).bind fun r5 => cond r5 (some 5) ((zez x1.Kind).bind fun r6 =>
  cond r6 ((zfs x1.zI).bind fun r7 => cond (r7 != 0) (some r7) (cond (x1.zI.Kind == 4) (some 17) ((zcw N a0 x1.Base).bind fun r8 => (cond (x1.Kind == 0)
  (some (x1.Kind == 0)) (some (x1.Kind == 4))).bind fun q9 => cond q9 ((zf3 N x1.zI x1.Value).bind fun r10 => some r10) ((cond (x1.Kind == 1) (some (x1.Kind == 1))
  (some (x1.Kind == 2))).bind fun q11 => cond q11 ((cond (r8 == (-1)) (some true) (some (decide (r8 ≥ a1)))).bind fun g12 => cond g12 (some 11) ((idx a0.zA r8).bind fun x13 =>
  (cond (x1.Kind == 1) (some (x13.Kind != 0)) (some false)).bind fun g14 => (cond g14 (some true) ((cond (x1.Kind == 2) (some (x13.Kind != 3)) (some false)).bind fun g15 =>
  some g15)).bind fun g16 => cond g16 (some 17) (cond (x1.Kind == 1) ((zc2 x13.zI).bind fun r17 => (zc2 x1.zI).bind fun r18 =>
  (ze x1.Offset 0 (w6 (r17 - r18))).bind fun r19 => cond (!r19) (some 3) (some 0)) ((ze x1.Offset 0 256).bind fun r20 => cond (!r20) (some 3)
  (some 0))))) (cond (x1.Kind == 5) ((ze x1.Target 0 (w6 ((a0.zG.length : Int) - 1))).bind fun r21 => cond (!r21) (some 3) (some 0)) (some 0))))))
  ((zcw N a0 x1.Base).bind fun r22 => (cond (x1.Kind == 0) (some (x1.Kind == 0)) (some (x1.Kind == 4))).bind fun q23 =>
  cond q23 ((zf3 N x1.zI x1.Value).bind fun r24 => some r24) ((cond (x1.Kind == 1) (some (x1.Kind == 1)) (some (x1.Kind == 2))).bind fun q25 =>
  cond q25 ((cond (r22 == (-1)) (some true) (some (decide (r22 ≥ a1)))).bind fun g26 => cond g26 (some 11) ((idx a0.zA r22).bind fun x27 => (cond (x1.Kind == 1)
  (some (x27.Kind != 0)) (some false)).bind fun g28 => (cond g28 (some true) ((cond (x1.Kind == 2) (some (x27.Kind != 3)) (some false)).bind fun g29 => some g29)).bind fun g30 =>
  cond g30 (some 17) (cond (x1.Kind == 1) ((zc2 x27.zI).bind fun r31 => (zc2 x1.zI).bind fun r32 =>
  (ze x1.Offset 0 (w6 (r31 - r32))).bind fun r33 => cond (!r33) (some 3) (some 0)) ((ze x1.Offset 0 256).bind fun r34 => cond (!r34) (some 3)
  (some 0))))) (cond (x1.Kind == 5) ((ze x1.Target 0 (w6 ((a0.zG.length : Int) - 1))).bind fun r35 => cond (!r35) (some 3) (some 0)) (some 0))))))))
def zf1.k (N : Nat) : Kq := ⟨82, (cvv [T6] [Ty.zB, T6] (zf1 N)), go [ze.k, zez.k, zc2.k, zcw.k N, zcl.k N, zg0.k, zfs.k, zf3.k N] {bj := [54, 62]} [] Proofs.Tryz.func82⟩
def zi.b0 (N : Nat) (s4 : List Int) (s5 : Int) (s6 : Int) (b1 : zB) : Option (Stp ((List Int) × Int × Int × zB)) :=
 cond (decide (s6 < (b1.zA.length : Int))) (if 0 ≤ s6 then (if s6 < (s4.length : Int) then ((s4[s6.toNat]?).bind fun x1001 => (idx b1.zA s6).bind fun x1002 =>
  cond (x1002.Kind == 3) (if 0 ≤ s6 then (if s6 < ((s4.set s6.toNat (-1)).length : Int) then (((s4.set s6.toNat (-1))[s6.toNat]?).bind fun x1003 =>
  some (.again (((s4.set s6.toNat (-1)).set s6.toNat s5), (w6 (s5 + 16)), (w6 (s6 + 1)), b1))) else none) else none)
  (some (.again ((s4.set s6.toNat (-1)), s5, (w6 (s6 + 1)), b1)))) else none) else none) (some (.leave (s4, s5, s6, b1)))
def zi.r0 (N : Nat) (x : (List Int) × Int × Int × zB) := zi.b0 N x.1 x.2.1 x.2.2.1 x.2.2.2
def zi.b2 (N : Nat) (s4 : List Int) (s5 : Int) (s7 : Int) (b1 : zB) : Option (Stp ((List Int) × Int × Int × zB)) :=
 cond (decide (s7 < (b1.zA.length : Int))) ((idx b1.zA s7).bind fun x3001 => cond (x3001.Kind == 0)
  (if 0 ≤ s7 then (if s7 < (s4.length : Int) then ((s4[s7.toNat]?).bind fun x3002 => (zc2 x3001.zI).bind fun r3003 =>
  some (.again ((s4.set s7.toNat s5), (w6 (s5 + r3003)), (w6 (s7 + 1)), b1))) else none) else none)
  (some (.again (s4, s5, (w6 (s7 + 1)), b1)))) (some (.leave (s4, s5, s7, b1)))
def zi.r2 (N : Nat) (x : (List Int) × Int × Int × zB) := zi.b2 N x.1 x.2.1 x.2.2.1 x.2.2.2
def zi.b4 (N : Nat) (s4 : List Int) (s5 : Int) (s9 : Int) (b1 : zB) : Option (Stp ((List Int) × Int × Int × zB)) :=
 cond (decide (s9 < (b1.zA.length : Int))) ((idx b1.zA s9).bind fun x5001 => cond (x5001.Kind == 1) ((zcw N b1 x5001.Base).bind fun r5002 =>
  if 0 ≤ r5002 then (if r5002 < (s4.length : Int) then ((s4[r5002.toNat]?).bind fun x5003 => if 0 ≤ s9 then (if s9 < (s4.length : Int) then ((s4[s9.toNat]?).bind fun x5004 =>
  some (.again ((s4.set s9.toNat (w6 (x5003 + x5001.Offset))), s5, (w6 (s9 + 1)), b1))) else none) else none) else none) else none)
  (some (.again (s4, s5, (w6 (s9 + 1)), b1)))) (some (.leave (s4, s5, s9, b1)))
def zi.r4 (N : Nat) (x : (List Int) × Int × Int × zB) := zi.b4 N x.1 x.2.1 x.2.2.1 x.2.2.2
def zi (N : Nat) (a0 : zB) : Option ((List Int) × Int) :=
 if 0 ≤ (a0.zA.length : Int) then (if (a0.zA.length : Int) ≤ (a0.zA.length : Int) then (cond (Nat.ble ((a0.zA.length : Int).toNat * 8) zbr)
  ((zl (zi.r0 N) N ((List.replicate (a0.zA.length : Int).toNat (0 : Int)), 0, 0, a0)).bind fun y1 =>
  (zl (zi.r2 N) N (y1.1, y1.2.1, 0, y1.2.2.2)).bind fun y2 => (zl (zi.r4 N) N (y2.1, y2.2.1, 0, y2.2.2.2)).bind fun y3 =>
  some (y3.1, (w6 ((w6 ((w6 (y3.2.1 + 16)) - 1)).tdiv 16)))) none) else none) else none
def zi.k (N : Nat) : Kq := ⟨60, (cvv [(Ty.sl T6), T6] [Ty.zB] (zi N)), go [zc2.k, zcw.k N] {} [(0, .plain { slots := [(1, .ptr 1 0), (4, .own 5000004 T6), (5, .val T6), (6, .val T6)], boxes := [(1, Ty.zB, [])] } [(Ty.sl T6), T6, T6, Ty.zB] (zl (zi.r0 N) N)), (2, .plain { slots := [(1, .ptr 1 0), (4, .own 5000004 T6), (5, .val T6), (7, .val T6)], boxes := [(1, Ty.zB, [])] } [(Ty.sl T6), T6, T6, Ty.zB] (zl (zi.r2 N) N)), (4, .plain { slots := [(1, .ptr 1 0), (4, .own 5000004 T6), (5, .val T6), (9, .val T6)], boxes := [(1, Ty.zB, [])] } [(Ty.sl T6), T6, T6, Ty.zB] (zl (zi.r4 N) N))] Proofs.Tryz.func60 (hL := ⟨⟨_, _, rfl, by kernel_rfl⟩, ⟨_, _, rfl, by kernel_rfl⟩, ⟨_, _, rfl, by kernel_rfl⟩, trivial⟩)⟩
def zhz (a0 : Int) : Option ((List Int)) :=
 cond (a0 == 0) (some ([0, 4] : List Int)) (cond (a0 == 1) (some ([1, 3] : List Int)) ((cond (a0 == 2) (some (a0 == 2)) (cond (a0 == 3) (some (a0 == 3)) (cond (a0 == 4)
  (some (a0 == 4)) (cond (a0 == 5) (some (a0 == 5)) (some (a0 == 6)))))).bind fun q1 => cond q1 (some ([1, 3, 3] : List Int)) ((cond (a0 == 7) (some (a0 == 7))
  (some (a0 == 8))).bind fun q2 => cond q2 (some ([2, 4, 6] : List Int)) ((cond (a0 == 9) (some (a0 == 9)) (some (a0 == 13))).bind fun q3 => cond q3 (some ([6] : List Int))
  (cond (a0 == 10) (some ([5, 0] : List Int)) (cond (a0 == 11) (some ([5, 5] : List Int)) (cond (a0 == 12) (some ([5, 3] : List Int)) (cond (a0 == 15) (some ([3] : List Int))
  (cond (a0 == 16) (some ([1] : List Int)) (cond (a0 == 17) (some ([2] : List Int)) (some [])))))))))))
def zhz.k : Kq := ⟨136, (cvv [(Ty.sl T6)] [T6] zhz), go [] {bj := [10, 17, 21]} [] Proofs.Tryz.func136⟩
def zer (a0 : zF) : Option Bool :=
 (zcs a0.zI.Kind).bind fun r1 => some r1
def zer.k : Kq := ⟨137, (cvv [Ty.bool] [Ty.zF] zer), go [zcs.k] {} [] Proofs.Tryz.func137⟩
def zak.b0 (N : Nat) (s5 : List Int) (s6 : Int) (b2 : zB) (b3 : zJ) : Option (Round Int ((List Int) × Int × zB × zJ)) :=
 cond (decide (s6 < (s5.length : Int))) ((idx b3.Args s6).bind fun x1001 => (ze x1001 0 (w6 ((b2.zA.length : Int) - 1))).bind fun r1002 =>
  cond (!r1002) (some (.result 3)) ((idx b3.Args s6).bind fun x1003 => (idx b2.zA x1003).bind fun x1004 => (idx s5 s6).bind fun x1005 => cond (x1005 == 0)
  ((zed x1004.Kind).bind fun r1006 => cond (!r1006) (some (.result 17)) (some (.again (s5, (w6 (s6 + 1)), b2, b3)))) (cond (x1005 == 1)
  ((zed x1004.Kind).bind fun r1007 => (cond r1007 ((zer x1004).bind fun r1008 => some r1008) (some false)).bind fun g1009 => cond (!g1009) (some (.result 17))
  (some (.again (s5, (w6 (s6 + 1)), b2, b3)))) (cond (x1005 == 2) ((zez x1004.Kind).bind fun r1010 => cond (!r1010) (some (.result 17))
  (some (.again (s5, (w6 (s6 + 1)), b2, b3)))) (cond (x1005 == 3) ((zez x1004.Kind).bind fun r1011 => (cond r1011 ((zer x1004).bind fun r1012 =>
  some r1012) (some false)).bind fun g1013 => cond (!g1013) (some (.result 17)) (some (.again (s5, (w6 (s6 + 1)), b2, b3)))) (cond (x1005 == 4)
  ((zez x1004.Kind).bind fun r1014 => (cond r1014 ((zer x1004).bind fun r1015 => (idx b3.Args (w6 (s6 - 1))).bind fun x1016 =>
  (idx b2.zA x1016).bind fun x1017 => (zer x1017).bind fun r1018 => some (r1015 == r1018)) (some false)).bind fun g1019 => cond (!g1019) (some (.result 17))
  (some (.again (s5, (w6 (s6 + 1)), b2, b3)))) (cond (x1005 == 5) (cond (!(x1004.Kind == 3)) (some (.result 17))
  (some (.again (s5, (w6 (s6 + 1)), b2, b3)))) (cond (x1005 == 6) (cond (!(x1004.Kind == 5)) (some (.result 17))
  (some (.again (s5, (w6 (s6 + 1)), b2, b3)))) (some (.result 17)))))))))) (some (.leave (s5, s6, b2, b3)))
def zak.r0 (N : Nat) (x : (List Int) × Int × zB × zJ) := zak.b0 N x.1 x.2.1 x.2.2.1 x.2.2.2
def zak (N : Nat) (a0 : zB) (a1 : zJ) : Option Int :=
 (ze a1.Op 0 18).bind fun r1 => cond (!r1) (some 4) ((zhz a1.Op).bind fun r2 => cond ((a1.Args.length : Int) != (r2.length : Int)) (some 37)
  ((zj (zak.r0 N) N (r2, 0, a0, a1)).bind fun z4 => zb5 z4 (fun z => some z) (fun y3 => some 0)))
def zak.k (N : Nat) : Kq := ⟨83, (cvv [T6] [Ty.zB, Ty.zJ] (zak N)), go [ze.k, zez.k, zed.k, zhz.k, zer.k] {} [(0, .rets { slots := [(2, .ptr 2 0), (3, .ptr 3 0), (5, .val (Ty.sl T6)), (6, .val T6)], boxes := [(2, Ty.zB, []), (3, Ty.zJ, [])] } [(Ty.sl T6), T6, Ty.zB, Ty.zJ] (zj (zak.r0 N) N))] Proofs.Tryz.func83 (hL := ⟨⟨_, _, rfl, by kernel_rfl⟩, trivial⟩)⟩
def zw.b0 (N : Nat) (s4 : Int) (b1 : zB) (b2 : zK) : Option (Round (zK × Int) (Int × zB × zK)) :=
 cond (decide (s4 < (b1.zA.length : Int))) ((zf1 N b1 s4).bind fun r1001 => cond (r1001 != 0) (some (.result ((⟨1, s4⟩ : zK), r1001)))
  (some (.again ((w6 (s4 + 1)), b1, b2)))) (some (.leave (s4, b1, b2)))
def zw.r0 (N : Nat) (x : Int × zB × zK) := zw.b0 N x.1 x.2.1 x.2.2
def zw.b2 (N : Nat) (s8 : Int) (b1 : zB) (b2 : zK) : Option (Round (zK × Int) (Int × zB × zK)) :=
 cond (decide (s8 < (b1.zG.length : Int))) ((idx b1.zG s8).bind fun x3001 => (zak N b1 x3001).bind fun r3002 => cond (r3002 != 0)
  (some (.result ((⟨2, s8⟩ : zK), r3002))) (some (.again ((w6 (s8 + 1)), b1, b2)))) (some (.leave (s8, b1, b2)))
def zw.r2 (N : Nat) (x : Int × zB × zK) := zw.b2 N x.1 x.2.1 x.2.2
def zw.b4 (N : Nat) (s10 : Int) (b1 : zB) (b2 : zK) : Option (Round (zK × Int) (Int × zB × zK)) :=
 cond (decide (s10 < (b1.zM.length : Int))) ((idx b1.zM s10).bind fun x5001 => (cond (decide (x5001.From < 0)) (some true)
  (some (decide (x5001.From ≥ x5001.To)))).bind fun g5002 => (cond g5002 (some true) (some (decide (x5001.To > (b1.zG.length : Int))))).bind fun g5003 =>
  (cond g5003 (some true) ((ze x5001.Exception 0 999).bind fun r5004 => some (!r5004))).bind fun g5005 => (cond g5005 (some true)
  ((ze x5001.Handler 0 (w6 ((b1.zG.length : Int) - 1))).bind fun r5006 => some (!r5006))).bind fun g5007 =>
  cond g5007 (some (.result ((⟨3, s10⟩ : zK), 3))) (some (.again ((w6 (s10 + 1)), b1, b2)))) (some (.leave (s10, b1, b2)))
def zw.r4 (N : Nat) (x : Int × zB × zK) := zw.b4 N x.1 x.2.1 x.2.2
def zw (N : Nat) (a0 : zB) : Option (zK × Int) :=
 (cond (decide ((a0.zA.length : Int) > 24)) (some true) (some (decide ((a0.zG.length : Int) > 40)))).bind fun g1 => (cond g1 (some true)
  (some (decide ((a0.zM.length : Int) > 6)))).bind fun g2 => cond g2 (some ((⟨0, 0⟩ : zK), 2)) (cond ((a0.zG.length : Int) == 0) (some ((⟨0, 0⟩ : zK), 1))
  ((zj (zw.r0 N) N (0, a0, (⟨0, 0⟩ : zK))).bind fun z4 => zb5 z4 (fun z => some z) (fun y3 => (zi N y3.2.1).bind fun r5 => cond (decide (r5.2 > 24))
  (some ((⟨0, 0⟩ : zK), 30)) ((zj (zw.r2 N) N (0, y3.2.1, y3.2.2)).bind fun z7 => zb5 z7 (fun z => some z) (fun y6 =>
  (zj (zw.r4 N) N (0, y6.2.1, y6.2.2)).bind fun z9 => zb5 z9 (fun z => some z) (fun y8 => some ((⟨0, 0⟩ : zK), 0)))))))
def zw.k (N : Nat) : Kq := ⟨47, (cvv [Ty.zK, T6] [Ty.zB] (zw N)), go [ze.k, zi.k N, zf1.k N, zak.k N] {} [(0, .rets { slots := [(1, .ptr 1 0), (2, .ptr 2 0), (4, .val T6)], boxes := [(1, Ty.zB, []), (2, Ty.zK, [])] } [T6, Ty.zB, Ty.zK] (zj (zw.r0 N) N)), (2, .rets { slots := [(1, .ptr 1 0), (2, .ptr 2 0), (8, .val T6)], boxes := [(1, Ty.zB, []), (2, Ty.zK, [])] } [T6, Ty.zB, Ty.zK] (zj (zw.r2 N) N)), (4, .rets { slots := [(1, .ptr 1 0), (2, .ptr 2 0), (10, .val T6)], boxes := [(1, Ty.zB, []), (2, Ty.zK, [])] } [T6, Ty.zB, Ty.zK] (zj (zw.r4 N) N))] Proofs.Tryz.func47 (hL := ⟨⟨_, _, rfl, by kernel_rfl⟩, ⟨_, _, rfl, by kernel_rfl⟩, ⟨_, _, rfl, by kernel_rfl⟩, trivial⟩)⟩
def zik (N : Nat) (a0 : zB) : Option Int :=
 (zw N a0).bind fun r1 => some r1.2
def zik.k (N : Nat) : Kq := ⟨15, (cvv [T6] [Ty.zB] (zik N)), go [zw.k N] {} [] Proofs.Tryz.func15⟩
def zkc (a0 : zD) : Option Bool :=
 (cond ((a0.Storage.Bytes.size : Int) == 0) (some ((a0.Storage.Tags.length : Int) == 0)) (some false)).bind fun g1 => (cond g1 (some ((a0.Stack.length : Int) == 0))
  (some false)).bind fun g2 => (cond g2 (some ((a0.Lines.length : Int) == 0)) (some false)).bind fun g3 => (cond g3 (some (a0.At == 0)) (some false)).bind fun g4 =>
  (cond g4 (some (a0.Status == 0)) (some false)).bind fun g5 => (cond g5 (some (a0.Exception == 0)) (some false)).bind fun g6 => (cond g6 (some (a0.Steps == 0))
  (some false)).bind fun g7 => some g7
def zkc.k : Kq := ⟨23, (cvv [Ty.bool] [Ty.zD] zkc), go [] {} [] Proofs.Tryz.func23⟩
def zg4 (a0 : List Bool) : Option ((List Bool)) :=
 cond (Nat.ble (a0.length * 1) zbr) (some a0) none
def zg4.k : Kq := ⟨99, (ctv [.val (Ty.sl Ty.bool)] [(Ty.sl Ty.bool)] [] [0] [(Ty.sl Ty.bool)] zg4), go [] {} [] Proofs.Tryz.func99⟩
def zev (a0 : Storage) : Option Storage :=
 (zg4 a0.Tags).bind fun r1 => some (⟨a0.Bytes, r1⟩ : Storage)
def zev.k : Kq := ⟨58, (ctv [.val Ty.Storage] [Ty.Storage] [] [1] [Ty.Storage] zev), go [zg4.k] {} [] Proofs.Tryz.func58⟩
def zhf (a0 : List ByteArray) : Option ((List ByteArray)) :=
 cond (Nat.ble (a0.length * 16) zbr) (some a0) none
def zhf.k : Kq := ⟨59, (ctv [.val (Ty.sl Ty.str)] [(Ty.sl Ty.str)] [] [0] [(Ty.sl Ty.str)] zhf), go [] {} [] Proofs.Tryz.func59⟩
def zjs (a0 : zD) : Option zD :=
 (zev a0.Storage).bind fun r1 => (zfw a0.Stack).bind fun r2 => (zhf a0.Lines).bind fun r3 =>
  some (⟨r1, a0.At, r2, r3, a0.Status, a0.Exception, a0.Steps⟩ : zD)
def zjs.k : Kq := ⟨26, (ctv [.val Ty.zD] [Ty.zD] [] [3, 4] [Ty.zD] zjs), go [zfw.k, zev.k, zhf.k] {} [] Proofs.Tryz.func26⟩
def zeh (N : Nat) (a0 : zB) : Option Int :=
 (zd N a0).bind fun r1 => some r1.2
def zeh.k (N : Nat) : Kq := ⟨41, (cvv [T6] [Ty.zB] (zeh N)), go [zd.k N] {} [] Proofs.Tryz.func41⟩
def zcc (a0 : Bool) (a1 : Int) : Option Int :=
 cond a0 (some a1) (some 0)
def zcc.k : Kq := ⟨42, (cvv [T6] [Ty.bool, T6] zcc), go [] {} [] Proofs.Tryz.func42⟩
def zao.b0 (N : Nat) (s5 : List Int) (s6 : Int) (s7 : Int) : Option (Round Int ((List Int) × Int × Int)) :=
 cond (decide (s7 < s6)) ((idx s5 s7).bind fun x1001 => cond (x1001 != 0) (some (.result x1001)) (some (.again (s5, s6, (w6 (s7 + 1)))))) (some (.leave (s5, s6, s7)))
def zao.r0 (N : Nat) (x : (List Int) × Int × Int) := zao.b0 N x.1 x.2.1 x.2.2
def zao (N : Nat) (a0 : List Int) : Option Int :=
 (zj (zao.r0 N) N (a0, (a0.length : Int), 0)).bind fun z2 => zb5 z2 (fun z => some z) (fun y1 => some 0)
def zao.k (N : Nat) : Kq := ⟨40, (cvv [T6] [(Ty.sl T6)] (zao N)), go [] {} [(0, .rets { slots := [(5, .val (Ty.sl T6)), (6, .val T6), (7, .val T6)], boxes := [] } [(Ty.sl T6), T6, T6] (zj (zao.r0 N) N))] Proofs.Tryz.func40 (hL := ⟨⟨_, _, rfl, by kernel_rfl⟩, trivial⟩)⟩
def zas.b0 (N : Nat) (s6 : List Int) (s18 : List Bool) (s19 : Int) (s20 : Int) : Option (Stp ((List Int) × (List Bool) × Int × Int)) :=
 cond (decide (s20 < s19)) ((idx s18 s20).bind fun x1001 => cond x1001 (cond (Nat.ble ((s6.length + ([(w6 (s20 * 16))] : List Int).length) * 8) zbr)
  (some (.again ((s6 ++ ([(w6 (s20 * 16))] : List Int)), s18, s19, (w6 (s20 + 1))))) none)
  (some (.again (s6, s18, s19, (w6 (s20 + 1)))))) (some (.leave (s6, s18, s19, s20)))
def zas.r0 (N : Nat) (x : (List Int) × (List Bool) × Int × Int) := zas.b0 N x.1 x.2.1 x.2.2.1 x.2.2.2
def zas (N : Nat) (a0 : Storage) : Option ((List Int) × Int) :=
 (zn N a0).bind fun r1 => cond (r1.2 != 0) (some ([], r1.2)) ((zl (zas.r0 N) N ([], a0.Tags, (a0.Tags.length : Int), 0)).bind fun y2 =>
  some (y2.1, 0))
def zas.k (N : Nat) : Kq := ⟨94, (cvv [(Ty.sl T6), T6] [Ty.Storage] (zas N)), go [zn.k N] {lits := [29]} [(0, .plain { slots := [(6, .own 5000006 T6), (18, .val (Ty.sl Ty.bool)), (19, .val T6), (20, .val T6)], boxes := [] } [(Ty.sl T6), (Ty.sl Ty.bool), T6, T6] (zl (zas.r0 N) N))] Proofs.Tryz.func94 (hL := ⟨⟨_, _, rfl, by kernel_rfl⟩, trivial⟩)⟩
def zel (N : Nat) (a0 : Int) (a1 : Storage) : Option Bool :=
 (zb9 N a1 a0).bind fun r1 => (cond (r1.1.Kind != 0) (some true) (some (r1.1.Address.zR != 1))).bind fun g2 => some g2
def zel.k (N : Nat) : Kq := ⟨95, (ctv [.val T6, .ptr Ty.Storage false []] [Ty.bool] [] [] [T6, Ty.Storage] (zel N)), go [zb9.k N] {ro := [1000000], pk := [1000000]} [] Proofs.Tryz.func95⟩
def zy.b0 (N : Nat) (s0 : List Int) (s7 : Int) (s8 : Int) (b1000000 : Storage) : Option (Round Int ((List Int) × Int × Int × Storage)) :=
 cond (decide (s8 < s7)) ((idx s0 s8).bind fun x1001 => (zel N x1001 b1000000).bind fun r1002 => cond r1002 (some (.result s8))
  (some (.again (s0, s7, (w6 (s8 + 1)), b1000000)))) (some (.leave (s0, s7, s8, b1000000)))
def zy.r0 (N : Nat) (x : (List Int) × Int × Int × Storage) := zy.b0 N x.1 x.2.1 x.2.2.1 x.2.2.2
def zy (N : Nat) (a0 : List Int) (a1 : Storage) : Option Int :=
 (zj (zy.r0 N) N (a0, (a0.length : Int), 0, a1)).bind fun z2 => zb5 z2 (fun z => some z) (fun y1 => some (-1))
def zy.k (N : Nat) : Kq := ⟨98, (ctv [.val (Ty.sl T6), .clo 95 1, .ptr Ty.Storage false []] [T6] [] [] [(Ty.sl T6), Ty.Storage] (zy N)), go [zel.k N] {ro := [1000000], pk := [1000000]} [(0, .rets { slots := [(0, .val (Ty.sl T6)), (1, .fn 95 [1000000]), (7, .val T6), (8, .val T6)], boxes := [(1000000, Ty.Storage, [])] } [(Ty.sl T6), T6, T6, Ty.Storage] (zj (zy.r0 N) N))] Proofs.Tryz.func98 (hL := ⟨⟨_, _, rfl, by kernel_rfl⟩, trivial⟩)⟩
def zdg (N : Nat) (a0 : List Int) (a1 : Storage) : Option Bool :=
 (zy N a0 a1).bind fun r1 => some (decide (r1 ≥ 0))
def zdg.k (N : Nat) : Kq := ⟨56, (ctv [.val (Ty.sl T6), .clo 95 1, .ptr Ty.Storage false []] [Ty.bool] [] [] [(Ty.sl T6), Ty.Storage] (zdg N)), go [zy.k N] {ro := [1000000], pk := [1000000]} [] Proofs.Tryz.func56⟩
def zeg (N : Nat) (a0 : zB) (a1 : Storage) : Option Int :=
 (ze9 N a0).bind fun r1 => (zcc ((a1.Bytes.size : Int) != (w6 (r1.2.1 * 16))) 18).bind fun r2 =>
  (zao N ([r1.2.2, r2] : List Int)).bind fun r3 => cond (r3 != 0) (some r3) ((zn N a1).bind fun r4 => cond (r4.2 != 0) (some r4.2)
  ((zas N a1).bind fun r5 => (zdg N r5.1 a1).bind fun r6 => (zcc r6 22).bind fun r7 => some r7))
def zeg.k (N : Nat) : Kq := ⟨52, (cvv [T6] [Ty.zB, Ty.Storage] (zeg N)), go [zao.k N, zcc.k, zdg.k N, ze9.k N, zn.k N, zas.k N] {lits := [25, 26, 46]} [] Proofs.Tryz.func52⟩
def zem (a0 : ByteArray) : Option Bool :=
 some (decide ((a0.size : Int) > 256))
def zem.k : Kq := ⟨55, (cvv [Ty.bool] [Ty.str] zem), go [] {} [] Proofs.Tryz.func55⟩
def zo.b0 (N : Nat) (s0 : List ByteArray) (s7 : Int) (s8 : Int) : Option (Round Int ((List ByteArray) × Int × Int)) :=
 cond (decide (s8 < s7)) ((idx s0 s8).bind fun x1001 => (zem x1001).bind fun r1002 => cond r1002 (some (.result s8))
  (some (.again (s0, s7, (w6 (s8 + 1)))))) (some (.leave (s0, s7, s8)))
def zo.r0 (N : Nat) (x : (List ByteArray) × Int × Int) := zo.b0 N x.1 x.2.1 x.2.2
def zo (N : Nat) (a0 : List ByteArray) : Option Int :=
 (zj (zo.r0 N) N (a0, (a0.length : Int), 0)).bind fun z2 => zb5 z2 (fun z => some z) (fun y1 => some (-1))
def zo.k (N : Nat) : Kq := ⟨97, (ctv [.val (Ty.sl Ty.str), .clo 55 0] [T6] [] [] [(Ty.sl Ty.str)] (zo N)), go [zem.k] {} [(0, .rets { slots := [(0, .val (Ty.sl Ty.str)), (1, .fn 55 []), (7, .val T6), (8, .val T6)], boxes := [] } [(Ty.sl Ty.str), T6, T6] (zj (zo.r0 N) N))] Proofs.Tryz.func97 (hL := ⟨⟨_, _, rfl, by kernel_rfl⟩, trivial⟩)⟩
def zb0 (N : Nat) (a0 : List ByteArray) : Option Bool :=
 (zo N a0).bind fun r1 => some (decide (r1 ≥ 0))
def zb0.k (N : Nat) : Kq := ⟨54, (ctv [.val (Ty.sl Ty.str), .clo 55 0] [Ty.bool] [] [] [(Ty.sl Ty.str)] (zb0 N)), go [zo.k N] {} [] Proofs.Tryz.func54⟩
def zen (a0 : Int) (a1 : Int) (a2 : zB) : Option Bool :=
 (zby a0 0 (w6 (a1 - 1))).bind fun r1 => (cond r1 ((idx a2.zG a0).bind fun x2 => some (x2.Op == 13)) (some false)).bind fun g3 => some g3
def zen.k : Kq := ⟨53, (ctv [.val T6, .ptr T6 false [], .ptr Ty.zB false []] [Ty.bool] [] [] [T6, T6, Ty.zB] zen), go [zby.k] {ro := [1000000, 1000001], pk := [1000000, 1000001]} [] Proofs.Tryz.func53⟩
def zdj (a0 : Int) (a1 : Int) (a2 : zB) : Option Bool :=
 (zen a0 a1 a2).bind fun r1 => some (!r1)
def zdj.k : Kq := ⟨57, (ctv [.val T6, .bclo T6 53 2, .ptr T6 false [], .ptr Ty.zB false []] [Ty.bool] [] [] [T6, T6, Ty.zB] zdj), go [zen.k] {ro := [1000000, 1000001, 1000002], pk := [1000000, 1000001, 1000002]} [] Proofs.Tryz.func57⟩
def zaa.b0 (N : Nat) (s0 : List Int) (s7 : Int) (s8 : Int) (b1000001 : Int) (b1000002 : zB) : Option (Round Int ((List Int) × Int × Int × Int × zB)) :=
 cond (decide (s8 < s7)) ((idx s0 s8).bind fun x1001 => (zdj x1001 b1000001 b1000002).bind fun r1002 => cond r1002 (some (.result s8))
  (some (.again (s0, s7, (w6 (s8 + 1)), b1000001, b1000002)))) (some (.leave (s0, s7, s8, b1000001, b1000002)))
def zaa.r0 (N : Nat) (x : (List Int) × Int × Int × Int × zB) := zaa.b0 N x.1 x.2.1 x.2.2.1 x.2.2.2.1 x.2.2.2.2
def zaa (N : Nat) (a0 : List Int) (a1 : Int) (a2 : zB) : Option Int :=
 (zj (zaa.r0 N) N (a0, (a0.length : Int), 0, a1, a2)).bind fun z2 => zb5 z2 (fun z => some z) (fun y1 => some (-1))
def zaa.k (N : Nat) : Kq := ⟨98, (ctv [.val (Ty.sl T6), .clo 57 1, .bclo T6 53 2, .ptr T6 false [], .ptr Ty.zB false []] [T6] [] [] [(Ty.sl T6), T6, Ty.zB] (zaa N)), go [zdj.k] {ro := [1000000, 1000001, 1000002], pk := [1000000, 1000001, 1000002]} [(0, .rets { slots := [(0, .val (Ty.sl T6)), (1, .fn 57 [1000000]), (7, .val T6), (8, .val T6)], boxes := [(1000001, T6, []), (1000002, Ty.zB, [])], fboxes := [(1000000, 53, [1000001, 1000002])] } [(Ty.sl T6), T6, T6, T6, Ty.zB] (zj (zaa.r0 N) N))] Proofs.Tryz.func98 (hL := ⟨⟨_, _, rfl, by kernel_rfl⟩, trivial⟩)⟩
def zch (N : Nat) (a0 : List Int) (a1 : Int) (a2 : zB) : Option Bool :=
 (zaa N a0 a1 a2).bind fun r1 => some (decide (r1 ≥ 0))
def zch.k (N : Nat) : Kq := ⟨56, (ctv [.val (Ty.sl T6), .clo 57 1, .bclo T6 53 2, .ptr T6 false [], .ptr Ty.zB false []] [Ty.bool] [] [] [(Ty.sl T6), T6, Ty.zB] (zch N)), go [zaa.k N] {ro := [1000000, 1000001, 1000002], pk := [1000000, 1000001, 1000002]} [] Proofs.Tryz.func56⟩
def zdl (N : Nat) (a0 : zB) (a1 : zD) : Option Int :=
 (zeh N a0).bind fun r1 => cond (r1 != 0) (some r1) ((zeg N a0 a1.Storage).bind fun r2 => cond (r2 != 0) (some r2)
  ((zb0 N a1.Lines).bind fun r3 => (zch N a1.Stack (a0.zG.length : Int) a0).bind fun r4 =>
  (zby a1.At 0 (w6 ((a0.zG.length : Int) - 1))).bind fun r5 => (zcc (!r5) 3).bind fun r6 => (cond (decide ((a1.Stack.length : Int) > 6))
  (some true) (some (decide ((a1.Lines.length : Int) > 40)))).bind fun g7 => (zcc g7 2).bind fun r8 => (zcc (!(!r4)) 3).bind fun r9 =>
  (zcc r3 18).bind fun r10 => (zby a1.Status 0 3).bind fun r11 => (zcc (!r11) 4).bind fun r12 => (zby a1.Exception 0 999).bind fun r13 =>
  (cond (!r13) (some true) ((zby a1.Steps 0 300).bind fun r14 => some (!r14))).bind fun g15 => (zcc g15 3).bind fun r16 =>
  (zao N ([r6, r8, r9, r10, r12, r16] : List Int)).bind fun r17 => some r17))
def zdl.k (N : Nat) : Kq := ⟨25, (cvv [T6] [Ty.zB, Ty.zD] (zdl N)), go [zao.k N, zeh.k N, zcc.k, zby.k, zeg.k N, zb0.k N, zch.k N] {lits := [41, 52, 55, 57, 62, 73, 74]} [] Proofs.Tryz.func25⟩
def zgp (a0 : Storage) (a1 : Int) : Option ByteArray :=
 if 0 ≤ (w6 ((w6 (a1 * 16)) + 16)) ∧ (w6 ((w6 (a1 * 16)) + 16)) ≤ (a0.Bytes.size : Int) then (if 0 ≤ (w6 (a1 * 16)) ∧ (w6 (a1 * 16)) ≤ (w6 ((w6 (a1 * 16)) + 16)) then (some (a0.Bytes.extract (w6 (a1 * 16)).toNat (w6 ((w6 (a1 * 16)) + 16)).toNat)) else none) else none
def zgp.k : Kq := ⟨104, (cvv [Ty.str] [Ty.Storage, T6] zgp), go [] {} [] Proofs.Tryz.func104⟩
def zcx.b0 (N : Nat) (s0 : ByteArray) (s1 : Int) (s2 : Int) (s7 : Int) (s8 : Int) : Option (Stp (ByteArray × Int × Int × Int × Int)) :=
 cond (decide (s8 < s2)) ((zhl s0 (w6 (s1 + s8))).bind fun x1001 =>
  some (.again (s0, s1, s2, (w6 ((w6 (s7 * 256)) + (w6 (x1001.toNat : Int)))), (w6 (s8 + 1)))))
  (some (.leave (s0, s1, s2, s7, s8)))
def zcx.r0 (N : Nat) (x : ByteArray × Int × Int × Int × Int) := zcx.b0 N x.1 x.2.1 x.2.2.1 x.2.2.2.1 x.2.2.2.2
def zcx (N : Nat) (a0 : ByteArray) (a1 : Int) (a2 : Int) : Option Int :=
 (zl (zcx.r0 N) N (a0, a1, a2, 0, 0)).bind fun y1 => some y1.2.2.2.1
def zcx.k (N : Nat) : Kq := ⟨149, (cvv [T6] [Ty.str, T6, T6] (zcx N)), go [] {} [(0, .plain { slots := [(0, .val Ty.str), (1, .val T6), (2, .val T6), (7, .val T6), (8, .val T6)], boxes := [] } [Ty.str, T6, T6, T6, T6] (zl (zcx.r0 N) N))] Proofs.Tryz.func149 (hL := ⟨⟨_, _, rfl, by kernel_rfl⟩, trivial⟩)⟩
def zf2 (a0 : Pointer) : Option Int :=
 (ze a0.Kind 0 2).bind fun r1 => cond (!r1) (some 4) ((ze a0.Address.zR 0 1099511627775).bind fun r2 => (cond (!r2) (some true)
  ((ze a0.Address.Offset 0 16777215).bind fun r3 => some (!r3))).bind fun g4 => (cond g4 (some true) ((ze a0.Authority 0 1023).bind fun r5 =>
  some (!r5))).bind fun g6 => cond g6 (some 3) ((cond (a0.Kind != 1) (some (a0.Authority != 0)) (some false)).bind fun g7 => cond g7 (some 5) (some 0)))
def zf2.k : Kq := ⟨150, (cvv [T6] [Ty.Pointer] zf2), go [ze.k] {} [] Proofs.Tryz.func150⟩
def zjt (N : Nat) (a0 : ByteArray) : Option (Pointer × Int) :=
 cond ((a0.size : Int) != 16) (some ((⟨0, (⟨0, 0⟩ : Address), 0⟩ : Pointer), 18)) ((zhl a0 1).bind fun x1 => cond ((x1.toNat : Int) != 0)
  (some ((⟨0, (⟨0, 0⟩ : Address), 0⟩ : Pointer), 5)) ((zhl a0 0).bind fun x2 => (zcx N a0 2 2).bind fun r3 => (zcx N a0 4 6).bind fun r4 =>
  (zcx N a0 10 6).bind fun r5 => (zf2 (⟨(w6 (x2.toNat : Int)), (⟨r4, r5⟩ : Address), r3⟩ : Pointer)).bind fun r6 => cond (r6 != 0)
  (some ((⟨0, (⟨0, 0⟩ : Address), 0⟩ : Pointer), r6)) (some ((⟨(w6 (x2.toNat : Int)), (⟨r4, r5⟩ : Address), r3⟩ : Pointer), 0))))
def zjt.k (N : Nat) : Kq := ⟨103, (cvv [Ty.Pointer, T6] [Ty.str] (zjt N)), go [zcx.k N, zf2.k] {} [] Proofs.Tryz.func103⟩
def zcj.b0 (N : Nat) (s4 : Int) (s5 : Int) (b1 : Storage) : Option (Round (Int × Int) (Int × Int × Storage)) :=
 cond (decide (s5 < s4)) ((idx b1.Tags s5).bind fun x1001 => cond x1001 ((zgp b1 s5).bind fun r1002 => (zjt N r1002).bind fun r1003 => cond (r1003.2 != 0)
  (some (.result (s5, 22))) (some (.again (s4, (w6 (s5 + 1)), b1)))) (some (.again (s4, (w6 (s5 + 1)), b1)))) (some (.leave (s4, s5, b1)))
def zcj.r0 (N : Nat) (x : Int × Int × Storage) := zcj.b0 N x.1 x.2.1 x.2.2
def zcj (N : Nat) (a0 : Storage) : Option (Int × Int) :=
 cond (decide ((a0.Bytes.size : Int) > 1024)) (some (0, 2)) (cond (((a0.Bytes.size : Int).tmod 16) != 0) (some (0, 18))
  (cond ((a0.Tags.length : Int) != (w6 ((a0.Bytes.size : Int).tdiv 16))) (some (0, 6))
  ((zj (zcj.r0 N) N ((w6 ((a0.Bytes.size : Int).tdiv 16)), 0, a0)).bind fun z2 => zb5 z2 (fun z => some z) (fun y1 => some (y1.1, 0)))))
def zcj.k (N : Nat) : Kq := ⟨101, (cvv [T6, T6] [Ty.Storage] (zcj N)), go [zjt.k N, zgp.k] {lits := [39]} [(0, .rets { slots := [(1, .ptr 1 0), (4, .val T6), (5, .val T6)], boxes := [(1, Ty.Storage, [])] } [T6, T6, Ty.Storage] (zj (zcj.r0 N) N))] Proofs.Tryz.func101 (hL := ⟨⟨_, _, rfl, by kernel_rfl⟩, trivial⟩)⟩
def zle (N : Nat) (a0 : Storage) : Option Int :=
 (zcj N a0).bind fun r1 => some r1.2
def zle.k (N : Nat) : Kq := ⟨61, (cvv [T6] [Ty.Storage] (zle N)), go [zcj.k N] {} [] Proofs.Tryz.func61⟩
def zbl.b0 (N : Nat) (s3 : List Int) (s4 : Int) (b1 : Storage) : Option (Stp ((List Int) × Int × Storage)) :=
 cond (decide (s4 < (b1.Tags.length : Int))) ((idx b1.Tags s4).bind fun x1001 =>
  cond x1001 (cond (Nat.ble ((s3.length + ([(w6 (s4 * 16))] : List Int).length) * 8) zbr)
  (some (.again ((s3 ++ ([(w6 (s4 * 16))] : List Int)), (w6 (s4 + 1)), b1))) none) (some (.again (s3, (w6 (s4 + 1)), b1))))
  (some (.leave (s3, s4, b1)))
def zbl.r0 (N : Nat) (x : (List Int) × Int × Storage) := zbl.b0 N x.1 x.2.1 x.2.2
def zbl (N : Nat) (a0 : Storage) : Option ((List Int)) :=
 (zl (zbl.r0 N) N ([], 0, a0)).bind fun y1 => some y1.1
def zbl.k (N : Nat) : Kq := ⟨62, (cvv [(Ty.sl T6)] [Ty.Storage] (zbl N)), go [] {lits := [20]} [(0, .plain { slots := [(1, .ptr 1 0), (3, .own 5000003 T6), (4, .val T6)], boxes := [(1, Ty.Storage, [])] } [(Ty.sl T6), T6, Ty.Storage] (zl (zbl.r0 N) N))] Proofs.Tryz.func62 (hL := ⟨⟨_, _, rfl, by kernel_rfl⟩, trivial⟩)⟩
def zg8 (a0 : Storage) (a1 : Int) : Option Bool :=
 (ze a1 0 (w6 ((a0.Bytes.size : Int) - 16))).bind fun r1 => (cond r1 (some ((a1.tmod 16) == 0)) (some false)).bind fun g2 => some g2
def zg8.k : Kq := ⟨102, (cvv [Ty.bool] [Ty.Storage, T6] zg8), go [ze.k] {} [] Proofs.Tryz.func102⟩
def zgq (N : Nat) (a0 : Storage) (a1 : Int) : Option (Pointer × Int) :=
 (zg8 a0 a1).bind fun r1 => cond (!r1) (some ((⟨0, (⟨0, 0⟩ : Address), 0⟩ : Pointer), 3)) ((idx a0.Tags (w6 (a1.tdiv 16))).bind fun x2 => cond (!x2)
  (some ((⟨0, (⟨0, 0⟩ : Address), 0⟩ : Pointer), 22)) ((zgp a0 (w6 (a1.tdiv 16))).bind fun r3 => (zjt N r3).bind fun r4 => some (r4.1, 0)))
def zgq.k (N : Nat) : Kq := ⟨63, (cvv [Ty.Pointer, T6] [Ty.Storage, T6] (zgq N)), go [zg8.k, zjt.k N, zgp.k] {lits := [25]} [] Proofs.Tryz.func63⟩
def zad.b0 (N : Nat) (s9 : List Int) (s10 : Int) (b2 : zB) (b3 : zD) : Option (Round Int ((List Int) × Int × zB × zD)) :=
 cond (decide (s10 < (s9.length : Int))) ((idx s9 s10).bind fun x1001 => (zgq N b3.Storage x1001).bind fun r1002 => (cond (r1002.1.Kind != 0) (some true)
  (some (r1002.1.Address.zR != 1))).bind fun g1003 => cond g1003 (some (.result 22)) (some (.again (s9, (w6 (s10 + 1)), b2, b3))))
  (some (.leave (s9, s10, b2, b3)))
def zad.r0 (N : Nat) (x : (List Int) × Int × zB × zD) := zad.b0 N x.1 x.2.1 x.2.2.1 x.2.2.2
def zad.b2 (N : Nat) (s13 : Int) (b2 : zB) (b3 : zD) : Option (Round Int (Int × zB × zD)) :=
 cond (decide (s13 < (b3.Stack.length : Int))) ((idx b3.Stack s13).bind fun x3001 =>
  (ze x3001 0 (w6 ((b2.zG.length : Int) - 1))).bind fun r3002 => (cond (!r3002) (some true) ((idx b3.Stack s13).bind fun x3003 =>
  (idx b2.zG x3003).bind fun x3004 => some (x3004.Op != 13))).bind fun g3005 => cond g3005 (some (.result 3)) (some (.again ((w6 (s13 + 1)), b2, b3))))
  (some (.leave (s13, b2, b3)))
def zad.r2 (N : Nat) (x : Int × zB × zD) := zad.b2 N x.1 x.2.1 x.2.2
def zad.b4 (N : Nat) (s14 : Int) (b3 : zD) : Option (Round Int (Int × zD)) :=
 cond (decide (s14 < (b3.Lines.length : Int))) ((idx b3.Lines s14).bind fun x5001 => cond (decide ((x5001.size : Int) > 256)) (some (.result 18))
  (some (.again ((w6 (s14 + 1)), b3)))) (some (.leave (s14, b3)))
def zad.r4 (N : Nat) (x : Int × zD) := zad.b4 N x.1 x.2
def zad (N : Nat) (a0 : zB) (a1 : zD) : Option Int :=
 (zik N a0).bind fun r1 => cond (r1 != 0) (some r1) ((zi N a0).bind fun r2 => cond ((a1.Storage.Bytes.size : Int) != (w6 (r2.2 * 16))) (some 18)
  ((zle N a1.Storage).bind fun r3 => cond (r3 != 0) (some r3) ((zbl N a1.Storage).bind fun r4 => (zj (zad.r0 N) N (r4, 0, a0, a1)).bind fun z6 =>
  zb5 z6 (fun z => some z) (fun y5 => (ze y5.2.2.2.At 0 (w6 ((y5.2.2.1.zG.length : Int) - 1))).bind fun r7 => cond (!r7) (some 3)
  ((cond (decide ((y5.2.2.2.Stack.length : Int) > 6)) (some true) (some (decide ((y5.2.2.2.Lines.length : Int) > 40)))).bind fun g8 => cond g8 (some 2)
  ((zj (zad.r2 N) N (0, y5.2.2.1, y5.2.2.2)).bind fun z10 => zb5 z10 (fun z => some z) (fun y9 => (zj (zad.r4 N) N (0, y9.2.2)).bind fun z12 => zb5 z12 (fun z =>
  some z) (fun y11 => (ze y11.2.Status 0 3).bind fun r13 => cond (!r13) (some 4) ((ze y11.2.Exception 0 999).bind fun r14 => (cond (!r14) (some true)
  ((ze y11.2.Steps 0 300).bind fun r15 => some (!r15))).bind fun g16 => cond g16 (some 3) (some 0))))))))))
def zad.k (N : Nat) : Kq := ⟨27, (cvv [T6] [Ty.zB, Ty.zD] (zad N)), go [zik.k N, ze.k, zi.k N, zle.k N, zbl.k N, zgq.k N] {} [(0, .rets { slots := [(2, .ptr 2 0), (3, .ptr 3 0), (9, .val (Ty.sl T6)), (10, .val T6)], boxes := [(2, Ty.zB, []), (3, Ty.zD, [])] } [(Ty.sl T6), T6, Ty.zB, Ty.zD] (zj (zad.r0 N) N)), (2, .rets { slots := [(2, .ptr 2 0), (3, .ptr 3 0), (13, .val T6)], boxes := [(2, Ty.zB, []), (3, Ty.zD, [])] } [T6, Ty.zB, Ty.zD] (zj (zad.r2 N) N)), (4, .rets { slots := [(3, .ptr 3 0), (14, .val T6)], boxes := [(3, Ty.zD, [])] } [T6, Ty.zD] (zj (zad.r4 N) N))] Proofs.Tryz.func27 (hL := ⟨⟨_, _, rfl, by kernel_rfl⟩, ⟨_, _, rfl, by kernel_rfl⟩, ⟨_, _, rfl, by kernel_rfl⟩, trivial⟩)⟩
def zck.b0 (N : Nat) (s0 : Int) (s1 : Int) (s5 : List Int) (s6 : Int) : Option (Stp (Int × Int × (List Int) × Int)) :=
 cond (decide (s6 < s1)) (cond (Nat.ble ((s5.length + ([s0] : List Int).length) * 1) zbr) (some (.again (s0, s1, (s5 ++ ([s0] : List Int)), (w6 (s6 + 1))))) none)
  (some (.leave (s0, s1, s5, s6)))
def zck.r0 (N : Nat) (x : Int × Int × (List Int) × Int) := zck.b0 N x.1 x.2.1 x.2.2.1 x.2.2.2
def zck (N : Nat) (a0 : Int) (a1 : Int) : Option ByteArray :=
 (zl (zck.r0 N) N (a0, a1, [], 0)).bind fun y1 => some (zd3 y1.2.2.1)
def zck.k (N : Nat) : Kq := ⟨91, (cvv [Ty.str] [(Ty.int .u8), T6] (zck N)), go [] {lits := [14]} [(0, .plain { slots := [(0, .val (Ty.int .u8)), (1, .val T6), (5, .own 5000005 (Ty.int .u8)), (6, .val T6)], boxes := [] } [(Ty.int .u8), T6, (Ty.sl (Ty.int .u8)), T6] (zl (zck.r0 N) N))] Proofs.Tryz.func91 (hL := ⟨⟨_, _, rfl, by kernel_rfl⟩, trivial⟩)⟩
def zbp.b0 (N : Nat) (s0 : Int) (s1 : Int) (s5 : List Int) (s6 : Int) : Option (Stp (Int × Int × (List Int) × Int)) :=
 cond (decide (s6 < s1))
  (if 0 ≤ (w6 ((w6 (s1 - 1)) - s6)) then (if (w6 ((w6 (s1 - 1)) - s6)) < (s5.length : Int) then ((s5[(w6 ((w6 (s1 - 1)) - s6)).toNat]?).bind fun x1001 =>
  some (.again ((w6 (s0.tdiv 256)), s1, (s5.set ((w6 ((w6 (s1 - 1)) - s6)).toNat)
  (IntKind.wrap .u8 (s0.tmod 256))), (w6 (s6 + 1))))) else none) else none) (some (.leave (s0, s1, s5, s6)))
def zbp.r0 (N : Nat) (x : Int × Int × (List Int) × Int) := zbp.b0 N x.1 x.2.1 x.2.2.1 x.2.2.2
def zbp (N : Nat) (a0 : Int) (a1 : Int) : Option ByteArray :=
 if 0 ≤ a1 then (if a1 ≤ a1 then (cond (Nat.ble (a1.toNat * 1) zbr) ((zl (zbp.r0 N) N (a0, a1, (List.replicate a1.toNat (0 : Int)), 0)).bind fun y1 =>
  some (zd3 y1.2.2.1)) none) else none) else none
def zbp.k (N : Nat) : Kq := ⟨119, (cvv [Ty.str] [T6, T6] (zbp N)), go [] {} [(0, .plain { slots := [(0, .val T6), (1, .val T6), (5, .own 5000005 (Ty.int .u8)), (6, .val T6)], boxes := [] } [T6, T6, (Ty.sl (Ty.int .u8)), T6] (zl (zbp.r0 N) N))] Proofs.Tryz.func119 (hL := ⟨⟨_, _, rfl, by kernel_rfl⟩, trivial⟩)⟩
def zju (a0 : Int) : Option Int :=
 some (if (w6 (0 - a0)) > a0 then (w6 (0 - a0)) else a0)
def zju.k : Kq := ⟨121, (cvv [T6] [T6] zju), go [] {} [] Proofs.Tryz.func121⟩
def zb6.b0 (N : Nat) (s0 : Int) (s5 : List Int) (s6 : Int) : Option (Stp (Int × (List Int) × Int)) :=
 cond (decide (s6 ≥ 0)) (if 0 ≤ s6 then (if s6 < (s5.length : Int) then ((s5[s6.toNat]?).bind fun x1001 =>
  some (.again ((w6 (s0.tdiv 10)), (s5.set s6.toNat (s0.tmod 10)), (w6 (s6 - 1))))) else none) else none) (some (.leave (s0, s5, s6)))
def zb6.r0 (N : Nat) (x : Int × (List Int) × Int) := zb6.b0 N x.1 x.2.1 x.2.2
def zb6 (N : Nat) (a0 : Int) (a1 : Int) : Option ((List Int)) :=
 if 0 ≤ a1 then (if a1 ≤ a1 then (cond (Nat.ble (a1.toNat * 8) zbr)
  ((zl (zb6.r0 N) N (a0, (List.replicate a1.toNat (0 : Int)), (w6 (a1 - 1)))).bind fun y1 => some y1.2.1) none) else none) else none
def zb6.k (N : Nat) : Kq := ⟨120, (ctv [.val T6, .val T6] [(Ty.sl T6)] [] [0] [T6, T6] (zb6 N)), go [] {} [(0, .plain { slots := [(0, .val T6), (5, .own 5000005 T6), (6, .val T6)], boxes := [] } [T6, (Ty.sl T6), T6] (zl (zb6.r0 N) N))] Proofs.Tryz.func120 (hL := ⟨⟨_, _, rfl, by kernel_rfl⟩, trivial⟩)⟩
def zaf.b1 (N : Nat) (s6 : List Int) (s7 : List Int) (s8 : Int) (b2 : DataType) (b3 : Value) : Option (Stp ((List Int) × (List Int) × Int × DataType × Value)) :=
 cond (decide (s8 < b2.Length)) (if 0 ≤ s8 then (if s8 < (s6.length : Int) then ((s6[s8.toNat]?).bind fun x2001 =>
  if 0 ≤ s8 then (if s8 < (s7.length : Int) then ((s7[s8.toNat]?).bind fun x2002 =>
  some (.again (s6, (s7.set s8.toNat (IntKind.wrap .u8 (w6 (240 + x2001)))), (w6 (s8 + 1)), b2, b3))) else none) else none) else none) else none)
  (some (.leave (s6, s7, s8, b2, b3)))
def zaf.r1 (N : Nat) (x : (List Int) × (List Int) × Int × DataType × Value) := zaf.b1 N x.1 x.2.1 x.2.2.1 x.2.2.2.1 x.2.2.2.2
def zaf.b3 (N : Nat) (s6 : List Int) (s9 : List Int) (s10 : Int) : Option (Stp ((List Int) × (List Int) × Int)) :=
 cond (decide (s10 < (s9.length : Int)))
  (if 0 ≤ (w6 (2 * s10)) then (if (w6 (2 * s10)) < (s6.length : Int) then ((s6[(w6 (2 * s10)).toNat]?).bind fun x4001 =>
  if 0 ≤ (w6 ((w6 (2 * s10)) + 1)) then (if (w6 ((w6 (2 * s10)) + 1)) < (s6.length : Int) then ((s6[(w6 ((w6 (2 * s10)) + 1)).toNat]?).bind fun x4002 =>
  if 0 ≤ s10 then (if s10 < (s9.length : Int) then ((s9[s10.toNat]?).bind fun x4003 =>
  some (.again (s6, (s9.set s10.toNat (IntKind.wrap .u8 (w6 ((w6 (16 * x4001)) + x4002)))), (w6 (s10 + 1))))) else none) else none) else none) else none) else none) else none)
  (some (.leave (s6, s9, s10)))
def zaf.r3 (N : Nat) (x : (List Int) × (List Int) × Int) := zaf.b3 N x.1 x.2.1 x.2.2
def zaf (N : Nat) (a0 : DataType) (a1 : Value) : Option ByteArray :=
 cond (a0.Kind == 0) (some a1.S) (cond (a0.Kind == 3) (cond (decide (a1.N < 0)) ((zc2 a0).bind fun r1 =>
  if (w6 (8 * r1)) < 0 then none else (zc2 a0).bind fun r2 =>
  (zbp N (w6 (a1.N + (w6 (1 * 2 ^ (min (w6 (8 * r1)).toNat 64))))) r2).bind fun r3 => some r3) ((zc2 a0).bind fun r4 =>
  (zbp N a1.N r4).bind fun r5 => some r5)) ((zju a1.N).bind fun r6 => (zb6 N r6 a0.Length).bind fun r7 => cond (a0.Kind == 2)
  (if 0 ≤ a0.Length then (if a0.Length ≤ a0.Length then (cond (Nat.ble (a0.Length.toNat * 1) zbr)
  ((zl (zaf.r1 N) N (r7, (List.replicate a0.Length.toNat (0 : Int)), 0, a0, a1)).bind fun y8 => cond (decide (y8.2.2.2.2.N < 0))
  (if 0 ≤ (w6 (y8.2.2.2.1.Length - 1)) then (if (w6 (y8.2.2.2.1.Length - 1)) < (y8.1.length : Int) then ((y8.1[(w6 (y8.2.2.2.1.Length - 1)).toNat]?).bind fun x9 =>
  if 0 ≤ (w6 (y8.2.2.2.1.Length - 1)) then (if (w6 (y8.2.2.2.1.Length - 1)) < (y8.2.1.length : Int) then ((y8.2.1[(w6 (y8.2.2.2.1.Length - 1)).toNat]?).bind fun x10 =>
  some (zd3 (y8.2.1.set ((w6 (y8.2.2.2.1.Length - 1)).toNat) (IntKind.wrap .u8 (w6 (208 + x9)))))) else none) else none) else none) else none)
  (some (zd3 y8.2.1))) none) else none) else none) (cond ((a0.Length.tmod 2) == 0) (cond (Nat.ble ((([0] : List Int).length + r7.length) * 8) zbr)
  ((zb3 (decide (a1.N < 0))).bind fun r11 =>
  cond (Nat.ble (((([0] : List Int) ++ r7).length + ([(w6 (15 - (w6 (2 * r11))))] : List Int).length) * 8) zbr)
  (if 0 ≤ (w6 ((((([0] : List Int) ++ r7) ++ ([(w6 (15 - (w6 (2 * r11))))] : List Int)).length : Int).tdiv 2)) then (if (w6 ((((([0] : List Int) ++ r7) ++ ([(w6 (15 - (w6 (2 * r11))))] : List Int)).length : Int).tdiv 2)) ≤ (w6 ((((([0] : List Int) ++ r7) ++ ([(w6 (15 - (w6 (2 * r11))))] : List Int)).length : Int).tdiv 2)) then (cond (Nat.ble ((w6 ((((([0] : List Int) ++ r7) ++ ([(w6 (15 - (w6 (2 * r11))))] : List Int)).length : Int).tdiv 2)).toNat * 1) zbr)
  ((zl (zaf.r3 N) N (((([0] : List Int) ++ r7) ++ ([(w6 (15 - (w6 (2 * r11))))] : List Int)), (List.replicate (w6 ((((([0] : List Int) ++ r7) ++ ([(w6 (15 - (w6 (2 * r11))))] : List Int)).length : Int).tdiv 2)).toNat (0 : Int)), 0)).bind fun y12 =>
  some (zd3 y12.2.1)) none) else none) else none) none) none) ((zb3 (decide (a1.N < 0))).bind fun r13 =>
  cond (Nat.ble ((r7.length + ([(w6 (15 - (w6 (2 * r13))))] : List Int).length) * 8) zbr)
  (if 0 ≤ (w6 (((r7 ++ ([(w6 (15 - (w6 (2 * r13))))] : List Int)).length : Int).tdiv 2)) then (if (w6 (((r7 ++ ([(w6 (15 - (w6 (2 * r13))))] : List Int)).length : Int).tdiv 2)) ≤ (w6 (((r7 ++ ([(w6 (15 - (w6 (2 * r13))))] : List Int)).length : Int).tdiv 2)) then (cond (Nat.ble ((w6 (((r7 ++ ([(w6 (15 - (w6 (2 * r13))))] : List Int)).length : Int).tdiv 2)).toNat * 1) zbr)
  ((zl (zaf.r3 N) N ((r7 ++ ([(w6 (15 - (w6 (2 * r13))))] : List Int)), (List.replicate (w6 (((r7 ++ ([(w6 (15 - (w6 (2 * r13))))] : List Int)).length : Int).tdiv 2)).toNat (0 : Int)), 0)).bind fun y14 =>
  some (zd3 y14.2.1)) none) else none) else none) none))))
def zaf.k (N : Nat) : Kq := ⟨75, (cvv [Ty.str] [Ty.DataType, Ty.Value] (zaf N)), go [zc2.k, zbp.k N, zb6.k N, zju.k, zb3.k] {lits := [31, 35, 92]} [(1, .plain { slots := [(2, .ptr 2 0), (3, .ptr 3 0), (6, .own 5000006 T6), (7, .own 5000007 (Ty.int .u8)), (8, .val T6)], boxes := [(2, Ty.DataType, []), (3, Ty.Value, [])] } [(Ty.sl T6), (Ty.sl (Ty.int .u8)), T6, Ty.DataType, Ty.Value] (zl (zaf.r1 N) N)), (3, .plain { slots := [(6, .own 5000006 T6), (9, .own 5000009 (Ty.int .u8)), (10, .val T6)], boxes := [] } [(Ty.sl T6), (Ty.sl (Ty.int .u8)), T6] (zl (zaf.r3 N) N))] Proofs.Tryz.func75 (hL := ⟨⟨_, _, rfl, by kernel_rfl⟩, ⟨_, _, rfl, by kernel_rfl⟩, trivial⟩)⟩
def zgj (a0 : ByteArray) (a1 : Int) (a2 : ByteArray) : Option ByteArray :=
 if 0 ≤ a1 ∧ a1 ≤ (a0.size : Int) then (if 0 ≤ (0 : Int) ∧ (0 : Int) ≤ a1 then (if (((a0.extract (0 : Int).toNat a1.toNat).size + a2.size : Nat) : Int) > IntKind.i64.max then none else if 0 ≤ (w6 (a1 + (a2.size : Int))) ∧ (w6 (a1 + (a2.size : Int))) ≤ (a0.size : Int) then (if ((((a0.extract (0 : Int).toNat a1.toNat) ++ a2).size + (a0.extract (w6 (a1 + (a2.size : Int))).toNat a0.size).size : Nat) : Int) > IntKind.i64.max then none else some (((a0.extract (0 : Int).toNat a1.toNat) ++ a2) ++ (a0.extract (w6 (a1 + (a2.size : Int))).toNat a0.size))) else none) else none) else none
def zgj.k : Kq := ⟨92, (cvv [Ty.str] [Ty.str, T6, Ty.str] zgj), go [] {} [] Proofs.Tryz.func92⟩
def zbv.b0 (N : Nat) (s3 : List Int) (s6 : Int) (b1 : zB) (b2 : Storage) (b5 : Storage) : Option (Stp ((List Int) × Int × zB × Storage × Storage)) :=
 cond (decide (s6 < (b1.zA.length : Int))) ((idx b1.zA s6).bind fun x1001 => cond (x1001.Kind == 0) ((idx s3 s6).bind fun x1002 =>
  (zaf N x1001.zI x1001.Value).bind fun r1003 => (zgj b5.Bytes x1002 r1003).bind fun r1004 =>
  some (.again (s3, (w6 (s6 + 1)), b1, b2, (⟨r1004, b5.Tags⟩ : Storage)))) (some (.again (s3, (w6 (s6 + 1)), b1, b2, b5))))
  (some (.leave (s3, s6, b1, b2, b5)))
def zbv.r0 (N : Nat) (x : (List Int) × Int × zB × Storage × Storage) := zbv.b0 N x.1 x.2.1 x.2.2.1 x.2.2.2.1 x.2.2.2.2
def zbv (N : Nat) (a0 : zB) : Option Storage :=
 (zi N a0).bind fun r1 => (zck N 0 (w6 (r1.2 * 16))).bind fun r2 => if 0 ≤ r1.2 then (if r1.2 ≤ r1.2 then (cond (Nat.ble (r1.2.toNat * 1) zbr)
  ((zl (zbv.r0 N) N (r1.1, 0, a0, (⟨(⟨#[]⟩ : ByteArray), []⟩ : Storage), (⟨r2, (List.replicate r1.2.toNat (false : Bool))⟩ : Storage))).bind fun y3 =>
  some y3.2.2.2.2) none) else none) else none
def zbv.k (N : Nat) : Kq := ⟨51, (cvv [Ty.Storage] [Ty.zB] (zbv N)), go [zi.k N, zaf.k N, zck.k N, zgj.k] {lits := [44]} [(0, .plain { slots := [(1, .ptr 1 0), (2, .ptr 2 0), (3, .val (Ty.sl T6)), (5, .ptr 5 0), (6, .val T6)], boxes := [(1, Ty.zB, []), (2, Ty.Storage, [1]), (5, Ty.Storage, [1])] } [(Ty.sl T6), T6, Ty.zB, Ty.Storage, Ty.Storage] (zl (zbv.r0 N) N))] Proofs.Tryz.func51 (hL := ⟨⟨_, _, rfl, by kernel_rfl⟩, trivial⟩)⟩
def zjb (N : Nat) (a0 : zB) : Option zD :=
 (zbv N a0).bind fun r1 => some (⟨r1, 0, [], [], 0, 0, 0⟩ : zD)
def zjb.k (N : Nat) : Kq := ⟨24, (cvv [Ty.zD] [Ty.zB] (zjb N)), go [zbv.k N] {} [] Proofs.Tryz.func24⟩
def zc5.b0 (N : Nat) (s0 : List Bool) (s1 : List Bool) (s5 : Int) : Option (Round Bool ((List Bool) × (List Bool) × Int)) :=
 cond (decide (s5 < (s0.length : Int))) ((idx s0 s5).bind fun x1001 => (idx s1 s5).bind fun x1002 => cond (!(x1001 == x1002)) (some (.result false))
  (some (.again (s0, s1, (w6 (s5 + 1)))))) (some (.leave (s0, s1, s5)))
def zc5.r0 (N : Nat) (x : (List Bool) × (List Bool) × Int) := zc5.b0 N x.1 x.2.1 x.2.2
def zc5 (N : Nat) (a0 : List Bool) (a1 : List Bool) : Option Bool :=
 cond ((a0.length : Int) != (a1.length : Int)) (some false) ((zj (zc5.r0 N) N (a0, a1, 0)).bind fun z2 => zb5 z2 (fun z => some z) (fun y1 => some true))
def zc5.k (N : Nat) : Kq := ⟨68, (cvv [Ty.bool] [(Ty.sl Ty.bool), (Ty.sl Ty.bool)] (zc5 N)), go [] {} [(0, .rets { slots := [(0, .val (Ty.sl Ty.bool)), (1, .val (Ty.sl Ty.bool)), (5, .val T6)], boxes := [] } [(Ty.sl Ty.bool), (Ty.sl Ty.bool), T6] (zj (zc5.r0 N) N))] Proofs.Tryz.func68 (hL := ⟨⟨_, _, rfl, by kernel_rfl⟩, trivial⟩)⟩
def zf6 (N : Nat) (a0 : Storage) (a1 : Storage) : Option Bool :=
 (cond (a0.Bytes.toList == a1.Bytes.toList) ((zc5 N a0.Tags a1.Tags).bind fun r1 => some r1) (some false)).bind fun g2 => some g2
def zf6.k (N : Nat) : Kq := ⟨30, (cvv [Ty.bool] [Ty.Storage, Ty.Storage] (zf6 N)), go [zc5.k N] {} [] Proofs.Tryz.func30⟩
def zdw.b0 (N : Nat) (s0 : List Int) (s1 : List Int) (s5 : Int) : Option (Round Bool ((List Int) × (List Int) × Int)) :=
 cond (decide (s5 < (s0.length : Int))) ((idx s0 s5).bind fun x1001 => (idx s1 s5).bind fun x1002 => cond (x1001 != x1002) (some (.result false))
  (some (.again (s0, s1, (w6 (s5 + 1)))))) (some (.leave (s0, s1, s5)))
def zdw.r0 (N : Nat) (x : (List Int) × (List Int) × Int) := zdw.b0 N x.1 x.2.1 x.2.2
def zdw (N : Nat) (a0 : List Int) (a1 : List Int) : Option Bool :=
 cond ((a0.length : Int) != (a1.length : Int)) (some false) ((zj (zdw.r0 N) N (a0, a1, 0)).bind fun z2 => zb5 z2 (fun z => some z) (fun y1 => some true))
def zdw.k (N : Nat) : Kq := ⟨48, (cvv [Ty.bool] [(Ty.sl T6), (Ty.sl T6)] (zdw N)), go [] {} [(0, .rets { slots := [(0, .val (Ty.sl T6)), (1, .val (Ty.sl T6)), (5, .val T6)], boxes := [] } [(Ty.sl T6), (Ty.sl T6), T6] (zj (zdw.r0 N) N))] Proofs.Tryz.func48 (hL := ⟨⟨_, _, rfl, by kernel_rfl⟩, trivial⟩)⟩
def ziv (N : Nat) (a0 : zD) (a1 : zD) : Option Bool :=
 (zf6 N a0.Storage a1.Storage).bind fun r1 => (cond r1 (some (a0.At == a1.At)) (some false)).bind fun g2 => (cond g2 ((zdw N a0.Stack a1.Stack).bind fun r3 =>
  some r3) (some false)).bind fun g4 => (cond g4 ((zbs N a0.Lines a1.Lines).bind fun r5 => some r5) (some false)).bind fun g6 => (cond g6 (some (a0.Status == a1.Status))
  (some false)).bind fun g7 => (cond g7 (some (a0.Exception == a1.Exception)) (some false)).bind fun g8 => (cond g8 (some (a0.Steps == a1.Steps)) (some false)).bind fun g9 => some g9
def ziv.k (N : Nat) : Kq := ⟨18, (cvv [Ty.bool] [Ty.zD, Ty.zD] (ziv N)), go [zf6.k N, zbs.k N, zdw.k N] {} [] Proofs.Tryz.func18⟩
def zd2 (N : Nat) (a0 : zB) (a1 : zD) : Option Bool :=
 (zkm N).bind fun r1 => cond (!r1) (some false) ((zbg N a0).bind fun r2 => (cond (!r2) (some true) ((zdv N a1).bind fun r3 => some (!r3))).bind fun g4 =>
  cond g4 (some true) ((zc0 N a0).bind fun r5 => (zdd N r5).bind fun r6 => (zik N a0).bind fun r7 => cond (r7 != 0) ((cond (r6.2 != r7) (some true)
  ((zkc r6.1).bind fun r8 => some (!r8))).bind fun g9 => cond g9 (some false) ((zc0 N a0).bind fun r10 => (zjs a1).bind fun r11 =>
  (zdl N r10 r11).bind fun r12 => (zad N a0 a1).bind fun r13 => some (r12 == r13))) ((cond (r6.2 != 0) (some true) ((zjb N a0).bind fun r14 =>
  (ziv N r6.1 r14).bind fun r15 => some (!r15))).bind fun g16 => cond g16 (some false) ((zc0 N a0).bind fun r17 => (zjs a1).bind fun r18 =>
  (zdl N r17 r18).bind fun r19 => (zad N a0 a1).bind fun r20 => some (r19 == r20)))))
def zd2.k (N : Nat) : Kq := ⟨6, (cvv [Ty.bool] [Ty.zB, Ty.zD] (zd2 N)), go [zkm.k N, zbg.k N, zc0.k N, zik.k N, ziv.k N, zdv.k N, zdd.k N, zkc.k, zjb.k N, zdl.k N, zjs.k, zad.k N] {lits := [20, 41, 46, 48]} [] Proofs.Tryz.func6⟩
end
end Go.Proofs.YtmifhmfokbigiaaGreatDoor.M
