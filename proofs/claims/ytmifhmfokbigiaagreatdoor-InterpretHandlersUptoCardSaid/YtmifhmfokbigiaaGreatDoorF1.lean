/- What the program's functions compute, each tied to its code: part 1. -/
import Derived.Test.YtmifhmfokbigiaaGreatDoorF0
namespace Go.Proofs.YtmifhmfokbigiaaGreatDoor.M
open Go Go.Amx
set_option linter.unusedVariables false
set_option maxRecDepth 100000
noncomputable section
def za6.b0 (N : Nat) (b1000000 : zC) : Option (Round zC zC) :=
 (zc6 N b1000000.zB b1000000.zD.At b1000000.raised).bind fun r1001 => cond (decide (r1001 ≥ 0))
  (some (.result (⟨b1000000.zB, (⟨b1000000.zD.Storage, r1001, b1000000.zD.Stack, b1000000.zD.Lines, b1000000.zD.Status, b1000000.zD.Exception, b1000000.zD.Steps⟩ : zD), b1000000.layout, b1000000.raised⟩ : zC)))
  (cond ((b1000000.zD.Stack.length : Int) == 0) ((zy b1000000 2).bind fun r1002 => some (.result r1002))
  ((idx b1000000.zD.Stack (w6 ((b1000000.zD.Stack.length : Int) - 1))).bind fun x1003 =>
  if 0 ≤ (w6 ((b1000000.zD.Stack.length : Int) - 1)) ∧ (w6 ((b1000000.zD.Stack.length : Int) - 1)) ≤ (b1000000.zD.Stack.length : Int) then (if 0 ≤ (0 : Int) ∧ (0 : Int) ≤ (w6 ((b1000000.zD.Stack.length : Int) - 1)) then ((ziv 8 ((b1000000.zD.Stack.take (w6 ((b1000000.zD.Stack.length : Int) - 1)).toNat).drop (0 : Int).toNat)).bind fun r1004 =>
  some (.again (⟨b1000000.zB, (⟨b1000000.zD.Storage, x1003, r1004, b1000000.zD.Lines, b1000000.zD.Status, b1000000.zD.Exception, b1000000.zD.Steps⟩ : zD), b1000000.layout, b1000000.raised⟩ : zC))) else none) else none))
def za6.r0 (N : Nat) (x : zC) := za6.b0 N x
def za6 (N : Nat) (a0 : zC) : Option zC :=
 (zr (za6.r0 N) N (⟨a0.zB, (⟨a0.zD.Storage, a0.zD.At, a0.zD.Stack, a0.zD.Lines, a0.zD.Status, a0.raised, a0.zD.Steps⟩ : zD), a0.layout, a0.raised⟩ : zC)).bind fun z2 =>
  zda z2 (fun z => some z) (fun y1 => some y1)
def za6.k (N : Nat) : Kq := ⟨106, (ctv [.ptr Ty.zC true []] [] [Ty.zC] [] [Ty.zC] (za6 N)), go [zc6.k N, zy.k, zp3.k] {pk := [1000000]} [(0, .rets { slots := [(0, .ptr 1000000 0)], boxes := [(1000000, Ty.zC, [])] } [Ty.zC] (zr (za6.r0 N) N))] Proofs.Tryz.func106 (hL := ⟨⟨_, _, rfl, by kernel_rfl⟩, trivial⟩)⟩
def zin (N : Nat) (a0 : zB) (a1 : zD) (a2 : List Int) : Option zD :=
 (idx a0.zG a1.At).bind fun x1 =>
  (zej N (⟨a0, (⟨a1.Storage, a1.At, a1.Stack, a1.Lines, a1.Status, a1.Exception, (w6 (a1.Steps + 1))⟩ : zD), a2, 0⟩ : zC) x1).bind fun r2 =>
  cond (r2.2.raised != 0) ((za6 N r2.2).bind fun r3 => (cond (r3.zD.Status == 0) (some (r3.zD.Steps == 300)) (some false)).bind fun g4 =>
  cond g4 ((zy r3 3).bind fun r5 => some r5.zD) (some r3.zD)) (cond (r2.2.zD.Status != 0) ((cond (r2.2.zD.Status == 0)
  (some (r2.2.zD.Steps == 300)) (some false)).bind fun g6 => cond g6 ((zy r2.2 3).bind fun r7 => some r7.zD) (some r2.2.zD))
  (cond (r2.1 == (a0.zG.length : Int)) ((zy r2.2 1).bind fun r8 => (cond (r8.zD.Status == 0) (some (r8.zD.Steps == 300))
  (some false)).bind fun g9 => cond g9 ((zy r8 3).bind fun r10 => some r10.zD) (some r8.zD)) ((cond (r2.2.zD.Status == 0)
  (some (r2.2.zD.Steps == 300)) (some false)).bind fun g11 =>
  cond g11 ((zy (⟨r2.2.zB, (⟨r2.2.zD.Storage, r2.1, r2.2.zD.Stack, r2.2.zD.Lines, r2.2.zD.Status, r2.2.zD.Exception, r2.2.zD.Steps⟩ : zD), r2.2.layout, r2.2.raised⟩ : zC) 3).bind fun r12 =>
  some r12.zD) (some (⟨r2.2.zD.Storage, r2.1, r2.2.zD.Stack, r2.2.zD.Lines, r2.2.zD.Status, r2.2.zD.Exception, r2.2.zD.Steps⟩ : zD)))))
def zin.k (N : Nat) : Kq := ⟨65, (cvv [Ty.zD] [Ty.zB, Ty.zD, (Ty.sl T6)] (zin N)), go [zej.k N, za6.k N, zy.k] {} [] Proofs.Tryz.func65⟩
def zbn.b0 (N : Nat) (s1 : Int) (s9 : List Int) (s11 : Int) (b1000000 : zD) (b3 : zB) (b7 : zD) : Option (Stp (Int × (List Int) × Int × zD × zB × zD)) :=
 (cond (decide (s11 < s1)) (some (b7.Status == 0)) (some false)).bind fun g1001 => cond g1001 ((zin N b3 b7 s9).bind fun r1002 =>
  (zf6 r1002 b1000000).bind fun r1003 => some (.again (s1, s9, (w6 (s11 + 1)), r1003, b3, r1002))) (some (.leave (s1, s9, s11, b1000000, b3, b7)))
def zbn.r0 (N : Nat) (x : Int × (List Int) × Int × zD × zB × zD) := zbn.b0 N x.1 x.2.1 x.2.2.1 x.2.2.2.1 x.2.2.2.2.1 x.2.2.2.2.2
def zbn (N : Nat) (a0 : zB) (a1 : Int) (a2 : zD) : Option (Int × zD) :=
 (zhy N a0).bind fun r1 => cond (r1.2 != 0) (some (r1.2, a2)) ((zik N a0).bind fun r2 => cond (r2.2.2 != 0) (some (r2.2.2, a2))
  ((zf6 r1.1 a2).bind fun r3 => (zt (zbn.r0 N) N (a1, r2.1, 0, r3, a0, r1.1)).bind fun y4 => some (0, y4.2.2.2.1)))
def zbn.k (N : Nat) : Kq := ⟨44, (ctv [.val Ty.zB, .val T6, .clo 69 1, .ptr Ty.zD true []] [T6] [Ty.zD] [] [Ty.zB, T6, Ty.zD] (zbn N)), go [zhy.k N, zik.k N, zin.k N, zf6.k] {pk := [1000000]} [(0, .plain { slots := [(1, .val T6), (2, .fn 69 [1000000]), (3, .ptr 3 0), (7, .ptr 7 0), (9, .val (Ty.sl T6)), (11, .val T6)], boxes := [(1000000, Ty.zD, []), (3, Ty.zB, []), (7, Ty.zD, [])] } [T6, (Ty.sl T6), T6, Ty.zD, Ty.zB, Ty.zD] (zt (zbn.r0 N) N))] Proofs.Tryz.func44 (hL := ⟨⟨_, _, rfl, by kernel_rfl⟩, trivial⟩)⟩
def zjc (N : Nat) (a0 : zB) : Option (zP × Int) :=
 (zbn N a0 300 (⟨(⟨(⟨#[]⟩ : ByteArray), []⟩ : Storage), 0, [], [], 0, 0, 0⟩ : zD)).bind fun r1 => cond (r1.1 != 0) (some ((⟨[], 0, 0, 0⟩ : zP), r1.1))
  (some ((⟨r1.2.Lines, r1.2.Status, r1.2.Exception, r1.2.Steps⟩ : zP), 0))
def zjc.k (N : Nat) : Kq := ⟨32, (cvv [Ty.zP, T6] [Ty.zB] (zjc N)), go [zbn.k N] {} [] Proofs.Tryz.func32⟩
def zet.b0 (N : Nat) (s0 : List ByteArray) (s1 : List ByteArray) (s5 : Int) : Option (Round Bool ((List ByteArray) × (List ByteArray) × Int)) :=
 cond (decide (s5 < (s0.length : Int))) ((idx s0 s5).bind fun x1001 => (idx s1 s5).bind fun x1002 => cond (!(x1001.toList == x1002.toList)) (some (.result false))
  (some (.again (s0, s1, (w6 (s5 + 1)))))) (some (.leave (s0, s1, s5)))
def zet.r0 (N : Nat) (x : (List ByteArray) × (List ByteArray) × Int) := zet.b0 N x.1 x.2.1 x.2.2
def zet (N : Nat) (a0 : List ByteArray) (a1 : List ByteArray) : Option Bool :=
 cond ((a0.length : Int) != (a1.length : Int)) (some false) ((zr (zet.r0 N) N (a0, a1, 0)).bind fun z2 => zda z2 (fun z => some z) (fun y1 => some true))
def zet.k (N : Nat) : Kq := ⟨31, (cvv [Ty.bool] [(Ty.sl Ty.str), (Ty.sl Ty.str)] (zet N)), go [] {} [(0, .rets { slots := [(0, .val (Ty.sl Ty.str)), (1, .val (Ty.sl Ty.str)), (5, .val T6)], boxes := [] } [(Ty.sl Ty.str), (Ty.sl Ty.str), T6] (zr (zet.r0 N) N))] Proofs.Tryz.func31 (hL := ⟨⟨_, _, rfl, by kernel_rfl⟩, trivial⟩)⟩
def zhd (N : Nat) (a0 : zP) (a1 : zP) : Option Bool :=
 (zet N a0.Lines a1.Lines).bind fun r1 => (cond r1 (some (a0.Status == a1.Status)) (some false)).bind fun g2 => (cond g2 (some (a0.Exception == a1.Exception))
  (some false)).bind fun g3 => (cond g3 (some (a0.Steps == a1.Steps)) (some false)).bind fun g4 => some g4
def zhd.k (N : Nat) : Kq := ⟨33, (cvv [Ty.bool] [Ty.zP, Ty.zP] (zhd N)), go [zet.k N] {} [] Proofs.Tryz.func33⟩
def zi2 (N : Nat)  : Option Bool :=
 (zlc).bind fun r1 => (zjc N r1).bind fun r2 => (cond (r2.2 == 0)
  ((zhd N r2.1 (⟨([(⟨#[56]⟩ : ByteArray)] : List ByteArray), 1, 0, 3⟩ : zP)).bind fun r3 => some r3) (some false)).bind fun g4 => some g4
def zi2.k (N : Nat) : Kq := ⟨11, (cvv [Ty.bool] [] (zi2 N)), go [zjc.k N, zhd.k N, zlc.k] {lits := [4, 12]} [] Proofs.Tryz.func11⟩
def za4.b0 (N : Nat) (s3 : Int) (b1 : zB) : Option (Round Bool (Int × zB)) :=
 cond (decide (s3 < (b1.zA.length : Int))) ((idx b1.zA s3).bind fun x1001 => (cond (decide ((x1001.Name.size : Int) > 100)) (some true)
  (some (decide ((x1001.Base.size : Int) > 100)))).bind fun g1002 => (cond g1002 (some true) (some (decide ((x1001.Value.S.size : Int) > 600)))).bind fun g1003 =>
  cond g1003 (some (.result false)) (some (.again ((w6 (s3 + 1)), b1)))) (some (.leave (s3, b1)))
def za4.r0 (N : Nat) (x : Int × zB) := za4.b0 N x.1 x.2
def za4.b2 (N : Nat) (s5 : Int) (b1 : zB) : Option (Round Bool (Int × zB)) :=
 cond (decide (s5 < (b1.zG.length : Int))) ((idx b1.zG s5).bind fun x3001 => cond (decide ((x3001.Args.length : Int) > 6)) (some (.result false))
  (some (.again ((w6 (s5 + 1)), b1)))) (some (.leave (s5, b1)))
def za4.r2 (N : Nat) (x : Int × zB) := za4.b2 N x.1 x.2
def za4 (N : Nat) (a0 : zB) : Option Bool :=
 (cond (decide ((a0.zA.length : Int) > 28)) (some true) (some (decide ((a0.zG.length : Int) > 44)))).bind fun g1 => (cond g1 (some true)
  (some (decide ((a0.zI.length : Int) > 9)))).bind fun g2 => cond g2 (some false) ((zr (za4.r0 N) N (0, a0)).bind fun z4 => zda z4 (fun z => some z) (fun y3 =>
  (zr (za4.r2 N) N (0, y3.2)).bind fun z6 => zda z6 (fun z => some z) (fun y5 => some true)))
def za4.k (N : Nat) : Kq := ⟨12, (cvv [Ty.bool] [Ty.zB] (za4 N)), go [] {} [(0, .rets { slots := [(1, .ptr 1 0), (3, .val T6)], boxes := [(1, Ty.zB, [])] } [T6, Ty.zB] (zr (za4.r0 N) N)), (2, .rets { slots := [(1, .ptr 1 0), (5, .val T6)], boxes := [(1, Ty.zB, [])] } [T6, Ty.zB] (zr (za4.r2 N) N))] Proofs.Tryz.func12 (hL := ⟨⟨_, _, rfl, by kernel_rfl⟩, ⟨_, _, rfl, by kernel_rfl⟩, trivial⟩)⟩
def zho (a0 : List Int) : Option ((List Int)) :=
 cond (Nat.ble (a0.length * 8) zbr) (some a0) none
def zho.k : Kq := ⟨46, (ctv [.val (Ty.sl T6)] [(Ty.sl T6)] [] [0] [(Ty.sl T6)] zho), go [] {} [] Proofs.Tryz.func46⟩
def zc5.b0 (N : Nat) (s4 : Int) (b1 : zB) (b2 : zB) (b3 : zB) : Option (Stp (Int × zB × zB × zB)) :=
 cond (decide (s4 < (b1.zG.length : Int))) ((idx b1.zG s4).bind fun x1001 => (idx b1.zG s4).bind fun x1002 =>
  (zho x1002.Args).bind fun r1003 => cond (Nat.ble ((b3.zG.length + ([(⟨x1001.Op, r1003⟩ : zK)] : List zK).length) * 32) zbr)
  (some (.again ((w6 (s4 + 1)), b1, b2, (⟨b3.zA, (b3.zG ++ ([(⟨x1001.Op, r1003⟩ : zK)] : List zK)), b3.zI⟩ : zB)))) none)
  (some (.leave (s4, b1, b2, b3)))
def zc5.r0 (N : Nat) (x : Int × zB × zB × zB) := zc5.b0 N x.1 x.2.1 x.2.2.1 x.2.2.2
def zc5 (N : Nat) (a0 : zB) : Option zB :=
 cond (Nat.ble (a0.zA.length * 104) zbr) (cond (Nat.ble (a0.zI.length * 32) zbr)
  ((zt (zc5.r0 N) N (0, a0, (⟨[], [], []⟩ : zB), (⟨a0.zA, [], a0.zI⟩ : zB))).bind fun y1 => some y1.2.2.2) none) none
def zc5.k (N : Nat) : Kq := ⟨14, (cvv [Ty.zB] [Ty.zB] (zc5 N)), go [zho.k] {lits := [33, 35]} [(0, .plain { slots := [(1, .ptr 1 0), (2, .ptr 2 0), (3, .ptr 3 0), (4, .val T6)], boxes := [(1, Ty.zB, []), (2, Ty.zB, [0, 1, 2]), (3, Ty.zB, [0, 1, 2])] } [T6, Ty.zB, Ty.zB, Ty.zB] (zt (zc5.r0 N) N))] Proofs.Tryz.func14 (hL := ⟨⟨_, _, rfl, by kernel_rfl⟩, trivial⟩)⟩
def zdo (N : Nat) (a0 : zB) : Option Int :=
 (zc N a0).bind fun r1 => some r1.2
def zdo.k (N : Nat) : Kq := ⟨41, (cvv [T6] [Ty.zB] (zdo N)), go [zc.k N] {} [] Proofs.Tryz.func41⟩
def zg1 (a0 : Bool) (a1 : Int) : Option Int :=
 cond a0 (some a1) (some 0)
def zg1.k : Kq := ⟨42, (cvv [T6] [Ty.bool, T6] zg1), go [] {} [] Proofs.Tryz.func42⟩
def zas.b0 (N : Nat) (s5 : List Int) (s6 : Int) (s7 : Int) : Option (Round Int ((List Int) × Int × Int)) :=
 cond (decide (s7 < s6)) ((idx s5 s7).bind fun x1001 => cond (x1001 != 0) (some (.result x1001)) (some (.again (s5, s6, (w6 (s7 + 1)))))) (some (.leave (s5, s6, s7)))
def zas.r0 (N : Nat) (x : (List Int) × Int × Int) := zas.b0 N x.1 x.2.1 x.2.2
def zas (N : Nat) (a0 : List Int) : Option Int :=
 (zr (zas.r0 N) N (a0, (a0.length : Int), 0)).bind fun z2 => zda z2 (fun z => some z) (fun y1 => some 0)
def zas.k (N : Nat) : Kq := ⟨40, (cvv [T6] [(Ty.sl T6)] (zas N)), go [] {} [(0, .rets { slots := [(5, .val (Ty.sl T6)), (6, .val T6), (7, .val T6)], boxes := [] } [(Ty.sl T6), T6, T6] (zr (zas.r0 N) N))] Proofs.Tryz.func40 (hL := ⟨⟨_, _, rfl, by kernel_rfl⟩, trivial⟩)⟩
def zer (N : Nat) (a0 : zB) (a1 : Int) (a2 : Int) : Option (Int × Int) :=
 (zdo N a0).bind fun r1 => (zck a1 0 (w6 ((a0.zG.length : Int) - 1))).bind fun r2 => (cond (!r2) (some true)
  ((zck a2 1 999).bind fun r3 => some (!r3))).bind fun g4 => (zg1 g4 3).bind fun r5 => (zas N ([r1, r5] : List Int)).bind fun r6 => cond (r6 != 0)
  (some (0, r6)) ((zc6 N a0 a1 a2).bind fun r7 => cond (decide (r7 < 0)) (some (0, 40)) (some (r7, 0)))
def zer.k (N : Nat) : Kq := ⟨20, (cvv [T6, T6] [Ty.zB, T6, T6] (zer N)), go [zas.k N, zdo.k N, zg1.k, zck.k, zc6.k N] {lits := [11, 24, 25]} [] Proofs.Tryz.func20⟩
def zh (a0 : Int) (a1 : Int) (a2 : Int) : Option Bool :=
 (cond (decide (a1 ≤ a0)) (some (decide (a0 ≤ a2))) (some false)).bind fun g1 => some g1
def zh.k : Kq := ⟨16, (cvv [Ty.bool] [T6, T6, T6] zh), go [] {} [] Proofs.Tryz.func16⟩
def zid (a0 : Int) : Option Bool :=
 (cond (decide (65 ≤ a0)) (some (decide (a0 ≤ 90))) (some false)).bind fun g1 => some g1
def zid.k : Kq := ⟨190, (cvv [Ty.bool] [(Ty.int .u8)] zid), go [] {} [] Proofs.Tryz.func190⟩
def zie (a0 : Int) : Option Bool :=
 (cond (decide (48 ≤ a0)) (some (decide (a0 ≤ 57))) (some false)).bind fun g1 => some g1
def zie.k : Kq := ⟨191, (cvv [Ty.bool] [(Ty.int .u8)] zie), go [] {} [] Proofs.Tryz.func191⟩
def zbz.b0 (N : Nat) (s0 : ByteArray) (s3 : Int) : Option (Round Bool (ByteArray × Int)) :=
 cond (decide (s3 < (s0.size : Int))) ((zgd s0 s3).bind fun x1001 => (zid (x1001.toNat : Int)).bind fun r1002 => (cond r1002 (some true)
  (some ((x1001.toNat : Int) == 36))).bind fun g1003 => (cond g1003 (some true) (some ((x1001.toNat : Int) == 35))).bind fun g1004 => (cond g1004 (some true)
  (some ((x1001.toNat : Int) == 64))).bind fun g1005 => (cond (!g1005) ((cond (s3 == 0) (some true) ((zie (x1001.toNat : Int)).bind fun r1006 => (cond (!r1006)
  (some ((x1001.toNat : Int) != 95)) (some false)).bind fun g1007 => (cond g1007 (some ((x1001.toNat : Int) != 46)) (some false)).bind fun g1008 => some g1008)).bind fun g1009 =>
  some g1009) (some false)).bind fun g1010 => cond g1010 (some (.result false)) (some (.again (s0, (w6 (s3 + 1)))))) (some (.leave (s0, s3)))
def zbz.r0 (N : Nat) (x : ByteArray × Int) := zbz.b0 N x.1 x.2
def zbz (N : Nat) (a0 : ByteArray) : Option Bool :=
 (zh (a0.size : Int) 1 10).bind fun r1 => cond (!r1) (some false) ((zr (zbz.r0 N) N (a0, 0)).bind fun z3 => zda z3 (fun z => some z) (fun y2 => some true))
def zbz.k (N : Nat) : Kq := ⟨132, (cvv [Ty.bool] [Ty.str] (zbz N)), go [zh.k, zid.k, zie.k] {lits := [7]} [(0, .rets { slots := [(0, .val Ty.str), (3, .val T6)], boxes := [] } [Ty.str, T6] (zr (zbz.r0 N) N))] Proofs.Tryz.func132 (hL := ⟨⟨_, _, rfl, by kernel_rfl⟩, trivial⟩)⟩
def zcb.b0 (N : Nat) (s1 : ByteArray) (s5 : Int) (b2 : zB) : Option (Round Int (ByteArray × Int × zB)) :=
 cond (decide (s5 < (b2.zA.length : Int))) ((idx b2.zA s5).bind fun x1001 => cond (x1001.Name.toList == s1.toList) (some (.result s5))
  (some (.again (s1, (w6 (s5 + 1)), b2)))) (some (.leave (s1, s5, b2)))
def zcb.r0 (N : Nat) (x : ByteArray × Int × zB) := zcb.b0 N x.1 x.2.1 x.2.2
def zcb (N : Nat) (a0 : zB) (a1 : ByteArray) : Option Int :=
 (zr (zcb.r0 N) N (a1, 0, a0)).bind fun z2 => zda z2 (fun z => some z) (fun y1 => some (-1))
def zcb.k (N : Nat) : Kq := ⟨100, (cvv [T6] [Ty.zB, Ty.str] (zcb N)), go [] {} [(0, .rets { slots := [(1, .val Ty.str), (2, .ptr 2 0), (5, .val T6)], boxes := [(2, Ty.zB, [])] } [Ty.str, T6, Ty.zB] (zr (zcb.r0 N) N))] Proofs.Tryz.func100 (hL := ⟨⟨_, _, rfl, by kernel_rfl⟩, trivial⟩)⟩
def zfw (a0 : zF) : Option Bool :=
 (cond (a0.Base.toList == (⟨#[]⟩ : ByteArray).toList) (some (a0.Offset == 0)) (some false)).bind fun g1 => (cond (a0.Kind == 0) (some (a0.Kind == 0))
  (some (a0.Kind == 4))).bind fun q2 => cond q2 ((cond (!g1) (some true) (some (a0.Target != 0))).bind fun g3 => some g3) ((cond (a0.Kind == 1) (some (a0.Kind == 1))
  (some (a0.Kind == 2))).bind fun q4 => cond q4 ((cond (!(zel [(a0.Value.N == 0), (a0.Value.S == (⟨#[]⟩ : ByteArray))])) (some true) (some (a0.Target != 0))).bind fun g5 =>
  some g5) (cond (a0.Kind == 3) ((cond (!(zel [(a0.zJ.Kind == 0), (a0.zJ.Length == 0), (a0.zJ.Scale == 0)])) (some true)
  (some (!(zel [(a0.Value.N == 0), (a0.Value.S == (⟨#[]⟩ : ByteArray))])))).bind fun g6 => (cond g6 (some true) (some (!g1))).bind fun g7 => (cond g7 (some true)
  (some (a0.Target != 0))).bind fun g8 => some g8) ((cond (!(zel [(a0.zJ.Kind == 0), (a0.zJ.Length == 0), (a0.zJ.Scale == 0)])) (some true)
  (some (!(zel [(a0.Value.N == 0), (a0.Value.S == (⟨#[]⟩ : ByteArray))])))).bind fun g9 => (cond g9 (some true) (some (!g1))).bind fun g10 => some g10)))
def zfw.k : Kq := ⟨133, (cvv [Ty.bool] [Ty.zF] zfw), go [] {bj := [19, 29]} [] Proofs.Tryz.func133⟩
def zdl (a0 : Int) : Option Bool :=
 (cond (a0 == 0) (some true) (some (a0 == 1))).bind fun g1 => (cond g1 (some true) (some (a0 == 2))).bind fun g2 => some g2
def zdl.k : Kq := ⟨118, (cvv [Ty.bool] [T6] zdl), go [] {} [] Proofs.Tryz.func118⟩
def zd3 (a0 : Int) : Option Bool :=
 (zdl a0).bind fun r1 => (cond r1 (some true) (some (a0 == 4))).bind fun g2 => some g2
def zd3.k : Kq := ⟨74, (cvv [Ty.bool] [T6] zd3), go [zdl.k] {} [] Proofs.Tryz.func74⟩
def zb8 (a0 : Int) : Option Bool :=
 (zh a0 1 3).bind fun r1 => some r1
def zb8.k : Kq := ⟨124, (cvv [Ty.bool] [T6] zb8), go [zh.k] {} [] Proofs.Tryz.func124⟩
def zbo (a0 : Bool) : Option Int :=
 cond a0 (some 1) (some 0)
def zbo.k : Kq := ⟨122, (cvv [T6] [Ty.bool] zbo), go [] {} [] Proofs.Tryz.func122⟩
def zey (a0 : DataType) : Option Int :=
 (zh a0.Kind 0 4).bind fun r1 => cond (!r1) (some 4) (cond (a0.Kind == 0) ((zh a0.Length 1 256).bind fun r2 => cond (!r2) (some 18)
  ((zb8 a0.Kind).bind fun r3 => cond r3 ((zh a0.Scale 0 a0.Length).bind fun r4 => (zbo (!r4)).bind fun r5 => some (w6 (3 * r5)))
  ((zh a0.Scale 0 0).bind fun r6 => (zbo (!r6)).bind fun r7 => some (w6 (3 * r7))))) ((cond (a0.Kind == 1) (some (a0.Kind == 1))
  (some (a0.Kind == 2))).bind fun q8 => cond q8 ((zh a0.Length 1 15).bind fun r9 => cond (!r9) (some 18) ((zb8 a0.Kind).bind fun r10 =>
  cond r10 ((zh a0.Scale 0 a0.Length).bind fun r11 => (zbo (!r11)).bind fun r12 => some (w6 (3 * r12))) ((zh a0.Scale 0 0).bind fun r13 =>
  (zbo (!r13)).bind fun r14 => some (w6 (3 * r14))))) (cond (a0.Kind == 3) ((cond (a0.Length == 4) (some true) (some (a0.Length == 9))).bind fun g15 =>
  cond (!g15) (some 18) ((zb8 a0.Kind).bind fun r16 => cond r16 ((zh a0.Scale 0 a0.Length).bind fun r17 => (zbo (!r17)).bind fun r18 =>
  some (w6 (3 * r18))) ((zh a0.Scale 0 0).bind fun r19 => (zbo (!r19)).bind fun r20 => some (w6 (3 * r20))))) (cond (!(a0.Length == 0))
  (some 18) ((zb8 a0.Kind).bind fun r21 => cond r21 ((zh a0.Scale 0 a0.Length).bind fun r22 => (zbo (!r22)).bind fun r23 =>
  some (w6 (3 * r23))) ((zh a0.Scale 0 0).bind fun r24 => (zbo (!r24)).bind fun r25 => some (w6 (3 * r25))))))))
def zey.k : Kq := ⟨134, (cvv [T6] [Ty.DataType] zey), go [zh.k, zbo.k, zb8.k] {bj := [19]} [] Proofs.Tryz.func134⟩
def zcg.b0 (N : Nat) (s0 : Int) (s3 : Int) (s4 : Int) : Option (Stp (Int × Int × Int)) :=
 cond (decide (s4 < s0)) (some (.again (s0, (w6 (s3 * 10)), (w6 (s4 + 1))))) (some (.leave (s0, s3, s4)))
def zcg.r0 (N : Nat) (x : Int × Int × Int) := zcg.b0 N x.1 x.2.1 x.2.2
def zcg (N : Nat) (a0 : Int) : Option Int :=
 (zt (zcg.r0 N) N (a0, 1, 0)).bind fun y1 => some y1.2.1
def zcg.k (N : Nat) : Kq := ⟨170, (cvv [T6] [T6] (zcg N)), go [] {} [(0, .plain { slots := [(0, .val T6), (3, .val T6), (4, .val T6)], boxes := [] } [T6, T6, T6] (zt (zcg.r0 N) N))] Proofs.Tryz.func170 (hL := ⟨⟨_, _, rfl, by kernel_rfl⟩, trivial⟩)⟩
def zij (N : Nat) (a0 : DataType) : Option Int :=
 (zcg N a0.Length).bind fun r1 => some (w6 (r1 - 1))
def zij.k (N : Nat) : Kq := ⟨180, (cvv [T6] [Ty.DataType] (zij N)), go [zcg.k N] {} [] Proofs.Tryz.func180⟩
def ze7 (N : Nat) (a0 : DataType) (a1 : Value) : Option Int :=
 (zey a0).bind fun r1 => cond (r1 != 0) (some r1) (cond (a0.Kind == 4) (some 17) ((cond (a0.Kind == 0) (some (a1.N != 0)) (some false)).bind fun g2 =>
  (cond g2 (some true) ((cond (a0.Kind != 0) (some (!(a1.S.toList == (⟨#[]⟩ : ByteArray).toList))) (some false)).bind fun g3 => some g3)).bind fun g4 => cond g4 (some 5)
  (cond (a0.Kind == 0) ((zbo ((a1.S.size : Int) != a0.Length)).bind fun r5 => some (w6 (18 * r5))) ((zij N a0).bind fun r6 =>
  (zij N a0).bind fun r7 => (zh a1.N (w6 (0 - r6)) r7).bind fun r8 => (zbo (!r8)).bind fun r9 => some (w6 (19 * r9))))))
def ze7.k (N : Nat) : Kq := ⟨135, (cvv [T6] [Ty.DataType, Ty.Value] (ze7 N)), go [zh.k, zbo.k, zey.k, zij.k N] {lits := [49]} [] Proofs.Tryz.func135⟩
def zco (a0 : DataType) : Option Int :=
 cond (a0.Kind == 1) (some (w6 ((w6 (a0.Length.tdiv 2)) + 1))) (cond (a0.Kind == 3) ((zbo (a0.Length == 9)).bind fun r1 =>
  some (w6 (2 + (w6 (2 * r1))))) (cond (a0.Kind == 4) (some 16) (some a0.Length)))
def zco.k : Kq := ⟨77, (cvv [T6] [Ty.DataType] zco), go [zbo.k] {} [] Proofs.Tryz.func77⟩
def ze6 (N : Nat) (a0 : zB) (a1 : Int) : Option Int :=
 (idx a0.zA a1).bind fun x1 => (zbz N x1.Name).bind fun r2 => cond (!r2) (some 7) ((zcb N a0 x1.Name).bind fun r3 => cond (decide (r3 < a1)) (some 13)
  ((zh x1.Kind 0 5).bind fun r4 => cond (!r4) (some 4) ((zfw x1).bind fun r5 => cond r5 (some 5) ((zd3 x1.Kind).bind fun r6 =>
  cond r6 ((zey x1.zJ).bind fun r7 => cond (r7 != 0) (some r7) (cond (x1.zJ.Kind == 4) (some 17) ((zcb N a0 x1.Base).bind fun r8 => (cond (x1.Kind == 0)
  (some (x1.Kind == 0)) (some (x1.Kind == 4))).bind fun q9 => cond q9 ((ze7 N x1.zJ x1.Value).bind fun r10 => some r10) ((cond (x1.Kind == 1) (some (x1.Kind == 1))
  (some (x1.Kind == 2))).bind fun q11 => cond q11 ((cond (r8 == (-1)) (some true) (some (decide (r8 ≥ a1)))).bind fun g12 => cond g12 (some 11) ((idx a0.zA r8).bind fun x13 =>
  (cond (x1.Kind == 1) (some (x13.Kind != 0)) (some false)).bind fun g14 => (cond g14 (some true) ((cond (x1.Kind == 2) (some (x13.Kind != 3)) (some false)).bind fun g15 =>
  some g15)).bind fun g16 => cond g16 (some 17) (cond (x1.Kind == 1) ((zco x13.zJ).bind fun r17 => (zco x1.zJ).bind fun r18 =>
  (zh x1.Offset 0 (w6 (r17 - r18))).bind fun r19 => cond (!r19) (some 3) (some 0)) ((zh x1.Offset 0 256).bind fun r20 => cond (!r20) (some 3)
  (some 0))))) (cond (x1.Kind == 5) ((zh x1.Target 0 (w6 ((a0.zG.length : Int) - 1))).bind fun r21 => cond (!r21) (some 3) (some 0)) (some 0))))))
  ((zcb N a0 x1.Base).bind fun r22 => (cond (x1.Kind == 0) (some (x1.Kind == 0)) (some (x1.Kind == 4))).bind fun q23 =>
  cond q23 ((ze7 N x1.zJ x1.Value).bind fun r24 => some r24) ((cond (x1.Kind == 1) (some (x1.Kind == 1)) (some (x1.Kind == 2))).bind fun q25 =>
  cond q25 ((cond (r22 == (-1)) (some true) (some (decide (r22 ≥ a1)))).bind fun g26 => cond g26 (some 11) ((idx a0.zA r22).bind fun x27 => (cond (x1.Kind == 1)
  (some (x27.Kind != 0)) (some false)).bind fun g28 => (cond g28 (some true) ((cond (x1.Kind == 2) (some (x27.Kind != 3)) (some false)).bind fun g29 => some g29)).bind fun g30 =>
  cond g30 (some 17) (cond (x1.Kind == 1) ((zco x27.zJ).bind fun r31 => (zco x1.zJ).bind fun r32 =>
  (zh x1.Offset 0 (w6 (r31 - r32))).bind fun r33 => cond (!r33) (some 3) (some 0)) ((zh x1.Offset 0 256).bind fun r34 => cond (!r34) (some 3)
  (some 0))))) (cond (x1.Kind == 5) ((zh x1.Target 0 (w6 ((a0.zG.length : Int) - 1))).bind fun r35 => cond (!r35) (some 3) (some 0)) (some 0))))))))
def ze6.k (N : Nat) : Kq := ⟨82, (cvv [T6] [Ty.zB, T6] (ze6 N)), go [zh.k, zd3.k, zco.k, zcb.k N, zbz.k N, zfw.k, zey.k, ze7.k N] {bj := [54, 62]} [] Proofs.Tryz.func82⟩
def zj.b0 (N : Nat) (s4 : List Int) (s5 : Int) (s6 : Int) (b1 : zB) : Option (Stp ((List Int) × Int × Int × zB)) :=
 cond (decide (s6 < (b1.zA.length : Int))) (if 0 ≤ s6 then (if s6 < (s4.length : Int) then ((s4[s6.toNat]?).bind fun x1001 => (idx b1.zA s6).bind fun x1002 =>
  cond (x1002.Kind == 3) (if 0 ≤ s6 then (if s6 < ((s4.set s6.toNat (-1)).length : Int) then (((s4.set s6.toNat (-1))[s6.toNat]?).bind fun x1003 =>
  some (.again (((s4.set s6.toNat (-1)).set s6.toNat s5), (w6 (s5 + 16)), (w6 (s6 + 1)), b1))) else none) else none)
  (some (.again ((s4.set s6.toNat (-1)), s5, (w6 (s6 + 1)), b1)))) else none) else none) (some (.leave (s4, s5, s6, b1)))
def zj.r0 (N : Nat) (x : (List Int) × Int × Int × zB) := zj.b0 N x.1 x.2.1 x.2.2.1 x.2.2.2
def zj.b2 (N : Nat) (s4 : List Int) (s5 : Int) (s7 : Int) (b1 : zB) : Option (Stp ((List Int) × Int × Int × zB)) :=
 cond (decide (s7 < (b1.zA.length : Int))) ((idx b1.zA s7).bind fun x3001 => cond (x3001.Kind == 0)
  (if 0 ≤ s7 then (if s7 < (s4.length : Int) then ((s4[s7.toNat]?).bind fun x3002 => (zco x3001.zJ).bind fun r3003 =>
  some (.again ((s4.set s7.toNat s5), (w6 (s5 + r3003)), (w6 (s7 + 1)), b1))) else none) else none)
  (some (.again (s4, s5, (w6 (s7 + 1)), b1)))) (some (.leave (s4, s5, s7, b1)))
def zj.r2 (N : Nat) (x : (List Int) × Int × Int × zB) := zj.b2 N x.1 x.2.1 x.2.2.1 x.2.2.2
def zj.b4 (N : Nat) (s4 : List Int) (s5 : Int) (s9 : Int) (b1 : zB) : Option (Stp ((List Int) × Int × Int × zB)) :=
 cond (decide (s9 < (b1.zA.length : Int))) ((idx b1.zA s9).bind fun x5001 => cond (x5001.Kind == 1) ((zcb N b1 x5001.Base).bind fun r5002 =>
  if 0 ≤ r5002 then (if r5002 < (s4.length : Int) then ((s4[r5002.toNat]?).bind fun x5003 => if 0 ≤ s9 then (if s9 < (s4.length : Int) then ((s4[s9.toNat]?).bind fun x5004 =>
  some (.again ((s4.set s9.toNat (w6 (x5003 + x5001.Offset))), s5, (w6 (s9 + 1)), b1))) else none) else none) else none) else none)
  (some (.again (s4, s5, (w6 (s9 + 1)), b1)))) (some (.leave (s4, s5, s9, b1)))
def zj.r4 (N : Nat) (x : (List Int) × Int × Int × zB) := zj.b4 N x.1 x.2.1 x.2.2.1 x.2.2.2
def zj (N : Nat) (a0 : zB) : Option ((List Int) × Int) :=
 if 0 ≤ (a0.zA.length : Int) then (if (a0.zA.length : Int) ≤ (a0.zA.length : Int) then (cond (Nat.ble ((a0.zA.length : Int).toNat * 8) zbr)
  ((zt (zj.r0 N) N ((List.replicate (a0.zA.length : Int).toNat (0 : Int)), 0, 0, a0)).bind fun y1 =>
  (zt (zj.r2 N) N (y1.1, y1.2.1, 0, y1.2.2.2)).bind fun y2 => (zt (zj.r4 N) N (y2.1, y2.2.1, 0, y2.2.2.2)).bind fun y3 =>
  some (y3.1, (w6 ((w6 ((w6 (y3.2.1 + 16)) - 1)).tdiv 16)))) none) else none) else none
def zj.k (N : Nat) : Kq := ⟨60, (cvv [(Ty.sl T6), T6] [Ty.zB] (zj N)), go [zco.k, zcb.k N] {} [(0, .plain { slots := [(1, .ptr 1 0), (4, .own 5000004 T6), (5, .val T6), (6, .val T6)], boxes := [(1, Ty.zB, [])] } [(Ty.sl T6), T6, T6, Ty.zB] (zt (zj.r0 N) N)), (2, .plain { slots := [(1, .ptr 1 0), (4, .own 5000004 T6), (5, .val T6), (7, .val T6)], boxes := [(1, Ty.zB, [])] } [(Ty.sl T6), T6, T6, Ty.zB] (zt (zj.r2 N) N)), (4, .plain { slots := [(1, .ptr 1 0), (4, .own 5000004 T6), (5, .val T6), (9, .val T6)], boxes := [(1, Ty.zB, [])] } [(Ty.sl T6), T6, T6, Ty.zB] (zt (zj.r4 N) N))] Proofs.Tryz.func60 (hL := ⟨⟨_, _, rfl, by kernel_rfl⟩, ⟨_, _, rfl, by kernel_rfl⟩, ⟨_, _, rfl, by kernel_rfl⟩, trivial⟩)⟩
def zgq (a0 : Int) : Option ((List Int)) :=
 cond (a0 == 0) (some ([0, 4] : List Int)) (cond (a0 == 1) (some ([1, 3] : List Int)) ((cond (a0 == 2) (some (a0 == 2)) (cond (a0 == 3) (some (a0 == 3)) (cond (a0 == 4)
  (some (a0 == 4)) (cond (a0 == 5) (some (a0 == 5)) (some (a0 == 6)))))).bind fun q1 => cond q1 (some ([1, 3, 3] : List Int)) ((cond (a0 == 7) (some (a0 == 7))
  (some (a0 == 8))).bind fun q2 => cond q2 (some ([2, 4, 6] : List Int)) ((cond (a0 == 9) (some (a0 == 9)) (some (a0 == 13))).bind fun q3 => cond q3 (some ([6] : List Int))
  (cond (a0 == 10) (some ([5, 0] : List Int)) (cond (a0 == 11) (some ([5, 5] : List Int)) (cond (a0 == 12) (some ([5, 3] : List Int)) (cond (a0 == 15) (some ([3] : List Int))
  (cond (a0 == 16) (some ([1] : List Int)) (cond (a0 == 17) (some ([2] : List Int)) (some [])))))))))))
def zgq.k : Kq := ⟨136, (cvv [(Ty.sl T6)] [T6] zgq), go [] {bj := [10, 17, 21]} [] Proofs.Tryz.func136⟩
def zdw (a0 : zF) : Option Bool :=
 (zb8 a0.zJ.Kind).bind fun r1 => some r1
def zdw.k : Kq := ⟨137, (cvv [Ty.bool] [Ty.zF] zdw), go [zb8.k] {} [] Proofs.Tryz.func137⟩
def zaa.b0 (N : Nat) (s5 : List Int) (s6 : Int) (b2 : zB) (b3 : zK) : Option (Round Int ((List Int) × Int × zB × zK)) :=
 cond (decide (s6 < (s5.length : Int))) ((idx b3.Args s6).bind fun x1001 => (zh x1001 0 (w6 ((b2.zA.length : Int) - 1))).bind fun r1002 =>
  cond (!r1002) (some (.result 3)) ((idx b3.Args s6).bind fun x1003 => (idx b2.zA x1003).bind fun x1004 => (idx s5 s6).bind fun x1005 => cond (x1005 == 0)
  ((zdl x1004.Kind).bind fun r1006 => cond (!r1006) (some (.result 17)) (some (.again (s5, (w6 (s6 + 1)), b2, b3)))) (cond (x1005 == 1)
  ((zdl x1004.Kind).bind fun r1007 => (cond r1007 ((zdw x1004).bind fun r1008 => some r1008) (some false)).bind fun g1009 => cond (!g1009) (some (.result 17))
  (some (.again (s5, (w6 (s6 + 1)), b2, b3)))) (cond (x1005 == 2) ((zd3 x1004.Kind).bind fun r1010 => cond (!r1010) (some (.result 17))
  (some (.again (s5, (w6 (s6 + 1)), b2, b3)))) (cond (x1005 == 3) ((zd3 x1004.Kind).bind fun r1011 => (cond r1011 ((zdw x1004).bind fun r1012 =>
  some r1012) (some false)).bind fun g1013 => cond (!g1013) (some (.result 17)) (some (.again (s5, (w6 (s6 + 1)), b2, b3)))) (cond (x1005 == 4)
  ((zd3 x1004.Kind).bind fun r1014 => (cond r1014 ((zdw x1004).bind fun r1015 => (idx b3.Args (w6 (s6 - 1))).bind fun x1016 =>
  (idx b2.zA x1016).bind fun x1017 => (zdw x1017).bind fun r1018 => some (r1015 == r1018)) (some false)).bind fun g1019 => cond (!g1019) (some (.result 17))
  (some (.again (s5, (w6 (s6 + 1)), b2, b3)))) (cond (x1005 == 5) (cond (!(x1004.Kind == 3)) (some (.result 17))
  (some (.again (s5, (w6 (s6 + 1)), b2, b3)))) (cond (x1005 == 6) (cond (!(x1004.Kind == 5)) (some (.result 17))
  (some (.again (s5, (w6 (s6 + 1)), b2, b3)))) (some (.result 17)))))))))) (some (.leave (s5, s6, b2, b3)))
def zaa.r0 (N : Nat) (x : (List Int) × Int × zB × zK) := zaa.b0 N x.1 x.2.1 x.2.2.1 x.2.2.2
def zaa (N : Nat) (a0 : zB) (a1 : zK) : Option Int :=
 (zh a1.Op 0 18).bind fun r1 => cond (!r1) (some 4) ((zgq a1.Op).bind fun r2 => cond ((a1.Args.length : Int) != (r2.length : Int)) (some 37)
  ((zr (zaa.r0 N) N (r2, 0, a0, a1)).bind fun z4 => zda z4 (fun z => some z) (fun y3 => some 0)))
def zaa.k (N : Nat) : Kq := ⟨83, (cvv [T6] [Ty.zB, Ty.zK] (zaa N)), go [zh.k, zd3.k, zdl.k, zgq.k, zdw.k] {} [(0, .rets { slots := [(2, .ptr 2 0), (3, .ptr 3 0), (5, .val (Ty.sl T6)), (6, .val T6)], boxes := [(2, Ty.zB, []), (3, Ty.zK, [])] } [(Ty.sl T6), T6, Ty.zB, Ty.zK] (zr (zaa.r0 N) N))] Proofs.Tryz.func83 (hL := ⟨⟨_, _, rfl, by kernel_rfl⟩, trivial⟩)⟩
def zp.b0 (N : Nat) (s4 : Int) (b1 : zB) (b2 : zL) : Option (Round (zL × Int) (Int × zB × zL)) :=
 cond (decide (s4 < (b1.zA.length : Int))) ((ze6 N b1 s4).bind fun r1001 => cond (r1001 != 0) (some (.result ((⟨1, s4⟩ : zL), r1001)))
  (some (.again ((w6 (s4 + 1)), b1, b2)))) (some (.leave (s4, b1, b2)))
def zp.r0 (N : Nat) (x : Int × zB × zL) := zp.b0 N x.1 x.2.1 x.2.2
def zp.b2 (N : Nat) (s8 : Int) (b1 : zB) (b2 : zL) : Option (Round (zL × Int) (Int × zB × zL)) :=
 cond (decide (s8 < (b1.zG.length : Int))) ((idx b1.zG s8).bind fun x3001 => (zaa N b1 x3001).bind fun r3002 => cond (r3002 != 0)
  (some (.result ((⟨2, s8⟩ : zL), r3002))) (some (.again ((w6 (s8 + 1)), b1, b2)))) (some (.leave (s8, b1, b2)))
def zp.r2 (N : Nat) (x : Int × zB × zL) := zp.b2 N x.1 x.2.1 x.2.2
def zp.b4 (N : Nat) (s10 : Int) (b1 : zB) (b2 : zL) : Option (Round (zL × Int) (Int × zB × zL)) :=
 cond (decide (s10 < (b1.zI.length : Int))) ((idx b1.zI s10).bind fun x5001 => (cond (decide (x5001.From < 0)) (some true)
  (some (decide (x5001.From ≥ x5001.To)))).bind fun g5002 => (cond g5002 (some true) (some (decide (x5001.To > (b1.zG.length : Int))))).bind fun g5003 =>
  (cond g5003 (some true) ((zh x5001.Exception 0 999).bind fun r5004 => some (!r5004))).bind fun g5005 => (cond g5005 (some true)
  ((zh x5001.Handler 0 (w6 ((b1.zG.length : Int) - 1))).bind fun r5006 => some (!r5006))).bind fun g5007 =>
  cond g5007 (some (.result ((⟨3, s10⟩ : zL), 3))) (some (.again ((w6 (s10 + 1)), b1, b2)))) (some (.leave (s10, b1, b2)))
def zp.r4 (N : Nat) (x : Int × zB × zL) := zp.b4 N x.1 x.2.1 x.2.2
def zp (N : Nat) (a0 : zB) : Option (zL × Int) :=
 (cond (decide ((a0.zA.length : Int) > 24)) (some true) (some (decide ((a0.zG.length : Int) > 40)))).bind fun g1 => (cond g1 (some true)
  (some (decide ((a0.zI.length : Int) > 6)))).bind fun g2 => cond g2 (some ((⟨0, 0⟩ : zL), 2)) (cond ((a0.zG.length : Int) == 0) (some ((⟨0, 0⟩ : zL), 1))
  ((zr (zp.r0 N) N (0, a0, (⟨0, 0⟩ : zL))).bind fun z4 => zda z4 (fun z => some z) (fun y3 => (zj N y3.2.1).bind fun r5 => cond (decide (r5.2 > 24))
  (some ((⟨0, 0⟩ : zL), 30)) ((zr (zp.r2 N) N (0, y3.2.1, y3.2.2)).bind fun z7 => zda z7 (fun z => some z) (fun y6 =>
  (zr (zp.r4 N) N (0, y6.2.1, y6.2.2)).bind fun z9 => zda z9 (fun z => some z) (fun y8 => some ((⟨0, 0⟩ : zL), 0)))))))
def zp.k (N : Nat) : Kq := ⟨47, (cvv [Ty.zL, T6] [Ty.zB] (zp N)), go [zh.k, zj.k N, ze6.k N, zaa.k N] {} [(0, .rets { slots := [(1, .ptr 1 0), (2, .ptr 2 0), (4, .val T6)], boxes := [(1, Ty.zB, []), (2, Ty.zL, [])] } [T6, Ty.zB, Ty.zL] (zr (zp.r0 N) N)), (2, .rets { slots := [(1, .ptr 1 0), (2, .ptr 2 0), (8, .val T6)], boxes := [(1, Ty.zB, []), (2, Ty.zL, [])] } [T6, Ty.zB, Ty.zL] (zr (zp.r2 N) N)), (4, .rets { slots := [(1, .ptr 1 0), (2, .ptr 2 0), (10, .val T6)], boxes := [(1, Ty.zB, []), (2, Ty.zL, [])] } [T6, Ty.zB, Ty.zL] (zr (zp.r4 N) N))] Proofs.Tryz.func47 (hL := ⟨⟨_, _, rfl, by kernel_rfl⟩, ⟨_, _, rfl, by kernel_rfl⟩, ⟨_, _, rfl, by kernel_rfl⟩, trivial⟩)⟩
def zjs (N : Nat) (a0 : zB) : Option Int :=
 (zp N a0).bind fun r1 => some r1.2
def zjs.k (N : Nat) : Kq := ⟨15, (cvv [T6] [Ty.zB] (zjs N)), go [zp.k N] {} [] Proofs.Tryz.func15⟩
def zbf.b0 (N : Nat) (s1 : Int) (s2 : Int) (s7 : Int) (b3 : zB) : Option (Round Int (Int × Int × Int × zB)) :=
 cond (decide (s7 < (b3.zI.length : Int))) ((idx b3.zI s7).bind fun x1001 => (cond (decide (x1001.From ≤ s1)) (some (decide (s1 < x1001.To)))
  (some false)).bind fun g1002 => (cond g1002 ((cond (x1001.Exception == 0) (some true) (some (x1001.Exception == s2))).bind fun g1003 => some g1003) (some false)).bind fun g1004 =>
  cond g1004 (some (.result x1001.Handler)) (some (.again (s1, s2, (w6 (s7 + 1)), b3)))) (some (.leave (s1, s2, s7, b3)))
def zbf.r0 (N : Nat) (x : Int × Int × Int × zB) := zbf.b0 N x.1 x.2.1 x.2.2.1 x.2.2.2
def zbf (N : Nat) (a0 : zB) (a1 : Int) (a2 : Int) : Option Int :=
 (zr (zbf.r0 N) N (a1, a2, 0, a0)).bind fun z2 => zda z2 (fun z => some z) (fun y1 => some (-1))
def zbf.k (N : Nat) : Kq := ⟨21, (cvv [T6] [Ty.zB, T6, T6] (zbf N)), go [] {} [(0, .rets { slots := [(1, .val T6), (2, .val T6), (3, .ptr 3 0), (7, .val T6)], boxes := [(3, Ty.zB, [])] } [T6, T6, T6, Ty.zB] (zr (zbf.r0 N) N))] Proofs.Tryz.func21 (hL := ⟨⟨_, _, rfl, by kernel_rfl⟩, trivial⟩)⟩
def zcp (N : Nat) (a0 : zB) (a1 : Int) (a2 : Int) : Option Bool :=
 (zi2 N).bind fun r1 => cond (!r1) (some false) ((za4 N a0).bind fun r2 => cond (!r2) (some true) ((zc5 N a0).bind fun r3 =>
  (zer N r3 a1 a2).bind fun r4 => (zjs N a0).bind fun r5 => (cond (r5 == 0)
  ((zh a1 0 (w6 ((a0.zG.length : Int) - 1))).bind fun r6 => (cond (!r6) (some true) ((zh a2 1 999).bind fun r7 =>
  some (!r7))).bind fun g8 => some g8) (some false)).bind fun g9 => cond g9 ((cond (r4.2 == 3) (some (r4.1 == 0)) (some false)).bind fun g10 => some g10) (cond (r5 != 0)
  ((cond (r4.2 == r5) (some (r4.1 == 0)) (some false)).bind fun g11 => some g11) ((zbf N a0 a1 a2).bind fun r12 => (cond (r12 == (-1)) (some (r4.2 == 40))
  (some false)).bind fun g13 => (cond g13 (some (r4.1 == 0)) (some false)).bind fun g14 => (cond g14 (some true) ((cond (r12 != (-1)) (some (r4.2 == 0))
  (some false)).bind fun g15 => (cond g15 (some (r4.1 == r12)) (some false)).bind fun g16 => some g16)).bind fun g17 => some g17))))
def zcp.k (N : Nat) : Kq := ⟨5, (cvv [Ty.bool] [Ty.zB, T6, T6] (zcp N)), go [zi2.k N, za4.k N, zc5.k N, zjs.k N, zh.k, zer.k N, zbf.k N] {lits := [18]} [] Proofs.Tryz.func5⟩
end
end Go.Proofs.YtmifhmfokbigiaaGreatDoor.M
