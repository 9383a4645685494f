/- What the program's functions compute, each tied to its code: part 1. -/
import Derived.Test.YtppbpnknfigboaaGreatDoorF0
namespace Go.Proofs.YtppbpnknfigboaaGreatDoor.M
open Go Go.Amx
set_option linter.unusedVariables false
set_option maxRecDepth 100000
noncomputable section
def zar.b0 (N : Nat) (b1000000 : zD) : Option (Round zD zD) :=
 (zg5 N b1000000.zB b1000000.zC.At b1000000.raised).bind fun r1001 => cond (decide (r1001 ≥ 0))
  (some (.result (⟨b1000000.zB, (⟨b1000000.zC.Storage, r1001, b1000000.zC.Stack, b1000000.zC.Lines, b1000000.zC.Status, b1000000.zC.Exception, b1000000.zC.Steps⟩ : zC), b1000000.layout, b1000000.raised⟩ : zD)))
  (cond ((b1000000.zC.Stack.length : Int) == 0) ((zak b1000000 2).bind fun r1002 => some (.result r1002))
  ((idx b1000000.zC.Stack (w6 ((b1000000.zC.Stack.length : Int) - 1))).bind fun x1003 =>
  if 0 ≤ (w6 ((b1000000.zC.Stack.length : Int) - 1)) ∧ (w6 ((b1000000.zC.Stack.length : Int) - 1)) ≤ (b1000000.zC.Stack.length : Int) then (if 0 ≤ (0 : Int) ∧ (0 : Int) ≤ (w6 ((b1000000.zC.Stack.length : Int) - 1)) then ((zjc 8 ((b1000000.zC.Stack.take (w6 ((b1000000.zC.Stack.length : Int) - 1)).toNat).drop (0 : Int).toNat)).bind fun r1004 =>
  some (.again (⟨b1000000.zB, (⟨b1000000.zC.Storage, x1003, r1004, b1000000.zC.Lines, b1000000.zC.Status, b1000000.zC.Exception, b1000000.zC.Steps⟩ : zC), b1000000.layout, b1000000.raised⟩ : zD))) else none) else none))
def zar.r0 (N : Nat) (x : zD) := zar.b0 N x
def zar (N : Nat) (a0 : zD) : Option zD :=
 (zt (zar.r0 N) N (⟨a0.zB, (⟨a0.zC.Storage, a0.zC.At, a0.zC.Stack, a0.zC.Lines, a0.zC.Status, a0.raised, a0.zC.Steps⟩ : zC), a0.layout, a0.raised⟩ : zD)).bind fun z2 =>
  zee z2 (fun z => some z) (fun y1 => some y1)
def zar.k (N : Nat) : Kq := ⟨165, (ctv [.ptr Ty.zD true []] [] [Ty.zD] [] [Ty.zD] (zar N)), go [zu8.k, zak.k, zg5.k N] {pk := [1000000]} [(0, .rets { slots := [(0, .ptr 1000000 0)], boxes := [(1000000, Ty.zD, [])] } [Ty.zD] (zt (zar.r0 N) N))] Proofs.Tryz.func165 (hL := ⟨⟨_, _, rfl, by kernel_rfl⟩, trivial⟩)⟩
def zir (N : Nat) (a0 : zB) (a1 : zC) (a2 : List Int) : Option zC :=
 (idx a0.zG a1.At).bind fun x1 =>
  (zd N (⟨a0, (⟨a1.Storage, a1.At, a1.Stack, a1.Lines, a1.Status, a1.Exception, (w6 (a1.Steps + 1))⟩ : zC), a2, 0⟩ : zD) x1).bind fun r2 =>
  cond (r2.2.raised != 0) ((zar N r2.2).bind fun r3 => (cond (r3.zC.Status == 0) (some (r3.zC.Steps == 300)) (some false)).bind fun g4 =>
  cond g4 ((zak r3 3).bind fun r5 => some r5.zC) (some r3.zC)) (cond (r2.2.zC.Status != 0) ((cond (r2.2.zC.Status == 0)
  (some (r2.2.zC.Steps == 300)) (some false)).bind fun g6 => cond g6 ((zak r2.2 3).bind fun r7 => some r7.zC) (some r2.2.zC))
  (cond (r2.1 == (a0.zG.length : Int)) ((zak r2.2 1).bind fun r8 => (cond (r8.zC.Status == 0) (some (r8.zC.Steps == 300))
  (some false)).bind fun g9 => cond g9 ((zak r8 3).bind fun r10 => some r10.zC) (some r8.zC)) ((cond (r2.2.zC.Status == 0)
  (some (r2.2.zC.Steps == 300)) (some false)).bind fun g11 =>
  cond g11 ((zak (⟨r2.2.zB, (⟨r2.2.zC.Storage, r2.1, r2.2.zC.Stack, r2.2.zC.Lines, r2.2.zC.Status, r2.2.zC.Exception, r2.2.zC.Steps⟩ : zC), r2.2.layout, r2.2.raised⟩ : zD) 3).bind fun r12 =>
  some r12.zC) (some (⟨r2.2.zC.Storage, r2.1, r2.2.zC.Stack, r2.2.zC.Lines, r2.2.zC.Status, r2.2.zC.Exception, r2.2.zC.Steps⟩ : zC)))))
def zir.k (N : Nat) : Kq := ⟨110, (cvv [Ty.zC] [Ty.zB, Ty.zC, (Ty.sl T6)] (zir N)), go [zd.k N, zar.k N, zak.k] {} [] Proofs.Tryz.func110⟩
def za6.b0 (N : Nat) (s1 : Int) (s9 : List Int) (s11 : Int) (b1000000 : zC) (b3 : zB) (b7 : zC) : Option (Stp (Int × (List Int) × Int × zC × zB × zC)) :=
 (cond (decide (s11 < s1)) (some (b7.Status == 0)) (some false)).bind fun g1001 => cond g1001 ((zir N b3 b7 s9).bind fun r1002 =>
  (zgk r1002 b1000000).bind fun r1003 => some (.again (s1, s9, (w6 (s11 + 1)), r1003, b3, r1002))) (some (.leave (s1, s9, s11, b1000000, b3, b7)))
def za6.r0 (N : Nat) (x : Int × (List Int) × Int × zC × zB × zC) := za6.b0 N x.1 x.2.1 x.2.2.1 x.2.2.2.1 x.2.2.2.2.1 x.2.2.2.2.2
def za6 (N : Nat) (a0 : zB) (a1 : Int) (a2 : zC) : Option (Int × zC) :=
 (zf2 N a0).bind fun r1 => cond (r1.2 != 0) (some (r1.2, a2)) ((zio N a0).bind fun r2 => cond (r2.2.2 != 0) (some (r2.2.2, a2))
  ((zgk r1.1 a2).bind fun r3 => (zh (za6.r0 N) N (a1, r2.1, 0, r3, a0, r1.1)).bind fun y4 => some (0, y4.2.2.2.1)))
def za6.k (N : Nat) : Kq := ⟨70, (ctv [.val Ty.zB, .val T6, .clo 71 1, .ptr Ty.zC true []] [T6] [Ty.zC] [] [Ty.zB, T6, Ty.zC] (za6 N)), go [zgk.k, zf2.k N, zio.k N, zir.k N] {pk := [1000000]} [(0, .plain { slots := [(1, .val T6), (2, .fn 71 [1000000]), (3, .ptr 3 0), (7, .ptr 7 0), (9, .val (Ty.sl T6)), (11, .val T6)], boxes := [(1000000, Ty.zC, []), (3, Ty.zB, []), (7, Ty.zC, [])] } [T6, (Ty.sl T6), T6, Ty.zC, Ty.zB, Ty.zC] (zh (za6.r0 N) N))] Proofs.Tryz.func70 (hL := ⟨⟨_, _, rfl, by kernel_rfl⟩, trivial⟩)⟩
def zfp (N : Nat) (a0 : zB) : Option (zQ × Int) :=
 (za6 N a0 300 (⟨(⟨(⟨#[]⟩ : ByteArray), []⟩ : Storage), 0, [], [], 0, 0, 0⟩ : zC)).bind fun r1 => cond (r1.1 != 0) (some ((⟨[], 0, 0, 0⟩ : zQ), r1.1))
  (some ((⟨r1.2.Lines, r1.2.Status, r1.2.Exception, r1.2.Steps⟩ : zQ), 0))
def zfp.k (N : Nat) : Kq := ⟨28, (cvv [Ty.zQ, T6] [Ty.zB] (zfp N)), go [za6.k N] {} [] Proofs.Tryz.func28⟩
def zcz.b0 (N : Nat) (s0 : List ByteArray) (s1 : List ByteArray) (s5 : Int) : Option (Round Bool ((List ByteArray) × (List ByteArray) × Int)) :=
 cond (decide (s5 < (s0.length : Int))) ((idx s0 s5).bind fun x1001 => (idx s1 s5).bind fun x1002 => cond (!(x1001.toList == x1002.toList)) (some (.result false))
  (some (.again (s0, s1, (w6 (s5 + 1)))))) (some (.leave (s0, s1, s5)))
def zcz.r0 (N : Nat) (x : (List ByteArray) × (List ByteArray) × Int) := zcz.b0 N x.1 x.2.1 x.2.2
def zcz (N : Nat) (a0 : List ByteArray) (a1 : List ByteArray) : Option Bool :=
 cond ((a0.length : Int) != (a1.length : Int)) (some false) ((zt (zcz.r0 N) N (a0, a1, 0)).bind fun z2 => zee z2 (fun z => some z) (fun y1 => some true))
def zcz.k (N : Nat) : Kq := ⟨44, (cvv [Ty.bool] [(Ty.sl Ty.str), (Ty.sl Ty.str)] (zcz N)), go [] {} [(0, .rets { slots := [(0, .val (Ty.sl Ty.str)), (1, .val (Ty.sl Ty.str)), (5, .val T6)], boxes := [] } [(Ty.sl Ty.str), (Ty.sl Ty.str), T6] (zt (zcz.r0 N) N))] Proofs.Tryz.func44 (hL := ⟨⟨_, _, rfl, by kernel_rfl⟩, trivial⟩)⟩
def zen (N : Nat) (a0 : zQ) (a1 : zQ) : Option Bool :=
 (zcz N a0.Lines a1.Lines).bind fun r1 => (cond r1 (some (a0.Status == a1.Status)) (some false)).bind fun g2 => (cond g2 (some (a0.Exception == a1.Exception))
  (some false)).bind fun g3 => (cond g3 (some (a0.Steps == a1.Steps)) (some false)).bind fun g4 => some g4
def zen.k (N : Nat) : Kq := ⟨31, (cvv [Ty.bool] [Ty.zQ, Ty.zQ] (zen N)), go [zcz.k N] {} [] Proofs.Tryz.func31⟩
def zmg (N : Nat)  : Option Bool :=
 (zpb).bind fun r1 => (zfp N r1).bind fun r2 => (cond (r2.2 == 0)
  ((zen N r2.1 (⟨([(⟨#[56]⟩ : ByteArray)] : List ByteArray), 1, 0, 3⟩ : zQ)).bind fun r3 => some r3) (some false)).bind fun g4 => some g4
def zmg.k (N : Nat) : Kq := ⟨26, (cvv [Ty.bool] [] (zmg N)), go [zfp.k N, zen.k N, zpb.k] {lits := [4, 12]} [] Proofs.Tryz.func26⟩
def zb6.b0 (N : Nat) (s3 : Int) (b1 : zB) : Option (Round Bool (Int × zB)) :=
 cond (decide (s3 < (b1.zA.length : Int))) ((idx b1.zA s3).bind fun x1001 => (cond (decide ((x1001.Name.size : Int) > 100)) (some true)
  (some (decide ((x1001.Base.size : Int) > 100)))).bind fun g1002 => (cond g1002 (some true) (some (decide ((x1001.Value.S.size : Int) > 600)))).bind fun g1003 =>
  cond g1003 (some (.result false)) (some (.again ((w6 (s3 + 1)), b1)))) (some (.leave (s3, b1)))
def zb6.r0 (N : Nat) (x : Int × zB) := zb6.b0 N x.1 x.2
def zb6.b2 (N : Nat) (s5 : Int) (b1 : zB) : Option (Round Bool (Int × zB)) :=
 cond (decide (s5 < (b1.zG.length : Int))) ((idx b1.zG s5).bind fun x3001 => cond (decide ((x3001.Args.length : Int) > 6)) (some (.result false))
  (some (.again ((w6 (s5 + 1)), b1)))) (some (.leave (s5, b1)))
def zb6.r2 (N : Nat) (x : Int × zB) := zb6.b2 N x.1 x.2
def zb6 (N : Nat) (a0 : zB) : Option Bool :=
 (cond (decide ((a0.zA.length : Int) > 28)) (some true) (some (decide ((a0.zG.length : Int) > 44)))).bind fun g1 => (cond g1 (some true)
  (some (decide ((a0.zL.length : Int) > 9)))).bind fun g2 => cond g2 (some false) ((zt (zb6.r0 N) N (0, a0)).bind fun z4 => zee z4 (fun z => some z) (fun y3 =>
  (zt (zb6.r2 N) N (0, y3.2)).bind fun z6 => zee z6 (fun z => some z) (fun y5 => some true)))
def zb6.k (N : Nat) : Kq := ⟨27, (cvv [Ty.bool] [Ty.zB] (zb6 N)), go [] {} [(0, .rets { slots := [(1, .ptr 1 0), (3, .val T6)], boxes := [(1, Ty.zB, [])] } [T6, Ty.zB] (zt (zb6.r0 N) N)), (2, .rets { slots := [(1, .ptr 1 0), (5, .val T6)], boxes := [(1, Ty.zB, [])] } [T6, Ty.zB] (zt (zb6.r2 N) N))] Proofs.Tryz.func27 (hL := ⟨⟨_, _, rfl, by kernel_rfl⟩, ⟨_, _, rfl, by kernel_rfl⟩, trivial⟩)⟩
def zha (a0 : List Int) : Option ((List Int)) :=
 cond (Nat.ble (a0.length * 8) za7) (some a0) none
def zha.k : Kq := ⟨72, (ctv [.val (Ty.sl T6)] [(Ty.sl T6)] [] [0] [(Ty.sl T6)] zha), go [] {} [] Proofs.Tryz.func72⟩
def ze2.b0 (N : Nat) (s4 : Int) (b1 : zB) (b2 : zB) (b3 : zB) : Option (Stp (Int × zB × zB × zB)) :=
 cond (decide (s4 < (b1.zG.length : Int))) ((idx b1.zG s4).bind fun x1001 => (idx b1.zG s4).bind fun x1002 =>
  (zha x1002.Args).bind fun r1003 => cond (Nat.ble ((b3.zG.length + ([(⟨x1001.Op, r1003⟩ : zI)] : List zI).length) * 32) za7)
  (some (.again ((w6 (s4 + 1)), b1, b2, (⟨b3.zA, (b3.zG ++ ([(⟨x1001.Op, r1003⟩ : zI)] : List zI)), b3.zL⟩ : zB)))) none)
  (some (.leave (s4, b1, b2, b3)))
def ze2.r0 (N : Nat) (x : Int × zB × zB × zB) := ze2.b0 N x.1 x.2.1 x.2.2.1 x.2.2.2
def ze2 (N : Nat) (a0 : zB) : Option zB :=
 cond (Nat.ble (a0.zA.length * 104) za7) (cond (Nat.ble (a0.zL.length * 32) za7)
  ((zh (ze2.r0 N) N (0, a0, (⟨[], [], []⟩ : zB), (⟨a0.zA, [], a0.zL⟩ : zB))).bind fun y1 => some y1.2.2.2) none) none
def ze2.k (N : Nat) : Kq := ⟨29, (cvv [Ty.zB] [Ty.zB] (ze2 N)), go [zha.k] {lits := [33, 35]} [(0, .plain { slots := [(1, .ptr 1 0), (2, .ptr 2 0), (3, .ptr 3 0), (4, .val T6)], boxes := [(1, Ty.zB, []), (2, Ty.zB, [0, 1, 2]), (3, Ty.zB, [0, 1, 2])] } [T6, Ty.zB, Ty.zB, Ty.zB] (zh (ze2.r0 N) N))] Proofs.Tryz.func29 (hL := ⟨⟨_, _, rfl, by kernel_rfl⟩, trivial⟩)⟩
def zg (a0 : Int) (a1 : Int) (a2 : Int) : Option Bool :=
 (cond (decide (a1 ≤ a0)) (some (decide (a0 ≤ a2))) (some false)).bind fun g1 => some g1
def zg.k : Kq := ⟨57, (cvv [Ty.bool] [T6, T6, T6] zg), go [] {} [] Proofs.Tryz.func57⟩
def zlq (a0 : Int) : Option Bool :=
 (cond (decide (65 ≤ a0)) (some (decide (a0 ≤ 90))) (some false)).bind fun g1 => some g1
def zlq.k : Kq := ⟨246, (cvv [Ty.bool] [(Ty.int .u8)] zlq), go [] {} [] Proofs.Tryz.func246⟩
def zlr (a0 : Int) : Option Bool :=
 (cond (decide (48 ≤ a0)) (some (decide (a0 ≤ 57))) (some false)).bind fun g1 => some g1
def zlr.k : Kq := ⟨247, (cvv [Ty.bool] [(Ty.int .u8)] zlr), go [] {} [] Proofs.Tryz.func247⟩
def zdn.b0 (N : Nat) (s0 : ByteArray) (s3 : Int) : Option (Round Bool (ByteArray × Int)) :=
 cond (decide (s3 < (s0.size : Int))) ((zgd s0 s3).bind fun x1001 => (zlq (x1001.toNat : Int)).bind fun r1002 => (cond r1002 (some true)
  (some ((x1001.toNat : Int) == 36))).bind fun g1003 => (cond g1003 (some true) (some ((x1001.toNat : Int) == 35))).bind fun g1004 => (cond g1004 (some true)
  (some ((x1001.toNat : Int) == 64))).bind fun g1005 => (cond (!g1005) ((cond (s3 == 0) (some true) ((zlr (x1001.toNat : Int)).bind fun r1006 => (cond (!r1006)
  (some ((x1001.toNat : Int) != 95)) (some false)).bind fun g1007 => (cond g1007 (some ((x1001.toNat : Int) != 46)) (some false)).bind fun g1008 => some g1008)).bind fun g1009 =>
  some g1009) (some false)).bind fun g1010 => cond g1010 (some (.result false)) (some (.again (s0, (w6 (s3 + 1)))))) (some (.leave (s0, s3)))
def zdn.r0 (N : Nat) (x : ByteArray × Int) := zdn.b0 N x.1 x.2
def zdn (N : Nat) (a0 : ByteArray) : Option Bool :=
 (zg (a0.size : Int) 1 10).bind fun r1 => cond (!r1) (some false) ((zt (zdn.r0 N) N (a0, 0)).bind fun z3 => zee z3 (fun z => some z) (fun y2 => some true))
def zdn.k (N : Nat) : Kq := ⟨167, (cvv [Ty.bool] [Ty.str] (zdn N)), go [zg.k, zlq.k, zlr.k] {lits := [7]} [(0, .rets { slots := [(0, .val Ty.str), (3, .val T6)], boxes := [] } [Ty.str, T6] (zt (zdn.r0 N) N))] Proofs.Tryz.func167 (hL := ⟨⟨_, _, rfl, by kernel_rfl⟩, trivial⟩)⟩
def zdr.b0 (N : Nat) (s1 : ByteArray) (s5 : Int) (b2 : zB) : Option (Round Int (ByteArray × Int × zB)) :=
 cond (decide (s5 < (b2.zA.length : Int))) ((idx b2.zA s5).bind fun x1001 => cond (x1001.Name.toList == s1.toList) (some (.result s5))
  (some (.again (s1, (w6 (s5 + 1)), b2)))) (some (.leave (s1, s5, b2)))
def zdr.r0 (N : Nat) (x : ByteArray × Int × zB) := zdr.b0 N x.1 x.2.1 x.2.2
def zdr (N : Nat) (a0 : zB) (a1 : ByteArray) : Option Int :=
 (zt (zdr.r0 N) N (a1, 0, a0)).bind fun z2 => zee z2 (fun z => some z) (fun y1 => some (-1))
def zdr.k (N : Nat) : Kq := ⟨168, (cvv [T6] [Ty.zB, Ty.str] (zdr N)), go [] {} [(0, .rets { slots := [(1, .val Ty.str), (2, .ptr 2 0), (5, .val T6)], boxes := [(2, Ty.zB, [])] } [Ty.str, T6, Ty.zB] (zt (zdr.r0 N) N))] Proofs.Tryz.func168 (hL := ⟨⟨_, _, rfl, by kernel_rfl⟩, trivial⟩)⟩
def zim (a0 : zF) : Option Bool :=
 (cond (a0.Base.toList == (⟨#[]⟩ : ByteArray).toList) (some (a0.Offset == 0)) (some false)).bind fun g1 => (cond (a0.Kind == 0) (some (a0.Kind == 0))
  (some (a0.Kind == 4))).bind fun q2 => cond q2 ((cond (!g1) (some true) (some (a0.Target != 0))).bind fun g3 => some g3) ((cond (a0.Kind == 1) (some (a0.Kind == 1))
  (some (a0.Kind == 2))).bind fun q4 => cond q4 ((cond (!(zgu [(a0.Value.N == 0), (a0.Value.S == (⟨#[]⟩ : ByteArray))])) (some true) (some (a0.Target != 0))).bind fun g5 =>
  some g5) (cond (a0.Kind == 3) ((cond (!(zgu [(a0.zJ.Kind == 0), (a0.zJ.Length == 0), (a0.zJ.Scale == 0)])) (some true)
  (some (!(zgu [(a0.Value.N == 0), (a0.Value.S == (⟨#[]⟩ : ByteArray))])))).bind fun g6 => (cond g6 (some true) (some (!g1))).bind fun g7 => (cond g7 (some true)
  (some (a0.Target != 0))).bind fun g8 => some g8) ((cond (!(zgu [(a0.zJ.Kind == 0), (a0.zJ.Length == 0), (a0.zJ.Scale == 0)])) (some true)
  (some (!(zgu [(a0.Value.N == 0), (a0.Value.S == (⟨#[]⟩ : ByteArray))])))).bind fun g9 => (cond g9 (some true) (some (!g1))).bind fun g10 => some g10)))
def zim.k : Kq := ⟨169, (cvv [Ty.bool] [Ty.zF] zim), go [] {bj := [19, 29]} [] Proofs.Tryz.func169⟩
def zfq (a0 : Int) : Option Bool :=
 (cond (a0 == 0) (some true) (some (a0 == 1))).bind fun g1 => (cond g1 (some true) (some (a0 == 2))).bind fun g2 => some g2
def zfq.k : Kq := ⟨173, (cvv [Ty.bool] [T6] zfq), go [] {} [] Proofs.Tryz.func173⟩
def zf7 (a0 : Int) : Option Bool :=
 (zfq a0).bind fun r1 => (cond r1 (some true) (some (a0 == 4))).bind fun g2 => some g2
def zf7.k : Kq := ⟨170, (cvv [Ty.bool] [T6] zf7), go [zfq.k] {} [] Proofs.Tryz.func170⟩
def zb7 (a0 : Int) : Option Bool :=
 (zg a0 1 3).bind fun r1 => some r1
def zb7.k : Kq := ⟨144, (cvv [Ty.bool] [T6] zb7), go [zg.k] {} [] Proofs.Tryz.func144⟩
def zah (a0 : Bool) : Option Int :=
 cond a0 (some 1) (some 0)
def zah.k : Kq := ⟨124, (cvv [T6] [Ty.bool] zah), go [] {} [] Proofs.Tryz.func124⟩
def zec (a0 : DataType) : Option Int :=
 (zg a0.Kind 0 4).bind fun r1 => cond (!r1) (some 4) (cond (a0.Kind == 0) ((zg a0.Length 1 256).bind fun r2 => cond (!r2) (some 18)
  ((zb7 a0.Kind).bind fun r3 => cond r3 ((zg a0.Scale 0 a0.Length).bind fun r4 => (zah (!r4)).bind fun r5 => some (w6 (3 * r5)))
  ((zg a0.Scale 0 0).bind fun r6 => (zah (!r6)).bind fun r7 => some (w6 (3 * r7))))) ((cond (a0.Kind == 1) (some (a0.Kind == 1))
  (some (a0.Kind == 2))).bind fun q8 => cond q8 ((zg a0.Length 1 15).bind fun r9 => cond (!r9) (some 18) ((zb7 a0.Kind).bind fun r10 =>
  cond r10 ((zg a0.Scale 0 a0.Length).bind fun r11 => (zah (!r11)).bind fun r12 => some (w6 (3 * r12))) ((zg a0.Scale 0 0).bind fun r13 =>
  (zah (!r13)).bind fun r14 => some (w6 (3 * r14))))) (cond (a0.Kind == 3) ((cond (a0.Length == 4) (some true) (some (a0.Length == 9))).bind fun g15 =>
  cond (!g15) (some 18) ((zb7 a0.Kind).bind fun r16 => cond r16 ((zg a0.Scale 0 a0.Length).bind fun r17 => (zah (!r17)).bind fun r18 =>
  some (w6 (3 * r18))) ((zg a0.Scale 0 0).bind fun r19 => (zah (!r19)).bind fun r20 => some (w6 (3 * r20))))) (cond (!(a0.Length == 0))
  (some 18) ((zb7 a0.Kind).bind fun r21 => cond r21 ((zg a0.Scale 0 a0.Length).bind fun r22 => (zah (!r22)).bind fun r23 =>
  some (w6 (3 * r23))) ((zg a0.Scale 0 0).bind fun r24 => (zah (!r24)).bind fun r25 => some (w6 (3 * r25))))))))
def zec.k : Kq := ⟨143, (cvv [T6] [Ty.DataType] zec), go [zg.k, zah.k, zb7.k] {bj := [19]} [] Proofs.Tryz.func143⟩
def zdi.b0 (N : Nat) (s0 : Int) (s3 : Int) (s4 : Int) : Option (Stp (Int × Int × Int)) :=
 cond (decide (s4 < s0)) (some (.again (s0, (w6 (s3 * 10)), (w6 (s4 + 1))))) (some (.leave (s0, s3, s4)))
def zdi.r0 (N : Nat) (x : Int × Int × Int) := zdi.b0 N x.1 x.2.1 x.2.2
def zdi (N : Nat) (a0 : Int) : Option Int :=
 (zh (zdi.r0 N) N (a0, 1, 0)).bind fun y1 => some y1.2.1
def zdi.k (N : Nat) : Kq := ⟨191, (cvv [T6] [T6] (zdi N)), go [] {} [(0, .plain { slots := [(0, .val T6), (3, .val T6), (4, .val T6)], boxes := [] } [T6, T6, T6] (zh (zdi.r0 N) N))] Proofs.Tryz.func191 (hL := ⟨⟨_, _, rfl, by kernel_rfl⟩, trivial⟩)⟩
def zgf (N : Nat) (a0 : DataType) : Option Int :=
 (zdi N a0.Length).bind fun r1 => some (w6 (r1 - 1))
def zgf.k (N : Nat) : Kq := ⟨248, (cvv [T6] [Ty.DataType] (zgf N)), go [zdi.k N] {} [] Proofs.Tryz.func248⟩
def zhi (N : Nat) (a0 : DataType) (a1 : Value) : Option Int :=
 (zec a0).bind fun r1 => cond (r1 != 0) (some r1) (cond (a0.Kind == 4) (some 17) ((cond (a0.Kind == 0) (some (a1.N != 0)) (some false)).bind fun g2 =>
  (cond g2 (some true) ((cond (a0.Kind != 0) (some (!(a1.S.toList == (⟨#[]⟩ : ByteArray).toList))) (some false)).bind fun g3 => some g3)).bind fun g4 => cond g4 (some 5)
  (cond (a0.Kind == 0) ((zah ((a1.S.size : Int) != a0.Length)).bind fun r5 => some (w6 (18 * r5))) ((zgf N a0).bind fun r6 =>
  (zgf N a0).bind fun r7 => (zg a1.N (w6 (0 - r6)) r7).bind fun r8 => (zah (!r8)).bind fun r9 => some (w6 (19 * r9))))))
def zhi.k (N : Nat) : Kq := ⟨171, (cvv [T6] [Ty.DataType, Ty.Value] (zhi N)), go [zg.k, zah.k, zec.k, zgf.k N] {lits := [49]} [] Proofs.Tryz.func171⟩
def zcn (a0 : DataType) : Option Int :=
 cond (a0.Kind == 1) (some (w6 ((w6 (a0.Length.tdiv 2)) + 1))) (cond (a0.Kind == 3) ((zah (a0.Length == 9)).bind fun r1 =>
  some (w6 (2 + (w6 (2 * r1))))) (cond (a0.Kind == 4) (some 16) (some a0.Length)))
def zcn.k : Kq := ⟨103, (cvv [T6] [Ty.DataType] zcn), go [zah.k] {} [] Proofs.Tryz.func103⟩
def zhg (N : Nat) (a0 : zB) (a1 : Int) : Option Int :=
 (idx a0.zA a1).bind fun x1 => (zdn N x1.Name).bind fun r2 => cond (!r2) (some 7) ((zdr N a0 x1.Name).bind fun r3 => cond (decide (r3 < a1)) (some 13)
  ((zg x1.Kind 0 5).bind fun r4 => cond (!r4) (some 4) ((zim x1).bind fun r5 => cond r5 (some 5) ((zf7 x1.Kind).bind fun r6 =>
  cond r6 ((zec x1.zJ).bind fun r7 => cond (r7 != 0) (some r7) (cond (x1.zJ.Kind == 4) (some 17) ((zdr N a0 x1.Base).bind fun r8 => (cond (x1.Kind == 0)
  (some (x1.Kind == 0)) (some (x1.Kind == 4))).bind fun q9 => cond q9 ((zhi N x1.zJ x1.Value).bind fun r10 => some r10) ((cond (x1.Kind == 1) (some (x1.Kind == 1))
  (some (x1.Kind == 2))).bind fun q11 => cond q11 ((cond (r8 == (-1)) (some true) (some (decide (r8 ≥ a1)))).bind fun g12 => cond g12 (some 11) ((idx a0.zA r8).bind fun x13 =>
  (cond (x1.Kind == 1) (some (x13.Kind != 0)) (some false)).bind fun g14 => (cond g14 (some true) ((cond (x1.Kind == 2) (some (x13.Kind != 3)) (some false)).bind fun g15 =>
  some g15)).bind fun g16 => cond g16 (some 17) (cond (x1.Kind == 1) ((zcn x13.zJ).bind fun r17 => (zcn x1.zJ).bind fun r18 =>
  (zg x1.Offset 0 (w6 (r17 - r18))).bind fun r19 => cond (!r19) (some 3) (some 0)) ((zg x1.Offset 0 256).bind fun r20 => cond (!r20) (some 3)
  (some 0))))) (cond (x1.Kind == 5) ((zg x1.Target 0 (w6 ((a0.zG.length : Int) - 1))).bind fun r21 => cond (!r21) (some 3) (some 0)) (some 0))))))
  ((zdr N a0 x1.Base).bind fun r22 => (cond (x1.Kind == 0) (some (x1.Kind == 0)) (some (x1.Kind == 4))).bind fun q23 =>
  cond q23 ((zhi N x1.zJ x1.Value).bind fun r24 => some r24) ((cond (x1.Kind == 1) (some (x1.Kind == 1)) (some (x1.Kind == 2))).bind fun q25 =>
  cond q25 ((cond (r22 == (-1)) (some true) (some (decide (r22 ≥ a1)))).bind fun g26 => cond g26 (some 11) ((idx a0.zA r22).bind fun x27 => (cond (x1.Kind == 1)
  (some (x27.Kind != 0)) (some false)).bind fun g28 => (cond g28 (some true) ((cond (x1.Kind == 2) (some (x27.Kind != 3)) (some false)).bind fun g29 => some g29)).bind fun g30 =>
  cond g30 (some 17) (cond (x1.Kind == 1) ((zcn x27.zJ).bind fun r31 => (zcn x1.zJ).bind fun r32 =>
  (zg x1.Offset 0 (w6 (r31 - r32))).bind fun r33 => cond (!r33) (some 3) (some 0)) ((zg x1.Offset 0 256).bind fun r34 => cond (!r34) (some 3)
  (some 0))))) (cond (x1.Kind == 5) ((zg x1.Target 0 (w6 ((a0.zG.length : Int) - 1))).bind fun r35 => cond (!r35) (some 3) (some 0)) (some 0))))))))
def zhg.k (N : Nat) : Kq := ⟨111, (cvv [T6] [Ty.zB, T6] (zhg N)), go [zg.k, zcn.k, zec.k, zdn.k N, zdr.k N, zim.k, zf7.k, zhi.k N] {bj := [54, 62]} [] Proofs.Tryz.func111⟩
def zp.b0 (N : Nat) (s4 : List Int) (s5 : Int) (s6 : Int) (b1 : zB) : Option (Stp ((List Int) × Int × Int × zB)) :=
 cond (decide (s6 < (b1.zA.length : Int))) (if 0 ≤ s6 then (if s6 < (s4.length : Int) then ((s4[s6.toNat]?).bind fun x1001 => (idx b1.zA s6).bind fun x1002 =>
  cond (x1002.Kind == 3) (if 0 ≤ s6 then (if s6 < ((s4.set s6.toNat (-1)).length : Int) then (((s4.set s6.toNat (-1))[s6.toNat]?).bind fun x1003 =>
  some (.again (((s4.set s6.toNat (-1)).set s6.toNat s5), (w6 (s5 + 16)), (w6 (s6 + 1)), b1))) else none) else none)
  (some (.again ((s4.set s6.toNat (-1)), s5, (w6 (s6 + 1)), b1)))) else none) else none) (some (.leave (s4, s5, s6, b1)))
def zp.r0 (N : Nat) (x : (List Int) × Int × Int × zB) := zp.b0 N x.1 x.2.1 x.2.2.1 x.2.2.2
def zp.b2 (N : Nat) (s4 : List Int) (s5 : Int) (s7 : Int) (b1 : zB) : Option (Stp ((List Int) × Int × Int × zB)) :=
 cond (decide (s7 < (b1.zA.length : Int))) ((idx b1.zA s7).bind fun x3001 => cond (x3001.Kind == 0)
  (if 0 ≤ s7 then (if s7 < (s4.length : Int) then ((s4[s7.toNat]?).bind fun x3002 => (zcn x3001.zJ).bind fun r3003 =>
  some (.again ((s4.set s7.toNat s5), (w6 (s5 + r3003)), (w6 (s7 + 1)), b1))) else none) else none)
  (some (.again (s4, s5, (w6 (s7 + 1)), b1)))) (some (.leave (s4, s5, s7, b1)))
def zp.r2 (N : Nat) (x : (List Int) × Int × Int × zB) := zp.b2 N x.1 x.2.1 x.2.2.1 x.2.2.2
def zp.b4 (N : Nat) (s4 : List Int) (s5 : Int) (s9 : Int) (b1 : zB) : Option (Stp ((List Int) × Int × Int × zB)) :=
 cond (decide (s9 < (b1.zA.length : Int))) ((idx b1.zA s9).bind fun x5001 => cond (x5001.Kind == 1) ((zdr N b1 x5001.Base).bind fun r5002 =>
  if 0 ≤ r5002 then (if r5002 < (s4.length : Int) then ((s4[r5002.toNat]?).bind fun x5003 => if 0 ≤ s9 then (if s9 < (s4.length : Int) then ((s4[s9.toNat]?).bind fun x5004 =>
  some (.again ((s4.set s9.toNat (w6 (x5003 + x5001.Offset))), s5, (w6 (s9 + 1)), b1))) else none) else none) else none) else none)
  (some (.again (s4, s5, (w6 (s9 + 1)), b1)))) (some (.leave (s4, s5, s9, b1)))
def zp.r4 (N : Nat) (x : (List Int) × Int × Int × zB) := zp.b4 N x.1 x.2.1 x.2.2.1 x.2.2.2
def zp (N : Nat) (a0 : zB) : Option ((List Int) × Int) :=
 if 0 ≤ (a0.zA.length : Int) then (if (a0.zA.length : Int) ≤ (a0.zA.length : Int) then (cond (Nat.ble ((a0.zA.length : Int).toNat * 8) za7)
  ((zh (zp.r0 N) N ((List.replicate (a0.zA.length : Int).toNat (0 : Int)), 0, 0, a0)).bind fun y1 =>
  (zh (zp.r2 N) N (y1.1, y1.2.1, 0, y1.2.2.2)).bind fun y2 => (zh (zp.r4 N) N (y2.1, y2.2.1, 0, y2.2.2.2)).bind fun y3 =>
  some (y3.1, (w6 ((w6 ((w6 (y3.2.1 + 16)) - 1)).tdiv 16)))) none) else none) else none
def zp.k (N : Nat) : Kq := ⟨112, (cvv [(Ty.sl T6), T6] [Ty.zB] (zp N)), go [zcn.k, zdr.k N] {} [(0, .plain { slots := [(1, .ptr 1 0), (4, .own 5000004 T6), (5, .val T6), (6, .val T6)], boxes := [(1, Ty.zB, [])] } [(Ty.sl T6), T6, T6, Ty.zB] (zh (zp.r0 N) N)), (2, .plain { slots := [(1, .ptr 1 0), (4, .own 5000004 T6), (5, .val T6), (7, .val T6)], boxes := [(1, Ty.zB, [])] } [(Ty.sl T6), T6, T6, Ty.zB] (zh (zp.r2 N) N)), (4, .plain { slots := [(1, .ptr 1 0), (4, .own 5000004 T6), (5, .val T6), (9, .val T6)], boxes := [(1, Ty.zB, [])] } [(Ty.sl T6), T6, T6, Ty.zB] (zh (zp.r4 N) N))] Proofs.Tryz.func112 (hL := ⟨⟨_, _, rfl, by kernel_rfl⟩, ⟨_, _, rfl, by kernel_rfl⟩, ⟨_, _, rfl, by kernel_rfl⟩, trivial⟩)⟩
def zjq (a0 : Int) : Option ((List Int)) :=
 cond (a0 == 0) (some ([0, 4] : List Int)) (cond (a0 == 1) (some ([1, 3] : List Int)) ((cond (a0 == 2) (some (a0 == 2)) (cond (a0 == 3) (some (a0 == 3)) (cond (a0 == 4)
  (some (a0 == 4)) (cond (a0 == 5) (some (a0 == 5)) (some (a0 == 6)))))).bind fun q1 => cond q1 (some ([1, 3, 3] : List Int)) ((cond (a0 == 7) (some (a0 == 7))
  (some (a0 == 8))).bind fun q2 => cond q2 (some ([2, 4, 6] : List Int)) ((cond (a0 == 9) (some (a0 == 9)) (some (a0 == 13))).bind fun q3 => cond q3 (some ([6] : List Int))
  (cond (a0 == 10) (some ([5, 0] : List Int)) (cond (a0 == 11) (some ([5, 5] : List Int)) (cond (a0 == 12) (some ([5, 3] : List Int)) (cond (a0 == 15) (some ([3] : List Int))
  (cond (a0 == 16) (some ([1] : List Int)) (cond (a0 == 17) (some ([2] : List Int)) (some [])))))))))))
def zjq.k : Kq := ⟨172, (cvv [(Ty.sl T6)] [T6] zjq), go [] {bj := [10, 17, 21]} [] Proofs.Tryz.func172⟩
def zf0 (a0 : zF) : Option Bool :=
 (zb7 a0.zJ.Kind).bind fun r1 => some r1
def zf0.k : Kq := ⟨174, (cvv [Ty.bool] [Ty.zF] zf0), go [zb7.k] {} [] Proofs.Tryz.func174⟩
def zaz.b0 (N : Nat) (s5 : List Int) (s6 : Int) (b2 : zB) (b3 : zI) : Option (Round Int ((List Int) × Int × zB × zI)) :=
 cond (decide (s6 < (s5.length : Int))) ((idx b3.Args s6).bind fun x1001 => (zg x1001 0 (w6 ((b2.zA.length : Int) - 1))).bind fun r1002 =>
  cond (!r1002) (some (.result 3)) ((idx b3.Args s6).bind fun x1003 => (idx b2.zA x1003).bind fun x1004 => (idx s5 s6).bind fun x1005 => cond (x1005 == 0)
  ((zfq x1004.Kind).bind fun r1006 => cond (!r1006) (some (.result 17)) (some (.again (s5, (w6 (s6 + 1)), b2, b3)))) (cond (x1005 == 1)
  ((zfq x1004.Kind).bind fun r1007 => (cond r1007 ((zf0 x1004).bind fun r1008 => some r1008) (some false)).bind fun g1009 => cond (!g1009) (some (.result 17))
  (some (.again (s5, (w6 (s6 + 1)), b2, b3)))) (cond (x1005 == 2) ((zf7 x1004.Kind).bind fun r1010 => cond (!r1010) (some (.result 17))
  (some (.again (s5, (w6 (s6 + 1)), b2, b3)))) (cond (x1005 == 3) ((zf7 x1004.Kind).bind fun r1011 => (cond r1011 ((zf0 x1004).bind fun r1012 =>
  some r1012) (some false)).bind fun g1013 => cond (!g1013) (some (.result 17)) (some (.again (s5, (w6 (s6 + 1)), b2, b3)))) (cond (x1005 == 4)
  ((zf7 x1004.Kind).bind fun r1014 => (cond r1014 ((zf0 x1004).bind fun r1015 => (idx b3.Args (w6 (s6 - 1))).bind fun x1016 =>
  (idx b2.zA x1016).bind fun x1017 => (zf0 x1017).bind fun r1018 => some (r1015 == r1018)) (some false)).bind fun g1019 => cond (!g1019) (some (.result 17))
  (some (.again (s5, (w6 (s6 + 1)), b2, b3)))) (cond (x1005 == 5) (cond (!(x1004.Kind == 3)) (some (.result 17))
  (some (.again (s5, (w6 (s6 + 1)), b2, b3)))) (cond (x1005 == 6) (cond (!(x1004.Kind == 5)) (some (.result 17))
  (some (.again (s5, (w6 (s6 + 1)), b2, b3)))) (some (.result 17)))))))))) (some (.leave (s5, s6, b2, b3)))
def zaz.r0 (N : Nat) (x : (List Int) × Int × zB × zI) := zaz.b0 N x.1 x.2.1 x.2.2.1 x.2.2.2
def zaz (N : Nat) (a0 : zB) (a1 : zI) : Option Int :=
 (zg a1.Op 0 18).bind fun r1 => cond (!r1) (some 4) ((zjq a1.Op).bind fun r2 => cond ((a1.Args.length : Int) != (r2.length : Int)) (some 37)
  ((zt (zaz.r0 N) N (r2, 0, a0, a1)).bind fun z4 => zee z4 (fun z => some z) (fun y3 => some 0)))
def zaz.k (N : Nat) : Kq := ⟨113, (cvv [T6] [Ty.zB, Ty.zI] (zaz N)), go [zg.k, zf7.k, zjq.k, zfq.k, zf0.k] {} [(0, .rets { slots := [(2, .ptr 2 0), (3, .ptr 3 0), (5, .val (Ty.sl T6)), (6, .val T6)], boxes := [(2, Ty.zB, []), (3, Ty.zI, [])] } [(Ty.sl T6), T6, Ty.zB, Ty.zI] (zt (zaz.r0 N) N))] Proofs.Tryz.func113 (hL := ⟨⟨_, _, rfl, by kernel_rfl⟩, trivial⟩)⟩
def zae.b0 (N : Nat) (s4 : Int) (b1 : zB) (b2 : zM) : Option (Round (zM × Int) (Int × zB × zM)) :=
 cond (decide (s4 < (b1.zA.length : Int))) ((zhg N b1 s4).bind fun r1001 => cond (r1001 != 0) (some (.result ((⟨1, s4⟩ : zM), r1001)))
  (some (.again ((w6 (s4 + 1)), b1, b2)))) (some (.leave (s4, b1, b2)))
def zae.r0 (N : Nat) (x : Int × zB × zM) := zae.b0 N x.1 x.2.1 x.2.2
def zae.b2 (N : Nat) (s8 : Int) (b1 : zB) (b2 : zM) : Option (Round (zM × Int) (Int × zB × zM)) :=
 cond (decide (s8 < (b1.zG.length : Int))) ((idx b1.zG s8).bind fun x3001 => (zaz N b1 x3001).bind fun r3002 => cond (r3002 != 0)
  (some (.result ((⟨2, s8⟩ : zM), r3002))) (some (.again ((w6 (s8 + 1)), b1, b2)))) (some (.leave (s8, b1, b2)))
def zae.r2 (N : Nat) (x : Int × zB × zM) := zae.b2 N x.1 x.2.1 x.2.2
def zae.b4 (N : Nat) (s10 : Int) (b1 : zB) (b2 : zM) : Option (Round (zM × Int) (Int × zB × zM)) :=
 cond (decide (s10 < (b1.zL.length : Int))) ((idx b1.zL s10).bind fun x5001 => (cond (decide (x5001.From < 0)) (some true)
  (some (decide (x5001.From ≥ x5001.To)))).bind fun g5002 => (cond g5002 (some true) (some (decide (x5001.To > (b1.zG.length : Int))))).bind fun g5003 =>
  (cond g5003 (some true) ((zg x5001.Exception 0 999).bind fun r5004 => some (!r5004))).bind fun g5005 => (cond g5005 (some true)
  ((zg x5001.Handler 0 (w6 ((b1.zG.length : Int) - 1))).bind fun r5006 => some (!r5006))).bind fun g5007 =>
  cond g5007 (some (.result ((⟨3, s10⟩ : zM), 3))) (some (.again ((w6 (s10 + 1)), b1, b2)))) (some (.leave (s10, b1, b2)))
def zae.r4 (N : Nat) (x : Int × zB × zM) := zae.b4 N x.1 x.2.1 x.2.2
def zae (N : Nat) (a0 : zB) : Option (zM × Int) :=
 (cond (decide ((a0.zA.length : Int) > 24)) (some true) (some (decide ((a0.zG.length : Int) > 40)))).bind fun g1 => (cond g1 (some true)
  (some (decide ((a0.zL.length : Int) > 6)))).bind fun g2 => cond g2 (some ((⟨0, 0⟩ : zM), 2)) (cond ((a0.zG.length : Int) == 0) (some ((⟨0, 0⟩ : zM), 1))
  ((zt (zae.r0 N) N (0, a0, (⟨0, 0⟩ : zM))).bind fun z4 => zee z4 (fun z => some z) (fun y3 => (zp N y3.2.1).bind fun r5 => cond (decide (r5.2 > 24))
  (some ((⟨0, 0⟩ : zM), 30)) ((zt (zae.r2 N) N (0, y3.2.1, y3.2.2)).bind fun z7 => zee z7 (fun z => some z) (fun y6 =>
  (zt (zae.r4 N) N (0, y6.2.1, y6.2.2)).bind fun z9 => zee z9 (fun z => some z) (fun y8 => some ((⟨0, 0⟩ : zM), 0)))))))
def zae.k (N : Nat) : Kq := ⟨73, (cvv [Ty.zM, T6] [Ty.zB] (zae N)), go [zg.k, zhg.k N, zp.k N, zaz.k N] {} [(0, .rets { slots := [(1, .ptr 1 0), (2, .ptr 2 0), (4, .val T6)], boxes := [(1, Ty.zB, []), (2, Ty.zM, [])] } [T6, Ty.zB, Ty.zM] (zt (zae.r0 N) N)), (2, .rets { slots := [(1, .ptr 1 0), (2, .ptr 2 0), (8, .val T6)], boxes := [(1, Ty.zB, []), (2, Ty.zM, [])] } [T6, Ty.zB, Ty.zM] (zt (zae.r2 N) N)), (4, .rets { slots := [(1, .ptr 1 0), (2, .ptr 2 0), (10, .val T6)], boxes := [(1, Ty.zB, []), (2, Ty.zM, [])] } [T6, Ty.zB, Ty.zM] (zt (zae.r4 N) N))] Proofs.Tryz.func73 (hL := ⟨⟨_, _, rfl, by kernel_rfl⟩, ⟨_, _, rfl, by kernel_rfl⟩, ⟨_, _, rfl, by kernel_rfl⟩, trivial⟩)⟩
def zm9 (N : Nat) (a0 : zB) : Option Int :=
 (zae N a0).bind fun r1 => some r1.2
def zm9.k (N : Nat) : Kq := ⟨30, (cvv [T6] [Ty.zB] (zm9 N)), go [zae.k N] {} [] Proofs.Tryz.func30⟩
def zct.b0 (N : Nat) (s0 : Int) (s1 : Int) (s5 : List Int) (s6 : Int) : Option (Stp (Int × Int × (List Int) × Int)) :=
 cond (decide (s6 < s1)) (cond (Nat.ble ((s5.length + ([s0] : List Int).length) * 1) za7) (some (.again (s0, s1, (s5 ++ ([s0] : List Int)), (w6 (s6 + 1))))) none)
  (some (.leave (s0, s1, s5, s6)))
def zct.r0 (N : Nat) (x : Int × Int × (List Int) × Int) := zct.b0 N x.1 x.2.1 x.2.2.1 x.2.2.2
def zct (N : Nat) (a0 : Int) (a1 : Int) : Option ByteArray :=
 (zh (zct.r0 N) N (a0, a1, [], 0)).bind fun y1 => some (zda y1.2.2.1)
def zct.k (N : Nat) : Kq := ⟨89, (cvv [Ty.str] [(Ty.int .u8), T6] (zct N)), go [] {lits := [14]} [(0, .plain { slots := [(0, .val (Ty.int .u8)), (1, .val T6), (5, .own 5000005 (Ty.int .u8)), (6, .val T6)], boxes := [] } [(Ty.int .u8), T6, (Ty.sl (Ty.int .u8)), T6] (zh (zct.r0 N) N))] Proofs.Tryz.func89 (hL := ⟨⟨_, _, rfl, by kernel_rfl⟩, trivial⟩)⟩
def zat.b0 (N : Nat) (s0 : Int) (s1 : Int) (s5 : List Int) (s6 : Int) : Option (Stp (Int × Int × (List Int) × Int)) :=
 cond (decide (s6 < s1))
  (if 0 ≤ (w6 ((w6 (s1 - 1)) - s6)) then (if (w6 ((w6 (s1 - 1)) - s6)) < (s5.length : Int) then ((s5[(w6 ((w6 (s1 - 1)) - s6)).toNat]?).bind fun x1001 =>
  some (.again ((w6 (s0.tdiv 256)), s1, (s5.set ((w6 ((w6 (s1 - 1)) - s6)).toNat)
  (IntKind.wrap .u8 (s0.tmod 256))), (w6 (s6 + 1))))) else none) else none) (some (.leave (s0, s1, s5, s6)))
def zat.r0 (N : Nat) (x : Int × Int × (List Int) × Int) := zat.b0 N x.1 x.2.1 x.2.2.1 x.2.2.2
def zat (N : Nat) (a0 : Int) (a1 : Int) : Option ByteArray :=
 if 0 ≤ a1 then (if a1 ≤ a1 then (cond (Nat.ble (a1.toNat * 1) za7) ((zh (zat.r0 N) N (a0, a1, (List.replicate a1.toNat (0 : Int)), 0)).bind fun y1 =>
  some (zda y1.2.2.1)) none) else none) else none
def zat.k (N : Nat) : Kq := ⟨249, (cvv [Ty.str] [T6, T6] (zat N)), go [] {} [(0, .plain { slots := [(0, .val T6), (1, .val T6), (5, .own 5000005 (Ty.int .u8)), (6, .val T6)], boxes := [] } [T6, T6, (Ty.sl (Ty.int .u8)), T6] (zh (zat.r0 N) N))] Proofs.Tryz.func249 (hL := ⟨⟨_, _, rfl, by kernel_rfl⟩, trivial⟩)⟩
def zfh (a0 : Int) : Option Int :=
 some (if (w6 (0 - a0)) > a0 then (w6 (0 - a0)) else a0)
def zfh.k : Kq := ⟨251, (cvv [T6] [T6] zfh), go [] {} [] Proofs.Tryz.func251⟩
def zcx.b0 (N : Nat) (s0 : Int) (s5 : List Int) (s6 : Int) : Option (Stp (Int × (List Int) × Int)) :=
 cond (decide (s6 ≥ 0)) (if 0 ≤ s6 then (if s6 < (s5.length : Int) then ((s5[s6.toNat]?).bind fun x1001 =>
  some (.again ((w6 (s0.tdiv 10)), (s5.set s6.toNat (s0.tmod 10)), (w6 (s6 - 1))))) else none) else none) (some (.leave (s0, s5, s6)))
def zcx.r0 (N : Nat) (x : Int × (List Int) × Int) := zcx.b0 N x.1 x.2.1 x.2.2
def zcx (N : Nat) (a0 : Int) (a1 : Int) : Option ((List Int)) :=
 if 0 ≤ a1 then (if a1 ≤ a1 then (cond (Nat.ble (a1.toNat * 8) za7)
  ((zh (zcx.r0 N) N (a0, (List.replicate a1.toNat (0 : Int)), (w6 (a1 - 1)))).bind fun y1 => some y1.2.1) none) else none) else none
def zcx.k (N : Nat) : Kq := ⟨250, (ctv [.val T6, .val T6] [(Ty.sl T6)] [] [0] [T6, T6] (zcx N)), go [] {} [(0, .plain { slots := [(0, .val T6), (5, .own 5000005 T6), (6, .val T6)], boxes := [] } [T6, (Ty.sl T6), T6] (zh (zcx.r0 N) N))] Proofs.Tryz.func250 (hL := ⟨⟨_, _, rfl, by kernel_rfl⟩, trivial⟩)⟩
def zab.b1 (N : Nat) (s6 : List Int) (s7 : List Int) (s8 : Int) (b2 : DataType) (b3 : Value) : Option (Stp ((List Int) × (List Int) × Int × DataType × Value)) :=
 cond (decide (s8 < b2.Length)) (if 0 ≤ s8 then (if s8 < (s6.length : Int) then ((s6[s8.toNat]?).bind fun x2001 =>
  if 0 ≤ s8 then (if s8 < (s7.length : Int) then ((s7[s8.toNat]?).bind fun x2002 =>
  some (.again (s6, (s7.set s8.toNat (IntKind.wrap .u8 (w6 (240 + x2001)))), (w6 (s8 + 1)), b2, b3))) else none) else none) else none) else none)
  (some (.leave (s6, s7, s8, b2, b3)))
def zab.r1 (N : Nat) (x : (List Int) × (List Int) × Int × DataType × Value) := zab.b1 N x.1 x.2.1 x.2.2.1 x.2.2.2.1 x.2.2.2.2
def zab.b3 (N : Nat) (s6 : List Int) (s9 : List Int) (s10 : Int) : Option (Stp ((List Int) × (List Int) × Int)) :=
 cond (decide (s10 < (s9.length : Int)))
  (if 0 ≤ (w6 (2 * s10)) then (if (w6 (2 * s10)) < (s6.length : Int) then ((s6[(w6 (2 * s10)).toNat]?).bind fun x4001 =>
  if 0 ≤ (w6 ((w6 (2 * s10)) + 1)) then (if (w6 ((w6 (2 * s10)) + 1)) < (s6.length : Int) then ((s6[(w6 ((w6 (2 * s10)) + 1)).toNat]?).bind fun x4002 =>
  if 0 ≤ s10 then (if s10 < (s9.length : Int) then ((s9[s10.toNat]?).bind fun x4003 =>
  some (.again (s6, (s9.set s10.toNat (IntKind.wrap .u8 (w6 ((w6 (16 * x4001)) + x4002)))), (w6 (s10 + 1))))) else none) else none) else none) else none) else none) else none)
  (some (.leave (s6, s9, s10)))
def zab.r3 (N : Nat) (x : (List Int) × (List Int) × Int) := zab.b3 N x.1 x.2.1 x.2.2
def zab (N : Nat) (a0 : DataType) (a1 : Value) : Option ByteArray :=
 cond (a0.Kind == 0) (some a1.S) (cond (a0.Kind == 3) (cond (decide (a1.N < 0)) ((zcn a0).bind fun r1 =>
  if (w6 (8 * r1)) < 0 then none else (zcn a0).bind fun r2 =>
  (zat N (w6 (a1.N + (w6 (1 * 2 ^ (min (w6 (8 * r1)).toNat 64))))) r2).bind fun r3 => some r3) ((zcn a0).bind fun r4 =>
  (zat N a1.N r4).bind fun r5 => some r5)) ((zfh a1.N).bind fun r6 => (zcx N r6 a0.Length).bind fun r7 => cond (a0.Kind == 2)
  (if 0 ≤ a0.Length then (if a0.Length ≤ a0.Length then (cond (Nat.ble (a0.Length.toNat * 1) za7)
  ((zh (zab.r1 N) N (r7, (List.replicate a0.Length.toNat (0 : Int)), 0, a0, a1)).bind fun y8 => cond (decide (y8.2.2.2.2.N < 0))
  (if 0 ≤ (w6 (y8.2.2.2.1.Length - 1)) then (if (w6 (y8.2.2.2.1.Length - 1)) < (y8.1.length : Int) then ((y8.1[(w6 (y8.2.2.2.1.Length - 1)).toNat]?).bind fun x9 =>
  if 0 ≤ (w6 (y8.2.2.2.1.Length - 1)) then (if (w6 (y8.2.2.2.1.Length - 1)) < (y8.2.1.length : Int) then ((y8.2.1[(w6 (y8.2.2.2.1.Length - 1)).toNat]?).bind fun x10 =>
  some (zda (y8.2.1.set ((w6 (y8.2.2.2.1.Length - 1)).toNat) (IntKind.wrap .u8 (w6 (208 + x9)))))) else none) else none) else none) else none)
  (some (zda y8.2.1))) none) else none) else none) (cond ((a0.Length.tmod 2) == 0) (cond (Nat.ble ((([0] : List Int).length + r7.length) * 8) za7)
  ((zah (decide (a1.N < 0))).bind fun r11 =>
  cond (Nat.ble (((([0] : List Int) ++ r7).length + ([(w6 (15 - (w6 (2 * r11))))] : List Int).length) * 8) za7)
  (if 0 ≤ (w6 ((((([0] : List Int) ++ r7) ++ ([(w6 (15 - (w6 (2 * r11))))] : List Int)).length : Int).tdiv 2)) then (if (w6 ((((([0] : List Int) ++ r7) ++ ([(w6 (15 - (w6 (2 * r11))))] : List Int)).length : Int).tdiv 2)) ≤ (w6 ((((([0] : List Int) ++ r7) ++ ([(w6 (15 - (w6 (2 * r11))))] : List Int)).length : Int).tdiv 2)) then (cond (Nat.ble ((w6 ((((([0] : List Int) ++ r7) ++ ([(w6 (15 - (w6 (2 * r11))))] : List Int)).length : Int).tdiv 2)).toNat * 1) za7)
  ((zh (zab.r3 N) N (((([0] : List Int) ++ r7) ++ ([(w6 (15 - (w6 (2 * r11))))] : List Int)), (List.replicate (w6 ((((([0] : List Int) ++ r7) ++ ([(w6 (15 - (w6 (2 * r11))))] : List Int)).length : Int).tdiv 2)).toNat (0 : Int)), 0)).bind fun y12 =>
  some (zda y12.2.1)) none) else none) else none) none) none) ((zah (decide (a1.N < 0))).bind fun r13 =>
  cond (Nat.ble ((r7.length + ([(w6 (15 - (w6 (2 * r13))))] : List Int).length) * 8) za7)
  (if 0 ≤ (w6 (((r7 ++ ([(w6 (15 - (w6 (2 * r13))))] : List Int)).length : Int).tdiv 2)) then (if (w6 (((r7 ++ ([(w6 (15 - (w6 (2 * r13))))] : List Int)).length : Int).tdiv 2)) ≤ (w6 (((r7 ++ ([(w6 (15 - (w6 (2 * r13))))] : List Int)).length : Int).tdiv 2)) then (cond (Nat.ble ((w6 (((r7 ++ ([(w6 (15 - (w6 (2 * r13))))] : List Int)).length : Int).tdiv 2)).toNat * 1) za7)
  ((zh (zab.r3 N) N ((r7 ++ ([(w6 (15 - (w6 (2 * r13))))] : List Int)), (List.replicate (w6 (((r7 ++ ([(w6 (15 - (w6 (2 * r13))))] : List Int)).length : Int).tdiv 2)).toNat (0 : Int)), 0)).bind fun y14 =>
  some (zda y14.2.1)) none) else none) else none) none))))
def zab.k (N : Nat) : Kq := ⟨176, (cvv [Ty.str] [Ty.DataType, Ty.Value] (zab N)), go [zcn.k, zah.k, zat.k N, zcx.k N, zfh.k] {lits := [31, 35, 92]} [(1, .plain { slots := [(2, .ptr 2 0), (3, .ptr 3 0), (6, .own 5000006 T6), (7, .own 5000007 (Ty.int .u8)), (8, .val T6)], boxes := [(2, Ty.DataType, []), (3, Ty.Value, [])] } [(Ty.sl T6), (Ty.sl (Ty.int .u8)), T6, Ty.DataType, Ty.Value] (zh (zab.r1 N) N)), (3, .plain { slots := [(6, .own 5000006 T6), (9, .own 5000009 (Ty.int .u8)), (10, .val T6)], boxes := [] } [(Ty.sl T6), (Ty.sl (Ty.int .u8)), T6] (zh (zab.r3 N) N))] Proofs.Tryz.func176 (hL := ⟨⟨_, _, rfl, by kernel_rfl⟩, ⟨_, _, rfl, by kernel_rfl⟩, trivial⟩)⟩
def zg2 (a0 : ByteArray) (a1 : Int) (a2 : ByteArray) : Option ByteArray :=
 if 0 ≤ a1 ∧ a1 ≤ (a0.size : Int) then (if 0 ≤ (0 : Int) ∧ (0 : Int) ≤ a1 then (if (((a0.extract (0 : Int).toNat a1.toNat).size + a2.size : Nat) : Int) > IntKind.i64.max then none else if 0 ≤ (w6 (a1 + (a2.size : Int))) ∧ (w6 (a1 + (a2.size : Int))) ≤ (a0.size : Int) then (if ((((a0.extract (0 : Int).toNat a1.toNat) ++ a2).size + (a0.extract (w6 (a1 + (a2.size : Int))).toNat a0.size).size : Nat) : Int) > IntKind.i64.max then none else some (((a0.extract (0 : Int).toNat a1.toNat) ++ a2) ++ (a0.extract (w6 (a1 + (a2.size : Int))).toNat a0.size))) else none) else none) else none
def zg2.k : Kq := ⟨175, (cvv [Ty.str] [Ty.str, T6, Ty.str] zg2), go [] {} [] Proofs.Tryz.func175⟩
def zch.b0 (N : Nat) (s3 : List Int) (s6 : Int) (b1 : zB) (b2 : Storage) (b5 : Storage) : Option (Stp ((List Int) × Int × zB × Storage × Storage)) :=
 cond (decide (s6 < (b1.zA.length : Int))) ((idx b1.zA s6).bind fun x1001 => cond (x1001.Kind == 0) ((idx s3 s6).bind fun x1002 =>
  (zab N x1001.zJ x1001.Value).bind fun r1003 => (zg2 b5.Bytes x1002 r1003).bind fun r1004 =>
  some (.again (s3, (w6 (s6 + 1)), b1, b2, (⟨r1004, b5.Tags⟩ : Storage)))) (some (.again (s3, (w6 (s6 + 1)), b1, b2, b5))))
  (some (.leave (s3, s6, b1, b2, b5)))
def zch.r0 (N : Nat) (x : (List Int) × Int × zB × Storage × Storage) := zch.b0 N x.1 x.2.1 x.2.2.1 x.2.2.2.1 x.2.2.2.2
def zch (N : Nat) (a0 : zB) : Option Storage :=
 (zp N a0).bind fun r1 => (zct N 0 (w6 (r1.2 * 16))).bind fun r2 => if 0 ≤ r1.2 then (if r1.2 ≤ r1.2 then (cond (Nat.ble (r1.2.toNat * 1) za7)
  ((zh (zch.r0 N) N (r1.1, 0, a0, (⟨(⟨#[]⟩ : ByteArray), []⟩ : Storage), (⟨r2, (List.replicate r1.2.toNat (false : Bool))⟩ : Storage))).bind fun y3 =>
  some y3.2.2.2.2) none) else none) else none
def zch.k (N : Nat) : Kq := ⟨114, (cvv [Ty.Storage] [Ty.zB] (zch N)), go [zct.k N, zp.k N, zg2.k, zab.k N] {lits := [44]} [(0, .plain { slots := [(1, .ptr 1 0), (2, .ptr 2 0), (3, .val (Ty.sl T6)), (5, .ptr 5 0), (6, .val T6)], boxes := [(1, Ty.zB, []), (2, Ty.Storage, [1]), (5, Ty.Storage, [1])] } [(Ty.sl T6), T6, Ty.zB, Ty.Storage, Ty.Storage] (zh (zch.r0 N) N))] Proofs.Tryz.func114 (hL := ⟨⟨_, _, rfl, by kernel_rfl⟩, trivial⟩)⟩
def zky (N : Nat) (a0 : zB) : Option zC :=
 (zch N a0).bind fun r1 => some (⟨r1, 0, [], [], 0, 0, 0⟩ : zC)
def zky.k (N : Nat) : Kq := ⟨74, (cvv [Ty.zC] [Ty.zB] (zky N)), go [zch.k N] {} [] Proofs.Tryz.func74⟩
def zkc (a0 : List Bool) : Option ((List Bool)) :=
 cond (Nat.ble (a0.length * 1) za7) (some a0) none
def zkc.k : Kq := ⟨96, (ctv [.val (Ty.sl Ty.bool)] [(Ty.sl Ty.bool)] [] [0] [(Ty.sl Ty.bool)] zkc), go [] {} [] Proofs.Tryz.func96⟩
def zf3 (a0 : Storage) : Option Storage :=
 (zkc a0.Tags).bind fun r1 => some (⟨a0.Bytes, r1⟩ : Storage)
def zf3.k : Kq := ⟨53, (ctv [.val Ty.Storage] [Ty.Storage] [] [1] [Ty.Storage] zf3), go [zkc.k] {} [] Proofs.Tryz.func53⟩
def zi3 (a0 : List ByteArray) : Option ((List ByteArray)) :=
 cond (Nat.ble (a0.length * 16) za7) (some a0) none
def zi3.k : Kq := ⟨83, (ctv [.val (Ty.sl Ty.str)] [(Ty.sl Ty.str)] [] [0] [(Ty.sl Ty.str)] zi3), go [] {} [] Proofs.Tryz.func83⟩
def zlg (a0 : zC) : Option zC :=
 (zf3 a0.Storage).bind fun r1 => (zha a0.Stack).bind fun r2 => (zi3 a0.Lines).bind fun r3 =>
  some (⟨r1, a0.At, r2, r3, a0.Status, a0.Exception, a0.Steps⟩ : zC)
def zlg.k : Kq := ⟨115, (ctv [.val Ty.zC] [Ty.zC] [] [3, 4] [Ty.zC] zlg), go [zf3.k, zha.k, zi3.k] {} [] Proofs.Tryz.func115⟩
def zei (a0 : zB) (a1 : Int) : Option Bool :=
 (idx a0.zA a1).bind fun x1 => (zb7 x1.zJ.Kind).bind fun r2 => some r2
def zei.k : Kq := ⟨252, (cvv [Ty.bool] [Ty.zB, T6] zei), go [zb7.k] {} [] Proofs.Tryz.func252⟩
def zj4 (a0 : Storage) (a1 : Int) : Option Bool :=
 (zg a1 0 (w6 ((a0.Bytes.size : Int) - 16))).bind fun r1 => (cond r1 (some ((a1.tmod 16) == 0)) (some false)).bind fun g2 => some g2
def zj4.k : Kq := ⟨101, (cvv [Ty.bool] [Ty.Storage, T6] zj4), go [zg.k] {} [] Proofs.Tryz.func101⟩
def zkm (a0 : Storage) (a1 : Int) : Option ByteArray :=
 if 0 ≤ (w6 ((w6 (a1 * 16)) + 16)) ∧ (w6 ((w6 (a1 * 16)) + 16)) ≤ (a0.Bytes.size : Int) then (if 0 ≤ (w6 (a1 * 16)) ∧ (w6 (a1 * 16)) ≤ (w6 ((w6 (a1 * 16)) + 16)) then (some (a0.Bytes.extract (w6 (a1 * 16)).toNat (w6 ((w6 (a1 * 16)) + 16)).toNat)) else none) else none
def zkm.k : Kq := ⟨126, (cvv [Ty.str] [Ty.Storage, T6] zkm), go [] {} [] Proofs.Tryz.func126⟩
def zc3.b0 (N : Nat) (s0 : ByteArray) (s1 : Int) (s2 : Int) (s7 : Int) (s8 : Int) : Option (Stp (ByteArray × Int × Int × Int × Int)) :=
 cond (decide (s8 < s2)) ((zgd s0 (w6 (s1 + s8))).bind fun x1001 =>
  some (.again (s0, s1, s2, (w6 ((w6 (s7 * 256)) + (w6 (x1001.toNat : Int)))), (w6 (s8 + 1)))))
  (some (.leave (s0, s1, s2, s7, s8)))
def zc3.r0 (N : Nat) (x : ByteArray × Int × Int × Int × Int) := zc3.b0 N x.1 x.2.1 x.2.2.1 x.2.2.2.1 x.2.2.2.2
def zc3 (N : Nat) (a0 : ByteArray) (a1 : Int) (a2 : Int) : Option Int :=
 (zh (zc3.r0 N) N (a0, a1, a2, 0, 0)).bind fun y1 => some y1.2.2.2.1
def zc3.k (N : Nat) : Kq := ⟨187, (cvv [T6] [Ty.str, T6, T6] (zc3 N)), go [] {} [(0, .plain { slots := [(0, .val Ty.str), (1, .val T6), (2, .val T6), (7, .val T6), (8, .val T6)], boxes := [] } [Ty.str, T6, T6, T6, T6] (zh (zc3.r0 N) N))] Proofs.Tryz.func187 (hL := ⟨⟨_, _, rfl, by kernel_rfl⟩, trivial⟩)⟩
def zhh (a0 : Pointer) : Option Int :=
 (zg a0.Kind 0 2).bind fun r1 => cond (!r1) (some 4) ((zg a0.Address.zX 0 1099511627775).bind fun r2 => (cond (!r2) (some true)
  ((zg a0.Address.Offset 0 16777215).bind fun r3 => some (!r3))).bind fun g4 => (cond g4 (some true) ((zg a0.Authority 0 1023).bind fun r5 =>
  some (!r5))).bind fun g6 => cond g6 (some 3) ((cond (a0.Kind != 1) (some (a0.Authority != 0)) (some false)).bind fun g7 => cond g7 (some 5) (some 0)))
def zhh.k : Kq := ⟨188, (cvv [T6] [Ty.Pointer] zhh), go [zg.k] {} [] Proofs.Tryz.func188⟩
def zmy (N : Nat) (a0 : ByteArray) : Option (Pointer × Int) :=
 cond ((a0.size : Int) != 16) (some ((⟨0, (⟨0, 0⟩ : Address), 0⟩ : Pointer), 18)) ((zgd a0 1).bind fun x1 => cond ((x1.toNat : Int) != 0)
  (some ((⟨0, (⟨0, 0⟩ : Address), 0⟩ : Pointer), 5)) ((zgd a0 0).bind fun x2 => (zc3 N a0 2 2).bind fun r3 => (zc3 N a0 4 6).bind fun r4 =>
  (zc3 N a0 10 6).bind fun r5 => (zhh (⟨(w6 (x2.toNat : Int)), (⟨r4, r5⟩ : Address), r3⟩ : Pointer)).bind fun r6 => cond (r6 != 0)
  (some ((⟨0, (⟨0, 0⟩ : Address), 0⟩ : Pointer), r6)) (some ((⟨(w6 (x2.toNat : Int)), (⟨r4, r5⟩ : Address), r3⟩ : Pointer), 0))))
def zmy.k (N : Nat) : Kq := ⟨125, (cvv [Ty.Pointer, T6] [Ty.str] (zmy N)), go [zc3.k N, zhh.k] {} [] Proofs.Tryz.func125⟩
def zgy (N : Nat) (a0 : Storage) (a1 : Int) : Option (Pointer × Int) :=
 (zj4 a0 a1).bind fun r1 => cond (!r1) (some ((⟨0, (⟨0, 0⟩ : Address), 0⟩ : Pointer), 3)) ((idx a0.Tags (w6 (a1.tdiv 16))).bind fun x2 => cond (!x2)
  (some ((⟨0, (⟨0, 0⟩ : Address), 0⟩ : Pointer), 22)) ((zkm a0 (w6 (a1.tdiv 16))).bind fun r3 => (zmy N r3).bind fun r4 => some (r4.1, 0)))
def zgy.k (N : Nat) : Kq := ⟨85, (cvv [Ty.Pointer, T6] [Ty.Storage, T6] (zgy N)), go [zj4.k, zmy.k N, zkm.k] {lits := [25]} [] Proofs.Tryz.func85⟩
def zkt (a0 : Storage) (a1 : Int) (a2 : Int) : Option Bool :=
 (zg a1 0 (a0.Bytes.size : Int)).bind fun r1 => (cond r1 ((zg a2 0 (w6 ((a0.Bytes.size : Int) - a1))).bind fun r2 => some r2)
  (some false)).bind fun g3 => some g3
def zkt.k : Kq := ⟨145, (cvv [Ty.bool] [Ty.Storage, T6, T6] zkt), go [zg.k] {lits := [10]} [] Proofs.Tryz.func145⟩
def zbu (N : Nat) (a0 : zB) (a1 : zC) (a2 : Int) : Option (Int × Int) :=
 (idx a0.zA a2).bind fun x1 => (zp N a0).bind fun r2 => cond (x1.Kind != 2) ((idx r2.1 a2).bind fun x3 => some (x3, 0)) ((zdr N a0 x1.Base).bind fun r4 =>
  (idx r2.1 r4).bind fun x5 => (zgy N a1.Storage x5).bind fun r6 => cond (r6.2 != 0) (some (0, 4)) ((zcn x1.zJ).bind fun r7 =>
  (zkt a1.Storage (w6 (r6.1.Address.Offset + x1.Offset)) r7).bind fun r8 => cond (!r8) (some (0, 5))
  (some ((w6 (r6.1.Address.Offset + x1.Offset)), 0))))
def zbu.k (N : Nat) : Kq := ⟨179, (cvv [T6, T6] [Ty.zB, Ty.zC, T6] (zbu N)), go [zgy.k N, zcn.k, zp.k N, zkt.k, zdr.k N] {lits := [57]} [] Proofs.Tryz.func179⟩
def zd1 (N : Nat) (a0 : zB) (a1 : zC) (a2 : Int) : Option (ByteArray × Int) :=
 (idx a0.zA a2).bind fun x1 => cond (x1.Kind == 4) ((zab N x1.zJ x1.Value).bind fun r2 => some (r2, 0)) ((zbu N a0 a1 a2).bind fun r3 => cond (r3.2 != 0)
  (some ((⟨#[]⟩ : ByteArray), r3.2)) ((zcn x1.zJ).bind fun r4 =>
  if 0 ≤ (w6 (r3.1 + r4)) ∧ (w6 (r3.1 + r4)) ≤ (a1.Storage.Bytes.size : Int) then (if 0 ≤ r3.1 ∧ r3.1 ≤ (w6 (r3.1 + r4)) then (some ((a1.Storage.Bytes.extract r3.1.toNat (w6 (r3.1 + r4)).toNat), 0)) else none) else none))
def zd1.k (N : Nat) : Kq := ⟨253, (cvv [Ty.str, T6] [Ty.zB, Ty.zC, T6] (zd1 N)), go [zcn.k, zab.k N, zbu.k N] {} [] Proofs.Tryz.func253⟩
def zez (N : Nat) (a0 : ByteArray) (a1 : Int) : Option ByteArray :=
 cond (decide ((a0.size : Int) ≥ a1))
  (if 0 ≤ a1 ∧ a1 ≤ (a0.size : Int) then (if 0 ≤ (0 : Int) ∧ (0 : Int) ≤ a1 then (some (a0.extract (0 : Int).toNat a1.toNat)) else none) else none)
  ((zct N 32 (w6 (a1 - (a0.size : Int)))).bind fun r1 => if ((a0.size + r1.size : Nat) : Int) > IntKind.i64.max then none else some (a0 ++ r1))
def zez.k (N : Nat) : Kq := ⟨197, (cvv [Ty.str] [Ty.str, T6] (zez N)), go [zct.k N] {} [] Proofs.Tryz.func197⟩
def zbp.b0 (N : Nat) (s1 : Int) (s2 : ByteArray) (s8 : Int) (b6 : Storage) (b7 : Storage) : Option (Stp (Int × ByteArray × Int × Storage × Storage)) :=
 cond (decide (s8 < (s2.size : Int)))
  (if 0 ≤ (w6 ((w6 (s1 + s8)).tdiv 16)) then (if (w6 ((w6 (s1 + s8)).tdiv 16)) < (b7.Tags.length : Int) then ((b7.Tags[(w6 ((w6 (s1 + s8)).tdiv 16)).toNat]?).bind fun x1001 =>
  some (.again (s1, s2, (w6 (s8 + 1)), b6, (⟨b7.Bytes, (b7.Tags.set ((w6 ((w6 (s1 + s8)).tdiv 16)).toNat) false)⟩ : Storage)))) else none) else none)
  (some (.leave (s1, s2, s8, b6, b7)))
def zbp.r0 (N : Nat) (x : Int × ByteArray × Int × Storage × Storage) := zbp.b0 N x.1 x.2.1 x.2.2.1 x.2.2.2.1 x.2.2.2.2
def zbp (N : Nat) (a0 : Storage) (a1 : Int) (a2 : ByteArray) : Option Storage :=
 (zf3 a0).bind fun r1 => (zg2 a0.Bytes a1 a2).bind fun r2 =>
  (zh (zbp.r0 N) N (a1, a2, 0, (⟨(⟨#[]⟩ : ByteArray), []⟩ : Storage), (⟨r2, r1.Tags⟩ : Storage))).bind fun y3 => some y3.2.2.2.2
def zbp.k (N : Nat) : Kq := ⟨196, (ctv [.val Ty.Storage, .val T6, .val Ty.str] [Ty.Storage] [] [1] [Ty.Storage, T6, Ty.str] (zbp N)), go [zf3.k, zg2.k] {} [(0, .plain { slots := [(1, .val T6), (2, .val Ty.str), (6, .ptr 6 0), (7, .ptr 7 0), (8, .val T6)], boxes := [(6, Ty.Storage, [1]), (7, Ty.Storage, [1])] } [T6, Ty.str, T6, Ty.Storage, Ty.Storage] (zh (zbp.r0 N) N))] Proofs.Tryz.func196 (hL := ⟨⟨_, _, rfl, by kernel_rfl⟩, trivial⟩)⟩
def zfe (a0 : Int) (a1 : Int) : Option (Int × Bool) :=
 (cond (a1 == 11) (some true) (some (a1 == 13))).bind fun g1 => cond g1 (some ((w6 (0 - a0)), (decide (a1 ≥ 10)))) (some (a0, (decide (a1 ≥ 10))))
def zfe.k : Kq := ⟨344, (cvv [T6, Ty.bool] [T6, T6] zfe), go [] {} [] Proofs.Tryz.func344⟩
def zbc.b0 (N : Nat) (s0 : ByteArray) (s5 : Int) (s6 : Int) (s7 : Int) (b2 : Value) : Option (Round (Value × Int × Int) (ByteArray × Int × Int × Int × Value)) :=
 cond (decide (s7 < (s0.size : Int))) (cond (s7 == (w6 ((s0.size : Int) - 1))) ((zgd s0 s7).bind fun x1001 =>
  (cond (decide ((w6 ((w6 (x1001.toNat : Int)).tdiv 16)) < 10)) (some true) ((zgd s0 s7).bind fun x1002 =>
  some (decide (((x1002.toNat : Int).tmod 16) > 9)))).bind fun g1003 => cond g1003 (some (.result ((⟨0, (⟨#[]⟩ : ByteArray)⟩ : Value), s7, 21))) ((zgd s0 s7).bind fun x1004 =>
  some (.again (s0, (w6 ((w6 (10 * s5)) + ((w6 (x1004.toNat : Int)).tmod 16))), (w6 ((w6 (x1001.toNat : Int)).tdiv 16)), (w6 (s7 + 1)), b2))))
  ((cond (decide (s6 < 10)) (some true) ((zgd s0 s7).bind fun x1005 => some (decide (((x1005.toNat : Int).tmod 16) > 9)))).bind fun g1006 =>
  cond g1006 (some (.result ((⟨0, (⟨#[]⟩ : ByteArray)⟩ : Value), s7, 21))) ((zgd s0 s7).bind fun x1007 =>
  some (.again (s0, (w6 ((w6 (10 * s5)) + ((w6 (x1007.toNat : Int)).tmod 16))), s6, (w6 (s7 + 1)), b2)))))
  (some (.leave (s0, s5, s6, s7, b2)))
def zbc.r0 (N : Nat) (x : ByteArray × Int × Int × Int × Value) := zbc.b0 N x.1 x.2.1 x.2.2.1 x.2.2.2.1 x.2.2.2.2
def zbc (N : Nat) (a0 : ByteArray) : Option (Value × Int × Int) :=
 (zt (zbc.r0 N) N (a0, 0, 15, 0, (⟨0, (⟨#[]⟩ : ByteArray)⟩ : Value))).bind fun z2 => zee z2 (fun z => some z) (fun y1 =>
  (zfe y1.2.1 y1.2.2.1).bind fun r3 => some ((⟨r3.1, (⟨#[]⟩ : ByteArray)⟩ : Value), 0, 0))
def zbc.k (N : Nat) : Kq := ⟨307, (cvv [Ty.Value, T6, T6] [Ty.str] (zbc N)), go [zfe.k] {} [(0, .rets { slots := [(0, .val Ty.str), (2, .ptr 2 0), (5, .val T6), (6, .val T6), (7, .val T6)], boxes := [(2, Ty.Value, [])] } [Ty.str, T6, T6, T6, Ty.Value] (zt (zbc.r0 N) N))] Proofs.Tryz.func307 (hL := ⟨⟨_, _, rfl, by kernel_rfl⟩, trivial⟩)⟩
def zba.b0 (N : Nat) (s1 : ByteArray) (s7 : Int) (s8 : Int) (b2 : DataType) (b4 : Value) : Option (Round (Value × Int × Int) (ByteArray × Int × Int × DataType × Value)) :=
 cond (decide (s8 < (w6 (2 * (s1.size : Int))))) ((zgd s1 (w6 (s8.tdiv 2))).bind fun x1001 => cond ((s8.tmod 2) == 1)
  ((zgd s1 (w6 (s8.tdiv 2))).bind fun x1002 => cond (s8 == (w6 ((w6 (2 * (s1.size : Int))) - 1)))
  ((cond (decide (((w6 (x1002.toNat : Int)).tmod 16) < 10)) (some true) ((cond (s8 == 0) (some ((b2.Length.tmod 2) == 0)) (some false)).bind fun g1003 =>
  (cond g1003 (some (((w6 (x1002.toNat : Int)).tmod 16) != 0)) (some false)).bind fun g1004 => some g1004)).bind fun g1005 =>
  cond g1005 (some (.result ((⟨0, (⟨#[]⟩ : ByteArray)⟩ : Value), (w6 (s8.tdiv 2)), 21)))
  (cond (s8 == (w6 ((w6 (2 * (s1.size : Int))) - 1))) ((zfe s7 ((w6 (x1002.toNat : Int)).tmod 16)).bind fun r1006 =>
  some (.again (s1, r1006.1, (w6 (s8 + 1)), b2, b4)))
  (some (.again (s1, (w6 ((w6 (10 * s7)) + ((w6 (x1002.toNat : Int)).tmod 16))), (w6 (s8 + 1)), b2, b4)))))
  ((cond (decide (((w6 (x1002.toNat : Int)).tmod 16) > 9)) (some true) ((cond (s8 == 0) (some ((b2.Length.tmod 2) == 0)) (some false)).bind fun g1007 =>
  (cond g1007 (some (((w6 (x1002.toNat : Int)).tmod 16) != 0)) (some false)).bind fun g1008 => some g1008)).bind fun g1009 =>
  cond g1009 (some (.result ((⟨0, (⟨#[]⟩ : ByteArray)⟩ : Value), (w6 (s8.tdiv 2)), 21)))
  (cond (s8 == (w6 ((w6 (2 * (s1.size : Int))) - 1))) ((zfe s7 ((w6 (x1002.toNat : Int)).tmod 16)).bind fun r1010 =>
  some (.again (s1, r1010.1, (w6 (s8 + 1)), b2, b4)))
  (some (.again (s1, (w6 ((w6 (10 * s7)) + ((w6 (x1002.toNat : Int)).tmod 16))), (w6 (s8 + 1)), b2, b4))))))
  (cond (s8 == (w6 ((w6 (2 * (s1.size : Int))) - 1))) ((cond (decide ((w6 ((w6 (x1001.toNat : Int)).tdiv 16)) < 10))
  (some true) ((cond (s8 == 0) (some ((b2.Length.tmod 2) == 0)) (some false)).bind fun g1011 =>
  (cond g1011 (some ((w6 ((w6 (x1001.toNat : Int)).tdiv 16)) != 0)) (some false)).bind fun g1012 => some g1012)).bind fun g1013 =>
  cond g1013 (some (.result ((⟨0, (⟨#[]⟩ : ByteArray)⟩ : Value), (w6 (s8.tdiv 2)), 21)))
  (cond (s8 == (w6 ((w6 (2 * (s1.size : Int))) - 1)))
  ((zfe s7 (w6 ((w6 (x1001.toNat : Int)).tdiv 16))).bind fun r1014 => some (.again (s1, r1014.1, (w6 (s8 + 1)), b2, b4)))
  (some (.again (s1, (w6 ((w6 (10 * s7)) + (w6 ((w6 (x1001.toNat : Int)).tdiv 16)))), (w6 (s8 + 1)), b2, b4)))))
  ((cond (decide ((w6 ((w6 (x1001.toNat : Int)).tdiv 16)) > 9)) (some true) ((cond (s8 == 0) (some ((b2.Length.tmod 2) == 0))
  (some false)).bind fun g1015 => (cond g1015 (some ((w6 ((w6 (x1001.toNat : Int)).tdiv 16)) != 0)) (some false)).bind fun g1016 =>
  some g1016)).bind fun g1017 => cond g1017 (some (.result ((⟨0, (⟨#[]⟩ : ByteArray)⟩ : Value), (w6 (s8.tdiv 2)), 21)))
  (cond (s8 == (w6 ((w6 (2 * (s1.size : Int))) - 1)))
  ((zfe s7 (w6 ((w6 (x1001.toNat : Int)).tdiv 16))).bind fun r1018 => some (.again (s1, r1018.1, (w6 (s8 + 1)), b2, b4)))
  (some (.again (s1, (w6 ((w6 (10 * s7)) + (w6 ((w6 (x1001.toNat : Int)).tdiv 16)))), (w6 (s8 + 1)), b2, b4)))))))
  (some (.leave (s1, s7, s8, b2, b4)))
def zba.r0 (N : Nat) (x : ByteArray × Int × Int × DataType × Value) := zba.b0 N x.1 x.2.1 x.2.2.1 x.2.2.2.1 x.2.2.2.2
def zba (N : Nat) (a0 : DataType) (a1 : ByteArray) : Option (Value × Int × Int) :=
 (zt (zba.r0 N) N (a1, 0, 0, a0, (⟨0, (⟨#[]⟩ : ByteArray)⟩ : Value))).bind fun z2 => zee z2 (fun z => some z) (fun y1 =>
  some ((⟨y1.2.1, (⟨#[]⟩ : ByteArray)⟩ : Value), 0, 0))
def zba.k (N : Nat) : Kq := ⟨308, (cvv [Ty.Value, T6, T6] [Ty.DataType, Ty.str] (zba N)), go [zfe.k] {} [(0, .rets { slots := [(1, .val Ty.str), (2, .ptr 2 0), (4, .ptr 4 0), (7, .val T6), (8, .val T6)], boxes := [(2, Ty.DataType, []), (4, Ty.Value, [])] } [Ty.str, T6, T6, Ty.DataType, Ty.Value] (zt (zba.r0 N) N))] Proofs.Tryz.func308 (hL := ⟨⟨_, _, rfl, by kernel_rfl⟩, trivial⟩)⟩
def zj5 (N : Nat) (a0 : DataType) (a1 : ByteArray) : Option (Value × Int × Int) :=
 (zec a0).bind fun r1 => cond (r1 != 0) (some ((⟨0, (⟨#[]⟩ : ByteArray)⟩ : Value), 0, r1)) (cond (a0.Kind == 4) (some ((⟨0, (⟨#[]⟩ : ByteArray)⟩ : Value), 0, 17))
  ((zcn a0).bind fun r2 => cond ((a1.size : Int) != r2) (some ((⟨0, (⟨#[]⟩ : ByteArray)⟩ : Value), 0, 18)) (cond (a0.Kind == 0) (some ((⟨0, a1⟩ : Value), 0, 0))
  (cond (a0.Kind == 3) ((zc3 N a1 0 (a1.size : Int)).bind fun r3 => (zgd a1 0).bind fun x4 => cond (decide ((x4.toNat : Int) ≥ 128))
  (if (w6 (8 * (a1.size : Int))) < 0 then none else (zgf N a0).bind fun r5 => (zgf N a0).bind fun r6 =>
  (zg (w6 (r3 - (w6 (1 * 2 ^ (min (w6 (8 * (a1.size : Int))).toNat 64))))) (w6 (0 - r5)) r6).bind fun r7 =>
  cond (!r7) (some ((⟨0, (⟨#[]⟩ : ByteArray)⟩ : Value), 0, 19))
  (some ((⟨(w6 (r3 - (w6 (1 * 2 ^ (min (w6 (8 * (a1.size : Int))).toNat 64))))), (⟨#[]⟩ : ByteArray)⟩ : Value), 0, 0)))
  ((zgf N a0).bind fun r8 => (zgf N a0).bind fun r9 => (zg r3 (w6 (0 - r8)) r9).bind fun r10 => cond (!r10)
  (some ((⟨0, (⟨#[]⟩ : ByteArray)⟩ : Value), 0, 19)) (some ((⟨r3, (⟨#[]⟩ : ByteArray)⟩ : Value), 0, 0)))) (cond (a0.Kind == 2) ((zbc N a1).bind fun r11 =>
  some (r11.1, r11.2.1, r11.2.2)) ((zba N a0 a1).bind fun r12 => some (r12.1, r12.2.1, r12.2.2)))))))
def zj5.k (N : Nat) : Kq := ⟨255, (cvv [Ty.Value, T6, T6] [Ty.DataType, Ty.str] (zj5 N)), go [zg.k, zcn.k, zec.k, zc3.k N, zgf.k N, zbc.k N, zba.k N] {lits := [35, 51]} [] Proofs.Tryz.func255⟩
def zbt (N : Nat) (a0 : zB) (a1 : zC) (a2 : Int) : Option (Number × Int) :=
 (zd1 N a0 a1 a2).bind fun r1 => cond (r1.2 != 0) (some ((⟨0, 0⟩ : Number), r1.2)) ((idx a0.zA a2).bind fun x2 => (zj5 N x2.zJ r1.1).bind fun r3 =>
  cond (r3.2.2 != 0) (some ((⟨0, 0⟩ : Number), 1)) (some ((⟨r3.1.N, x2.zJ.Scale⟩ : Number), 0)))
def zbt.k (N : Nat) : Kq := ⟨181, (cvv [Ty.Number, T6] [Ty.zB, Ty.zC, T6] (zbt N)), go [zd1.k N, zj5.k N] {} [] Proofs.Tryz.func181⟩
def ze4 (a0 : Number) : Option Int :=
 (zg a0.N (-999999999999999) 999999999999999).bind fun r1 => (cond r1 ((zg a0.Scale 0 15).bind fun r2 => some r2) (some false)).bind fun g3 =>
  (zah (!g3)).bind fun r4 => some (w6 (3 * r4))
def ze4.k : Kq := ⟨84, (cvv [T6] [Ty.Number] ze4), go [zg.k, zah.k] {} [] Proofs.Tryz.func84⟩
def zff (a0 : DataType) : Option Int :=
 (zec a0).bind fun r1 => cond (r1 != 0) (some r1) ((zb7 a0.Kind).bind fun r2 => (zah (!r2)).bind fun r3 => some (w6 (17 * r3)))
def zff.k : Kq := ⟨261, (cvv [T6] [Ty.DataType] zff), go [zah.k, zec.k, zb7.k] {} [] Proofs.Tryz.func261⟩
def zb1.b0 (N : Nat) (s0 : List Int) : Option (Stp (List Int)) :=
 (cond (decide ((s0.length : Int) > 0)) ((idx s0 (w6 ((s0.length : Int) - 1))).bind fun x1001 => some (x1001 == 0)) (some false)).bind fun g1002 =>
  cond g1002 (if 0 ≤ (w6 ((s0.length : Int) - 1)) ∧ (w6 ((s0.length : Int) - 1)) ≤ (s0.length : Int) then (if 0 ≤ (0 : Int) ∧ (0 : Int) ≤ (w6 ((s0.length : Int) - 1)) then (some (.again ((s0.take (w6 ((s0.length : Int) - 1)).toNat).drop (0 : Int).toNat))) else none) else none)
  (some (.leave s0))
def zb1.r0 (N : Nat) (x : (List Int)) := zb1.b0 N x
def zb1 (N : Nat) (a0 : List Int) : Option ((List Int)) :=
 (zh (zb1.r0 N) N a0).bind fun y1 => some y1
def zb1.k (N : Nat) : Kq := ⟨309, (cvv [(Ty.sl T6)] [(Ty.sl T6)] (zb1 N)), go [] {} [(0, .plain { slots := [(0, .val (Ty.sl T6))], boxes := [] } [(Ty.sl T6)] (zh (zb1.r0 N) N))] Proofs.Tryz.func309 (hL := ⟨⟨_, _, rfl, by kernel_rfl⟩, trivial⟩)⟩
def zcj.b0 (N : Nat) (s0 : Int) (s5 : List Int) (s6 : Int) (b4 : zK) : Option (Stp (Int × (List Int) × Int × zK)) :=
 cond (decide (s6 > 0)) (cond (Nat.ble ((s5.length + ([(s6.tmod 10)] : List Int).length) * 8) za7)
  (some (.again (s0, (s5 ++ ([(s6.tmod 10)] : List Int)), (w6 (s6.tdiv 10)), b4))) none) (some (.leave (s0, s5, s6, b4)))
def zcj.r0 (N : Nat) (x : Int × (List Int) × Int × zK) := zcj.b0 N x.1 x.2.1 x.2.2.1 x.2.2.2
def zcj (N : Nat) (a0 : Int) (a1 : Int) : Option zK :=
 if 0 ≤ a1 then (if a1 ≤ a1 then (cond (Nat.ble (a1.toNat * 8) za7) ((zfh a0).bind fun r1 =>
  (zh (zcj.r0 N) N (a0, (List.replicate a1.toNat (0 : Int)), r1, (⟨false, []⟩ : zK))).bind fun y2 => (zb1 N y2.2.1).bind fun r3 =>
  some (⟨(decide (y2.1 < 0)), r3⟩ : zK)) none) else none) else none
def zcj.k (N : Nat) : Kq := ⟨256, (cvv [Ty.zK] [T6, T6] (zcj N)), go [zfh.k, zb1.k N] {lits := [18]} [(0, .plain { slots := [(0, .val T6), (4, .ptr 4 0), (5, .own 5000005 T6), (6, .val T6)], boxes := [(4, Ty.zK, [1])] } [T6, (Ty.sl T6), T6, Ty.zK] (zh (zcj.r0 N) N))] Proofs.Tryz.func256 (hL := ⟨⟨_, _, rfl, by kernel_rfl⟩, trivial⟩)⟩
def zf9 (a0 : Int) : Option ((List Int)) :=
 if 0 ≤ a0 then (if a0 ≤ a0 then (cond (Nat.ble (a0.toNat * 8) za7) (cond (Nat.ble (((List.replicate a0.toNat (0 : Int)).length + ([1] : List Int).length) * 8) za7)
  (some ((List.replicate a0.toNat (0 : Int)) ++ ([1] : List Int))) none) none) else none) else none
def zf9.k : Kq := ⟨312, (cvv [(Ty.sl T6)] [T6] zf9), go [] {lits := [5]} [] Proofs.Tryz.func312⟩
def ziy (N : Nat) (a0 : Number) : Option zP :=
 (zcj N a0.N 0).bind fun r1 => (zf9 a0.Scale).bind fun r2 => some (⟨r1, r2⟩ : zP)
def ziy.k (N : Nat) : Kq := ⟨263, (cvv [Ty.zP] [Ty.Number] (ziy N)), go [zcj.k N, zf9.k] {} [] Proofs.Tryz.func263⟩
def zcr.b0 (N : Nat) (s0 : List Int) (s1 : List Int) (s5 : Int) : Option (Round Int ((List Int) × (List Int) × Int)) :=
 cond (decide (s5 ≥ 0)) ((idx s0 s5).bind fun x1001 => (idx s1 s5).bind fun x1002 => cond (x1001 != x1002) ((idx s0 s5).bind fun x1003 => (idx s1 s5).bind fun x1004 =>
  (zah (decide (x1003 > x1004))).bind fun r1005 => some (.result (w6 ((w6 (2 * r1005)) - 1))))
  (some (.again (s0, s1, (w6 (s5 - 1)))))) (some (.leave (s0, s1, s5)))
def zcr.r0 (N : Nat) (x : (List Int) × (List Int) × Int) := zcr.b0 N x.1 x.2.1 x.2.2
def zcr (N : Nat) (a0 : List Int) (a1 : List Int) : Option Int :=
 cond ((a0.length : Int) != (a1.length : Int)) ((zah (decide ((a0.length : Int) > (a1.length : Int)))).bind fun r1 =>
  some (w6 ((w6 (2 * r1)) - 1))) ((zt (zcr.r0 N) N (a0, a1, (w6 ((a0.length : Int) - 1)))).bind fun z3 => zee z3 (fun z =>
  some z) (fun y2 => some 0))
def zcr.k (N : Nat) : Kq := ⟨258, (cvv [T6] [(Ty.sl T6), (Ty.sl T6)] (zcr N)), go [zah.k] {} [(0, .rets { slots := [(0, .val (Ty.sl T6)), (1, .val (Ty.sl T6)), (5, .val T6)], boxes := [] } [(Ty.sl T6), (Ty.sl T6), T6] (zt (zcr.r0 N) N))] Proofs.Tryz.func258 (hL := ⟨⟨_, _, rfl, by kernel_rfl⟩, trivial⟩)⟩
def zc4.b0 (N : Nat) (s0 : List Int) (s1 : List Int) (s5 : List Int) (s6 : Int) (s7 : Int) : Option (Stp ((List Int) × (List Int) × (List Int) × Int × Int)) :=
 cond (decide (s7 < (s0.length : Int))) ((idx s0 s7).bind fun x1001 => cond (decide (s7 < (s1.length : Int))) ((idx s1 s7).bind fun x1002 =>
  (zah (decide ((w6 ((w6 (x1001 - s6)) - x1002)) < 0))).bind fun r1003 =>
  cond (Nat.ble ((s5.length + ([(w6 ((w6 ((w6 (x1001 - s6)) - x1002)) + (w6 (10 * r1003))))] : List Int).length) * 8) za7)
  (some (.again (s0, s1, (s5 ++ ([(w6 ((w6 ((w6 (x1001 - s6)) - x1002)) + (w6 (10 * r1003))))] : List Int)), r1003, (w6 (s7 + 1))))) none)
  ((zah (decide ((w6 (x1001 - s6)) < 0))).bind fun r1004 =>
  cond (Nat.ble ((s5.length + ([(w6 ((w6 (x1001 - s6)) + (w6 (10 * r1004))))] : List Int).length) * 8) za7)
  (some (.again (s0, s1, (s5 ++ ([(w6 ((w6 (x1001 - s6)) + (w6 (10 * r1004))))] : List Int)), r1004, (w6 (s7 + 1))))) none))
  (some (.leave (s0, s1, s5, s6, s7)))
def zc4.r0 (N : Nat) (x : (List Int) × (List Int) × (List Int) × Int × Int) := zc4.b0 N x.1 x.2.1 x.2.2.1 x.2.2.2.1 x.2.2.2.2
def zc4 (N : Nat) (a0 : List Int) (a1 : List Int) : Option ((List Int)) :=
 (zh (zc4.r0 N) N (a0, a1, [], 0, 0)).bind fun y1 => (zb1 N y1.2.2.1).bind fun r2 => some r2
def zc4.k (N : Nat) : Kq := ⟨259, (cvv [(Ty.sl T6)] [(Ty.sl T6), (Ty.sl T6)] (zc4 N)), go [zah.k, zb1.k N] {lits := [39]} [(0, .plain { slots := [(0, .val (Ty.sl T6)), (1, .val (Ty.sl T6)), (5, .own 5000005 T6), (6, .val T6), (7, .val T6)], boxes := [] } [(Ty.sl T6), (Ty.sl T6), (Ty.sl T6), T6, T6] (zh (zc4.r0 N) N))] Proofs.Tryz.func259 (hL := ⟨⟨_, _, rfl, by kernel_rfl⟩, trivial⟩)⟩
def za1.b2 (N : Nat) (s0 : List Int) (s1 : List Int) (s6 : List Int) (s7 : List Int) (s8 : Int) : Option (Stp ((List Int) × (List Int) × (List Int) × (List Int) × Int)) :=
 (zcr N s7 s1).bind fun r3001 => cond (decide (r3001 ≥ 0)) ((zc4 N s7 s1).bind fun r3002 =>
  if 0 ≤ s8 then (if s8 < (s6.length : Int) then ((s6[s8.toNat]?).bind fun x3003 => if 0 ≤ s8 then (if s8 < (s6.length : Int) then ((s6[s8.toNat]?).bind fun x3004 =>
  some (.again (s0, s1, (s6.set s8.toNat (w6 (x3003 + 1))), r3002, s8))) else none) else none) else none) else none) (some (.leave (s0, s1, s6, s7, s8)))
def za1.r2 (N : Nat) (x : (List Int) × (List Int) × (List Int) × (List Int) × Int) := za1.b2 N x.1 x.2.1 x.2.2.1 x.2.2.2.1 x.2.2.2.2
def za1.b0 (N : Nat) (s0 : List Int) (s1 : List Int) (s6 : List Int) (s7 : List Int) (s8 : Int) : Option (Stp ((List Int) × (List Int) × (List Int) × (List Int) × Int)) :=
 cond (decide (s8 ≥ 0)) ((idx s0 s8).bind fun x1001 => cond (Nat.ble ((([x1001] : List Int).length + s7.length) * 8) za7)
  ((zb1 N (([x1001] : List Int) ++ s7)).bind fun r1002 => (zh (za1.r2 N) N (s0, s1, s6, r1002, s8)).bind fun y1003 =>
  some (.again (y1003.1, y1003.2.1, y1003.2.2.1, y1003.2.2.2.1, (w6 (y1003.2.2.2.2 - 1))))) none) (some (.leave (s0, s1, s6, s7, s8)))
def za1.r0 (N : Nat) (x : (List Int) × (List Int) × (List Int) × (List Int) × Int) := za1.b0 N x.1 x.2.1 x.2.2.1 x.2.2.2.1 x.2.2.2.2
def za1 (N : Nat) (a0 : List Int) (a1 : List Int) : Option ((List Int) × (List Int)) :=
 if 0 ≤ (a0.length : Int) then (if (a0.length : Int) ≤ (a0.length : Int) then (cond (Nat.ble ((a0.length : Int).toNat * 8) za7)
  ((zh (za1.r0 N) N (a0, a1, (List.replicate (a0.length : Int).toNat (0 : Int)), [], (w6 ((a0.length : Int) - 1)))).bind fun y1 =>
  (zb1 N y1.2.2.1).bind fun r2 => some (r2, y1.2.2.2.1)) none) else none) else none
def za1.k (N : Nat) : Kq := ⟨314, (cvv [(Ty.sl T6), (Ty.sl T6)] [(Ty.sl T6), (Ty.sl T6)] (za1 N)), go [zcr.k N, zc4.k N, zb1.k N] {lits := [25]} [(2, .plain { slots := [(0, .val (Ty.sl T6)), (1, .val (Ty.sl T6)), (6, .own 5000006 T6), (7, .val (Ty.sl T6)), (8, .val T6)], boxes := [] } [(Ty.sl T6), (Ty.sl T6), (Ty.sl T6), (Ty.sl T6), T6] (zh (za1.r2 N) N)), (0, .plain { slots := [(0, .val (Ty.sl T6)), (1, .val (Ty.sl T6)), (6, .own 5000006 T6), (7, .val (Ty.sl T6)), (8, .val T6)], boxes := [] } [(Ty.sl T6), (Ty.sl T6), (Ty.sl T6), (Ty.sl T6), T6] (zh (za1.r0 N) N))] Proofs.Tryz.func314 (hL := ⟨⟨_, _, rfl, by kernel_rfl⟩, ⟨_, _, rfl, by kernel_rfl⟩, trivial⟩)⟩
def zco.b0 (N : Nat) (s0 : List Int) (s1 : List Int) (s5 : List Int) (s6 : Int) (s7 : Int) : Option (Stp ((List Int) × (List Int) × (List Int) × Int × Int)) :=
 (cond (decide (s7 < (s0.length : Int))) (some true) (some (decide (s7 < (s1.length : Int))))).bind fun g1001 => (cond g1001 (some true) (some (decide (s6 > 0)))).bind fun g1002 =>
  cond g1002 (cond (decide (s7 < (s0.length : Int))) ((idx s0 s7).bind fun x1003 => cond (decide (s7 < (s1.length : Int))) ((idx s1 s7).bind fun x1004 =>
  cond (Nat.ble ((s5.length + ([((w6 ((w6 (s6 + x1003)) + x1004)).tmod 10)] : List Int).length) * 8) za7)
  (some (.again (s0, s1, (s5 ++ ([((w6 ((w6 (s6 + x1003)) + x1004)).tmod 10)] : List Int)), (w6 ((w6 ((w6 (s6 + x1003)) + x1004)).tdiv 10)), (w6 (s7 + 1))))) none)
  (cond (Nat.ble ((s5.length + ([((w6 (s6 + x1003)).tmod 10)] : List Int).length) * 8) za7)
  (some (.again (s0, s1, (s5 ++ ([((w6 (s6 + x1003)).tmod 10)] : List Int)), (w6 ((w6 (s6 + x1003)).tdiv 10)), (w6 (s7 + 1))))) none))
  (cond (decide (s7 < (s1.length : Int))) ((idx s1 s7).bind fun x1005 => cond (Nat.ble ((s5.length + ([((w6 (s6 + x1005)).tmod 10)] : List Int).length) * 8) za7)
  (some (.again (s0, s1, (s5 ++ ([((w6 (s6 + x1005)).tmod 10)] : List Int)), (w6 ((w6 (s6 + x1005)).tdiv 10)), (w6 (s7 + 1))))) none)
  (cond (Nat.ble ((s5.length + ([(s6.tmod 10)] : List Int).length) * 8) za7)
  (some (.again (s0, s1, (s5 ++ ([(s6.tmod 10)] : List Int)), (w6 (s6.tdiv 10)), (w6 (s7 + 1))))) none))) (some (.leave (s0, s1, s5, s6, s7)))
def zco.r0 (N : Nat) (x : (List Int) × (List Int) × (List Int) × Int × Int) := zco.b0 N x.1 x.2.1 x.2.2.1 x.2.2.2.1 x.2.2.2.2
def zco (N : Nat) (a0 : List Int) (a1 : List Int) : Option ((List Int)) :=
 (zh (zco.r0 N) N (a0, a1, [], 0, 0)).bind fun y1 => some y1.2.2.1
def zco.k (N : Nat) : Kq := ⟨257, (cvv [(Ty.sl T6)] [(Ty.sl T6), (Ty.sl T6)] (zco N)), go [] {lits := [49]} [(0, .plain { slots := [(0, .val (Ty.sl T6)), (1, .val (Ty.sl T6)), (5, .own 5000005 T6), (6, .val T6), (7, .val T6)], boxes := [] } [(Ty.sl T6), (Ty.sl T6), (Ty.sl T6), T6, T6] (zh (zco.r0 N) N))] Proofs.Tryz.func257 (hL := ⟨⟨_, _, rfl, by kernel_rfl⟩, trivial⟩)⟩
def zjr (N : Nat) (a0 : zP) (a1 : Int) (a2 : Bool) : Option zK :=
 if 0 ≤ a1 then (if a1 ≤ a1 then (cond (Nat.ble (a1.toNat * 8) za7) (cond (Nat.ble (((List.replicate a1.toNat (0 : Int)).length + a0.Top.zR.length) * 8) za7)
  ((zb1 N ((List.replicate a1.toNat (0 : Int)) ++ a0.Top.zR)).bind fun r1 => (za1 N r1 a0.yH).bind fun r2 =>
  (cond a2 ((zco N r2.2 r2.2).bind fun r3 => (zcr N r3 a0.yH).bind fun r4 => some (decide (r4 ≥ 0))) (some false)).bind fun g5 =>
  cond g5 ((zco N r2.1 ([1] : List Int)).bind fun r6 => (cond a0.Top.Below (some (decide ((r6.length : Int) > 0))) (some false)).bind fun g7 => some (⟨g7, r6⟩ : zK))
  ((cond a0.Top.Below (some (decide ((r2.1.length : Int) > 0))) (some false)).bind fun g8 => some (⟨g8, r2.1⟩ : zK))) none) none) else none) else none
def zjr.k (N : Nat) : Kq := ⟨310, (cvv [Ty.zK] [Ty.zP, T6, Ty.bool] (zjr N)), go [zco.k N, zcr.k N, zb1.k N, za1.k N] {pre := [(2, [7])], lits := [18, 28, 35]} [] Proofs.Tryz.func310⟩
def zc5.b0 (N : Nat) (s3 : Int) (s4 : Int) (b1 : zK) : Option (Stp (Int × Int × zK)) :=
 cond (decide (s4 ≥ 0)) ((idx b1.zR s4).bind fun x1001 => some (.again ((w6 ((w6 (10 * s3)) + x1001)), (w6 (s4 - 1)), b1)))
  (some (.leave (s3, s4, b1)))
def zc5.r0 (N : Nat) (x : Int × Int × zK) := zc5.b0 N x.1 x.2.1 x.2.2
def zc5 (N : Nat) (a0 : zK) : Option Int :=
 (zh (zc5.r0 N) N (0, (w6 ((a0.zR.length : Int) - 1)), a0)).bind fun y1 => cond y1.2.2.Below (some (w6 (0 - y1.1))) (some y1.1)
def zc5.k (N : Nat) : Kq := ⟨311, (cvv [T6] [Ty.zK] (zc5 N)), go [] {} [(0, .plain { slots := [(1, .ptr 1 0), (3, .val T6), (4, .val T6)], boxes := [(1, Ty.zK, [])] } [T6, T6, Ty.zK] (zh (zc5.r0 N) N))] Proofs.Tryz.func311 (hL := ⟨⟨_, _, rfl, by kernel_rfl⟩, trivial⟩)⟩
def zih (N : Nat) (a0 : zP) (a1 : DataType) (a2 : Bool) : Option (Int × Int) :=
 (zjr N a0 a1.Scale a2).bind fun r1 => cond (decide ((r1.zR.length : Int) > a1.Length)) (some (0, 19)) ((zc5 N r1).bind fun r2 => some (r2, 0))
def zih.k (N : Nat) : Kq := ⟨262, (cvv [T6, T6] [Ty.zP, Ty.DataType, Ty.bool] (zih N)), go [zjr.k N, zc5.k N] {} [] Proofs.Tryz.func262⟩
def zh4 (N : Nat) (a0 : Number) (a1 : DataType) (a2 : Bool) : Option (Value × Int) :=
 (ze4 a0).bind fun r1 => cond (r1 != 0) (some ((⟨0, (⟨#[]⟩ : ByteArray)⟩ : Value), r1)) ((zff a1).bind fun r2 => cond (r2 != 0)
  (some ((⟨0, (⟨#[]⟩ : ByteArray)⟩ : Value), r2)) ((ziy N a0).bind fun r3 => (zih N r3 a1 a2).bind fun r4 => some ((⟨r4.1, (⟨#[]⟩ : ByteArray)⟩ : Value), r4.2)))
def zh4.k (N : Nat) : Kq := ⟨199, (cvv [Ty.Value, T6] [Ty.Number, Ty.DataType, Ty.bool] (zh4 N)), go [ze4.k, zff.k, zih.k N, ziy.k N] {lits := [26]} [] Proofs.Tryz.func199⟩
def zig (N : Nat) (a0 : zB) (a1 : zC) (a2 : Int) (a3 : Number) (a4 : Bool) : Option (Int × zC) :=
 (idx a0.zA a2).bind fun x1 => (zh4 N a3 x1.zJ a4).bind fun r2 => cond (r2.2 != 0) (some (2, a1)) ((zbu N a0 a1 a2).bind fun r3 => cond (r3.2 != 0)
  (some (r3.2, a1)) ((zab N x1.zJ r2.1).bind fun r4 => (zbp N a1.Storage r3.1 r4).bind fun r5 =>
  some (0, (⟨r5, a1.At, a1.Stack, a1.Lines, a1.Status, a1.Exception, a1.Steps⟩ : zC))))
def zig.k (N : Nat) : Kq := ⟨183, (ctv [.val Ty.zB, .ptr Ty.zC true [3, 4], .val T6, .val Ty.Number, .val Ty.bool] [T6] [Ty.zC] [] [Ty.zB, Ty.zC, T6, Ty.Number, Ty.bool] (zig N)), go [zab.k N, zbu.k N, zbp.k N, zh4.k N] {lits := [51], pk := [1000000]} [] Proofs.Tryz.func183⟩
def zg7 (N : Nat) (a0 : Number) (a1 : Number) : Option (zK × zK × Int) :=
 (zcj N a0.N (w6 ((if a1.Scale > a0.Scale then a1.Scale else a0.Scale) - a0.Scale))).bind fun r1 =>
  (zcj N a1.N (w6 ((if a1.Scale > a0.Scale then a1.Scale else a0.Scale) - a1.Scale))).bind fun r2 =>
  some (r1, r2, (if a1.Scale > a0.Scale then a1.Scale else a0.Scale))
def zg7.k (N : Nat) : Kq := ⟨189, (cvv [Ty.zK, Ty.zK, T6] [Ty.Number, Ty.Number] (zg7 N)), go [zcj.k N] {} [] Proofs.Tryz.func189⟩
def zjf (N : Nat) (a0 : zK) (a1 : zK) : Option zK :=
 cond (a0.Below == a1.Below) ((zco N a0.zR a1.zR).bind fun r1 => some (⟨a0.Below, r1⟩ : zK)) ((zcr N a0.zR a1.zR).bind fun r2 =>
  cond (decide (r2 < 0)) ((zc4 N a1.zR a0.zR).bind fun r3 => (cond a1.Below (some (decide ((r3.length : Int) > 0))) (some false)).bind fun g4 =>
  some (⟨g4, r3⟩ : zK)) ((zc4 N a0.zR a1.zR).bind fun r5 => (cond a0.Below (some (decide ((r5.length : Int) > 0))) (some false)).bind fun g6 =>
  some (⟨g6, r5⟩ : zK)))
def zjf.k (N : Nat) : Kq := ⟨190, (cvv [Ty.zK] [Ty.zK, Ty.zK] (zjf N)), go [zco.k N, zcr.k N, zc4.k N] {} [] Proofs.Tryz.func190⟩
def za8.b2 (N : Nat) (s5 : List Int) (s6 : Int) (s7 : List Int) (s8 : Int) (s9 : Int) (b2 : zK) (b3 : zK) (b4 : zK) : Option (Stp ((List Int) × Int × (List Int) × Int × Int × zK × zK × zK)) :=
 (cond (decide (s9 < (b2.zR.length : Int))) (some true) (some (decide (s8 > 0)))).bind fun g3001 => cond g3001 (cond (decide (s9 < (b2.zR.length : Int)))
  ((idx b2.zR s9).bind fun x3002 => (idx b3.zR s6).bind fun x3003 =>
  cond (Nat.ble ((s7.length + ([((w6 (s8 + (w6 (x3002 * x3003)))).tmod 10)] : List Int).length) * 8) za7)
  (some (.again (s5, s6, (s7 ++ ([((w6 (s8 + (w6 (x3002 * x3003)))).tmod 10)] : List Int)), (w6 ((w6 (s8 + (w6 (x3002 * x3003)))).tdiv 10)), (w6 (s9 + 1)), b2, b3, b4))) none)
  (cond (Nat.ble ((s7.length + ([(s8.tmod 10)] : List Int).length) * 8) za7)
  (some (.again (s5, s6, (s7 ++ ([(s8.tmod 10)] : List Int)), (w6 (s8.tdiv 10)), (w6 (s9 + 1)), b2, b3, b4))) none))
  (some (.leave (s5, s6, s7, s8, s9, b2, b3, b4)))
def za8.r2 (N : Nat) (x : (List Int) × Int × (List Int) × Int × Int × zK × zK × zK) := za8.b2 N x.1 x.2.1 x.2.2.1 x.2.2.2.1 x.2.2.2.2.1 x.2.2.2.2.2.1 x.2.2.2.2.2.2.1 x.2.2.2.2.2.2.2
def za8.b0 (N : Nat) (s5 : List Int) (s6 : Int) (b2 : zK) (b3 : zK) (b4 : zK) : Option (Stp ((List Int) × Int × zK × zK × zK)) :=
 cond (decide (s6 < (b3.zR.length : Int))) (if 0 ≤ s6 then (if s6 ≤ s6 then (cond (Nat.ble (s6.toNat * 8) za7)
  ((zh (za8.r2 N) N (s5, s6, (List.replicate s6.toNat (0 : Int)), 0, 0, b2, b3, b4)).bind fun y1001 => (zco N y1001.1 y1001.2.2.1).bind fun r1002 =>
  some (.again (r1002, (w6 (y1001.2.1 + 1)), y1001.2.2.2.2.2.1, y1001.2.2.2.2.2.2.1, y1001.2.2.2.2.2.2.2))) none) else none) else none)
  (some (.leave (s5, s6, b2, b3, b4)))
def za8.r0 (N : Nat) (x : (List Int) × Int × zK × zK × zK) := za8.b0 N x.1 x.2.1 x.2.2.1 x.2.2.2.1 x.2.2.2.2
def za8 (N : Nat) (a0 : zK) (a1 : zK) : Option zK :=
 (zh (za8.r0 N) N ([], 0, a0, a1, (⟨false, []⟩ : zK))).bind fun y1 => (zb1 N y1.1).bind fun r2 => (cond (!(y1.2.2.1.Below == y1.2.2.2.1.Below))
  (some (decide ((r2.length : Int) > 0))) (some false)).bind fun g3 => some (⟨g3, r2⟩ : zK)
def za8.k (N : Nat) : Kq := ⟨313, (cvv [Ty.zK] [Ty.zK, Ty.zK] (za8 N)), go [zco.k N, zb1.k N] {lits := [53]} [(2, .plain { slots := [(2, .ptr 2 0), (3, .ptr 3 0), (4, .ptr 4 0), (5, .val (Ty.sl T6)), (6, .val T6), (7, .own 5000007 T6), (8, .val T6), (9, .val T6)], boxes := [(2, Ty.zK, []), (3, Ty.zK, []), (4, Ty.zK, [1])] } [(Ty.sl T6), T6, (Ty.sl T6), T6, T6, Ty.zK, Ty.zK, Ty.zK] (zh (za8.r2 N) N)), (0, .plain { slots := [(2, .ptr 2 0), (3, .ptr 3 0), (4, .ptr 4 0), (5, .val (Ty.sl T6)), (6, .val T6)], boxes := [(2, Ty.zK, []), (3, Ty.zK, []), (4, Ty.zK, [1])] } [(Ty.sl T6), T6, Ty.zK, Ty.zK, Ty.zK] (zh (za8.r0 N) N))] Proofs.Tryz.func313 (hL := ⟨⟨_, _, rfl, by kernel_rfl⟩, ⟨_, _, rfl, by kernel_rfl⟩, trivial⟩)⟩
def zlh (N : Nat) (a0 : Int) (a1 : Number) (a2 : Number) : Option (zP × Int) :=
 (zg7 N a1 a2).bind fun r1 => (cond (a0 == 3) (some true) (some (a0 == 4))).bind fun g2 => (cond g2 (some ((r1.2.1.zR.length : Int) == 0))
  (some false)).bind fun g3 => cond g3 (some ((⟨(⟨false, []⟩ : zK), []⟩ : zP), 20)) (cond (a0 == 1) ((cond (!r1.2.1.Below)
  (some (decide ((r1.2.1.zR.length : Int) > 0))) (some false)).bind fun g4 => (zjf N r1.1 (⟨g4, r1.2.1.zR⟩ : zK)).bind fun r5 =>
  (zf9 r1.2.2).bind fun r6 => some ((⟨r5, r6⟩ : zP), 0)) (cond (a0 == 2) ((za8 N r1.1 r1.2.1).bind fun r7 =>
  (zf9 (w6 (2 * r1.2.2))).bind fun r8 => some ((⟨r7, r8⟩ : zP), 0)) (cond (a0 == 3)
  (some ((⟨(⟨(!(r1.1.Below == r1.2.1.Below)), r1.1.zR⟩ : zK), r1.2.1.zR⟩ : zP), 0)) (cond (a0 == 4)
  ((za1 N r1.1.zR r1.2.1.zR).bind fun r9 => (zf9 r1.2.2).bind fun r10 => some ((⟨(⟨r1.1.Below, r9.2⟩ : zK), r10⟩ : zP), 0))
  ((zjf N r1.1 r1.2.1).bind fun r11 => (zf9 r1.2.2).bind fun r12 => some ((⟨r11, r12⟩ : zP), 0))))))
def zlh.k (N : Nat) : Kq := ⟨264, (cvv [Ty.zP, T6] [T6, Ty.Number, Ty.Number] (zlh N)), go [zg7.k N, zjf.k N, zf9.k, za8.k N, za1.k N] {} [] Proofs.Tryz.func264⟩
def zfg (N : Nat) (a0 : zU) (a1 : Number) (a2 : Number) : Option (Value × Int) :=
 (zg a0.Op 0 4).bind fun r1 => cond (!r1) (some ((⟨0, (⟨#[]⟩ : ByteArray)⟩ : Value), 4)) ((ze4 a1).bind fun r2 => cond (r2 != 0)
  (some ((⟨0, (⟨#[]⟩ : ByteArray)⟩ : Value), r2)) ((ze4 a2).bind fun r3 => cond (r3 != 0) (some ((⟨0, (⟨#[]⟩ : ByteArray)⟩ : Value), r3))
  ((zff a0.zJ).bind fun r4 => cond (r4 != 0) (some ((⟨0, (⟨#[]⟩ : ByteArray)⟩ : Value), r4)) ((zlh N a0.Op a1 a2).bind fun r5 => cond (r5.2 != 0)
  (some ((⟨0, (⟨#[]⟩ : ByteArray)⟩ : Value), r5.2)) ((zih N r5.1 a0.zJ a0.Half).bind fun r6 => some ((⟨r6.1, (⟨#[]⟩ : ByteArray)⟩ : Value), r6.2))))))
def zfg.k (N : Nat) : Kq := ⟨200, (cvv [Ty.Value, T6] [Ty.zU, Ty.Number, Ty.Number] (zfg N)), go [zg.k, ze4.k, zff.k, zih.k N, zlh.k N] {} [] Proofs.Tryz.func200⟩
def zgn (N : Nat) (a0 : zB) (a1 : zC) (a2 : zI) : Option (Int × zC) :=
 (idx a2.Args 0).bind fun x1 => (cond (a2.Op == 0) ((zei a0 x1).bind fun r2 => some (!r2)) (some false)).bind fun g3 => cond g3 ((idx a2.Args 1).bind fun x4 =>
  (zd1 N a0 a1 x4).bind fun r5 => cond (r5.2 != 0) (some (r5.2, a1)) ((zbu N a0 a1 x1).bind fun r6 => cond (r6.2 != 0) (some (r6.2, a1))
  ((idx a0.zA x1).bind fun x7 => (zez N r5.1 x7.zJ.Length).bind fun r8 => (zbp N a1.Storage r6.1 r8).bind fun r9 =>
  some (0, (⟨r9, a1.At, a1.Stack, a1.Lines, a1.Status, a1.Exception, a1.Steps⟩ : zC))))) ((idx a2.Args 1).bind fun x10 => (zbt N a0 a1 x10).bind fun r11 =>
  cond (r11.2 != 0) (some (r11.2, a1)) ((cond (a2.Op == 0) (some true) (some (a2.Op == 1))).bind fun g12 => cond g12 ((zig N a0 a1 x1 r11.1 (a2.Op == 1)).bind fun r13 =>
  some (r13.1, r13.2)) ((idx a2.Args 2).bind fun x14 => (zbt N a0 a1 x14).bind fun r15 => cond (r15.2 != 0) (some (r15.2, a1))
  (if 0 ≤ (w6 (a2.Op - 2)) then (if (w6 (a2.Op - 2)) < (([0, 1, 2, 3, 4] : List Int).length : Int) then ((([0, 1, 2, 3, 4] : List Int)[(w6 (a2.Op - 2)).toNat]?).bind fun x16 =>
  (idx a0.zA x1).bind fun x17 => (zfg N (⟨x16, x17.zJ, false⟩ : zU) r11.1 r15.1).bind fun r18 => cond (r18.2 == 20) (some (3, a1))
  (cond (r18.2 != 0) (some (2, a1)) ((zbu N a0 a1 x1).bind fun r19 => cond (r19.2 != 0) (some (r19.2, a1)) ((zab N x17.zJ r18.1).bind fun r20 =>
  (zbp N a1.Storage r19.1 r20).bind fun r21 => some (0, (⟨r21, a1.At, a1.Stack, a1.Lines, a1.Status, a1.Exception, a1.Steps⟩ : zC)))))) else none) else none))))
def zgn.k (N : Nat) : Kq := ⟨177, (ctv [.val Ty.zB, .ptr Ty.zC true [3, 4], .val Ty.zI] [T6] [Ty.zC] [] [Ty.zB, Ty.zC, Ty.zI] (zgn N)), go [zab.k N, zbu.k N, zbt.k N, zig.k N, zbp.k N, zez.k N, zfg.k N, zei.k, zd1.k N] {lits := [73, 168], pk := [1000000]} [] Proofs.Tryz.func177⟩
def zk0 (N : Nat) (a0 : Number) (a1 : Number) : Option Int :=
 (zg7 N a0 a1).bind fun r1 => (zjf N r1.1 (⟨(!r1.2.1.Below), r1.2.1.zR⟩ : zK)).bind fun r2 => cond ((r2.zR.length : Int) == 0) (some 0)
  ((zah r2.Below).bind fun r3 => some (w6 (1 - (w6 (2 * r3)))))
def zk0.k (N : Nat) : Kq := ⟨128, (cvv [T6] [Ty.Number, Ty.Number] (zk0 N)), go [zah.k, zg7.k N, zjf.k N] {} [] Proofs.Tryz.func128⟩
def zgo (N : Nat) (a0 : zB) (a1 : zC) (a2 : zI) : Option (Bool × Int) :=
 (idx a2.Args 0).bind fun x1 => (zei a0 x1).bind fun r2 => cond r2 ((idx a2.Args 0).bind fun x3 => (zbt N a0 a1 x3).bind fun r4 => cond (r4.2 != 0)
  (some (false, r4.2)) ((idx a2.Args 1).bind fun x5 => (zbt N a0 a1 x5).bind fun r6 => cond (r6.2 != 0) (some (false, r6.2)) ((zk0 N r4.1 r6.1).bind fun r7 =>
  cond (a2.Op == 7) (some ((r7 == 0), 0)) (some ((decide (r7 < 0)), 0))))) ((idx a2.Args 0).bind fun x8 => (zd1 N a0 a1 x8).bind fun r9 => cond (r9.2 != 0)
  (some (false, r9.2)) ((idx a2.Args 1).bind fun x10 => (zd1 N a0 a1 x10).bind fun r11 => cond (r11.2 != 0) (some (false, r11.2))
  ((zez N r9.1 (if (r11.1.size : Int) > (r9.1.size : Int) then (r11.1.size : Int) else (r9.1.size : Int))).bind fun r12 =>
  (zez N r11.1 (if (r11.1.size : Int) > (r9.1.size : Int) then (r11.1.size : Int) else (r9.1.size : Int))).bind fun r13 =>
  (zah (!((Op.bytesLess r12.toList r13.toList) || (r12.toList == r13.toList)))).bind fun r14 => (zah (Op.bytesLess r12.toList r13.toList)).bind fun r15 =>
  cond (a2.Op == 7) (some (((w6 (r14 - r15)) == 0), 0)) (some ((decide ((w6 (r14 - r15)) < 0)), 0)))))
def zgo.k (N : Nat) : Kq := ⟨178, (cvv [Ty.bool, T6] [Ty.zB, Ty.zC, Ty.zI] (zgo N)), go [zah.k, zk0.k N, zbt.k N, zez.k N, zei.k, zd1.k N] {} [] Proofs.Tryz.func178⟩
def zkz (N : Nat) (a0 : Pointer) : Option ByteArray :=
 (zat N a0.Kind 1).bind fun r1 => if ((r1.size + (⟨#[0]⟩ : ByteArray).size : Nat) : Int) > IntKind.i64.max then none else (zat N a0.Authority 2).bind fun r2 =>
  if (((r1 ++ (⟨#[0]⟩ : ByteArray)).size + r2.size : Nat) : Int) > IntKind.i64.max then none else (zat N a0.Address.zX 6).bind fun r3 =>
  if ((((r1 ++ (⟨#[0]⟩ : ByteArray)) ++ r2).size + r3.size : Nat) : Int) > IntKind.i64.max then none else (zat N a0.Address.Offset 6).bind fun r4 =>
  if (((((r1 ++ (⟨#[0]⟩ : ByteArray)) ++ r2) ++ r3).size + r4.size : Nat) : Int) > IntKind.i64.max then none else some ((((r1 ++ (⟨#[0]⟩ : ByteArray)) ++ r2) ++ r3) ++ r4)
def zkz.k (N : Nat) : Kq := ⟨254, (cvv [Ty.str] [Ty.Pointer] (zkz N)), go [zat.k N] {} [] Proofs.Tryz.func254⟩
def zfm (N : Nat) (a0 : Storage) (a1 : Int) (a2 : Pointer) : Option Storage :=
 (zkz N a2).bind fun r1 => (zbp N a0 a1 r1).bind fun r2 =>
  if 0 ≤ (w6 (a1.tdiv 16)) then (if (w6 (a1.tdiv 16)) < (r2.Tags.length : Int) then ((r2.Tags[(w6 (a1.tdiv 16)).toNat]?).bind fun x3 =>
  some (⟨r2.Bytes, (r2.Tags.set ((w6 (a1.tdiv 16)).toNat) true)⟩ : Storage)) else none) else none
def zfm.k (N : Nat) : Kq := ⟨180, (ctv [.val Ty.Storage, .val T6, .val Ty.Pointer] [Ty.Storage] [] [1] [Ty.Storage, T6, Ty.Pointer] (zfm N)), go [zbp.k N, zkz.k N] {lits := [11]} [] Proofs.Tryz.func180⟩
def zhp (N : Nat) (a0 : Number) : Option Int :=
 (zdi N a0.Scale).bind fun r1 => if r1 = 0 then none else some (w6 ((a0.N : Int).tdiv r1))
def zhp.k (N : Nat) : Kq := ⟨182, (cvv [T6] [Ty.Number] (zhp N)), go [zdi.k N] {} [] Proofs.Tryz.func182⟩
def zcu : Nat → Int → Option ByteArray
 | 0, _ => none
 | N + 1, a0 =>
 cond (decide (a0 < (-9))) ((zcu N (w6 (0 - (w6 (a0.tdiv 10))))).bind fun r1 =>
  if (((⟨#[45]⟩ : ByteArray).size + r1.size : Nat) : Int) > IntKind.i64.max then none else (zcu N (w6 (0 - (a0.tmod 10)))).bind fun r2 =>
  if ((((⟨#[45]⟩ : ByteArray) ++ r1).size + r2.size : Nat) : Int) > IntKind.i64.max then none else some (((⟨#[45]⟩ : ByteArray) ++ r1) ++ r2)) (cond (decide (a0 < 0))
  ((zcu N (w6 (0 - a0))).bind fun r3 =>
  if (((⟨#[45]⟩ : ByteArray).size + r3.size : Nat) : Int) > IntKind.i64.max then none else some ((⟨#[45]⟩ : ByteArray) ++ r3)) (cond (decide (a0 < 10))
  (some (zda ([(IntKind.wrap .u8 (w6 (48 + a0)))] : List Int))) ((zcu N (w6 (a0.tdiv 10))).bind fun r4 =>
  if ((r4.size + (zda ([(IntKind.wrap .u8 (w6 (48 + (a0.tmod 10))))] : List Int)).size : Nat) : Int) > IntKind.i64.max then none else some (r4 ++ (zda ([(IntKind.wrap .u8 (w6 (48 + (a0.tmod 10))))] : List Int))))))
def zcu.t (N : Nat) : Ct U := (cvv [Ty.str] [T6] (zcu N))
theorem zcu.m : ∀ N : Nat, zh5 K0 260 (zcu.t N)
 | 0 => z7f Proofs.Tryz.func260 (by kernel_rfl) rfl fun ds y hy => by have := z0y (U := U) [T6] (zcu 0) (fun _ => none) (by intro a0; show none = zcu 0 a0; rfl) ds y hy; cases this
 | N + 1 => go [⟨260, zcu.t N, zcu.m N⟩] {} [] Proofs.Tryz.func260
def zcu.k (N : Nat) : Kq := ⟨260, zcu.t N, zcu.m N⟩
def zea.b0 (N : Nat) (s3 : ByteArray) (b1 : Number) : Option (Stp (ByteArray × Number)) :=
 cond (decide ((s3.size : Int) ≤ b1.Scale))
  (if (((⟨#[48]⟩ : ByteArray).size + s3.size : Nat) : Int) > IntKind.i64.max then none else some (.again (((⟨#[48]⟩ : ByteArray) ++ s3), b1))) (some (.leave (s3, b1)))
def zea.r0 (N : Nat) (x : ByteArray × Number) := zea.b0 N x.1 x.2
def zea (N : Nat) (a0 : Number) : Option ByteArray :=
 (zfh a0.N).bind fun r1 => (zcu N r1).bind fun r2 => (zh (zea.r0 N) N (r2, a0)).bind fun y3 => cond (decide (y3.2.Scale > 0))
  (if 0 ≤ (w6 ((y3.1.size : Int) - y3.2.Scale)) ∧ (w6 ((y3.1.size : Int) - y3.2.Scale)) ≤ (y3.1.size : Int) then (if 0 ≤ (0 : Int) ∧ (0 : Int) ≤ (w6 ((y3.1.size : Int) - y3.2.Scale)) then (if (((y3.1.extract (0 : Int).toNat (w6 ((y3.1.size : Int) - y3.2.Scale)).toNat).size + (⟨#[46]⟩ : ByteArray).size : Nat) : Int) > IntKind.i64.max then none else if 0 ≤ (w6 ((y3.1.size : Int) - y3.2.Scale)) ∧ (w6 ((y3.1.size : Int) - y3.2.Scale)) ≤ (y3.1.size : Int) then (if ((((y3.1.extract (0 : Int).toNat (w6 ((y3.1.size : Int) - y3.2.Scale)).toNat) ++ (⟨#[46]⟩ : ByteArray)).size + (y3.1.extract (w6 ((y3.1.size : Int) - y3.2.Scale)).toNat y3.1.size).size : Nat) : Int) > IntKind.i64.max then none else cond (decide (y3.2.N < 0))
  (if (((⟨#[45]⟩ : ByteArray).size + (((y3.1.extract (0 : Int).toNat (w6 ((y3.1.size : Int) - y3.2.Scale)).toNat) ++ (⟨#[46]⟩ : ByteArray)) ++ (y3.1.extract (w6 ((y3.1.size : Int) - y3.2.Scale)).toNat y3.1.size)).size : Nat) : Int) > IntKind.i64.max then none else some ((⟨#[45]⟩ : ByteArray) ++ (((y3.1.extract (0 : Int).toNat (w6 ((y3.1.size : Int) - y3.2.Scale)).toNat) ++ (⟨#[46]⟩ : ByteArray)) ++ (y3.1.extract (w6 ((y3.1.size : Int) - y3.2.Scale)).toNat y3.1.size))))
  (some (((y3.1.extract (0 : Int).toNat (w6 ((y3.1.size : Int) - y3.2.Scale)).toNat) ++ (⟨#[46]⟩ : ByteArray)) ++ (y3.1.extract (w6 ((y3.1.size : Int) - y3.2.Scale)).toNat y3.1.size)))) else none) else none) else none)
  (cond (decide (y3.2.N < 0)) (if (((⟨#[45]⟩ : ByteArray).size + y3.1.size : Nat) : Int) > IntKind.i64.max then none else some ((⟨#[45]⟩ : ByteArray) ++ y3.1)) (some y3.1))
def zea.k (N : Nat) : Kq := ⟨192, (cvv [Ty.str] [Ty.Number] (zea N)), go [zfh.k, zcu.k N] {lits := [6]} [(0, .plain { slots := [(1, .ptr 1 0), (3, .val Ty.str)], boxes := [(1, Ty.Number, [])] } [Ty.str, Ty.Number] (zh (zea.r0 N) N))] Proofs.Tryz.func192 (hL := ⟨⟨_, _, rfl, by kernel_rfl⟩, trivial⟩)⟩
def zje (N : Nat) (a0 : zB) (a1 : zC) (a2 : Int) : Option (ByteArray × Int) :=
 (zei a0 a2).bind fun r1 => cond (!r1) ((zd1 N a0 a1 a2).bind fun r2 => some (r2.1, r2.2)) ((zbt N a0 a1 a2).bind fun r3 => cond (r3.2 != 0)
  (some ((⟨#[]⟩ : ByteArray), r3.2)) ((zea N r3.1).bind fun r4 => some (r4, 0)))
def zje.k (N : Nat) : Kq := ⟨184, (cvv [Ty.str, T6] [Ty.zB, Ty.zC, T6] (zje N)), go [zbt.k N, zea.k N, zei.k, zd1.k N] {} [] Proofs.Tryz.func184⟩
def zx (N : Nat) (a0 : zB) (a1 : zC) : Option (Int × Int × zC) :=
 (idx a0.zG a1.At).bind fun x1 => (zp N a0).bind fun r2 => (cond (x1.Op == 0) (some (x1.Op == 0)) (cond (x1.Op == 1) (some (x1.Op == 1)) (cond (x1.Op == 2)
  (some (x1.Op == 2)) (cond (x1.Op == 3) (some (x1.Op == 3)) (cond (x1.Op == 4) (some (x1.Op == 4)) (cond (x1.Op == 5) (some (x1.Op == 5)) (some (x1.Op == 6)))))))).bind fun q3 =>
  cond q3 ((zgn N a0 a1 x1).bind fun r4 => some ((w6 (a1.At + 1)), r4.1, r4.2)) ((cond (x1.Op == 7) (some (x1.Op == 7)) (some (x1.Op == 8))).bind fun q5 =>
  cond q5 ((zgo N a0 a1 x1).bind fun r6 => cond (r6.2 != 0) (some (0, r6.2, a1)) (cond r6.1 ((idx x1.Args 2).bind fun x7 => (idx a0.zA x7).bind fun x8 =>
  some (x8.Target, 0, a1)) (some ((w6 (a1.At + 1)), 0, a1)))) (cond (x1.Op == 9) ((idx x1.Args 0).bind fun x9 => (idx a0.zA x9).bind fun x10 =>
  some (x10.Target, 0, a1)) (cond (x1.Op == 10) ((idx x1.Args 1).bind fun x11 => (zbu N a0 a1 x11).bind fun r12 => cond (r12.2 != 0) (some (0, r12.2, a1))
  ((idx x1.Args 0).bind fun x13 => (idx r2.1 x13).bind fun x14 => (zfm N a1.Storage x14 (⟨0, (⟨1, r12.1⟩ : Address), 0⟩ : Pointer)).bind fun r15 =>
  some ((w6 (a1.At + 1)), 0, (⟨r15, a1.At, a1.Stack, a1.Lines, a1.Status, a1.Exception, a1.Steps⟩ : zC)))) (cond (x1.Op == 11) ((idx x1.Args 1).bind fun x16 =>
  (idx r2.1 x16).bind fun x17 => (zgy N a1.Storage x17).bind fun r18 => cond (r18.2 != 0) (some (0, 4, a1)) ((idx x1.Args 0).bind fun x19 => (idx r2.1 x19).bind fun x20 =>
  (zfm N a1.Storage x20 r18.1).bind fun r21 => some ((w6 (a1.At + 1)), 0, (⟨r21, a1.At, a1.Stack, a1.Lines, a1.Status, a1.Exception, a1.Steps⟩ : zC))))
  (cond (x1.Op == 12) ((idx x1.Args 0).bind fun x22 => (idx r2.1 x22).bind fun x23 => (zgy N a1.Storage x23).bind fun r24 => cond (r24.2 != 0) (some (0, 4, a1))
  ((idx x1.Args 1).bind fun x25 => (zbt N a0 a1 x25).bind fun r26 => cond (r26.2 != 0) (some (0, r26.2, a1)) ((zhp N r26.1).bind fun r27 =>
  (zg (w6 (r24.1.Address.Offset + r27)) 0 16777215).bind fun r28 => cond (!r28) (some (0, 5, a1)) ((idx x1.Args 0).bind fun x29 =>
  (idx r2.1 x29).bind fun x30 =>
  (zfm N a1.Storage x30 (⟨r24.1.Kind, (⟨r24.1.Address.zX, (w6 (r24.1.Address.Offset + r27))⟩ : Address), r24.1.Authority⟩ : Pointer)).bind fun r31 =>
  some ((w6 (a1.At + 1)), 0, (⟨r31, a1.At, a1.Stack, a1.Lines, a1.Status, a1.Exception, a1.Steps⟩ : zC)))))) (cond (x1.Op == 13)
  (cond ((a1.Stack.length : Int) == 6) (some (0, 6, a1)) (cond (Nat.ble ((a1.Stack.length + ([a1.At] : List Int).length) * 8) za7) ((idx x1.Args 0).bind fun x32 =>
  (idx a0.zA x32).bind fun x33 =>
  some (x33.Target, 0, (⟨a1.Storage, a1.At, (a1.Stack ++ ([a1.At] : List Int)), a1.Lines, a1.Status, a1.Exception, a1.Steps⟩ : zC))) none)) (cond (x1.Op == 14)
  (cond ((a1.Stack.length : Int) == 0) (some ((w6 (a1.At + 1)), 0, (⟨a1.Storage, a1.At, a1.Stack, a1.Lines, 1, a1.Exception, a1.Steps⟩ : zC)))
  (if 0 ≤ (w6 ((a1.Stack.length : Int) - 1)) then (if (w6 ((a1.Stack.length : Int) - 1)) < (a1.Stack.length : Int) then ((a1.Stack[(w6 ((a1.Stack.length : Int) - 1)).toNat]?).bind fun x34 =>
  if 0 ≤ (w6 ((a1.Stack.length : Int) - 1)) ∧ (w6 ((a1.Stack.length : Int) - 1)) ≤ (a1.Stack.length : Int) then (if 0 ≤ (0 : Int) ∧ (0 : Int) ≤ (w6 ((a1.Stack.length : Int) - 1)) then (some ((w6 (x34 + 1)), 0, (⟨a1.Storage, a1.At, ((a1.Stack.drop ((0 : Int).toNat)).take ((w6 ((a1.Stack.length : Int) - 1)).toNat - (0 : Int).toNat)), a1.Lines, a1.Status, a1.Exception, a1.Steps⟩ : zC))) else none) else none) else none) else none))
  (cond (x1.Op == 15) ((idx x1.Args 0).bind fun x35 => (zbt N a0 a1 x35).bind fun r36 => cond (r36.2 != 0) (some (0, r36.2, a1)) ((zhp N r36.1).bind fun r37 =>
  (zg r37 100 999).bind fun r38 => cond r38 (some (0, r37, a1)) (some (0, 2, a1)))) (cond (x1.Op == 16) ((idx x1.Args 0).bind fun x39 =>
  (zig N a0 a1 x39 (⟨a1.Exception, 0⟩ : Number) false).bind fun r40 => some ((w6 (a1.At + 1)), r40.1, r40.2)) (cond (x1.Op == 17)
  ((idx x1.Args 0).bind fun x41 => (zje N a0 a1 x41).bind fun r42 => cond (r42.2 != 0) (some (0, r42.2, a1)) (cond ((a1.Lines.length : Int) == 40)
  (some ((w6 (a1.At + 1)), 0, (⟨a1.Storage, a1.At, a1.Stack, a1.Lines, 3, a1.Exception, a1.Steps⟩ : zC)))
  (cond (Nat.ble ((a1.Lines.length + ([r42.1] : List ByteArray).length) * 16) za7)
  (some ((w6 (a1.At + 1)), 0, (⟨a1.Storage, a1.At, a1.Stack, (a1.Lines ++ ([r42.1] : List ByteArray)), a1.Status, a1.Exception, a1.Steps⟩ : zC))) none)))
  (cond (x1.Op == 18) (some ((w6 (a1.At + 1)), 0, (⟨a1.Storage, a1.At, a1.Stack, a1.Lines, 1, a1.Exception, a1.Steps⟩ : zC)))
  (some ((w6 (a1.At + 1)), 0, a1)))))))))))))
def zx.k (N : Nat) : Kq := ⟨116, (ctv [.val Ty.zB, .ptr Ty.zC true [3, 4]] [T6, T6] [Ty.zC] [] [Ty.zB, Ty.zC] (zx N)), go [zg.k, zgy.k N, zp.k N, zgn.k N, zgo.k N, zbu.k N, zfm.k N, zbt.k N, zhp.k N, zig.k N, zje.k N] {lits := [243, 365], pk := [1000000], bj := [44, 57]} [] Proofs.Tryz.func116⟩
def zcg.b0 (N : Nat) (s1 : Int) (s2 : Int) (s7 : Int) (b3 : zB) : Option (Round Int (Int × Int × Int × zB)) :=
 cond (decide (s7 < (b3.zL.length : Int))) ((idx b3.zL s7).bind fun x1001 => (cond (decide (x1001.From ≤ s1)) (some (decide (s1 < x1001.To)))
  (some false)).bind fun g1002 => (cond g1002 ((cond (x1001.Exception == 0) (some true) (some (x1001.Exception == s2))).bind fun g1003 => some g1003) (some false)).bind fun g1004 =>
  cond g1004 (some (.result x1001.Handler)) (some (.again (s1, s2, (w6 (s7 + 1)), b3)))) (some (.leave (s1, s2, s7, b3)))
def zcg.r0 (N : Nat) (x : Int × Int × Int × zB) := zcg.b0 N x.1 x.2.1 x.2.2.1 x.2.2.2
def zcg (N : Nat) (a0 : zB) (a1 : Int) (a2 : Int) : Option Int :=
 (zt (zcg.r0 N) N (a1, a2, 0, a0)).bind fun z2 => zee z2 (fun z => some z) (fun y1 => some (-1))
def zcg.k (N : Nat) : Kq := ⟨185, (cvv [T6] [Ty.zB, T6, T6] (zcg N)), go [] {} [(0, .rets { slots := [(1, .val T6), (2, .val T6), (3, .ptr 3 0), (7, .val T6)], boxes := [(3, Ty.zB, [])] } [T6, T6, T6, Ty.zB] (zt (zcg.r0 N) N))] Proofs.Tryz.func185 (hL := ⟨⟨_, _, rfl, by kernel_rfl⟩, trivial⟩)⟩
def zdw.b0 (N : Nat) (s2 : Int) (b3 : zB) (b4 : zC) (b6 : zC) : Option (Round zC (Int × zB × zC × zC)) :=
 (zcg N b3 b4.At s2).bind fun r1001 => cond (r1001 != (-1)) (some (.result (⟨b4.Storage, r1001, b4.Stack, b4.Lines, b4.Status, b4.Exception, b4.Steps⟩ : zC)))
  (cond ((b4.Stack.length : Int) == 0) (some (.result (⟨b4.Storage, b4.At, b4.Stack, b4.Lines, 2, b4.Exception, b4.Steps⟩ : zC)))
  ((idx b4.Stack (w6 ((b4.Stack.length : Int) - 1))).bind fun x1002 =>
  if 0 ≤ (w6 ((b4.Stack.length : Int) - 1)) ∧ (w6 ((b4.Stack.length : Int) - 1)) ≤ (b4.Stack.length : Int) then (if 0 ≤ (0 : Int) ∧ (0 : Int) ≤ (w6 ((b4.Stack.length : Int) - 1)) then (some (.again (s2, b3, (⟨b4.Storage, x1002, ((b4.Stack.take (w6 ((b4.Stack.length : Int) - 1)).toNat).drop (0 : Int).toNat), b4.Lines, b4.Status, b4.Exception, b4.Steps⟩ : zC), b6))) else none) else none))
def zdw.r0 (N : Nat) (x : Int × zB × zC × zC) := zdw.b0 N x.1 x.2.1 x.2.2.1 x.2.2.2
def zdw (N : Nat) (a0 : zB) (a1 : zC) (a2 : Int) : Option zC :=
 (zt (zdw.r0 N) N (a2, a0, (⟨a1.Storage, a1.At, a1.Stack, a1.Lines, a1.Status, a2, a1.Steps⟩ : zC), (⟨(⟨(⟨#[]⟩ : ByteArray), []⟩ : Storage), 0, [], [], 0, 0, 0⟩ : zC))).bind fun z2 =>
  zee z2 (fun z => some z) (fun y1 => some y1.2.2.2)
def zdw.k (N : Nat) : Kq := ⟨117, (cvv [Ty.zC] [Ty.zB, Ty.zC, T6] (zdw N)), go [zcg.k N] {} [(0, .rets { slots := [(2, .val T6), (3, .ptr 3 0), (4, .ptr 4 0), (6, .ptr 6 0)], boxes := [(3, Ty.zB, []), (4, Ty.zC, []), (6, Ty.zC, [1, 3, 4])] } [T6, Ty.zB, Ty.zC, Ty.zC] (zt (zdw.r0 N) N))] Proofs.Tryz.func117 (hL := ⟨⟨_, _, rfl, by kernel_rfl⟩, trivial⟩)⟩
def zly (N : Nat) (a0 : zB) (a1 : zC) : Option zC :=
 (zlg a1).bind fun r1 => (zx N a0 (⟨r1.Storage, r1.At, r1.Stack, r1.Lines, r1.Status, r1.Exception, (w6 (r1.Steps + 1))⟩ : zC)).bind fun r2 =>
  cond (r2.2.1 != 0) ((zlg a1).bind fun r3 =>
  (zdw N a0 (⟨r3.Storage, r3.At, r3.Stack, r3.Lines, r3.Status, r3.Exception, (w6 (r3.Steps + 1))⟩ : zC) r2.2.1).bind fun r4 => (cond (r4.Status == 0)
  (some (r4.Steps == 300)) (some false)).bind fun g5 => cond g5 (some (⟨r4.Storage, r4.At, r4.Stack, r4.Lines, 3, r4.Exception, r4.Steps⟩ : zC)) (some r4))
  (cond (r2.2.2.Status == 0) (cond (r2.1 == (a0.zG.length : Int))
  (some (⟨r2.2.2.Storage, r2.2.2.At, r2.2.2.Stack, r2.2.2.Lines, 1, r2.2.2.Exception, r2.2.2.Steps⟩ : zC)) ((cond (r2.2.2.Status == 0) (some (r2.2.2.Steps == 300))
  (some false)).bind fun g6 => cond g6 (some (⟨r2.2.2.Storage, r2.1, r2.2.2.Stack, r2.2.2.Lines, 3, r2.2.2.Exception, r2.2.2.Steps⟩ : zC))
  (some (⟨r2.2.2.Storage, r2.1, r2.2.2.Stack, r2.2.2.Lines, r2.2.2.Status, r2.2.2.Exception, r2.2.2.Steps⟩ : zC)))) ((cond (r2.2.2.Status == 0) (some (r2.2.2.Steps == 300))
  (some false)).bind fun g7 => cond g7 (some (⟨r2.2.2.Storage, r2.2.2.At, r2.2.2.Stack, r2.2.2.Lines, 3, r2.2.2.Exception, r2.2.2.Steps⟩ : zC)) (some r2.2.2)))
def zly.k (N : Nat) : Kq := ⟨75, (cvv [Ty.zC] [Ty.zB, Ty.zC] (zly N)), go [zlg.k, zx.k N, zdw.k N] {} [] Proofs.Tryz.func75⟩
def zfd.b0 (N : Nat) (b1 : zB) (b2 : zQ) (b3 : zC) : Option (Stp (zB × zQ × zC)) :=
 cond (b3.Status == 0) ((zly N b1 b3).bind fun r1001 => some (.again (b1, b2, r1001))) (some (.leave (b1, b2, b3)))
def zfd.r0 (N : Nat) (x : zB × zQ × zC) := zfd.b0 N x.1 x.2.1 x.2.2
def zfd (N : Nat) (a0 : zB) : Option zQ :=
 (zky N a0).bind fun r1 => (zh (zfd.r0 N) N (a0, (⟨[], 0, 0, 0⟩ : zQ), r1)).bind fun y2 =>
  some (⟨y2.2.2.Lines, y2.2.2.Status, y2.2.2.Exception, y2.2.2.Steps⟩ : zQ)
def zfd.k (N : Nat) : Kq := ⟨32, (cvv [Ty.zQ] [Ty.zB] (zfd N)), go [zky.k N, zly.k N] {} [(0, .plain { slots := [(1, .ptr 1 0), (2, .ptr 2 0), (3, .ptr 3 0)], boxes := [(1, Ty.zB, []), (2, Ty.zQ, [0]), (3, Ty.zC, [])] } [Ty.zB, Ty.zQ, Ty.zC] (zh (zfd.r0 N) N))] Proofs.Tryz.func32 (hL := ⟨⟨_, _, rfl, by kernel_rfl⟩, trivial⟩)⟩
def zf5 (N : Nat) (a0 : zB) : Option Bool :=
 (zmg N).bind fun r1 => cond (!r1) (some false) ((zb6 N a0).bind fun r2 => cond (!r2) (some true) ((ze2 N a0).bind fun r3 => (zfp N r3).bind fun r4 =>
  (zm9 N a0).bind fun r5 => cond (r5 != 0) ((cond (r4.2 == r5) ((zen N r4.1 (⟨[], 0, 0, 0⟩ : zQ)).bind fun r6 => some r6) (some false)).bind fun g7 =>
  some g7) ((cond (r4.2 == 0) ((zfd N a0).bind fun r8 => (zen N r4.1 r8).bind fun r9 => some r9) (some false)).bind fun g10 => some g10)))
def zf5.k (N : Nat) : Kq := ⟨7, (cvv [Ty.bool] [Ty.zB] (zf5 N)), go [zmg.k N, zb6.k N, zfp.k N, ze2.k N, zm9.k N, zen.k N, zfd.k N] {lits := [13, 34]} [] Proofs.Tryz.func7⟩
end
end Go.Proofs.YtppbpnknfigboaaGreatDoor.M
