/- What the program's functions compute, each tied to its code: part 1. -/
import Derived.Test.YtmifhmfokbigiaaGreatDoorF0
namespace Go.Proofs.YtmifhmfokbigiaaGreatDoor.M
open Go Go.Amx
set_option linter.unusedVariables false
set_option maxRecDepth 100000
noncomputable section
def zav.b0 (N : Nat) (b1000000 : zD) : Option (Round zD zD) :=
 (zhr N b1000000.zB b1000000.zC.At b1000000.raised).bind fun r1001 => cond (decide (r1001 ≥ 0))
  (some (.result (⟨b1000000.zB, (⟨b1000000.zC.Storage, r1001, b1000000.zC.Stack, b1000000.zC.Lines, b1000000.zC.Status, b1000000.zC.Exception, b1000000.zC.Steps⟩ : zC), b1000000.layout, b1000000.raised⟩ : zD)))
  (cond ((b1000000.zC.Stack.length : Int) == 0) ((zak b1000000 2).bind fun r1002 => some (.result r1002))
  ((idx b1000000.zC.Stack (w6 ((b1000000.zC.Stack.length : Int) - 1))).bind fun x1003 =>
  if 0 ≤ (w6 ((b1000000.zC.Stack.length : Int) - 1)) ∧ (w6 ((b1000000.zC.Stack.length : Int) - 1)) ≤ (b1000000.zC.Stack.length : Int) then (if 0 ≤ (0 : Int) ∧ (0 : Int) ≤ (w6 ((b1000000.zC.Stack.length : Int) - 1)) then ((zki 8 ((b1000000.zC.Stack.take (w6 ((b1000000.zC.Stack.length : Int) - 1)).toNat).drop (0 : Int).toNat)).bind fun r1004 =>
  some (.again (⟨b1000000.zB, (⟨b1000000.zC.Storage, x1003, r1004, b1000000.zC.Lines, b1000000.zC.Status, b1000000.zC.Exception, b1000000.zC.Steps⟩ : zC), b1000000.layout, b1000000.raised⟩ : zD))) else none) else none))
def zav.r0 (N : Nat) (x : zD) := zav.b0 N x
def zav (N : Nat) (a0 : zD) : Option zD :=
 (zj (zav.r0 N) N (⟨a0.zB, (⟨a0.zC.Storage, a0.zC.At, a0.zC.Stack, a0.zC.Lines, a0.zC.Status, a0.raised, a0.zC.Steps⟩ : zC), a0.layout, a0.raised⟩ : zD)).bind fun z2 =>
  zb5 z2 (fun z => some z) (fun y1 => some y1)
def zav.k (N : Nat) : Kq := ⟨106, (ctv [.ptr Ty.zD true []] [] [Ty.zD] [] [Ty.zD] (zav N)), go [zhr.k N, zak.k, zzl.k] {pk := [1000000]} [(0, .rets { slots := [(0, .ptr 1000000 0)], boxes := [(1000000, Ty.zD, [])] } [Ty.zD] (zj (zav.r0 N) N))] Proofs.Tryz.func106 (hL := ⟨⟨_, _, rfl, by kernel_rfl⟩, trivial⟩)⟩
def zg4 (N : Nat) (a0 : zB) (a1 : zC) (a2 : List Int) : Option zC :=
 (idx a0.zG a1.At).bind fun x1 =>
  (zd N (⟨a0, (⟨a1.Storage, a1.At, a1.Stack, a1.Lines, a1.Status, a1.Exception, (w6 (a1.Steps + 1))⟩ : zC), a2, 0⟩ : zD) x1).bind fun r2 =>
  cond (r2.2.raised != 0) ((zav N r2.2).bind fun r3 => (cond (r3.zC.Status == 0) (some (r3.zC.Steps == 300)) (some false)).bind fun g4 =>
  cond g4 ((zak r3 3).bind fun r5 => some r5.zC) (some r3.zC)) (cond (r2.2.zC.Status != 0) ((cond (r2.2.zC.Status == 0)
  (some (r2.2.zC.Steps == 300)) (some false)).bind fun g6 => cond g6 ((zak r2.2 3).bind fun r7 => some r7.zC) (some r2.2.zC))
  (cond (r2.1 == (a0.zG.length : Int)) ((zak r2.2 1).bind fun r8 => (cond (r8.zC.Status == 0) (some (r8.zC.Steps == 300))
  (some false)).bind fun g9 => cond g9 ((zak r8 3).bind fun r10 => some r10.zC) (some r8.zC)) ((cond (r2.2.zC.Status == 0)
  (some (r2.2.zC.Steps == 300)) (some false)).bind fun g11 =>
  cond g11 ((zak (⟨r2.2.zB, (⟨r2.2.zC.Storage, r2.1, r2.2.zC.Stack, r2.2.zC.Lines, r2.2.zC.Status, r2.2.zC.Exception, r2.2.zC.Steps⟩ : zC), r2.2.layout, r2.2.raised⟩ : zD) 3).bind fun r12 =>
  some r12.zC) (some (⟨r2.2.zC.Storage, r2.1, r2.2.zC.Stack, r2.2.zC.Lines, r2.2.zC.Status, r2.2.zC.Exception, r2.2.zC.Steps⟩ : zC)))))
def zg4.k (N : Nat) : Kq := ⟨65, (cvv [Ty.zC] [Ty.zB, Ty.zC, (Ty.sl T6)] (zg4 N)), go [zd.k N, zav.k N, zak.k] {} [] Proofs.Tryz.func65⟩
def zc4.b0 (N : Nat) (s1 : Int) (s9 : List Int) (s11 : Int) (b1000000 : zC) (b3 : zB) (b7 : zC) : Option (Stp (Int × (List Int) × Int × zC × zB × zC)) :=
 (cond (decide (s11 < s1)) (some (b7.Status == 0)) (some false)).bind fun g1001 => cond g1001 ((zg4 N b3 b7 s9).bind fun r1002 =>
  (zj7 r1002 b1000000).bind fun r1003 => some (.again (s1, s9, (w6 (s11 + 1)), r1003, b3, r1002))) (some (.leave (s1, s9, s11, b1000000, b3, b7)))
def zc4.r0 (N : Nat) (x : Int × (List Int) × Int × zC × zB × zC) := zc4.b0 N x.1 x.2.1 x.2.2.1 x.2.2.2.1 x.2.2.2.2.1 x.2.2.2.2.2
def zc4 (N : Nat) (a0 : zB) (a1 : Int) (a2 : zC) : Option (Int × zC) :=
 (zgc N a0).bind fun r1 => cond (r1.2 != 0) (some (r1.2, a2)) ((zgu N a0).bind fun r2 => cond (r2.2.2 != 0) (some (r2.2.2, a2))
  ((zj7 r1.1 a2).bind fun r3 => (zl (zc4.r0 N) N (a1, r2.1, 0, r3, a0, r1.1)).bind fun y4 => some (0, y4.2.2.2.1)))
def zc4.k (N : Nat) : Kq := ⟨44, (ctv [.val Ty.zB, .val T6, .clo 69 1, .ptr Ty.zC true []] [T6] [Ty.zC] [] [Ty.zB, T6, Ty.zC] (zc4 N)), go [zgc.k N, zgu.k N, zg4.k N, zj7.k] {pk := [1000000]} [(0, .plain { slots := [(1, .val T6), (2, .fn 69 [1000000]), (3, .ptr 3 0), (7, .ptr 7 0), (9, .val (Ty.sl T6)), (11, .val T6)], boxes := [(1000000, Ty.zC, []), (3, Ty.zB, []), (7, Ty.zC, [])] } [T6, (Ty.sl T6), T6, Ty.zC, Ty.zB, Ty.zC] (zl (zc4.r0 N) N))] Proofs.Tryz.func44 (hL := ⟨⟨_, _, rfl, by kernel_rfl⟩, trivial⟩)⟩
def zo9 (N : Nat) (a0 : zB) : Option (zT × Int) :=
 (zc4 N a0 300 (⟨(⟨(⟨#[]⟩ : ByteArray), []⟩ : Storage), 0, [], [], 0, 0, 0⟩ : zC)).bind fun r1 => cond (r1.1 != 0) (some ((⟨[], 0, 0, 0⟩ : zT), r1.1))
  (some ((⟨r1.2.Lines, r1.2.Status, r1.2.Exception, r1.2.Steps⟩ : zT), 0))
def zo9.k (N : Nat) : Kq := ⟨32, (cvv [Ty.zT, T6] [Ty.zB] (zo9 N)), go [zc4.k N] {} [] Proofs.Tryz.func32⟩
def zhp.b0 (N : Nat) (s0 : List ByteArray) (s1 : List ByteArray) (s5 : Int) : Option (Round Bool ((List ByteArray) × (List ByteArray) × Int)) :=
 cond (decide (s5 < (s0.length : Int))) ((idx s0 s5).bind fun x1001 => (idx s1 s5).bind fun x1002 => cond (!(x1001.toList == x1002.toList)) (some (.result false))
  (some (.again (s0, s1, (w6 (s5 + 1)))))) (some (.leave (s0, s1, s5)))
def zhp.r0 (N : Nat) (x : (List ByteArray) × (List ByteArray) × Int) := zhp.b0 N x.1 x.2.1 x.2.2
def zhp (N : Nat) (a0 : List ByteArray) (a1 : List ByteArray) : Option Bool :=
 cond ((a0.length : Int) != (a1.length : Int)) (some false) ((zj (zhp.r0 N) N (a0, a1, 0)).bind fun z2 => zb5 z2 (fun z => some z) (fun y1 => some true))
def zhp.k (N : Nat) : Kq := ⟨31, (cvv [Ty.bool] [(Ty.sl Ty.str), (Ty.sl Ty.str)] (zhp N)), go [] {} [(0, .rets { slots := [(0, .val (Ty.sl Ty.str)), (1, .val (Ty.sl Ty.str)), (5, .val T6)], boxes := [] } [(Ty.sl Ty.str), (Ty.sl Ty.str), T6] (zj (zhp.r0 N) N))] Proofs.Tryz.func31 (hL := ⟨⟨_, _, rfl, by kernel_rfl⟩, trivial⟩)⟩
def zl5 (N : Nat) (a0 : zT) (a1 : zT) : Option Bool :=
 (zhp N a0.Lines a1.Lines).bind fun r1 => (cond r1 (some (a0.Status == a1.Status)) (some false)).bind fun g2 => (cond g2 (some (a0.Exception == a1.Exception))
  (some false)).bind fun g3 => (cond g3 (some (a0.Steps == a1.Steps)) (some false)).bind fun g4 => some g4
def zl5.k (N : Nat) : Kq := ⟨33, (cvv [Ty.bool] [Ty.zT, Ty.zT] (zl5 N)), go [zhp.k N] {} [] Proofs.Tryz.func33⟩
def zoo (N : Nat)  : Option Bool :=
 (zr8).bind fun r1 => (zo9 N r1).bind fun r2 => (cond (r2.2 == 0)
  ((zl5 N r2.1 (⟨([(⟨#[56]⟩ : ByteArray)] : List ByteArray), 1, 0, 3⟩ : zT)).bind fun r3 => some r3) (some false)).bind fun g4 => some g4
def zoo.k (N : Nat) : Kq := ⟨11, (cvv [Ty.bool] [] (zoo N)), go [zo9.k N, zl5.k N, zr8.k] {lits := [4, 12]} [] Proofs.Tryz.func11⟩
def zb9.b0 (N : Nat) (s3 : Int) (b1 : zB) : Option (Round Bool (Int × zB)) :=
 cond (decide (s3 < (b1.zA.length : Int))) ((idx b1.zA s3).bind fun x1001 => (cond (decide ((x1001.Name.size : Int) > 100)) (some true)
  (some (decide ((x1001.Base.size : Int) > 100)))).bind fun g1002 => (cond g1002 (some true) (some (decide ((x1001.Value.S.size : Int) > 600)))).bind fun g1003 =>
  cond g1003 (some (.result false)) (some (.again ((w6 (s3 + 1)), b1)))) (some (.leave (s3, b1)))
def zb9.r0 (N : Nat) (x : Int × zB) := zb9.b0 N x.1 x.2
def zb9.b2 (N : Nat) (s5 : Int) (b1 : zB) : Option (Round Bool (Int × zB)) :=
 cond (decide (s5 < (b1.zG.length : Int))) ((idx b1.zG s5).bind fun x3001 => cond (decide ((x3001.Args.length : Int) > 6)) (some (.result false))
  (some (.again ((w6 (s5 + 1)), b1)))) (some (.leave (s5, b1)))
def zb9.r2 (N : Nat) (x : Int × zB) := zb9.b2 N x.1 x.2
def zb9 (N : Nat) (a0 : zB) : Option Bool :=
 (cond (decide ((a0.zA.length : Int) > 28)) (some true) (some (decide ((a0.zG.length : Int) > 44)))).bind fun g1 => (cond g1 (some true)
  (some (decide ((a0.zL.length : Int) > 9)))).bind fun g2 => cond g2 (some false) ((zj (zb9.r0 N) N (0, a0)).bind fun z4 => zb5 z4 (fun z => some z) (fun y3 =>
  (zj (zb9.r2 N) N (0, y3.2)).bind fun z6 => zb5 z6 (fun z => some z) (fun y5 => some true)))
def zb9.k (N : Nat) : Kq := ⟨12, (cvv [Ty.bool] [Ty.zB] (zb9 N)), go [] {} [(0, .rets { slots := [(1, .ptr 1 0), (3, .val T6)], boxes := [(1, Ty.zB, [])] } [T6, Ty.zB] (zj (zb9.r0 N) N)), (2, .rets { slots := [(1, .ptr 1 0), (5, .val T6)], boxes := [(1, Ty.zB, [])] } [T6, Ty.zB] (zj (zb9.r2 N) N))] Proofs.Tryz.func12 (hL := ⟨⟨_, _, rfl, by kernel_rfl⟩, ⟨_, _, rfl, by kernel_rfl⟩, trivial⟩)⟩
def zk (a0 : Int) (a1 : Int) (a2 : Int) : Option Bool :=
 (cond (decide (a1 ≤ a0)) (some (decide (a0 ≤ a2))) (some false)).bind fun g1 => some g1
def zk.k : Kq := ⟨16, (cvv [Ty.bool] [T6, T6, T6] zk), go [] {} [] Proofs.Tryz.func16⟩
def znp (a0 : Int) : Option Bool :=
 (cond (decide (65 ≤ a0)) (some (decide (a0 ≤ 90))) (some false)).bind fun g1 => some g1
def znp.k : Kq := ⟨190, (cvv [Ty.bool] [(Ty.int .u8)] znp), go [] {} [] Proofs.Tryz.func190⟩
def zns (a0 : Int) : Option Bool :=
 (cond (decide (48 ≤ a0)) (some (decide (a0 ≤ 57))) (some false)).bind fun g1 => some g1
def zns.k : Kq := ⟨191, (cvv [Ty.bool] [(Ty.int .u8)] zns), go [] {} [] Proofs.Tryz.func191⟩
def zdi.b0 (N : Nat) (s0 : ByteArray) (s3 : Int) : Option (Round Bool (ByteArray × Int)) :=
 cond (decide (s3 < (s0.size : Int))) ((zhl s0 s3).bind fun x1001 => (znp (x1001.toNat : Int)).bind fun r1002 => (cond r1002 (some true)
  (some ((x1001.toNat : Int) == 36))).bind fun g1003 => (cond g1003 (some true) (some ((x1001.toNat : Int) == 35))).bind fun g1004 => (cond g1004 (some true)
  (some ((x1001.toNat : Int) == 64))).bind fun g1005 => (cond (!g1005) ((cond (s3 == 0) (some true) ((zns (x1001.toNat : Int)).bind fun r1006 => (cond (!r1006)
  (some ((x1001.toNat : Int) != 95)) (some false)).bind fun g1007 => (cond g1007 (some ((x1001.toNat : Int) != 46)) (some false)).bind fun g1008 => some g1008)).bind fun g1009 =>
  some g1009) (some false)).bind fun g1010 => cond g1010 (some (.result false)) (some (.again (s0, (w6 (s3 + 1)))))) (some (.leave (s0, s3)))
def zdi.r0 (N : Nat) (x : ByteArray × Int) := zdi.b0 N x.1 x.2
def zdi (N : Nat) (a0 : ByteArray) : Option Bool :=
 (zk (a0.size : Int) 1 10).bind fun r1 => cond (!r1) (some false) ((zj (zdi.r0 N) N (a0, 0)).bind fun z3 => zb5 z3 (fun z => some z) (fun y2 => some true))
def zdi.k (N : Nat) : Kq := ⟨132, (cvv [Ty.bool] [Ty.str] (zdi N)), go [zk.k, znp.k, zns.k] {lits := [7]} [(0, .rets { slots := [(0, .val Ty.str), (3, .val T6)], boxes := [] } [Ty.str, T6] (zj (zdi.r0 N) N))] Proofs.Tryz.func132 (hL := ⟨⟨_, _, rfl, by kernel_rfl⟩, trivial⟩)⟩
def zdt.b0 (N : Nat) (s1 : ByteArray) (s5 : Int) (b2 : zB) : Option (Round Int (ByteArray × Int × zB)) :=
 cond (decide (s5 < (b2.zA.length : Int))) ((idx b2.zA s5).bind fun x1001 => cond (x1001.Name.toList == s1.toList) (some (.result s5))
  (some (.again (s1, (w6 (s5 + 1)), b2)))) (some (.leave (s1, s5, b2)))
def zdt.r0 (N : Nat) (x : ByteArray × Int × zB) := zdt.b0 N x.1 x.2.1 x.2.2
def zdt (N : Nat) (a0 : zB) (a1 : ByteArray) : Option Int :=
 (zj (zdt.r0 N) N (a1, 0, a0)).bind fun z2 => zb5 z2 (fun z => some z) (fun y1 => some (-1))
def zdt.k (N : Nat) : Kq := ⟨100, (cvv [T6] [Ty.zB, Ty.str] (zdt N)), go [] {} [(0, .rets { slots := [(1, .val Ty.str), (2, .ptr 2 0), (5, .val T6)], boxes := [(2, Ty.zB, [])] } [Ty.str, T6, Ty.zB] (zj (zdt.r0 N) N))] Proofs.Tryz.func100 (hL := ⟨⟨_, _, rfl, by kernel_rfl⟩, trivial⟩)⟩
def zju (a0 : zF) : Option Bool :=
 (cond (a0.Base.toList == (⟨#[]⟩ : ByteArray).toList) (some (a0.Offset == 0)) (some false)).bind fun g1 => (cond (a0.Kind == 0) (some (a0.Kind == 0))
  (some (a0.Kind == 4))).bind fun q2 => cond q2 ((cond (!g1) (some true) (some (a0.Target != 0))).bind fun g3 => some g3) ((cond (a0.Kind == 1) (some (a0.Kind == 1))
  (some (a0.Kind == 2))).bind fun q4 => cond q4 ((cond (!(zfd [(a0.Value.N == 0), (a0.Value.S == (⟨#[]⟩ : ByteArray))])) (some true) (some (a0.Target != 0))).bind fun g5 =>
  some g5) (cond (a0.Kind == 3) ((cond (!(zfd [(a0.zJ.Kind == 0), (a0.zJ.Length == 0), (a0.zJ.Scale == 0)])) (some true)
  (some (!(zfd [(a0.Value.N == 0), (a0.Value.S == (⟨#[]⟩ : ByteArray))])))).bind fun g6 => (cond g6 (some true) (some (!g1))).bind fun g7 => (cond g7 (some true)
  (some (a0.Target != 0))).bind fun g8 => some g8) ((cond (!(zfd [(a0.zJ.Kind == 0), (a0.zJ.Length == 0), (a0.zJ.Scale == 0)])) (some true)
  (some (!(zfd [(a0.Value.N == 0), (a0.Value.S == (⟨#[]⟩ : ByteArray))])))).bind fun g9 => (cond g9 (some true) (some (!g1))).bind fun g10 => some g10)))
def zju.k : Kq := ⟨133, (cvv [Ty.bool] [Ty.zF] zju), go [] {bj := [19, 29]} [] Proofs.Tryz.func133⟩
def zf1 (a0 : Int) : Option Bool :=
 (cond (a0 == 0) (some true) (some (a0 == 1))).bind fun g1 => (cond g1 (some true) (some (a0 == 2))).bind fun g2 => some g2
def zf1.k : Kq := ⟨118, (cvv [Ty.bool] [T6] zf1), go [] {} [] Proofs.Tryz.func118⟩
def zge (a0 : Int) : Option Bool :=
 (zf1 a0).bind fun r1 => (cond r1 (some true) (some (a0 == 4))).bind fun g2 => some g2
def zge.k : Kq := ⟨74, (cvv [Ty.bool] [T6] zge), go [zf1.k] {} [] Proofs.Tryz.func74⟩
def zcv (a0 : Int) : Option Bool :=
 (zk a0 1 3).bind fun r1 => some r1
def zcv.k : Kq := ⟨124, (cvv [Ty.bool] [T6] zcv), go [zk.k] {} [] Proofs.Tryz.func124⟩
def zba (a0 : Bool) : Option Int :=
 cond a0 (some 1) (some 0)
def zba.k : Kq := ⟨122, (cvv [T6] [Ty.bool] zba), go [] {} [] Proofs.Tryz.func122⟩
def zfx (a0 : DataType) : Option Int :=
 (zk a0.Kind 0 4).bind fun r1 => cond (!r1) (some 4) (cond (a0.Kind == 0) ((zk a0.Length 1 256).bind fun r2 => cond (!r2) (some 18)
  ((zcv a0.Kind).bind fun r3 => cond r3 ((zk a0.Scale 0 a0.Length).bind fun r4 => (zba (!r4)).bind fun r5 => some (w6 (3 * r5)))
  ((zk a0.Scale 0 0).bind fun r6 => (zba (!r6)).bind fun r7 => some (w6 (3 * r7))))) ((cond (a0.Kind == 1) (some (a0.Kind == 1))
  (some (a0.Kind == 2))).bind fun q8 => cond q8 ((zk a0.Length 1 15).bind fun r9 => cond (!r9) (some 18) ((zcv a0.Kind).bind fun r10 =>
  cond r10 ((zk a0.Scale 0 a0.Length).bind fun r11 => (zba (!r11)).bind fun r12 => some (w6 (3 * r12))) ((zk a0.Scale 0 0).bind fun r13 =>
  (zba (!r13)).bind fun r14 => some (w6 (3 * r14))))) (cond (a0.Kind == 3) ((cond (a0.Length == 4) (some true) (some (a0.Length == 9))).bind fun g15 =>
  cond (!g15) (some 18) ((zcv a0.Kind).bind fun r16 => cond r16 ((zk a0.Scale 0 a0.Length).bind fun r17 => (zba (!r17)).bind fun r18 =>
  some (w6 (3 * r18))) ((zk a0.Scale 0 0).bind fun r19 => (zba (!r19)).bind fun r20 => some (w6 (3 * r20))))) (cond (!(a0.Length == 0))
  (some 18) ((zcv a0.Kind).bind fun r21 => cond r21 ((zk a0.Scale 0 a0.Length).bind fun r22 => (zba (!r22)).bind fun r23 =>
  some (w6 (3 * r23))) ((zk a0.Scale 0 0).bind fun r24 => (zba (!r24)).bind fun r25 => some (w6 (3 * r25))))))))
def zfx.k : Kq := ⟨134, (cvv [T6] [Ty.DataType] zfx), go [zk.k, zba.k, zcv.k] {bj := [19]} [] Proofs.Tryz.func134⟩
def zds.b0 (N : Nat) (s0 : Int) (s3 : Int) (s4 : Int) : Option (Stp (Int × Int × Int)) :=
 cond (decide (s4 < s0)) (some (.again (s0, (w6 (s3 * 10)), (w6 (s4 + 1))))) (some (.leave (s0, s3, s4)))
def zds.r0 (N : Nat) (x : Int × Int × Int) := zds.b0 N x.1 x.2.1 x.2.2
def zds (N : Nat) (a0 : Int) : Option Int :=
 (zl (zds.r0 N) N (a0, 1, 0)).bind fun y1 => some y1.2.1
def zds.k (N : Nat) : Kq := ⟨170, (cvv [T6] [T6] (zds N)), go [] {} [(0, .plain { slots := [(0, .val T6), (3, .val T6), (4, .val T6)], boxes := [] } [T6, T6, T6] (zl (zds.r0 N) N))] Proofs.Tryz.func170 (hL := ⟨⟨_, _, rfl, by kernel_rfl⟩, trivial⟩)⟩
def zhf (N : Nat) (a0 : DataType) : Option Int :=
 (zds N a0.Length).bind fun r1 => some (w6 (r1 - 1))
def zhf.k (N : Nat) : Kq := ⟨180, (cvv [T6] [Ty.DataType] (zhf N)), go [zds.k N] {} [] Proofs.Tryz.func180⟩
def zh5 (N : Nat) (a0 : DataType) (a1 : Value) : Option Int :=
 (zfx a0).bind fun r1 => cond (r1 != 0) (some r1) (cond (a0.Kind == 4) (some 17) ((cond (a0.Kind == 0) (some (a1.N != 0)) (some false)).bind fun g2 =>
  (cond g2 (some true) ((cond (a0.Kind != 0) (some (!(a1.S.toList == (⟨#[]⟩ : ByteArray).toList))) (some false)).bind fun g3 => some g3)).bind fun g4 => cond g4 (some 5)
  (cond (a0.Kind == 0) ((zba ((a1.S.size : Int) != a0.Length)).bind fun r5 => some (w6 (18 * r5))) ((zhf N a0).bind fun r6 =>
  (zhf N a0).bind fun r7 => (zk a1.N (w6 (0 - r6)) r7).bind fun r8 => (zba (!r8)).bind fun r9 => some (w6 (19 * r9))))))
def zh5.k (N : Nat) : Kq := ⟨135, (cvv [T6] [Ty.DataType, Ty.Value] (zh5 N)), go [zk.k, zba.k, zfx.k, zhf.k N] {lits := [49]} [] Proofs.Tryz.func135⟩
def zdr (a0 : DataType) : Option Int :=
 cond (a0.Kind == 1) (some (w6 ((w6 (a0.Length.tdiv 2)) + 1))) (cond (a0.Kind == 3) ((zba (a0.Length == 9)).bind fun r1 =>
  some (w6 (2 + (w6 (2 * r1))))) (cond (a0.Kind == 4) (some 16) (some a0.Length)))
def zdr.k : Kq := ⟨77, (cvv [T6] [Ty.DataType] zdr), go [zba.k] {} [] Proofs.Tryz.func77⟩
def zhz (N : Nat) (a0 : zB) (a1 : Int) : Option Int :=
 (idx a0.zA a1).bind fun x1 => (zdi N x1.Name).bind fun r2 => cond (!r2) (some 7) ((zdt N a0 x1.Name).bind fun r3 => cond (decide (r3 < a1)) (some 13)
  ((zk x1.Kind 0 5).bind fun r4 => cond (!r4) (some 4) ((zju x1).bind fun r5 => cond r5 (some 5) ((zge x1.Kind).bind fun r6 =>
  cond r6 ((zfx x1.zJ).bind fun r7 => cond (r7 != 0) (some r7) (cond (x1.zJ.Kind == 4) (some 17) ((zdt N a0 x1.Base).bind fun r8 => (cond (x1.Kind == 0)
  (some (x1.Kind == 0)) (some (x1.Kind == 4))).bind fun q9 => cond q9 ((zh5 N x1.zJ x1.Value).bind fun r10 => some r10) ((cond (x1.Kind == 1) (some (x1.Kind == 1))
  (some (x1.Kind == 2))).bind fun q11 => cond q11 ((cond (r8 == (-1)) (some true) (some (decide (r8 ≥ a1)))).bind fun g12 => cond g12 (some 11) ((idx a0.zA r8).bind fun x13 =>
  (cond (x1.Kind == 1) (some (x13.Kind != 0)) (some false)).bind fun g14 => (cond g14 (some true) ((cond (x1.Kind == 2) (some (x13.Kind != 3)) (some false)).bind fun g15 =>
  some g15)).bind fun g16 => cond g16 (some 17) (cond (x1.Kind == 1) ((zdr x13.zJ).bind fun r17 => (zdr x1.zJ).bind fun r18 =>
  (zk x1.Offset 0 (w6 (r17 - r18))).bind fun r19 => cond (!r19) (some 3) (some 0)) ((zk x1.Offset 0 256).bind fun r20 => cond (!r20) (some 3)
  (some 0))))) (cond (x1.Kind == 5) ((zk x1.Target 0 (w6 ((a0.zG.length : Int) - 1))).bind fun r21 => cond (!r21) (some 3) (some 0)) (some 0))))))
  ((zdt N a0 x1.Base).bind fun r22 => (cond (x1.Kind == 0) (some (x1.Kind == 0)) (some (x1.Kind == 4))).bind fun q23 =>
  cond q23 ((zh5 N x1.zJ x1.Value).bind fun r24 => some r24) ((cond (x1.Kind == 1) (some (x1.Kind == 1)) (some (x1.Kind == 2))).bind fun q25 =>
  cond q25 ((cond (r22 == (-1)) (some true) (some (decide (r22 ≥ a1)))).bind fun g26 => cond g26 (some 11) ((idx a0.zA r22).bind fun x27 => (cond (x1.Kind == 1)
  (some (x27.Kind != 0)) (some false)).bind fun g28 => (cond g28 (some true) ((cond (x1.Kind == 2) (some (x27.Kind != 3)) (some false)).bind fun g29 => some g29)).bind fun g30 =>
  cond g30 (some 17) (cond (x1.Kind == 1) ((zdr x27.zJ).bind fun r31 => (zdr x1.zJ).bind fun r32 =>
  (zk x1.Offset 0 (w6 (r31 - r32))).bind fun r33 => cond (!r33) (some 3) (some 0)) ((zk x1.Offset 0 256).bind fun r34 => cond (!r34) (some 3)
  (some 0))))) (cond (x1.Kind == 5) ((zk x1.Target 0 (w6 ((a0.zG.length : Int) - 1))).bind fun r35 => cond (!r35) (some 3) (some 0)) (some 0))))))))
def zhz.k (N : Nat) : Kq := ⟨82, (cvv [T6] [Ty.zB, T6] (zhz N)), go [zk.k, zge.k, zdr.k, zdt.k N, zdi.k N, zju.k, zfx.k, zh5.k N] {bj := [54, 62]} [] Proofs.Tryz.func82⟩
def zx.b0 (N : Nat) (s4 : List Int) (s5 : Int) (s6 : Int) (b1 : zB) : Option (Stp ((List Int) × Int × Int × zB)) :=
 cond (decide (s6 < (b1.zA.length : Int))) (if 0 ≤ s6 then (if s6 < (s4.length : Int) then ((s4[s6.toNat]?).bind fun x1001 => (idx b1.zA s6).bind fun x1002 =>
  cond (x1002.Kind == 3) (if 0 ≤ s6 then (if s6 < ((s4.set s6.toNat (-1)).length : Int) then (((s4.set s6.toNat (-1))[s6.toNat]?).bind fun x1003 =>
  some (.again (((s4.set s6.toNat (-1)).set s6.toNat s5), (w6 (s5 + 16)), (w6 (s6 + 1)), b1))) else none) else none)
  (some (.again ((s4.set s6.toNat (-1)), s5, (w6 (s6 + 1)), b1)))) else none) else none) (some (.leave (s4, s5, s6, b1)))
def zx.r0 (N : Nat) (x : (List Int) × Int × Int × zB) := zx.b0 N x.1 x.2.1 x.2.2.1 x.2.2.2
def zx.b2 (N : Nat) (s4 : List Int) (s5 : Int) (s7 : Int) (b1 : zB) : Option (Stp ((List Int) × Int × Int × zB)) :=
 cond (decide (s7 < (b1.zA.length : Int))) ((idx b1.zA s7).bind fun x3001 => cond (x3001.Kind == 0)
  (if 0 ≤ s7 then (if s7 < (s4.length : Int) then ((s4[s7.toNat]?).bind fun x3002 => (zdr x3001.zJ).bind fun r3003 =>
  some (.again ((s4.set s7.toNat s5), (w6 (s5 + r3003)), (w6 (s7 + 1)), b1))) else none) else none)
  (some (.again (s4, s5, (w6 (s7 + 1)), b1)))) (some (.leave (s4, s5, s7, b1)))
def zx.r2 (N : Nat) (x : (List Int) × Int × Int × zB) := zx.b2 N x.1 x.2.1 x.2.2.1 x.2.2.2
def zx.b4 (N : Nat) (s4 : List Int) (s5 : Int) (s9 : Int) (b1 : zB) : Option (Stp ((List Int) × Int × Int × zB)) :=
 cond (decide (s9 < (b1.zA.length : Int))) ((idx b1.zA s9).bind fun x5001 => cond (x5001.Kind == 1) ((zdt N b1 x5001.Base).bind fun r5002 =>
  if 0 ≤ r5002 then (if r5002 < (s4.length : Int) then ((s4[r5002.toNat]?).bind fun x5003 => if 0 ≤ s9 then (if s9 < (s4.length : Int) then ((s4[s9.toNat]?).bind fun x5004 =>
  some (.again ((s4.set s9.toNat (w6 (x5003 + x5001.Offset))), s5, (w6 (s9 + 1)), b1))) else none) else none) else none) else none)
  (some (.again (s4, s5, (w6 (s9 + 1)), b1)))) (some (.leave (s4, s5, s9, b1)))
def zx.r4 (N : Nat) (x : (List Int) × Int × Int × zB) := zx.b4 N x.1 x.2.1 x.2.2.1 x.2.2.2
def zx (N : Nat) (a0 : zB) : Option ((List Int) × Int) :=
 if 0 ≤ (a0.zA.length : Int) then (if (a0.zA.length : Int) ≤ (a0.zA.length : Int) then (cond (Nat.ble ((a0.zA.length : Int).toNat * 8) zbr)
  ((zl (zx.r0 N) N ((List.replicate (a0.zA.length : Int).toNat (0 : Int)), 0, 0, a0)).bind fun y1 =>
  (zl (zx.r2 N) N (y1.1, y1.2.1, 0, y1.2.2.2)).bind fun y2 => (zl (zx.r4 N) N (y2.1, y2.2.1, 0, y2.2.2.2)).bind fun y3 =>
  some (y3.1, (w6 ((w6 ((w6 (y3.2.1 + 16)) - 1)).tdiv 16)))) none) else none) else none
def zx.k (N : Nat) : Kq := ⟨60, (cvv [(Ty.sl T6), T6] [Ty.zB] (zx N)), go [zdr.k, zdt.k N] {} [(0, .plain { slots := [(1, .ptr 1 0), (4, .own 5000004 T6), (5, .val T6), (6, .val T6)], boxes := [(1, Ty.zB, [])] } [(Ty.sl T6), T6, T6, Ty.zB] (zl (zx.r0 N) N)), (2, .plain { slots := [(1, .ptr 1 0), (4, .own 5000004 T6), (5, .val T6), (7, .val T6)], boxes := [(1, Ty.zB, [])] } [(Ty.sl T6), T6, T6, Ty.zB] (zl (zx.r2 N) N)), (4, .plain { slots := [(1, .ptr 1 0), (4, .own 5000004 T6), (5, .val T6), (9, .val T6)], boxes := [(1, Ty.zB, [])] } [(Ty.sl T6), T6, T6, Ty.zB] (zl (zx.r4 N) N))] Proofs.Tryz.func60 (hL := ⟨⟨_, _, rfl, by kernel_rfl⟩, ⟨_, _, rfl, by kernel_rfl⟩, ⟨_, _, rfl, by kernel_rfl⟩, trivial⟩)⟩
def zkt (a0 : Int) : Option ((List Int)) :=
 cond (a0 == 0) (some ([0, 4] : List Int)) (cond (a0 == 1) (some ([1, 3] : List Int)) ((cond (a0 == 2) (some (a0 == 2)) (cond (a0 == 3) (some (a0 == 3)) (cond (a0 == 4)
  (some (a0 == 4)) (cond (a0 == 5) (some (a0 == 5)) (some (a0 == 6)))))).bind fun q1 => cond q1 (some ([1, 3, 3] : List Int)) ((cond (a0 == 7) (some (a0 == 7))
  (some (a0 == 8))).bind fun q2 => cond q2 (some ([2, 4, 6] : List Int)) ((cond (a0 == 9) (some (a0 == 9)) (some (a0 == 13))).bind fun q3 => cond q3 (some ([6] : List Int))
  (cond (a0 == 10) (some ([5, 0] : List Int)) (cond (a0 == 11) (some ([5, 5] : List Int)) (cond (a0 == 12) (some ([5, 3] : List Int)) (cond (a0 == 15) (some ([3] : List Int))
  (cond (a0 == 16) (some ([1] : List Int)) (cond (a0 == 17) (some ([2] : List Int)) (some [])))))))))))
def zkt.k : Kq := ⟨136, (cvv [(Ty.sl T6)] [T6] zkt), go [] {bj := [10, 17, 21]} [] Proofs.Tryz.func136⟩
def zgb (a0 : zF) : Option Bool :=
 (zcv a0.zJ.Kind).bind fun r1 => some r1
def zgb.k : Kq := ⟨137, (cvv [Ty.bool] [Ty.zF] zgb), go [zcv.k] {} [] Proofs.Tryz.func137⟩
def za2.b0 (N : Nat) (s5 : List Int) (s6 : Int) (b2 : zB) (b3 : zI) : Option (Round Int ((List Int) × Int × zB × zI)) :=
 cond (decide (s6 < (s5.length : Int))) ((idx b3.Args s6).bind fun x1001 => (zk x1001 0 (w6 ((b2.zA.length : Int) - 1))).bind fun r1002 =>
  cond (!r1002) (some (.result 3)) ((idx b3.Args s6).bind fun x1003 => (idx b2.zA x1003).bind fun x1004 => (idx s5 s6).bind fun x1005 => cond (x1005 == 0)
  ((zf1 x1004.Kind).bind fun r1006 => cond (!r1006) (some (.result 17)) (some (.again (s5, (w6 (s6 + 1)), b2, b3)))) (cond (x1005 == 1)
  ((zf1 x1004.Kind).bind fun r1007 => (cond r1007 ((zgb x1004).bind fun r1008 => some r1008) (some false)).bind fun g1009 => cond (!g1009) (some (.result 17))
  (some (.again (s5, (w6 (s6 + 1)), b2, b3)))) (cond (x1005 == 2) ((zge x1004.Kind).bind fun r1010 => cond (!r1010) (some (.result 17))
  (some (.again (s5, (w6 (s6 + 1)), b2, b3)))) (cond (x1005 == 3) ((zge x1004.Kind).bind fun r1011 => (cond r1011 ((zgb x1004).bind fun r1012 =>
  some r1012) (some false)).bind fun g1013 => cond (!g1013) (some (.result 17)) (some (.again (s5, (w6 (s6 + 1)), b2, b3)))) (cond (x1005 == 4)
  ((zge x1004.Kind).bind fun r1014 => (cond r1014 ((zgb x1004).bind fun r1015 => (idx b3.Args (w6 (s6 - 1))).bind fun x1016 =>
  (idx b2.zA x1016).bind fun x1017 => (zgb x1017).bind fun r1018 => some (r1015 == r1018)) (some false)).bind fun g1019 => cond (!g1019) (some (.result 17))
  (some (.again (s5, (w6 (s6 + 1)), b2, b3)))) (cond (x1005 == 5) (cond (!(x1004.Kind == 3)) (some (.result 17))
  (some (.again (s5, (w6 (s6 + 1)), b2, b3)))) (cond (x1005 == 6) (cond (!(x1004.Kind == 5)) (some (.result 17))
  (some (.again (s5, (w6 (s6 + 1)), b2, b3)))) (some (.result 17)))))))))) (some (.leave (s5, s6, b2, b3)))
def za2.r0 (N : Nat) (x : (List Int) × Int × zB × zI) := za2.b0 N x.1 x.2.1 x.2.2.1 x.2.2.2
def za2 (N : Nat) (a0 : zB) (a1 : zI) : Option Int :=
 (zk a1.Op 0 18).bind fun r1 => cond (!r1) (some 4) ((zkt a1.Op).bind fun r2 => cond ((a1.Args.length : Int) != (r2.length : Int)) (some 37)
  ((zj (za2.r0 N) N (r2, 0, a0, a1)).bind fun z4 => zb5 z4 (fun z => some z) (fun y3 => some 0)))
def za2.k (N : Nat) : Kq := ⟨83, (cvv [T6] [Ty.zB, Ty.zI] (za2 N)), go [zk.k, zge.k, zf1.k, zkt.k, zgb.k] {} [(0, .rets { slots := [(2, .ptr 2 0), (3, .ptr 3 0), (5, .val (Ty.sl T6)), (6, .val T6)], boxes := [(2, Ty.zB, []), (3, Ty.zI, [])] } [(Ty.sl T6), T6, Ty.zB, Ty.zI] (zj (za2.r0 N) N))] Proofs.Tryz.func83 (hL := ⟨⟨_, _, rfl, by kernel_rfl⟩, trivial⟩)⟩
def zac.b0 (N : Nat) (s4 : Int) (b1 : zB) (b2 : zM) : Option (Round (zM × Int) (Int × zB × zM)) :=
 cond (decide (s4 < (b1.zA.length : Int))) ((zhz N b1 s4).bind fun r1001 => cond (r1001 != 0) (some (.result ((⟨1, s4⟩ : zM), r1001)))
  (some (.again ((w6 (s4 + 1)), b1, b2)))) (some (.leave (s4, b1, b2)))
def zac.r0 (N : Nat) (x : Int × zB × zM) := zac.b0 N x.1 x.2.1 x.2.2
def zac.b2 (N : Nat) (s8 : Int) (b1 : zB) (b2 : zM) : Option (Round (zM × Int) (Int × zB × zM)) :=
 cond (decide (s8 < (b1.zG.length : Int))) ((idx b1.zG s8).bind fun x3001 => (za2 N b1 x3001).bind fun r3002 => cond (r3002 != 0)
  (some (.result ((⟨2, s8⟩ : zM), r3002))) (some (.again ((w6 (s8 + 1)), b1, b2)))) (some (.leave (s8, b1, b2)))
def zac.r2 (N : Nat) (x : Int × zB × zM) := zac.b2 N x.1 x.2.1 x.2.2
def zac.b4 (N : Nat) (s10 : Int) (b1 : zB) (b2 : zM) : Option (Round (zM × Int) (Int × zB × zM)) :=
 cond (decide (s10 < (b1.zL.length : Int))) ((idx b1.zL s10).bind fun x5001 => (cond (decide (x5001.From < 0)) (some true)
  (some (decide (x5001.From ≥ x5001.To)))).bind fun g5002 => (cond g5002 (some true) (some (decide (x5001.To > (b1.zG.length : Int))))).bind fun g5003 =>
  (cond g5003 (some true) ((zk x5001.Exception 0 999).bind fun r5004 => some (!r5004))).bind fun g5005 => (cond g5005 (some true)
  ((zk x5001.Handler 0 (w6 ((b1.zG.length : Int) - 1))).bind fun r5006 => some (!r5006))).bind fun g5007 =>
  cond g5007 (some (.result ((⟨3, s10⟩ : zM), 3))) (some (.again ((w6 (s10 + 1)), b1, b2)))) (some (.leave (s10, b1, b2)))
def zac.r4 (N : Nat) (x : Int × zB × zM) := zac.b4 N x.1 x.2.1 x.2.2
def zac (N : Nat) (a0 : zB) : Option (zM × Int) :=
 (cond (decide ((a0.zA.length : Int) > 24)) (some true) (some (decide ((a0.zG.length : Int) > 40)))).bind fun g1 => (cond g1 (some true)
  (some (decide ((a0.zL.length : Int) > 6)))).bind fun g2 => cond g2 (some ((⟨0, 0⟩ : zM), 2)) (cond ((a0.zG.length : Int) == 0) (some ((⟨0, 0⟩ : zM), 1))
  ((zj (zac.r0 N) N (0, a0, (⟨0, 0⟩ : zM))).bind fun z4 => zb5 z4 (fun z => some z) (fun y3 => (zx N y3.2.1).bind fun r5 => cond (decide (r5.2 > 24))
  (some ((⟨0, 0⟩ : zM), 30)) ((zj (zac.r2 N) N (0, y3.2.1, y3.2.2)).bind fun z7 => zb5 z7 (fun z => some z) (fun y6 =>
  (zj (zac.r4 N) N (0, y6.2.1, y6.2.2)).bind fun z9 => zb5 z9 (fun z => some z) (fun y8 => some ((⟨0, 0⟩ : zM), 0)))))))
def zac.k (N : Nat) : Kq := ⟨47, (cvv [Ty.zM, T6] [Ty.zB] (zac N)), go [zk.k, zx.k N, zhz.k N, za2.k N] {} [(0, .rets { slots := [(1, .ptr 1 0), (2, .ptr 2 0), (4, .val T6)], boxes := [(1, Ty.zB, []), (2, Ty.zM, [])] } [T6, Ty.zB, Ty.zM] (zj (zac.r0 N) N)), (2, .rets { slots := [(1, .ptr 1 0), (2, .ptr 2 0), (8, .val T6)], boxes := [(1, Ty.zB, []), (2, Ty.zM, [])] } [T6, Ty.zB, Ty.zM] (zj (zac.r2 N) N)), (4, .rets { slots := [(1, .ptr 1 0), (2, .ptr 2 0), (10, .val T6)], boxes := [(1, Ty.zB, []), (2, Ty.zM, [])] } [T6, Ty.zB, Ty.zM] (zj (zac.r4 N) N))] Proofs.Tryz.func47 (hL := ⟨⟨_, _, rfl, by kernel_rfl⟩, ⟨_, _, rfl, by kernel_rfl⟩, ⟨_, _, rfl, by kernel_rfl⟩, trivial⟩)⟩
def zpr (N : Nat) (a0 : zB) : Option Int :=
 (zac N a0).bind fun r1 => some r1.2
def zpr.k (N : Nat) : Kq := ⟨15, (cvv [T6] [Ty.zB] (zpr N)), go [zac.k N] {} [] Proofs.Tryz.func15⟩
def zji (a0 : List Int) : Option ((List Int)) :=
 cond (Nat.ble (a0.length * 8) zbr) (some a0) none
def zji.k : Kq := ⟨46, (ctv [.val (Ty.sl T6)] [(Ty.sl T6)] [] [0] [(Ty.sl T6)] zji), go [] {} [] Proofs.Tryz.func46⟩
def zfb.b0 (N : Nat) (s4 : Int) (b1 : zB) (b2 : zB) (b3 : zB) : Option (Stp (Int × zB × zB × zB)) :=
 cond (decide (s4 < (b1.zG.length : Int))) ((idx b1.zG s4).bind fun x1001 => (idx b1.zG s4).bind fun x1002 =>
  (zji x1002.Args).bind fun r1003 => cond (Nat.ble ((b3.zG.length + ([(⟨x1001.Op, r1003⟩ : zI)] : List zI).length) * 32) zbr)
  (some (.again ((w6 (s4 + 1)), b1, b2, (⟨b3.zA, (b3.zG ++ ([(⟨x1001.Op, r1003⟩ : zI)] : List zI)), b3.zL⟩ : zB)))) none)
  (some (.leave (s4, b1, b2, b3)))
def zfb.r0 (N : Nat) (x : Int × zB × zB × zB) := zfb.b0 N x.1 x.2.1 x.2.2.1 x.2.2.2
def zfb (N : Nat) (a0 : zB) : Option zB :=
 cond (Nat.ble (a0.zA.length * 104) zbr) (cond (Nat.ble (a0.zL.length * 32) zbr)
  ((zl (zfb.r0 N) N (0, a0, (⟨[], [], []⟩ : zB), (⟨a0.zA, [], a0.zL⟩ : zB))).bind fun y1 => some y1.2.2.2) none) none
def zfb.k (N : Nat) : Kq := ⟨14, (cvv [Ty.zB] [Ty.zB] (zfb N)), go [zji.k] {lits := [33, 35]} [(0, .plain { slots := [(1, .ptr 1 0), (2, .ptr 2 0), (3, .ptr 3 0), (4, .val T6)], boxes := [(1, Ty.zB, []), (2, Ty.zB, [0, 1, 2]), (3, Ty.zB, [0, 1, 2])] } [T6, Ty.zB, Ty.zB, Ty.zB] (zl (zfb.r0 N) N))] Proofs.Tryz.func14 (hL := ⟨⟨_, _, rfl, by kernel_rfl⟩, trivial⟩)⟩
def zf3 (N : Nat) (a0 : zB) : Option Int :=
 (ze N a0).bind fun r1 => some r1.2
def zf3.k (N : Nat) : Kq := ⟨41, (cvv [T6] [Ty.zB] (zf3 N)), go [ze.k N] {} [] Proofs.Tryz.func41⟩
def zlp (a0 : Bool) (a1 : Int) : Option Int :=
 cond a0 (some a1) (some 0)
def zlp.k : Kq := ⟨42, (cvv [T6] [Ty.bool, T6] zlp), go [] {} [] Proofs.Tryz.func42⟩
def zbw.b0 (N : Nat) (s5 : List Int) (s6 : Int) (s7 : Int) : Option (Round Int ((List Int) × Int × Int)) :=
 cond (decide (s7 < s6)) ((idx s5 s7).bind fun x1001 => cond (x1001 != 0) (some (.result x1001)) (some (.again (s5, s6, (w6 (s7 + 1)))))) (some (.leave (s5, s6, s7)))
def zbw.r0 (N : Nat) (x : (List Int) × Int × Int) := zbw.b0 N x.1 x.2.1 x.2.2
def zbw (N : Nat) (a0 : List Int) : Option Int :=
 (zj (zbw.r0 N) N (a0, (a0.length : Int), 0)).bind fun z2 => zb5 z2 (fun z => some z) (fun y1 => some 0)
def zbw.k (N : Nat) : Kq := ⟨40, (cvv [T6] [(Ty.sl T6)] (zbw N)), go [] {} [(0, .rets { slots := [(5, .val (Ty.sl T6)), (6, .val T6), (7, .val T6)], boxes := [] } [(Ty.sl T6), T6, T6] (zj (zbw.r0 N) N))] Proofs.Tryz.func40 (hL := ⟨⟨_, _, rfl, by kernel_rfl⟩, trivial⟩)⟩
def zed (a0 : zC) (a1 : List zC) : Option ((List zC)) :=
 cond (Nat.ble ((a1.length + ([a0] : List zC).length) * 120) zbr) (some (a1 ++ ([a0] : List zC))) none
def zed.k : Kq := ⟨45, (ctv [.val Ty.zC, .ptr (Ty.sl Ty.zC) true [0]] [] [(Ty.sl Ty.zC)] [] [Ty.zC, (Ty.sl Ty.zC)] zed), go [] {lits := [5], pk := [1000000]} [] Proofs.Tryz.func45⟩
def za8.b0 (N : Nat) (s1 : Int) (s9 : List Int) (s11 : Int) (b1000000 : List zC) (b3 : zB) (b7 : zC) : Option (Stp (Int × (List Int) × Int × (List zC) × zB × zC)) :=
 (cond (decide (s11 < s1)) (some (b7.Status == 0)) (some false)).bind fun g1001 => cond g1001 ((zg4 N b3 b7 s9).bind fun r1002 =>
  (zed r1002 b1000000).bind fun r1003 => some (.again (s1, s9, (w6 (s11 + 1)), r1003, b3, r1002))) (some (.leave (s1, s9, s11, b1000000, b3, b7)))
def za8.r0 (N : Nat) (x : Int × (List Int) × Int × (List zC) × zB × zC) := za8.b0 N x.1 x.2.1 x.2.2.1 x.2.2.2.1 x.2.2.2.2.1 x.2.2.2.2.2
def za8 (N : Nat) (a0 : zB) (a1 : Int) (a2 : List zC) : Option (Int × (List zC)) :=
 (zgc N a0).bind fun r1 => cond (r1.2 != 0) (some (r1.2, a2)) ((zgu N a0).bind fun r2 => cond (r2.2.2 != 0) (some (r2.2.2, a2))
  ((zed r1.1 a2).bind fun r3 => (zl (za8.r0 N) N (a1, r2.1, 0, r3, a0, r1.1)).bind fun y4 => some (0, y4.2.2.2.1)))
def za8.k (N : Nat) : Kq := ⟨44, (ctv [.val Ty.zB, .val T6, .clo 45 1, .ptr (Ty.sl Ty.zC) true [0]] [T6] [(Ty.sl Ty.zC)] [] [Ty.zB, T6, (Ty.sl Ty.zC)] (za8 N)), go [zgc.k N, zed.k, zgu.k N, zg4.k N] {pk := [1000000]} [(0, .plain { slots := [(1, .val T6), (2, .fn 45 [1000000]), (3, .ptr 3 0), (7, .ptr 7 0), (9, .val (Ty.sl T6)), (11, .val T6)], boxes := [(1000000, (Ty.sl Ty.zC), [0]), (3, Ty.zB, []), (7, Ty.zC, [])] } [T6, (Ty.sl T6), T6, (Ty.sl Ty.zC), Ty.zB, Ty.zC] (zl (za8.r0 N) N))] Proofs.Tryz.func44 (hL := ⟨⟨_, _, rfl, by kernel_rfl⟩, trivial⟩)⟩
def zg8 (N : Nat) (a0 : zB) (a1 : Int) : Option ((List zC) × Int) :=
 (zf3 N a0).bind fun r1 => (zeu a1 0 300).bind fun r2 => (zlp (!r2) 3).bind fun r3 => (zbw N ([r1, r3] : List Int)).bind fun r4 =>
  cond (r4 != 0) (some ([], r4)) ((za8 N a0 a1 []).bind fun r5 => some (r5.2, r5.1))
def zg8.k (N : Nat) : Kq := ⟨13, (cvv [(Ty.sl Ty.zC), T6] [Ty.zB, T6] (zg8 N)), go [zbw.k N, zf3.k N, zlp.k, zeu.k, za8.k N] {lits := [10, 14, 15]} [] Proofs.Tryz.func13⟩
def zfe.b0 (N : Nat) (s3 : Int) (b1 : zC) : Option (Round Bool (Int × zC)) :=
 (cond (decide (s3 < (b1.Lines.length : Int))) (some (decide (s3 < 44))) (some false)).bind fun g1001 => cond g1001 ((idx b1.Lines s3).bind fun x1002 =>
  cond (decide ((x1002.size : Int) > 300)) (some (.result false)) (some (.again ((w6 (s3 + 1)), b1)))) (some (.leave (s3, b1)))
def zfe.r0 (N : Nat) (x : Int × zC) := zfe.b0 N x.1 x.2
def zfe (N : Nat) (a0 : zC) : Option Bool :=
 (zj (zfe.r0 N) N (0, a0)).bind fun z2 => zb5 z2 (fun z => some z) (fun y1 => (cond (decide ((y1.2.Storage.Bytes.size : Int) ≤ 480))
  (some (decide ((y1.2.Storage.Tags.length : Int) ≤ 30))) (some false)).bind fun g3 => (cond g3 (some (decide ((y1.2.Stack.length : Int) ≤ 9))) (some false)).bind fun g4 =>
  (cond g4 (some (decide ((y1.2.Lines.length : Int) < 44))) (some false)).bind fun g5 => some g5)
def zfe.k (N : Nat) : Kq := ⟨19, (cvv [Ty.bool] [Ty.zC] (zfe N)), go [] {} [(0, .rets { slots := [(1, .ptr 1 0), (3, .val T6)], boxes := [(1, Ty.zC, [])] } [T6, Ty.zC] (zj (zfe.r0 N) N))] Proofs.Tryz.func19 (hL := ⟨⟨_, _, rfl, by kernel_rfl⟩, trivial⟩)⟩
def zf.b0 (N : Nat) (s3 : Int) (b1 : zB) : Option (Round Bool (Int × zB)) :=
 cond (decide (s3 < (b1.zG.length : Int))) ((idx b1.zG s3).bind fun x1001 => cond (x1001.Op == 10) (some (.result true))
  (some (.again ((w6 (s3 + 1)), b1)))) (some (.leave (s3, b1)))
def zf.r0 (N : Nat) (x : Int × zB) := zf.b0 N x.1 x.2
def zf.b4 (N : Nat) (s4 : List zC) (s6 : Int) (s7 : Int) : Option (Round Bool ((List zC) × Int × Int)) :=
 (idx s4 s6).bind fun x5001 => cond (decide (s7 < (x5001.Storage.Tags.length : Int))) ((idx s4 s6).bind fun x5002 => (idx x5002.Storage.Tags s7).bind fun x5003 =>
  cond x5003 (some (.result false)) (some (.again (s4, s6, (w6 (s7 + 1)))))) (some (.leave (s4, s6, s7)))
def zf.r4 (N : Nat) (x : (List zC) × Int × Int) := zf.b4 N x.1 x.2.1 x.2.2
def zf.b2 (N : Nat) (s4 : List zC) (s6 : Int) : Option (Round Bool ((List zC) × Int)) :=
 cond (decide (s6 < (s4.length : Int))) ((idx s4 s6).bind fun x3001 => (zfe N x3001).bind fun r3002 => cond (!r3002) (some (.result false))
  ((zj (zf.r4 N) N (s4, s6, 0)).bind fun z3004 => zb5 z3004 (fun z => some (.result z)) (fun y3003 =>
  some (.again (y3003.1, (w6 (y3003.2.1 + 1))))))) (some (.leave (s4, s6)))
def zf.r2 (N : Nat) (x : (List zC) × Int) := zf.b2 N x.1 x.2
def zf (N : Nat) (a0 : zB) : Option Bool :=
 (zoo N).bind fun r1 => cond (!r1) (some false) ((zb9 N a0).bind fun r2 => (cond (!r2) (some true) ((zpr N a0).bind fun r3 => some (r3 != 0))).bind fun g4 =>
  cond g4 (some true) ((zj (zf.r0 N) N (0, a0)).bind fun z6 => zb5 z6 (fun z => some z) (fun y5 => (zfb N y5.2).bind fun r7 =>
  (zg8 N r7 300).bind fun r8 => (cond (r8.2 != 0) (some true) (some ((r8.1.length : Int) == 0))).bind fun g9 => (cond g9 (some true)
  (some (decide ((r8.1.length : Int) > 301)))).bind fun g10 => cond g10 (some false) ((zj (zf.r2 N) N (r8.1, 0)).bind fun z12 => zb5 z12 (fun z => some z)
  (fun y11 => some true)))))
def zf.k (N : Nat) : Kq := ⟨4, (cvv [Ty.bool] [Ty.zB] (zf N)), go [zoo.k N, zb9.k N, zg8.k N, zfb.k N, zpr.k N, zfe.k N] {lits := [34]} [(0, .rets { slots := [(1, .ptr 1 0), (3, .val T6)], boxes := [(1, Ty.zB, [])] } [T6, Ty.zB] (zj (zf.r0 N) N)), (4, .rets { slots := [(4, .val (Ty.sl Ty.zC)), (6, .val T6), (7, .val T6)], boxes := [] } [(Ty.sl Ty.zC), T6, T6] (zj (zf.r4 N) N)), (2, .rets { slots := [(4, .val (Ty.sl Ty.zC)), (6, .val T6)], boxes := [] } [(Ty.sl Ty.zC), T6] (zj (zf.r2 N) N))] Proofs.Tryz.func4 (hL := ⟨⟨_, _, rfl, by kernel_rfl⟩, ⟨_, _, rfl, by kernel_rfl⟩, ⟨_, _, rfl, by kernel_rfl⟩, trivial⟩)⟩
end
end Go.Proofs.YtmifhmfokbigiaaGreatDoor.M
