/- What the program's functions compute, each tied to its code: part 1. -/
import Derived.Test.YtmifhmfokbigiaaGreatDoorF0
namespace Go.Proofs.YtmifhmfokbigiaaGreatDoor.M
open Go Go.Amx
set_option linter.unusedVariables false
set_option maxRecDepth 100000
noncomputable section
def zaq.b0 (N : Nat) (b1000000 : zD) : Option (Round zD zD) :=
 (zhc N b1000000.zB b1000000.zC.At b1000000.raised).bind fun r1001 => cond (decide (r1001 ≥ 0))
  (some (.result (⟨b1000000.zB, (⟨b1000000.zC.Storage, r1001, b1000000.zC.Stack, b1000000.zC.Lines, b1000000.zC.Status, b1000000.zC.Exception, b1000000.zC.Steps⟩ : zC), b1000000.layout, b1000000.raised⟩ : zD)))
  (cond ((b1000000.zC.Stack.length : Int) == 0) ((zak b1000000 2).bind fun r1002 => some (.result r1002))
  ((idx b1000000.zC.Stack (w6 ((b1000000.zC.Stack.length : Int) - 1))).bind fun x1003 =>
  if 0 ≤ (w6 ((b1000000.zC.Stack.length : Int) - 1)) ∧ (w6 ((b1000000.zC.Stack.length : Int) - 1)) ≤ (b1000000.zC.Stack.length : Int) then (if 0 ≤ (0 : Int) ∧ (0 : Int) ≤ (w6 ((b1000000.zC.Stack.length : Int) - 1)) then ((zjf 8 ((b1000000.zC.Stack.take (w6 ((b1000000.zC.Stack.length : Int) - 1)).toNat).drop (0 : Int).toNat)).bind fun r1004 =>
  some (.again (⟨b1000000.zB, (⟨b1000000.zC.Storage, x1003, r1004, b1000000.zC.Lines, b1000000.zC.Status, b1000000.zC.Exception, b1000000.zC.Steps⟩ : zC), b1000000.layout, b1000000.raised⟩ : zD))) else none) else none))
def zaq.r0 (N : Nat) (x : zD) := zaq.b0 N x
def zaq (N : Nat) (a0 : zD) : Option zD :=
 (zp (zaq.r0 N) N (⟨a0.zB, (⟨a0.zC.Storage, a0.zC.At, a0.zC.Stack, a0.zC.Lines, a0.zC.Status, a0.raised, a0.zC.Steps⟩ : zC), a0.layout, a0.raised⟩ : zD)).bind fun z2 =>
  zdt z2 (fun z => some z) (fun y1 => some y1)
def zaq.k (N : Nat) : Kq := ⟨106, (ctv [.ptr Ty.zD true []] [] [Ty.zD] [] [Ty.zD] (zaq N)), go [zhc.k N, zak.k, zu5.k] {pk := [1000000]} [(0, .rets { slots := [(0, .ptr 1000000 0)], boxes := [(1000000, Ty.zD, [])] } [Ty.zD] (zp (zaq.r0 N) N))] Proofs.Tryz.func106 (hL := ⟨⟨_, _, rfl, by kernel_rfl⟩, trivial⟩)⟩
def zgv (N : Nat) (a0 : zB) (a1 : zC) (a2 : List Int) : Option zC :=
 (idx a0.zG a1.At).bind fun x1 =>
  (zd N (⟨a0, (⟨a1.Storage, a1.At, a1.Stack, a1.Lines, a1.Status, a1.Exception, (w6 (a1.Steps + 1))⟩ : zC), a2, 0⟩ : zD) x1).bind fun r2 =>
  cond (r2.2.raised != 0) ((zaq N r2.2).bind fun r3 => (cond (r3.zC.Status == 0) (some (r3.zC.Steps == 300)) (some false)).bind fun g4 =>
  cond g4 ((zak r3 3).bind fun r5 => some r5.zC) (some r3.zC)) (cond (r2.2.zC.Status != 0) ((cond (r2.2.zC.Status == 0)
  (some (r2.2.zC.Steps == 300)) (some false)).bind fun g6 => cond g6 ((zak r2.2 3).bind fun r7 => some r7.zC) (some r2.2.zC))
  (cond (r2.1 == (a0.zG.length : Int)) ((zak r2.2 1).bind fun r8 => (cond (r8.zC.Status == 0) (some (r8.zC.Steps == 300))
  (some false)).bind fun g9 => cond g9 ((zak r8 3).bind fun r10 => some r10.zC) (some r8.zC)) ((cond (r2.2.zC.Status == 0)
  (some (r2.2.zC.Steps == 300)) (some false)).bind fun g11 =>
  cond g11 ((zak (⟨r2.2.zB, (⟨r2.2.zC.Storage, r2.1, r2.2.zC.Stack, r2.2.zC.Lines, r2.2.zC.Status, r2.2.zC.Exception, r2.2.zC.Steps⟩ : zC), r2.2.layout, r2.2.raised⟩ : zD) 3).bind fun r12 =>
  some r12.zC) (some (⟨r2.2.zC.Storage, r2.1, r2.2.zC.Stack, r2.2.zC.Lines, r2.2.zC.Status, r2.2.zC.Exception, r2.2.zC.Steps⟩ : zC)))))
def zgv.k (N : Nat) : Kq := ⟨65, (cvv [Ty.zC] [Ty.zB, Ty.zC, (Ty.sl T6)] (zgv N)), go [zd.k N, zaq.k N, zak.k] {} [] Proofs.Tryz.func65⟩
def zc5.b0 (N : Nat) (s1 : Int) (s9 : List Int) (s11 : Int) (b1000000 : zC) (b3 : zB) (b7 : zC) : Option (Stp (Int × (List Int) × Int × zC × zB × zC)) :=
 (cond (decide (s11 < s1)) (some (b7.Status == 0)) (some false)).bind fun g1001 => cond g1001 ((zgv N b3 b7 s9).bind fun r1002 =>
  (zi6 r1002 b1000000).bind fun r1003 => some (.again (s1, s9, (w6 (s11 + 1)), r1003, b3, r1002))) (some (.leave (s1, s9, s11, b1000000, b3, b7)))
def zc5.r0 (N : Nat) (x : Int × (List Int) × Int × zC × zB × zC) := zc5.b0 N x.1 x.2.1 x.2.2.1 x.2.2.2.1 x.2.2.2.2.1 x.2.2.2.2.2
def zc5 (N : Nat) (a0 : zB) (a1 : Int) (a2 : zC) : Option (Int × zC) :=
 (zf7 N a0).bind fun r1 => cond (r1.2 != 0) (some (r1.2, a2)) ((zgt N a0).bind fun r2 => cond (r2.2.2 != 0) (some (r2.2.2, a2))
  ((zi6 r1.1 a2).bind fun r3 => (zh (zc5.r0 N) N (a1, r2.1, 0, r3, a0, r1.1)).bind fun y4 => some (0, y4.2.2.2.1)))
def zc5.k (N : Nat) : Kq := ⟨44, (ctv [.val Ty.zB, .val T6, .clo 69 1, .ptr Ty.zC true []] [T6] [Ty.zC] [] [Ty.zB, T6, Ty.zC] (zc5 N)), go [zf7.k N, zgt.k N, zgv.k N, zi6.k] {pk := [1000000]} [(0, .plain { slots := [(1, .val T6), (2, .fn 69 [1000000]), (3, .ptr 3 0), (7, .ptr 7 0), (9, .val (Ty.sl T6)), (11, .val T6)], boxes := [(1000000, Ty.zC, []), (3, Ty.zB, []), (7, Ty.zC, [])] } [T6, (Ty.sl T6), T6, Ty.zC, Ty.zB, Ty.zC] (zh (zc5.r0 N) N))] Proofs.Tryz.func44 (hL := ⟨⟨_, _, rfl, by kernel_rfl⟩, trivial⟩)⟩
def zmy (N : Nat) (a0 : zB) : Option (zT × Int) :=
 (zc5 N a0 300 (⟨(⟨(⟨#[]⟩ : ByteArray), []⟩ : Storage), 0, [], [], 0, 0, 0⟩ : zC)).bind fun r1 => cond (r1.1 != 0) (some ((⟨[], 0, 0, 0⟩ : zT), r1.1))
  (some ((⟨r1.2.Lines, r1.2.Status, r1.2.Exception, r1.2.Steps⟩ : zT), 0))
def zmy.k (N : Nat) : Kq := ⟨32, (cvv [Ty.zT, T6] [Ty.zB] (zmy N)), go [zc5.k N] {} [] Proofs.Tryz.func32⟩
def zcg.b0 (N : Nat) (s0 : List ByteArray) (s1 : List ByteArray) (s5 : Int) : Option (Round Bool ((List ByteArray) × (List ByteArray) × Int)) :=
 cond (decide (s5 < (s0.length : Int))) ((idx s0 s5).bind fun x1001 => (idx s1 s5).bind fun x1002 => cond (!(x1001.toList == x1002.toList)) (some (.result false))
  (some (.again (s0, s1, (w6 (s5 + 1)))))) (some (.leave (s0, s1, s5)))
def zcg.r0 (N : Nat) (x : (List ByteArray) × (List ByteArray) × Int) := zcg.b0 N x.1 x.2.1 x.2.2
def zcg (N : Nat) (a0 : List ByteArray) (a1 : List ByteArray) : Option Bool :=
 cond ((a0.length : Int) != (a1.length : Int)) (some false) ((zp (zcg.r0 N) N (a0, a1, 0)).bind fun z2 => zdt z2 (fun z => some z) (fun y1 => some true))
def zcg.k (N : Nat) : Kq := ⟨31, (cvv [Ty.bool] [(Ty.sl Ty.str), (Ty.sl Ty.str)] (zcg N)), go [] {} [(0, .rets { slots := [(0, .val (Ty.sl Ty.str)), (1, .val (Ty.sl Ty.str)), (5, .val T6)], boxes := [] } [(Ty.sl Ty.str), (Ty.sl Ty.str), T6] (zp (zcg.r0 N) N))] Proofs.Tryz.func31 (hL := ⟨⟨_, _, rfl, by kernel_rfl⟩, trivial⟩)⟩
def zkr (N : Nat) (a0 : zT) (a1 : zT) : Option Bool :=
 (zcg N a0.Lines a1.Lines).bind fun r1 => (cond r1 (some (a0.Status == a1.Status)) (some false)).bind fun g2 => (cond g2 (some (a0.Exception == a1.Exception))
  (some false)).bind fun g3 => (cond g3 (some (a0.Steps == a1.Steps)) (some false)).bind fun g4 => some g4
def zkr.k (N : Nat) : Kq := ⟨33, (cvv [Ty.bool] [Ty.zT, Ty.zT] (zkr N)), go [zcg.k N] {} [] Proofs.Tryz.func33⟩
def zml (N : Nat)  : Option Bool :=
 (zpf).bind fun r1 => (zmy N r1).bind fun r2 => (cond (r2.2 == 0)
  ((zkr N r2.1 (⟨([(⟨#[56]⟩ : ByteArray)] : List ByteArray), 1, 0, 3⟩ : zT)).bind fun r3 => some r3) (some false)).bind fun g4 => some g4
def zml.k (N : Nat) : Kq := ⟨11, (cvv [Ty.bool] [] (zml N)), go [zmy.k N, zkr.k N, zpf.k] {lits := [4, 12]} [] Proofs.Tryz.func11⟩
def zb6.b0 (N : Nat) (s3 : Int) (b1 : zB) : Option (Round Bool (Int × zB)) :=
 cond (decide (s3 < (b1.zA.length : Int))) ((idx b1.zA s3).bind fun x1001 => (cond (decide ((x1001.Name.size : Int) > 100)) (some true)
  (some (decide ((x1001.Base.size : Int) > 100)))).bind fun g1002 => (cond g1002 (some true) (some (decide ((x1001.Value.S.size : Int) > 600)))).bind fun g1003 =>
  cond g1003 (some (.result false)) (some (.again ((w6 (s3 + 1)), b1)))) (some (.leave (s3, b1)))
def zb6.r0 (N : Nat) (x : Int × zB) := zb6.b0 N x.1 x.2
def zb6.b2 (N : Nat) (s5 : Int) (b1 : zB) : Option (Round Bool (Int × zB)) :=
 cond (decide (s5 < (b1.zG.length : Int))) ((idx b1.zG s5).bind fun x3001 => cond (decide ((x3001.Args.length : Int) > 6)) (some (.result false))
  (some (.again ((w6 (s5 + 1)), b1)))) (some (.leave (s5, b1)))
def zb6.r2 (N : Nat) (x : Int × zB) := zb6.b2 N x.1 x.2
def zb6 (N : Nat) (a0 : zB) : Option Bool :=
 (cond (decide ((a0.zA.length : Int) > 28)) (some true) (some (decide ((a0.zG.length : Int) > 44)))).bind fun g1 => (cond g1 (some true)
  (some (decide ((a0.zL.length : Int) > 9)))).bind fun g2 => cond g2 (some false) ((zp (zb6.r0 N) N (0, a0)).bind fun z4 => zdt z4 (fun z => some z) (fun y3 =>
  (zp (zb6.r2 N) N (0, y3.2)).bind fun z6 => zdt z6 (fun z => some z) (fun y5 => some true)))
def zb6.k (N : Nat) : Kq := ⟨12, (cvv [Ty.bool] [Ty.zB] (zb6 N)), go [] {} [(0, .rets { slots := [(1, .ptr 1 0), (3, .val T6)], boxes := [(1, Ty.zB, [])] } [T6, Ty.zB] (zp (zb6.r0 N) N)), (2, .rets { slots := [(1, .ptr 1 0), (5, .val T6)], boxes := [(1, Ty.zB, [])] } [T6, Ty.zB] (zp (zb6.r2 N) N))] Proofs.Tryz.func12 (hL := ⟨⟨_, _, rfl, by kernel_rfl⟩, ⟨_, _, rfl, by kernel_rfl⟩, trivial⟩)⟩
def zhh (a0 : List Int) : Option ((List Int)) :=
 cond (Nat.ble (a0.length * 8) za3) (some a0) none
def zhh.k : Kq := ⟨46, (ctv [.val (Ty.sl T6)] [(Ty.sl T6)] [] [0] [(Ty.sl T6)] zhh), go [] {} [] Proofs.Tryz.func46⟩
def ze7.b0 (N : Nat) (s4 : Int) (b1 : zB) (b2 : zB) (b3 : zB) : Option (Stp (Int × zB × zB × zB)) :=
 cond (decide (s4 < (b1.zG.length : Int))) ((idx b1.zG s4).bind fun x1001 => (idx b1.zG s4).bind fun x1002 =>
  (zhh x1002.Args).bind fun r1003 => cond (Nat.ble ((b3.zG.length + ([(⟨x1001.Op, r1003⟩ : zI)] : List zI).length) * 32) za3)
  (some (.again ((w6 (s4 + 1)), b1, b2, (⟨b3.zA, (b3.zG ++ ([(⟨x1001.Op, r1003⟩ : zI)] : List zI)), b3.zL⟩ : zB)))) none)
  (some (.leave (s4, b1, b2, b3)))
def ze7.r0 (N : Nat) (x : Int × zB × zB × zB) := ze7.b0 N x.1 x.2.1 x.2.2.1 x.2.2.2
def ze7 (N : Nat) (a0 : zB) : Option zB :=
 cond (Nat.ble (a0.zA.length * 104) za3) (cond (Nat.ble (a0.zL.length * 32) za3)
  ((zh (ze7.r0 N) N (0, a0, (⟨[], [], []⟩ : zB), (⟨a0.zA, [], a0.zL⟩ : zB))).bind fun y1 => some y1.2.2.2) none) none
def ze7.k (N : Nat) : Kq := ⟨14, (cvv [Ty.zB] [Ty.zB] (ze7 N)), go [zhh.k] {lits := [33, 35]} [(0, .plain { slots := [(1, .ptr 1 0), (2, .ptr 2 0), (3, .ptr 3 0), (4, .val T6)], boxes := [(1, Ty.zB, []), (2, Ty.zB, [0, 1, 2]), (3, Ty.zB, [0, 1, 2])] } [T6, Ty.zB, Ty.zB, Ty.zB] (zh (ze7.r0 N) N))] Proofs.Tryz.func14 (hL := ⟨⟨_, _, rfl, by kernel_rfl⟩, trivial⟩)⟩
def zfw (N : Nat) (a0 : zB) : Option Int :=
 (ze N a0).bind fun r1 => some r1.2
def zfw.k (N : Nat) : Kq := ⟨41, (cvv [T6] [Ty.zB] (zfw N)), go [ze.k N] {} [] Proofs.Tryz.func41⟩
def zkd (a0 : Bool) (a1 : Int) : Option Int :=
 cond a0 (some a1) (some 0)
def zkd.k : Kq := ⟨42, (cvv [T6] [Ty.bool, T6] zkd), go [] {} [] Proofs.Tryz.func42⟩
def zbj.b0 (N : Nat) (s5 : List Int) (s6 : Int) (s7 : Int) : Option (Round Int ((List Int) × Int × Int)) :=
 cond (decide (s7 < s6)) ((idx s5 s7).bind fun x1001 => cond (x1001 != 0) (some (.result x1001)) (some (.again (s5, s6, (w6 (s7 + 1)))))) (some (.leave (s5, s6, s7)))
def zbj.r0 (N : Nat) (x : (List Int) × Int × Int) := zbj.b0 N x.1 x.2.1 x.2.2
def zbj (N : Nat) (a0 : List Int) : Option Int :=
 (zp (zbj.r0 N) N (a0, (a0.length : Int), 0)).bind fun z2 => zdt z2 (fun z => some z) (fun y1 => some 0)
def zbj.k (N : Nat) : Kq := ⟨40, (cvv [T6] [(Ty.sl T6)] (zbj N)), go [] {} [(0, .rets { slots := [(5, .val (Ty.sl T6)), (6, .val T6), (7, .val T6)], boxes := [] } [(Ty.sl T6), T6, T6] (zp (zbj.r0 N) N))] Proofs.Tryz.func40 (hL := ⟨⟨_, _, rfl, by kernel_rfl⟩, trivial⟩)⟩
def zej (a0 : zC) (a1 : List zC) : Option ((List zC)) :=
 cond (Nat.ble ((a1.length + ([a0] : List zC).length) * 120) za3) (some (a1 ++ ([a0] : List zC))) none
def zej.k : Kq := ⟨45, (ctv [.val Ty.zC, .ptr (Ty.sl Ty.zC) true [0]] [] [(Ty.sl Ty.zC)] [] [Ty.zC, (Ty.sl Ty.zC)] zej), go [] {lits := [5], pk := [1000000]} [] Proofs.Tryz.func45⟩
def za7.b0 (N : Nat) (s1 : Int) (s9 : List Int) (s11 : Int) (b1000000 : List zC) (b3 : zB) (b7 : zC) : Option (Stp (Int × (List Int) × Int × (List zC) × zB × zC)) :=
 (cond (decide (s11 < s1)) (some (b7.Status == 0)) (some false)).bind fun g1001 => cond g1001 ((zgv N b3 b7 s9).bind fun r1002 =>
  (zej r1002 b1000000).bind fun r1003 => some (.again (s1, s9, (w6 (s11 + 1)), r1003, b3, r1002))) (some (.leave (s1, s9, s11, b1000000, b3, b7)))
def za7.r0 (N : Nat) (x : Int × (List Int) × Int × (List zC) × zB × zC) := za7.b0 N x.1 x.2.1 x.2.2.1 x.2.2.2.1 x.2.2.2.2.1 x.2.2.2.2.2
def za7 (N : Nat) (a0 : zB) (a1 : Int) (a2 : List zC) : Option (Int × (List zC)) :=
 (zf7 N a0).bind fun r1 => cond (r1.2 != 0) (some (r1.2, a2)) ((zgt N a0).bind fun r2 => cond (r2.2.2 != 0) (some (r2.2.2, a2))
  ((zej r1.1 a2).bind fun r3 => (zh (za7.r0 N) N (a1, r2.1, 0, r3, a0, r1.1)).bind fun y4 => some (0, y4.2.2.2.1)))
def za7.k (N : Nat) : Kq := ⟨44, (ctv [.val Ty.zB, .val T6, .clo 45 1, .ptr (Ty.sl Ty.zC) true [0]] [T6] [(Ty.sl Ty.zC)] [] [Ty.zB, T6, (Ty.sl Ty.zC)] (za7 N)), go [zf7.k N, zej.k, zgt.k N, zgv.k N] {pk := [1000000]} [(0, .plain { slots := [(1, .val T6), (2, .fn 45 [1000000]), (3, .ptr 3 0), (7, .ptr 7 0), (9, .val (Ty.sl T6)), (11, .val T6)], boxes := [(1000000, (Ty.sl Ty.zC), [0]), (3, Ty.zB, []), (7, Ty.zC, [])] } [T6, (Ty.sl T6), T6, (Ty.sl Ty.zC), Ty.zB, Ty.zC] (zh (za7.r0 N) N))] Proofs.Tryz.func44 (hL := ⟨⟨_, _, rfl, by kernel_rfl⟩, trivial⟩)⟩
def zep (N : Nat) (a0 : zB) (a1 : Int) : Option ((List zC) × Int) :=
 (zfw N a0).bind fun r1 => (zev a1 0 300).bind fun r2 => (zkd (!r2) 3).bind fun r3 => (zbj N ([r1, r3] : List Int)).bind fun r4 =>
  cond (r4 != 0) (some ([], r4)) ((za7 N a0 a1 []).bind fun r5 => some (r5.2, r5.1))
def zep.k (N : Nat) : Kq := ⟨13, (cvv [(Ty.sl Ty.zC), T6] [Ty.zB, T6] (zep N)), go [zbj.k N, zfw.k N, zkd.k, zev.k, za7.k N] {lits := [10, 14, 15]} [] Proofs.Tryz.func13⟩
def zf (a0 : Int) (a1 : Int) (a2 : Int) : Option Bool :=
 (cond (decide (a1 ≤ a0)) (some (decide (a0 ≤ a2))) (some false)).bind fun g1 => some g1
def zf.k : Kq := ⟨16, (cvv [Ty.bool] [T6, T6, T6] zf), go [] {} [] Proofs.Tryz.func16⟩
def zlx (a0 : Int) : Option Bool :=
 (cond (decide (65 ≤ a0)) (some (decide (a0 ≤ 90))) (some false)).bind fun g1 => some g1
def zlx.k : Kq := ⟨190, (cvv [Ty.bool] [(Ty.int .u8)] zlx), go [] {} [] Proofs.Tryz.func190⟩
def zly (a0 : Int) : Option Bool :=
 (cond (decide (48 ≤ a0)) (some (decide (a0 ≤ 57))) (some false)).bind fun g1 => some g1
def zly.k : Kq := ⟨191, (cvv [Ty.bool] [(Ty.int .u8)] zly), go [] {} [] Proofs.Tryz.func191⟩
def zdp.b0 (N : Nat) (s0 : ByteArray) (s3 : Int) : Option (Round Bool (ByteArray × Int)) :=
 cond (decide (s3 < (s0.size : Int))) ((zgg s0 s3).bind fun x1001 => (zlx (x1001.toNat : Int)).bind fun r1002 => (cond r1002 (some true)
  (some ((x1001.toNat : Int) == 36))).bind fun g1003 => (cond g1003 (some true) (some ((x1001.toNat : Int) == 35))).bind fun g1004 => (cond g1004 (some true)
  (some ((x1001.toNat : Int) == 64))).bind fun g1005 => (cond (!g1005) ((cond (s3 == 0) (some true) ((zly (x1001.toNat : Int)).bind fun r1006 => (cond (!r1006)
  (some ((x1001.toNat : Int) != 95)) (some false)).bind fun g1007 => (cond g1007 (some ((x1001.toNat : Int) != 46)) (some false)).bind fun g1008 => some g1008)).bind fun g1009 =>
  some g1009) (some false)).bind fun g1010 => cond g1010 (some (.result false)) (some (.again (s0, (w6 (s3 + 1)))))) (some (.leave (s0, s3)))
def zdp.r0 (N : Nat) (x : ByteArray × Int) := zdp.b0 N x.1 x.2
def zdp (N : Nat) (a0 : ByteArray) : Option Bool :=
 (zf (a0.size : Int) 1 10).bind fun r1 => cond (!r1) (some false) ((zp (zdp.r0 N) N (a0, 0)).bind fun z3 => zdt z3 (fun z => some z) (fun y2 => some true))
def zdp.k (N : Nat) : Kq := ⟨132, (cvv [Ty.bool] [Ty.str] (zdp N)), go [zf.k, zlx.k, zly.k] {lits := [7]} [(0, .rets { slots := [(0, .val Ty.str), (3, .val T6)], boxes := [] } [Ty.str, T6] (zp (zdp.r0 N) N))] Proofs.Tryz.func132 (hL := ⟨⟨_, _, rfl, by kernel_rfl⟩, trivial⟩)⟩
def zdu.b0 (N : Nat) (s1 : ByteArray) (s5 : Int) (b2 : zB) : Option (Round Int (ByteArray × Int × zB)) :=
 cond (decide (s5 < (b2.zA.length : Int))) ((idx b2.zA s5).bind fun x1001 => cond (x1001.Name.toList == s1.toList) (some (.result s5))
  (some (.again (s1, (w6 (s5 + 1)), b2)))) (some (.leave (s1, s5, b2)))
def zdu.r0 (N : Nat) (x : ByteArray × Int × zB) := zdu.b0 N x.1 x.2.1 x.2.2
def zdu (N : Nat) (a0 : zB) (a1 : ByteArray) : Option Int :=
 (zp (zdu.r0 N) N (a1, 0, a0)).bind fun z2 => zdt z2 (fun z => some z) (fun y1 => some (-1))
def zdu.k (N : Nat) : Kq := ⟨100, (cvv [T6] [Ty.zB, Ty.str] (zdu N)), go [] {} [(0, .rets { slots := [(1, .val Ty.str), (2, .ptr 2 0), (5, .val T6)], boxes := [(2, Ty.zB, [])] } [Ty.str, T6, Ty.zB] (zp (zdu.r0 N) N))] Proofs.Tryz.func100 (hL := ⟨⟨_, _, rfl, by kernel_rfl⟩, trivial⟩)⟩
def zit (a0 : zF) : Option Bool :=
 (cond (a0.Base.toList == (⟨#[]⟩ : ByteArray).toList) (some (a0.Offset == 0)) (some false)).bind fun g1 => (cond (a0.Kind == 0) (some (a0.Kind == 0))
  (some (a0.Kind == 4))).bind fun q2 => cond q2 ((cond (!g1) (some true) (some (a0.Target != 0))).bind fun g3 => some g3) ((cond (a0.Kind == 1) (some (a0.Kind == 1))
  (some (a0.Kind == 2))).bind fun q4 => cond q4 ((cond (!(zgy [(a0.Value.N == 0), (a0.Value.S == (⟨#[]⟩ : ByteArray))])) (some true) (some (a0.Target != 0))).bind fun g5 =>
  some g5) (cond (a0.Kind == 3) ((cond (!(zgy [(a0.zK.Kind == 0), (a0.zK.Length == 0), (a0.zK.Scale == 0)])) (some true)
  (some (!(zgy [(a0.Value.N == 0), (a0.Value.S == (⟨#[]⟩ : ByteArray))])))).bind fun g6 => (cond g6 (some true) (some (!g1))).bind fun g7 => (cond g7 (some true)
  (some (a0.Target != 0))).bind fun g8 => some g8) ((cond (!(zgy [(a0.zK.Kind == 0), (a0.zK.Length == 0), (a0.zK.Scale == 0)])) (some true)
  (some (!(zgy [(a0.Value.N == 0), (a0.Value.S == (⟨#[]⟩ : ByteArray))])))).bind fun g9 => (cond g9 (some true) (some (!g1))).bind fun g10 => some g10)))
def zit.k : Kq := ⟨133, (cvv [Ty.bool] [Ty.zF] zit), go [] {bj := [19, 29]} [] Proofs.Tryz.func133⟩
def zfu (a0 : Int) : Option Bool :=
 (cond (a0 == 0) (some true) (some (a0 == 1))).bind fun g1 => (cond g1 (some true) (some (a0 == 2))).bind fun g2 => some g2
def zfu.k : Kq := ⟨118, (cvv [Ty.bool] [T6] zfu), go [] {} [] Proofs.Tryz.func118⟩
def zgb (a0 : Int) : Option Bool :=
 (zfu a0).bind fun r1 => (cond r1 (some true) (some (a0 == 4))).bind fun g2 => some g2
def zgb.k : Kq := ⟨74, (cvv [Ty.bool] [T6] zgb), go [zfu.k] {} [] Proofs.Tryz.func74⟩
def zb7 (a0 : Int) : Option Bool :=
 (zf a0 1 3).bind fun r1 => some r1
def zb7.k : Kq := ⟨124, (cvv [Ty.bool] [T6] zb7), go [zf.k] {} [] Proofs.Tryz.func124⟩
def zah (a0 : Bool) : Option Int :=
 cond a0 (some 1) (some 0)
def zah.k : Kq := ⟨122, (cvv [T6] [Ty.bool] zah), go [] {} [] Proofs.Tryz.func122⟩
def zef (a0 : DataType) : Option Int :=
 (zf a0.Kind 0 4).bind fun r1 => cond (!r1) (some 4) (cond (a0.Kind == 0) ((zf a0.Length 1 256).bind fun r2 => cond (!r2) (some 18)
  ((zb7 a0.Kind).bind fun r3 => cond r3 ((zf a0.Scale 0 a0.Length).bind fun r4 => (zah (!r4)).bind fun r5 => some (w6 (3 * r5)))
  ((zf a0.Scale 0 0).bind fun r6 => (zah (!r6)).bind fun r7 => some (w6 (3 * r7))))) ((cond (a0.Kind == 1) (some (a0.Kind == 1))
  (some (a0.Kind == 2))).bind fun q8 => cond q8 ((zf a0.Length 1 15).bind fun r9 => cond (!r9) (some 18) ((zb7 a0.Kind).bind fun r10 =>
  cond r10 ((zf a0.Scale 0 a0.Length).bind fun r11 => (zah (!r11)).bind fun r12 => some (w6 (3 * r12))) ((zf a0.Scale 0 0).bind fun r13 =>
  (zah (!r13)).bind fun r14 => some (w6 (3 * r14))))) (cond (a0.Kind == 3) ((cond (a0.Length == 4) (some true) (some (a0.Length == 9))).bind fun g15 =>
  cond (!g15) (some 18) ((zb7 a0.Kind).bind fun r16 => cond r16 ((zf a0.Scale 0 a0.Length).bind fun r17 => (zah (!r17)).bind fun r18 =>
  some (w6 (3 * r18))) ((zf a0.Scale 0 0).bind fun r19 => (zah (!r19)).bind fun r20 => some (w6 (3 * r20))))) (cond (!(a0.Length == 0))
  (some 18) ((zb7 a0.Kind).bind fun r21 => cond r21 ((zf a0.Scale 0 a0.Length).bind fun r22 => (zah (!r22)).bind fun r23 =>
  some (w6 (3 * r23))) ((zf a0.Scale 0 0).bind fun r24 => (zah (!r24)).bind fun r25 => some (w6 (3 * r25))))))))
def zef.k : Kq := ⟨134, (cvv [T6] [Ty.DataType] zef), go [zf.k, zah.k, zb7.k] {bj := [19]} [] Proofs.Tryz.func134⟩
def zdl.b0 (N : Nat) (s0 : Int) (s3 : Int) (s4 : Int) : Option (Stp (Int × Int × Int)) :=
 cond (decide (s4 < s0)) (some (.again (s0, (w6 (s3 * 10)), (w6 (s4 + 1))))) (some (.leave (s0, s3, s4)))
def zdl.r0 (N : Nat) (x : Int × Int × Int) := zdl.b0 N x.1 x.2.1 x.2.2
def zdl (N : Nat) (a0 : Int) : Option Int :=
 (zh (zdl.r0 N) N (a0, 1, 0)).bind fun y1 => some y1.2.1
def zdl.k (N : Nat) : Kq := ⟨170, (cvv [T6] [T6] (zdl N)), go [] {} [(0, .plain { slots := [(0, .val T6), (3, .val T6), (4, .val T6)], boxes := [] } [T6, T6, T6] (zh (zdl.r0 N) N))] Proofs.Tryz.func170 (hL := ⟨⟨_, _, rfl, by kernel_rfl⟩, trivial⟩)⟩
def zgi (N : Nat) (a0 : DataType) : Option Int :=
 (zdl N a0.Length).bind fun r1 => some (w6 (r1 - 1))
def zgi.k (N : Nat) : Kq := ⟨180, (cvv [T6] [Ty.DataType] (zgi N)), go [zdl.k N] {} [] Proofs.Tryz.func180⟩
def zho (N : Nat) (a0 : DataType) (a1 : Value) : Option Int :=
 (zef a0).bind fun r1 => cond (r1 != 0) (some r1) (cond (a0.Kind == 4) (some 17) ((cond (a0.Kind == 0) (some (a1.N != 0)) (some false)).bind fun g2 =>
  (cond g2 (some true) ((cond (a0.Kind != 0) (some (!(a1.S.toList == (⟨#[]⟩ : ByteArray).toList))) (some false)).bind fun g3 => some g3)).bind fun g4 => cond g4 (some 5)
  (cond (a0.Kind == 0) ((zah ((a1.S.size : Int) != a0.Length)).bind fun r5 => some (w6 (18 * r5))) ((zgi N a0).bind fun r6 =>
  (zgi N a0).bind fun r7 => (zf a1.N (w6 (0 - r6)) r7).bind fun r8 => (zah (!r8)).bind fun r9 => some (w6 (19 * r9))))))
def zho.k (N : Nat) : Kq := ⟨135, (cvv [T6] [Ty.DataType, Ty.Value] (zho N)), go [zf.k, zah.k, zef.k, zgi.k N] {lits := [49]} [] Proofs.Tryz.func135⟩
def zcp (a0 : DataType) : Option Int :=
 cond (a0.Kind == 1) (some (w6 ((w6 (a0.Length.tdiv 2)) + 1))) (cond (a0.Kind == 3) ((zah (a0.Length == 9)).bind fun r1 =>
  some (w6 (2 + (w6 (2 * r1))))) (cond (a0.Kind == 4) (some 16) (some a0.Length)))
def zcp.k : Kq := ⟨77, (cvv [T6] [Ty.DataType] zcp), go [zah.k] {} [] Proofs.Tryz.func77⟩
def zhm (N : Nat) (a0 : zB) (a1 : Int) : Option Int :=
 (idx a0.zA a1).bind fun x1 => (zdp N x1.Name).bind fun r2 => cond (!r2) (some 7) ((zdu N a0 x1.Name).bind fun r3 => cond (decide (r3 < a1)) (some 13)
  ((zf x1.Kind 0 5).bind fun r4 => cond (!r4) (some 4) ((zit x1).bind fun r5 => cond r5 (some 5) ((zgb x1.Kind).bind fun r6 =>
  cond r6 ((zef x1.zK).bind fun r7 => cond (r7 != 0) (some r7) (cond (x1.zK.Kind == 4) (some 17) ((zdu N a0 x1.Base).bind fun r8 => (cond (x1.Kind == 0)
  (some (x1.Kind == 0)) (some (x1.Kind == 4))).bind fun q9 => cond q9 ((zho N x1.zK x1.Value).bind fun r10 => some r10) ((cond (x1.Kind == 1) (some (x1.Kind == 1))
  (some (x1.Kind == 2))).bind fun q11 => cond q11 ((cond (r8 == (-1)) (some true) (some (decide (r8 ≥ a1)))).bind fun g12 => cond g12 (some 11) ((idx a0.zA r8).bind fun x13 =>
  (cond (x1.Kind == 1) (some (x13.Kind != 0)) (some false)).bind fun g14 => (cond g14 (some true) ((cond (x1.Kind == 2) (some (x13.Kind != 3)) (some false)).bind fun g15 =>
  some g15)).bind fun g16 => cond g16 (some 17) (cond (x1.Kind == 1) ((zcp x13.zK).bind fun r17 => (zcp x1.zK).bind fun r18 =>
  (zf x1.Offset 0 (w6 (r17 - r18))).bind fun r19 => cond (!r19) (some 3) (some 0)) ((zf x1.Offset 0 256).bind fun r20 => cond (!r20) (some 3)
  (some 0))))) (cond (x1.Kind == 5) ((zf x1.Target 0 (w6 ((a0.zG.length : Int) - 1))).bind fun r21 => cond (!r21) (some 3) (some 0)) (some 0))))))
  ((zdu N a0 x1.Base).bind fun r22 => (cond (x1.Kind == 0) (some (x1.Kind == 0)) (some (x1.Kind == 4))).bind fun q23 =>
  cond q23 ((zho N x1.zK x1.Value).bind fun r24 => some r24) ((cond (x1.Kind == 1) (some (x1.Kind == 1)) (some (x1.Kind == 2))).bind fun q25 =>
  cond q25 ((cond (r22 == (-1)) (some true) (some (decide (r22 ≥ a1)))).bind fun g26 => cond g26 (some 11) ((idx a0.zA r22).bind fun x27 => (cond (x1.Kind == 1)
  (some (x27.Kind != 0)) (some false)).bind fun g28 => (cond g28 (some true) ((cond (x1.Kind == 2) (some (x27.Kind != 3)) (some false)).bind fun g29 => some g29)).bind fun g30 =>
  cond g30 (some 17) (cond (x1.Kind == 1) ((zcp x27.zK).bind fun r31 => (zcp x1.zK).bind fun r32 =>
  (zf x1.Offset 0 (w6 (r31 - r32))).bind fun r33 => cond (!r33) (some 3) (some 0)) ((zf x1.Offset 0 256).bind fun r34 => cond (!r34) (some 3)
  (some 0))))) (cond (x1.Kind == 5) ((zf x1.Target 0 (w6 ((a0.zG.length : Int) - 1))).bind fun r35 => cond (!r35) (some 3) (some 0)) (some 0))))))))
def zhm.k (N : Nat) : Kq := ⟨82, (cvv [T6] [Ty.zB, T6] (zhm N)), go [zf.k, zgb.k, zcp.k, zdu.k N, zdp.k N, zit.k, zef.k, zho.k N] {bj := [54, 62]} [] Proofs.Tryz.func82⟩
def zq.b0 (N : Nat) (s4 : List Int) (s5 : Int) (s6 : Int) (b1 : zB) : Option (Stp ((List Int) × Int × Int × zB)) :=
 cond (decide (s6 < (b1.zA.length : Int))) (if 0 ≤ s6 then (if s6 < (s4.length : Int) then ((s4[s6.toNat]?).bind fun x1001 => (idx b1.zA s6).bind fun x1002 =>
  cond (x1002.Kind == 3) (if 0 ≤ s6 then (if s6 < ((s4.set s6.toNat (-1)).length : Int) then (((s4.set s6.toNat (-1))[s6.toNat]?).bind fun x1003 =>
  some (.again (((s4.set s6.toNat (-1)).set s6.toNat s5), (w6 (s5 + 16)), (w6 (s6 + 1)), b1))) else none) else none)
  (some (.again ((s4.set s6.toNat (-1)), s5, (w6 (s6 + 1)), b1)))) else none) else none) (some (.leave (s4, s5, s6, b1)))
def zq.r0 (N : Nat) (x : (List Int) × Int × Int × zB) := zq.b0 N x.1 x.2.1 x.2.2.1 x.2.2.2
def zq.b2 (N : Nat) (s4 : List Int) (s5 : Int) (s7 : Int) (b1 : zB) : Option (Stp ((List Int) × Int × Int × zB)) :=
 cond (decide (s7 < (b1.zA.length : Int))) ((idx b1.zA s7).bind fun x3001 => cond (x3001.Kind == 0)
  (if 0 ≤ s7 then (if s7 < (s4.length : Int) then ((s4[s7.toNat]?).bind fun x3002 => (zcp x3001.zK).bind fun r3003 =>
  some (.again ((s4.set s7.toNat s5), (w6 (s5 + r3003)), (w6 (s7 + 1)), b1))) else none) else none)
  (some (.again (s4, s5, (w6 (s7 + 1)), b1)))) (some (.leave (s4, s5, s7, b1)))
def zq.r2 (N : Nat) (x : (List Int) × Int × Int × zB) := zq.b2 N x.1 x.2.1 x.2.2.1 x.2.2.2
def zq.b4 (N : Nat) (s4 : List Int) (s5 : Int) (s9 : Int) (b1 : zB) : Option (Stp ((List Int) × Int × Int × zB)) :=
 cond (decide (s9 < (b1.zA.length : Int))) ((idx b1.zA s9).bind fun x5001 => cond (x5001.Kind == 1) ((zdu N b1 x5001.Base).bind fun r5002 =>
  if 0 ≤ r5002 then (if r5002 < (s4.length : Int) then ((s4[r5002.toNat]?).bind fun x5003 => if 0 ≤ s9 then (if s9 < (s4.length : Int) then ((s4[s9.toNat]?).bind fun x5004 =>
  some (.again ((s4.set s9.toNat (w6 (x5003 + x5001.Offset))), s5, (w6 (s9 + 1)), b1))) else none) else none) else none) else none)
  (some (.again (s4, s5, (w6 (s9 + 1)), b1)))) (some (.leave (s4, s5, s9, b1)))
def zq.r4 (N : Nat) (x : (List Int) × Int × Int × zB) := zq.b4 N x.1 x.2.1 x.2.2.1 x.2.2.2
def zq (N : Nat) (a0 : zB) : Option ((List Int) × Int) :=
 if 0 ≤ (a0.zA.length : Int) then (if (a0.zA.length : Int) ≤ (a0.zA.length : Int) then (cond (Nat.ble ((a0.zA.length : Int).toNat * 8) za3)
  ((zh (zq.r0 N) N ((List.replicate (a0.zA.length : Int).toNat (0 : Int)), 0, 0, a0)).bind fun y1 =>
  (zh (zq.r2 N) N (y1.1, y1.2.1, 0, y1.2.2.2)).bind fun y2 => (zh (zq.r4 N) N (y2.1, y2.2.1, 0, y2.2.2.2)).bind fun y3 =>
  some (y3.1, (w6 ((w6 ((w6 (y3.2.1 + 16)) - 1)).tdiv 16)))) none) else none) else none
def zq.k (N : Nat) : Kq := ⟨60, (cvv [(Ty.sl T6), T6] [Ty.zB] (zq N)), go [zcp.k, zdu.k N] {} [(0, .plain { slots := [(1, .ptr 1 0), (4, .own 5000004 T6), (5, .val T6), (6, .val T6)], boxes := [(1, Ty.zB, [])] } [(Ty.sl T6), T6, T6, Ty.zB] (zh (zq.r0 N) N)), (2, .plain { slots := [(1, .ptr 1 0), (4, .own 5000004 T6), (5, .val T6), (7, .val T6)], boxes := [(1, Ty.zB, [])] } [(Ty.sl T6), T6, T6, Ty.zB] (zh (zq.r2 N) N)), (4, .plain { slots := [(1, .ptr 1 0), (4, .own 5000004 T6), (5, .val T6), (9, .val T6)], boxes := [(1, Ty.zB, [])] } [(Ty.sl T6), T6, T6, Ty.zB] (zh (zq.r4 N) N))] Proofs.Tryz.func60 (hL := ⟨⟨_, _, rfl, by kernel_rfl⟩, ⟨_, _, rfl, by kernel_rfl⟩, ⟨_, _, rfl, by kernel_rfl⟩, trivial⟩)⟩
def zjt (a0 : Int) : Option ((List Int)) :=
 cond (a0 == 0) (some ([0, 4] : List Int)) (cond (a0 == 1) (some ([1, 3] : List Int)) ((cond (a0 == 2) (some (a0 == 2)) (cond (a0 == 3) (some (a0 == 3)) (cond (a0 == 4)
  (some (a0 == 4)) (cond (a0 == 5) (some (a0 == 5)) (some (a0 == 6)))))).bind fun q1 => cond q1 (some ([1, 3, 3] : List Int)) ((cond (a0 == 7) (some (a0 == 7))
  (some (a0 == 8))).bind fun q2 => cond q2 (some ([2, 4, 6] : List Int)) ((cond (a0 == 9) (some (a0 == 9)) (some (a0 == 13))).bind fun q3 => cond q3 (some ([6] : List Int))
  (cond (a0 == 10) (some ([5, 0] : List Int)) (cond (a0 == 11) (some ([5, 5] : List Int)) (cond (a0 == 12) (some ([5, 3] : List Int)) (cond (a0 == 15) (some ([3] : List Int))
  (cond (a0 == 16) (some ([1] : List Int)) (cond (a0 == 17) (some ([2] : List Int)) (some [])))))))))))
def zjt.k : Kq := ⟨136, (cvv [(Ty.sl T6)] [T6] zjt), go [] {bj := [10, 17, 21]} [] Proofs.Tryz.func136⟩
def zf6 (a0 : zF) : Option Bool :=
 (zb7 a0.zK.Kind).bind fun r1 => some r1
def zf6.k : Kq := ⟨137, (cvv [Ty.bool] [Ty.zF] zf6), go [zb7.k] {} [] Proofs.Tryz.func137⟩
def zaz.b0 (N : Nat) (s5 : List Int) (s6 : Int) (b2 : zB) (b3 : zI) : Option (Round Int ((List Int) × Int × zB × zI)) :=
 cond (decide (s6 < (s5.length : Int))) ((idx b3.Args s6).bind fun x1001 => (zf x1001 0 (w6 ((b2.zA.length : Int) - 1))).bind fun r1002 =>
  cond (!r1002) (some (.result 3)) ((idx b3.Args s6).bind fun x1003 => (idx b2.zA x1003).bind fun x1004 => (idx s5 s6).bind fun x1005 => cond (x1005 == 0)
  ((zfu x1004.Kind).bind fun r1006 => cond (!r1006) (some (.result 17)) (some (.again (s5, (w6 (s6 + 1)), b2, b3)))) (cond (x1005 == 1)
  ((zfu x1004.Kind).bind fun r1007 => (cond r1007 ((zf6 x1004).bind fun r1008 => some r1008) (some false)).bind fun g1009 => cond (!g1009) (some (.result 17))
  (some (.again (s5, (w6 (s6 + 1)), b2, b3)))) (cond (x1005 == 2) ((zgb x1004.Kind).bind fun r1010 => cond (!r1010) (some (.result 17))
  (some (.again (s5, (w6 (s6 + 1)), b2, b3)))) (cond (x1005 == 3) ((zgb x1004.Kind).bind fun r1011 => (cond r1011 ((zf6 x1004).bind fun r1012 =>
  some r1012) (some false)).bind fun g1013 => cond (!g1013) (some (.result 17)) (some (.again (s5, (w6 (s6 + 1)), b2, b3)))) (cond (x1005 == 4)
  ((zgb x1004.Kind).bind fun r1014 => (cond r1014 ((zf6 x1004).bind fun r1015 => (idx b3.Args (w6 (s6 - 1))).bind fun x1016 =>
  (idx b2.zA x1016).bind fun x1017 => (zf6 x1017).bind fun r1018 => some (r1015 == r1018)) (some false)).bind fun g1019 => cond (!g1019) (some (.result 17))
  (some (.again (s5, (w6 (s6 + 1)), b2, b3)))) (cond (x1005 == 5) (cond (!(x1004.Kind == 3)) (some (.result 17))
  (some (.again (s5, (w6 (s6 + 1)), b2, b3)))) (cond (x1005 == 6) (cond (!(x1004.Kind == 5)) (some (.result 17))
  (some (.again (s5, (w6 (s6 + 1)), b2, b3)))) (some (.result 17)))))))))) (some (.leave (s5, s6, b2, b3)))
def zaz.r0 (N : Nat) (x : (List Int) × Int × zB × zI) := zaz.b0 N x.1 x.2.1 x.2.2.1 x.2.2.2
def zaz (N : Nat) (a0 : zB) (a1 : zI) : Option Int :=
 (zf a1.Op 0 18).bind fun r1 => cond (!r1) (some 4) ((zjt a1.Op).bind fun r2 => cond ((a1.Args.length : Int) != (r2.length : Int)) (some 37)
  ((zp (zaz.r0 N) N (r2, 0, a0, a1)).bind fun z4 => zdt z4 (fun z => some z) (fun y3 => some 0)))
def zaz.k (N : Nat) : Kq := ⟨83, (cvv [T6] [Ty.zB, Ty.zI] (zaz N)), go [zf.k, zgb.k, zfu.k, zjt.k, zf6.k] {} [(0, .rets { slots := [(2, .ptr 2 0), (3, .ptr 3 0), (5, .val (Ty.sl T6)), (6, .val T6)], boxes := [(2, Ty.zB, []), (3, Ty.zI, [])] } [(Ty.sl T6), T6, Ty.zB, Ty.zI] (zp (zaz.r0 N) N))] Proofs.Tryz.func83 (hL := ⟨⟨_, _, rfl, by kernel_rfl⟩, trivial⟩)⟩
def zad.b0 (N : Nat) (s4 : Int) (b1 : zB) (b2 : zM) : Option (Round (zM × Int) (Int × zB × zM)) :=
 cond (decide (s4 < (b1.zA.length : Int))) ((zhm N b1 s4).bind fun r1001 => cond (r1001 != 0) (some (.result ((⟨1, s4⟩ : zM), r1001)))
  (some (.again ((w6 (s4 + 1)), b1, b2)))) (some (.leave (s4, b1, b2)))
def zad.r0 (N : Nat) (x : Int × zB × zM) := zad.b0 N x.1 x.2.1 x.2.2
def zad.b2 (N : Nat) (s8 : Int) (b1 : zB) (b2 : zM) : Option (Round (zM × Int) (Int × zB × zM)) :=
 cond (decide (s8 < (b1.zG.length : Int))) ((idx b1.zG s8).bind fun x3001 => (zaz N b1 x3001).bind fun r3002 => cond (r3002 != 0)
  (some (.result ((⟨2, s8⟩ : zM), r3002))) (some (.again ((w6 (s8 + 1)), b1, b2)))) (some (.leave (s8, b1, b2)))
def zad.r2 (N : Nat) (x : Int × zB × zM) := zad.b2 N x.1 x.2.1 x.2.2
def zad.b4 (N : Nat) (s10 : Int) (b1 : zB) (b2 : zM) : Option (Round (zM × Int) (Int × zB × zM)) :=
 cond (decide (s10 < (b1.zL.length : Int))) ((idx b1.zL s10).bind fun x5001 => (cond (decide (x5001.From < 0)) (some true)
  (some (decide (x5001.From ≥ x5001.To)))).bind fun g5002 => (cond g5002 (some true) (some (decide (x5001.To > (b1.zG.length : Int))))).bind fun g5003 =>
  (cond g5003 (some true) ((zf x5001.Exception 0 999).bind fun r5004 => some (!r5004))).bind fun g5005 => (cond g5005 (some true)
  ((zf x5001.Handler 0 (w6 ((b1.zG.length : Int) - 1))).bind fun r5006 => some (!r5006))).bind fun g5007 =>
  cond g5007 (some (.result ((⟨3, s10⟩ : zM), 3))) (some (.again ((w6 (s10 + 1)), b1, b2)))) (some (.leave (s10, b1, b2)))
def zad.r4 (N : Nat) (x : Int × zB × zM) := zad.b4 N x.1 x.2.1 x.2.2
def zad (N : Nat) (a0 : zB) : Option (zM × Int) :=
 (cond (decide ((a0.zA.length : Int) > 24)) (some true) (some (decide ((a0.zG.length : Int) > 40)))).bind fun g1 => (cond g1 (some true)
  (some (decide ((a0.zL.length : Int) > 6)))).bind fun g2 => cond g2 (some ((⟨0, 0⟩ : zM), 2)) (cond ((a0.zG.length : Int) == 0) (some ((⟨0, 0⟩ : zM), 1))
  ((zp (zad.r0 N) N (0, a0, (⟨0, 0⟩ : zM))).bind fun z4 => zdt z4 (fun z => some z) (fun y3 => (zq N y3.2.1).bind fun r5 => cond (decide (r5.2 > 24))
  (some ((⟨0, 0⟩ : zM), 30)) ((zp (zad.r2 N) N (0, y3.2.1, y3.2.2)).bind fun z7 => zdt z7 (fun z => some z) (fun y6 =>
  (zp (zad.r4 N) N (0, y6.2.1, y6.2.2)).bind fun z9 => zdt z9 (fun z => some z) (fun y8 => some ((⟨0, 0⟩ : zM), 0)))))))
def zad.k (N : Nat) : Kq := ⟨47, (cvv [Ty.zM, T6] [Ty.zB] (zad N)), go [zf.k, zq.k N, zhm.k N, zaz.k N] {} [(0, .rets { slots := [(1, .ptr 1 0), (2, .ptr 2 0), (4, .val T6)], boxes := [(1, Ty.zB, []), (2, Ty.zM, [])] } [T6, Ty.zB, Ty.zM] (zp (zad.r0 N) N)), (2, .rets { slots := [(1, .ptr 1 0), (2, .ptr 2 0), (8, .val T6)], boxes := [(1, Ty.zB, []), (2, Ty.zM, [])] } [T6, Ty.zB, Ty.zM] (zp (zad.r2 N) N)), (4, .rets { slots := [(1, .ptr 1 0), (2, .ptr 2 0), (10, .val T6)], boxes := [(1, Ty.zB, []), (2, Ty.zM, [])] } [T6, Ty.zB, Ty.zM] (zp (zad.r4 N) N))] Proofs.Tryz.func47 (hL := ⟨⟨_, _, rfl, by kernel_rfl⟩, ⟨_, _, rfl, by kernel_rfl⟩, ⟨_, _, rfl, by kernel_rfl⟩, trivial⟩)⟩
def znf (N : Nat) (a0 : zB) : Option Int :=
 (zad N a0).bind fun r1 => some r1.2
def znf.k (N : Nat) : Kq := ⟨15, (cvv [T6] [Ty.zB] (znf N)), go [zad.k N] {} [] Proofs.Tryz.func15⟩
def zcv.b0 (N : Nat) (s0 : Int) (s1 : Int) (s5 : List Int) (s6 : Int) : Option (Stp (Int × Int × (List Int) × Int)) :=
 cond (decide (s6 < s1)) (cond (Nat.ble ((s5.length + ([s0] : List Int).length) * 1) za3) (some (.again (s0, s1, (s5 ++ ([s0] : List Int)), (w6 (s6 + 1))))) none)
  (some (.leave (s0, s1, s5, s6)))
def zcv.r0 (N : Nat) (x : Int × Int × (List Int) × Int) := zcv.b0 N x.1 x.2.1 x.2.2.1 x.2.2.2
def zcv (N : Nat) (a0 : Int) (a1 : Int) : Option ByteArray :=
 (zh (zcv.r0 N) N (a0, a1, [], 0)).bind fun y1 => some (zdd y1.2.2.1)
def zcv.k (N : Nat) : Kq := ⟨91, (cvv [Ty.str] [(Ty.int .u8), T6] (zcv N)), go [] {lits := [14]} [(0, .plain { slots := [(0, .val (Ty.int .u8)), (1, .val T6), (5, .own 5000005 (Ty.int .u8)), (6, .val T6)], boxes := [] } [(Ty.int .u8), T6, (Ty.sl (Ty.int .u8)), T6] (zh (zcv.r0 N) N))] Proofs.Tryz.func91 (hL := ⟨⟨_, _, rfl, by kernel_rfl⟩, trivial⟩)⟩
def zat.b0 (N : Nat) (s0 : Int) (s1 : Int) (s5 : List Int) (s6 : Int) : Option (Stp (Int × Int × (List Int) × Int)) :=
 cond (decide (s6 < s1))
  (if 0 ≤ (w6 ((w6 (s1 - 1)) - s6)) then (if (w6 ((w6 (s1 - 1)) - s6)) < (s5.length : Int) then ((s5[(w6 ((w6 (s1 - 1)) - s6)).toNat]?).bind fun x1001 =>
  some (.again ((w6 (s0.tdiv 256)), s1, (s5.set ((w6 ((w6 (s1 - 1)) - s6)).toNat)
  (IntKind.wrap .u8 (s0.tmod 256))), (w6 (s6 + 1))))) else none) else none) (some (.leave (s0, s1, s5, s6)))
def zat.r0 (N : Nat) (x : Int × Int × (List Int) × Int) := zat.b0 N x.1 x.2.1 x.2.2.1 x.2.2.2
def zat (N : Nat) (a0 : Int) (a1 : Int) : Option ByteArray :=
 if 0 ≤ a1 then (if a1 ≤ a1 then (cond (Nat.ble (a1.toNat * 1) za3) ((zh (zat.r0 N) N (a0, a1, (List.replicate a1.toNat (0 : Int)), 0)).bind fun y1 =>
  some (zdd y1.2.2.1)) none) else none) else none
def zat.k (N : Nat) : Kq := ⟨119, (cvv [Ty.str] [T6, T6] (zat N)), go [] {} [(0, .plain { slots := [(0, .val T6), (1, .val T6), (5, .own 5000005 (Ty.int .u8)), (6, .val T6)], boxes := [] } [T6, T6, (Ty.sl (Ty.int .u8)), T6] (zh (zat.r0 N) N))] Proofs.Tryz.func119 (hL := ⟨⟨_, _, rfl, by kernel_rfl⟩, trivial⟩)⟩
def zfm (a0 : Int) : Option Int :=
 some (if (w6 (0 - a0)) > a0 then (w6 (0 - a0)) else a0)
def zfm.k : Kq := ⟨121, (cvv [T6] [T6] zfm), go [] {} [] Proofs.Tryz.func121⟩
def zc0.b0 (N : Nat) (s0 : Int) (s5 : List Int) (s6 : Int) : Option (Stp (Int × (List Int) × Int)) :=
 cond (decide (s6 ≥ 0)) (if 0 ≤ s6 then (if s6 < (s5.length : Int) then ((s5[s6.toNat]?).bind fun x1001 =>
  some (.again ((w6 (s0.tdiv 10)), (s5.set s6.toNat (s0.tmod 10)), (w6 (s6 - 1))))) else none) else none) (some (.leave (s0, s5, s6)))
def zc0.r0 (N : Nat) (x : Int × (List Int) × Int) := zc0.b0 N x.1 x.2.1 x.2.2
def zc0 (N : Nat) (a0 : Int) (a1 : Int) : Option ((List Int)) :=
 if 0 ≤ a1 then (if a1 ≤ a1 then (cond (Nat.ble (a1.toNat * 8) za3)
  ((zh (zc0.r0 N) N (a0, (List.replicate a1.toNat (0 : Int)), (w6 (a1 - 1)))).bind fun y1 => some y1.2.1) none) else none) else none
def zc0.k (N : Nat) : Kq := ⟨120, (ctv [.val T6, .val T6] [(Ty.sl T6)] [] [0] [T6, T6] (zc0 N)), go [] {} [(0, .plain { slots := [(0, .val T6), (5, .own 5000005 T6), (6, .val T6)], boxes := [] } [T6, (Ty.sl T6), T6] (zh (zc0.r0 N) N))] Proofs.Tryz.func120 (hL := ⟨⟨_, _, rfl, by kernel_rfl⟩, trivial⟩)⟩
def zaa.b1 (N : Nat) (s6 : List Int) (s7 : List Int) (s8 : Int) (b2 : DataType) (b3 : Value) : Option (Stp ((List Int) × (List Int) × Int × DataType × Value)) :=
 cond (decide (s8 < b2.Length)) (if 0 ≤ s8 then (if s8 < (s6.length : Int) then ((s6[s8.toNat]?).bind fun x2001 =>
  if 0 ≤ s8 then (if s8 < (s7.length : Int) then ((s7[s8.toNat]?).bind fun x2002 =>
  some (.again (s6, (s7.set s8.toNat (IntKind.wrap .u8 (w6 (240 + x2001)))), (w6 (s8 + 1)), b2, b3))) else none) else none) else none) else none)
  (some (.leave (s6, s7, s8, b2, b3)))
def zaa.r1 (N : Nat) (x : (List Int) × (List Int) × Int × DataType × Value) := zaa.b1 N x.1 x.2.1 x.2.2.1 x.2.2.2.1 x.2.2.2.2
def zaa.b3 (N : Nat) (s6 : List Int) (s9 : List Int) (s10 : Int) : Option (Stp ((List Int) × (List Int) × Int)) :=
 cond (decide (s10 < (s9.length : Int)))
  (if 0 ≤ (w6 (2 * s10)) then (if (w6 (2 * s10)) < (s6.length : Int) then ((s6[(w6 (2 * s10)).toNat]?).bind fun x4001 =>
  if 0 ≤ (w6 ((w6 (2 * s10)) + 1)) then (if (w6 ((w6 (2 * s10)) + 1)) < (s6.length : Int) then ((s6[(w6 ((w6 (2 * s10)) + 1)).toNat]?).bind fun x4002 =>
  if 0 ≤ s10 then (if s10 < (s9.length : Int) then ((s9[s10.toNat]?).bind fun x4003 =>
  some (.again (s6, (s9.set s10.toNat (IntKind.wrap .u8 (w6 ((w6 (16 * x4001)) + x4002)))), (w6 (s10 + 1))))) else none) else none) else none) else none) else none) else none)
  (some (.leave (s6, s9, s10)))
def zaa.r3 (N : Nat) (x : (List Int) × (List Int) × Int) := zaa.b3 N x.1 x.2.1 x.2.2
def zaa (N : Nat) (a0 : DataType) (a1 : Value) : Option ByteArray :=
 cond (a0.Kind == 0) (some a1.S) (cond (a0.Kind == 3) (cond (decide (a1.N < 0)) ((zcp a0).bind fun r1 =>
  if (w6 (8 * r1)) < 0 then none else (zcp a0).bind fun r2 =>
  (zat N (w6 (a1.N + (w6 (1 * 2 ^ (min (w6 (8 * r1)).toNat 64))))) r2).bind fun r3 => some r3) ((zcp a0).bind fun r4 =>
  (zat N a1.N r4).bind fun r5 => some r5)) ((zfm a1.N).bind fun r6 => (zc0 N r6 a0.Length).bind fun r7 => cond (a0.Kind == 2)
  (if 0 ≤ a0.Length then (if a0.Length ≤ a0.Length then (cond (Nat.ble (a0.Length.toNat * 1) za3)
  ((zh (zaa.r1 N) N (r7, (List.replicate a0.Length.toNat (0 : Int)), 0, a0, a1)).bind fun y8 => cond (decide (y8.2.2.2.2.N < 0))
  (if 0 ≤ (w6 (y8.2.2.2.1.Length - 1)) then (if (w6 (y8.2.2.2.1.Length - 1)) < (y8.1.length : Int) then ((y8.1[(w6 (y8.2.2.2.1.Length - 1)).toNat]?).bind fun x9 =>
  if 0 ≤ (w6 (y8.2.2.2.1.Length - 1)) then (if (w6 (y8.2.2.2.1.Length - 1)) < (y8.2.1.length : Int) then ((y8.2.1[(w6 (y8.2.2.2.1.Length - 1)).toNat]?).bind fun x10 =>
  some (zdd (y8.2.1.set ((w6 (y8.2.2.2.1.Length - 1)).toNat) (IntKind.wrap .u8 (w6 (208 + x9)))))) else none) else none) else none) else none)
  (some (zdd y8.2.1))) none) else none) else none) (cond ((a0.Length.tmod 2) == 0) (cond (Nat.ble ((([0] : List Int).length + r7.length) * 8) za3)
  ((zah (decide (a1.N < 0))).bind fun r11 =>
  cond (Nat.ble (((([0] : List Int) ++ r7).length + ([(w6 (15 - (w6 (2 * r11))))] : List Int).length) * 8) za3)
  (if 0 ≤ (w6 ((((([0] : List Int) ++ r7) ++ ([(w6 (15 - (w6 (2 * r11))))] : List Int)).length : Int).tdiv 2)) then (if (w6 ((((([0] : List Int) ++ r7) ++ ([(w6 (15 - (w6 (2 * r11))))] : List Int)).length : Int).tdiv 2)) ≤ (w6 ((((([0] : List Int) ++ r7) ++ ([(w6 (15 - (w6 (2 * r11))))] : List Int)).length : Int).tdiv 2)) then (cond (Nat.ble ((w6 ((((([0] : List Int) ++ r7) ++ ([(w6 (15 - (w6 (2 * r11))))] : List Int)).length : Int).tdiv 2)).toNat * 1) za3)
  ((zh (zaa.r3 N) N (((([0] : List Int) ++ r7) ++ ([(w6 (15 - (w6 (2 * r11))))] : List Int)), (List.replicate (w6 ((((([0] : List Int) ++ r7) ++ ([(w6 (15 - (w6 (2 * r11))))] : List Int)).length : Int).tdiv 2)).toNat (0 : Int)), 0)).bind fun y12 =>
  some (zdd y12.2.1)) none) else none) else none) none) none) ((zah (decide (a1.N < 0))).bind fun r13 =>
  cond (Nat.ble ((r7.length + ([(w6 (15 - (w6 (2 * r13))))] : List Int).length) * 8) za3)
  (if 0 ≤ (w6 (((r7 ++ ([(w6 (15 - (w6 (2 * r13))))] : List Int)).length : Int).tdiv 2)) then (if (w6 (((r7 ++ ([(w6 (15 - (w6 (2 * r13))))] : List Int)).length : Int).tdiv 2)) ≤ (w6 (((r7 ++ ([(w6 (15 - (w6 (2 * r13))))] : List Int)).length : Int).tdiv 2)) then (cond (Nat.ble ((w6 (((r7 ++ ([(w6 (15 - (w6 (2 * r13))))] : List Int)).length : Int).tdiv 2)).toNat * 1) za3)
  ((zh (zaa.r3 N) N ((r7 ++ ([(w6 (15 - (w6 (2 * r13))))] : List Int)), (List.replicate (w6 (((r7 ++ ([(w6 (15 - (w6 (2 * r13))))] : List Int)).length : Int).tdiv 2)).toNat (0 : Int)), 0)).bind fun y14 =>
  some (zdd y14.2.1)) none) else none) else none) none))))
def zaa.k (N : Nat) : Kq := ⟨75, (cvv [Ty.str] [Ty.DataType, Ty.Value] (zaa N)), go [zcp.k, zat.k N, zc0.k N, zfm.k, zah.k] {lits := [31, 35, 92]} [(1, .plain { slots := [(2, .ptr 2 0), (3, .ptr 3 0), (6, .own 5000006 T6), (7, .own 5000007 (Ty.int .u8)), (8, .val T6)], boxes := [(2, Ty.DataType, []), (3, Ty.Value, [])] } [(Ty.sl T6), (Ty.sl (Ty.int .u8)), T6, Ty.DataType, Ty.Value] (zh (zaa.r1 N) N)), (3, .plain { slots := [(6, .own 5000006 T6), (9, .own 5000009 (Ty.int .u8)), (10, .val T6)], boxes := [] } [(Ty.sl T6), (Ty.sl (Ty.int .u8)), T6] (zh (zaa.r3 N) N))] Proofs.Tryz.func75 (hL := ⟨⟨_, _, rfl, by kernel_rfl⟩, ⟨_, _, rfl, by kernel_rfl⟩, trivial⟩)⟩
def zg8 (a0 : ByteArray) (a1 : Int) (a2 : ByteArray) : Option ByteArray :=
 if 0 ≤ a1 ∧ a1 ≤ (a0.size : Int) then (if 0 ≤ (0 : Int) ∧ (0 : Int) ≤ a1 then (if (((a0.extract (0 : Int).toNat a1.toNat).size + a2.size : Nat) : Int) > IntKind.i64.max then none else if 0 ≤ (w6 (a1 + (a2.size : Int))) ∧ (w6 (a1 + (a2.size : Int))) ≤ (a0.size : Int) then (if ((((a0.extract (0 : Int).toNat a1.toNat) ++ a2).size + (a0.extract (w6 (a1 + (a2.size : Int))).toNat a0.size).size : Nat) : Int) > IntKind.i64.max then none else some (((a0.extract (0 : Int).toNat a1.toNat) ++ a2) ++ (a0.extract (w6 (a1 + (a2.size : Int))).toNat a0.size))) else none) else none) else none
def zg8.k : Kq := ⟨92, (cvv [Ty.str] [Ty.str, T6, Ty.str] zg8), go [] {} [] Proofs.Tryz.func92⟩
def zcj.b0 (N : Nat) (s3 : List Int) (s6 : Int) (b1 : zB) (b2 : Storage) (b5 : Storage) : Option (Stp ((List Int) × Int × zB × Storage × Storage)) :=
 cond (decide (s6 < (b1.zA.length : Int))) ((idx b1.zA s6).bind fun x1001 => cond (x1001.Kind == 0) ((idx s3 s6).bind fun x1002 =>
  (zaa N x1001.zK x1001.Value).bind fun r1003 => (zg8 b5.Bytes x1002 r1003).bind fun r1004 =>
  some (.again (s3, (w6 (s6 + 1)), b1, b2, (⟨r1004, b5.Tags⟩ : Storage)))) (some (.again (s3, (w6 (s6 + 1)), b1, b2, b5))))
  (some (.leave (s3, s6, b1, b2, b5)))
def zcj.r0 (N : Nat) (x : (List Int) × Int × zB × Storage × Storage) := zcj.b0 N x.1 x.2.1 x.2.2.1 x.2.2.2.1 x.2.2.2.2
def zcj (N : Nat) (a0 : zB) : Option Storage :=
 (zq N a0).bind fun r1 => (zcv N 0 (w6 (r1.2 * 16))).bind fun r2 => if 0 ≤ r1.2 then (if r1.2 ≤ r1.2 then (cond (Nat.ble (r1.2.toNat * 1) za3)
  ((zh (zcj.r0 N) N (r1.1, 0, a0, (⟨(⟨#[]⟩ : ByteArray), []⟩ : Storage), (⟨r2, (List.replicate r1.2.toNat (false : Bool))⟩ : Storage))).bind fun y3 =>
  some y3.2.2.2.2) none) else none) else none
def zcj.k (N : Nat) : Kq := ⟨51, (cvv [Ty.Storage] [Ty.zB] (zcj N)), go [zq.k N, zaa.k N, zcv.k N, zg8.k] {lits := [44]} [(0, .plain { slots := [(1, .ptr 1 0), (2, .ptr 2 0), (3, .val (Ty.sl T6)), (5, .ptr 5 0), (6, .val T6)], boxes := [(1, Ty.zB, []), (2, Ty.Storage, [1]), (5, Ty.Storage, [1])] } [(Ty.sl T6), T6, Ty.zB, Ty.Storage, Ty.Storage] (zh (zcj.r0 N) N))] Proofs.Tryz.func51 (hL := ⟨⟨_, _, rfl, by kernel_rfl⟩, trivial⟩)⟩
def zk5 (N : Nat) (a0 : zB) : Option zC :=
 (zcj N a0).bind fun r1 => some (⟨r1, 0, [], [], 0, 0, 0⟩ : zC)
def zk5.k (N : Nat) : Kq := ⟨24, (cvv [Ty.zC] [Ty.zB] (zk5 N)), go [zcj.k N] {} [] Proofs.Tryz.func24⟩
def zkh (a0 : List Bool) : Option ((List Bool)) :=
 cond (Nat.ble (a0.length * 1) za3) (some a0) none
def zkh.k : Kq := ⟨99, (ctv [.val (Ty.sl Ty.bool)] [(Ty.sl Ty.bool)] [] [0] [(Ty.sl Ty.bool)] zkh), go [] {} [] Proofs.Tryz.func99⟩
def zf8 (a0 : Storage) : Option Storage :=
 (zkh a0.Tags).bind fun r1 => some (⟨a0.Bytes, r1⟩ : Storage)
def zf8.k : Kq := ⟨58, (ctv [.val Ty.Storage] [Ty.Storage] [] [1] [Ty.Storage] zf8), go [zkh.k] {} [] Proofs.Tryz.func58⟩
def zi7 (a0 : List ByteArray) : Option ((List ByteArray)) :=
 cond (Nat.ble (a0.length * 16) za3) (some a0) none
def zi7.k : Kq := ⟨59, (ctv [.val (Ty.sl Ty.str)] [(Ty.sl Ty.str)] [] [0] [(Ty.sl Ty.str)] zi7), go [] {} [] Proofs.Tryz.func59⟩
def zln (a0 : zC) : Option zC :=
 (zf8 a0.Storage).bind fun r1 => (zhh a0.Stack).bind fun r2 => (zi7 a0.Lines).bind fun r3 =>
  some (⟨r1, a0.At, r2, r3, a0.Status, a0.Exception, a0.Steps⟩ : zC)
def zln.k : Kq := ⟨26, (ctv [.val Ty.zC] [Ty.zC] [] [3, 4] [Ty.zC] zln), go [zhh.k, zf8.k, zi7.k] {} [] Proofs.Tryz.func26⟩
def zek (a0 : zB) (a1 : Int) : Option Bool :=
 (idx a0.zA a1).bind fun x1 => (zb7 x1.zK.Kind).bind fun r2 => some r2
def zek.k : Kq := ⟨78, (cvv [Ty.bool] [Ty.zB, T6] zek), go [zb7.k] {} [] Proofs.Tryz.func78⟩
def zj9 (a0 : Storage) (a1 : Int) : Option Bool :=
 (zf a1 0 (w6 ((a0.Bytes.size : Int) - 16))).bind fun r1 => (cond r1 (some ((a1.tmod 16) == 0)) (some false)).bind fun g2 => some g2
def zj9.k : Kq := ⟨102, (cvv [Ty.bool] [Ty.Storage, T6] zj9), go [zf.k] {} [] Proofs.Tryz.func102⟩
def zkt (a0 : Storage) (a1 : Int) : Option ByteArray :=
 if 0 ≤ (w6 ((w6 (a1 * 16)) + 16)) ∧ (w6 ((w6 (a1 * 16)) + 16)) ≤ (a0.Bytes.size : Int) then (if 0 ≤ (w6 (a1 * 16)) ∧ (w6 (a1 * 16)) ≤ (w6 ((w6 (a1 * 16)) + 16)) then (some (a0.Bytes.extract (w6 (a1 * 16)).toNat (w6 ((w6 (a1 * 16)) + 16)).toNat)) else none) else none
def zkt.k : Kq := ⟨104, (cvv [Ty.str] [Ty.Storage, T6] zkt), go [] {} [] Proofs.Tryz.func104⟩
def zc6.b0 (N : Nat) (s0 : ByteArray) (s1 : Int) (s2 : Int) (s7 : Int) (s8 : Int) : Option (Stp (ByteArray × Int × Int × Int × Int)) :=
 cond (decide (s8 < s2)) ((zgg s0 (w6 (s1 + s8))).bind fun x1001 =>
  some (.again (s0, s1, s2, (w6 ((w6 (s7 * 256)) + (w6 (x1001.toNat : Int)))), (w6 (s8 + 1)))))
  (some (.leave (s0, s1, s2, s7, s8)))
def zc6.r0 (N : Nat) (x : ByteArray × Int × Int × Int × Int) := zc6.b0 N x.1 x.2.1 x.2.2.1 x.2.2.2.1 x.2.2.2.2
def zc6 (N : Nat) (a0 : ByteArray) (a1 : Int) (a2 : Int) : Option Int :=
 (zh (zc6.r0 N) N (a0, a1, a2, 0, 0)).bind fun y1 => some y1.2.2.2.1
def zc6.k (N : Nat) : Kq := ⟨149, (cvv [T6] [Ty.str, T6, T6] (zc6 N)), go [] {} [(0, .plain { slots := [(0, .val Ty.str), (1, .val T6), (2, .val T6), (7, .val T6), (8, .val T6)], boxes := [] } [Ty.str, T6, T6, T6, T6] (zh (zc6.r0 N) N))] Proofs.Tryz.func149 (hL := ⟨⟨_, _, rfl, by kernel_rfl⟩, trivial⟩)⟩
def zhn (a0 : Pointer) : Option Int :=
 (zf a0.Kind 0 2).bind fun r1 => cond (!r1) (some 4) ((zf a0.Address.zV 0 1099511627775).bind fun r2 => (cond (!r2) (some true)
  ((zf a0.Address.Offset 0 16777215).bind fun r3 => some (!r3))).bind fun g4 => (cond g4 (some true) ((zf a0.Authority 0 1023).bind fun r5 =>
  some (!r5))).bind fun g6 => cond g6 (some 3) ((cond (a0.Kind != 1) (some (a0.Authority != 0)) (some false)).bind fun g7 => cond g7 (some 5) (some 0)))
def zhn.k : Kq := ⟨150, (cvv [T6] [Ty.Pointer] zhn), go [zf.k] {} [] Proofs.Tryz.func150⟩
def zm5 (N : Nat) (a0 : ByteArray) : Option (Pointer × Int) :=
 cond ((a0.size : Int) != 16) (some ((⟨0, (⟨0, 0⟩ : Address), 0⟩ : Pointer), 18)) ((zgg a0 1).bind fun x1 => cond ((x1.toNat : Int) != 0)
  (some ((⟨0, (⟨0, 0⟩ : Address), 0⟩ : Pointer), 5)) ((zgg a0 0).bind fun x2 => (zc6 N a0 2 2).bind fun r3 => (zc6 N a0 4 6).bind fun r4 =>
  (zc6 N a0 10 6).bind fun r5 => (zhn (⟨(w6 (x2.toNat : Int)), (⟨r4, r5⟩ : Address), r3⟩ : Pointer)).bind fun r6 => cond (r6 != 0)
  (some ((⟨0, (⟨0, 0⟩ : Address), 0⟩ : Pointer), r6)) (some ((⟨(w6 (x2.toNat : Int)), (⟨r4, r5⟩ : Address), r3⟩ : Pointer), 0))))
def zm5.k (N : Nat) : Kq := ⟨103, (cvv [Ty.Pointer, T6] [Ty.str] (zm5 N)), go [zc6.k N, zhn.k] {} [] Proofs.Tryz.func103⟩
def zg4 (N : Nat) (a0 : Storage) (a1 : Int) : Option (Pointer × Int) :=
 (zj9 a0 a1).bind fun r1 => cond (!r1) (some ((⟨0, (⟨0, 0⟩ : Address), 0⟩ : Pointer), 3)) ((idx a0.Tags (w6 (a1.tdiv 16))).bind fun x2 => cond (!x2)
  (some ((⟨0, (⟨0, 0⟩ : Address), 0⟩ : Pointer), 22)) ((zkt a0 (w6 (a1.tdiv 16))).bind fun r3 => (zm5 N r3).bind fun r4 => some (r4.1, 0)))
def zg4.k (N : Nat) : Kq := ⟨63, (cvv [Ty.Pointer, T6] [Ty.Storage, T6] (zg4 N)), go [zj9.k, zm5.k N, zkt.k] {lits := [25]} [] Proofs.Tryz.func63⟩
def zk0 (a0 : Storage) (a1 : Int) (a2 : Int) : Option Bool :=
 (zf a1 0 (a0.Bytes.size : Int)).bind fun r1 => (cond r1 ((zf a2 0 (w6 ((a0.Bytes.size : Int) - a1))).bind fun r2 => some r2)
  (some false)).bind fun g3 => some g3
def zk0.k : Kq := ⟨123, (cvv [Ty.bool] [Ty.Storage, T6, T6] zk0), go [zf.k] {lits := [10]} [] Proofs.Tryz.func123⟩
def zbv (N : Nat) (a0 : zB) (a1 : zC) (a2 : Int) : Option (Int × Int) :=
 (idx a0.zA a2).bind fun x1 => (zq N a0).bind fun r2 => cond (x1.Kind != 2) ((idx r2.1 a2).bind fun x3 => some (x3, 0)) ((zdu N a0 x1.Base).bind fun r4 =>
  (idx r2.1 r4).bind fun x5 => (zg4 N a1.Storage x5).bind fun r6 => cond (r6.2 != 0) (some (0, 4)) ((zcp x1.zK).bind fun r7 =>
  (zk0 a1.Storage (w6 (r6.1.Address.Offset + x1.Offset)) r7).bind fun r8 => cond (!r8) (some (0, 5))
  (some ((w6 (r6.1.Address.Offset + x1.Offset)), 0))))
def zbv.k (N : Nat) : Kq := ⟨76, (cvv [T6, T6] [Ty.zB, Ty.zC, T6] (zbv N)), go [zq.k N, zg4.k N, zcp.k, zdu.k N, zk0.k] {lits := [57]} [] Proofs.Tryz.func76⟩
def zd4 (N : Nat) (a0 : zB) (a1 : zC) (a2 : Int) : Option (ByteArray × Int) :=
 (idx a0.zA a2).bind fun x1 => cond (x1.Kind == 4) ((zaa N x1.zK x1.Value).bind fun r2 => some (r2, 0)) ((zbv N a0 a1 a2).bind fun r3 => cond (r3.2 != 0)
  (some ((⟨#[]⟩ : ByteArray), r3.2)) ((zcp x1.zK).bind fun r4 =>
  if 0 ≤ (w6 (r3.1 + r4)) ∧ (w6 (r3.1 + r4)) ≤ (a1.Storage.Bytes.size : Int) then (if 0 ≤ r3.1 ∧ r3.1 ≤ (w6 (r3.1 + r4)) then (some ((a1.Storage.Bytes.extract r3.1.toNat (w6 (r3.1 + r4)).toNat), 0)) else none) else none))
def zd4.k (N : Nat) : Kq := ⟨37, (cvv [Ty.str, T6] [Ty.zB, Ty.zC, T6] (zd4 N)), go [zaa.k N, zbv.k N, zcp.k] {} [] Proofs.Tryz.func37⟩
def ze4 (N : Nat) (a0 : ByteArray) (a1 : Int) : Option ByteArray :=
 cond (decide ((a0.size : Int) ≥ a1))
  (if 0 ≤ a1 ∧ a1 ≤ (a0.size : Int) then (if 0 ≤ (0 : Int) ∧ (0 : Int) ≤ a1 then (some (a0.extract (0 : Int).toNat a1.toNat)) else none) else none)
  ((zcv N 32 (w6 (a1 - (a0.size : Int)))).bind fun r1 => if ((a0.size + r1.size : Nat) : Int) > IntKind.i64.max then none else some (a0 ++ r1))
def ze4.k (N : Nat) : Kq := ⟨166, (cvv [Ty.str] [Ty.str, T6] (ze4 N)), go [zcv.k N] {} [] Proofs.Tryz.func166⟩
def zbp.b0 (N : Nat) (s1 : Int) (s2 : ByteArray) (s8 : Int) (b6 : Storage) (b7 : Storage) : Option (Stp (Int × ByteArray × Int × Storage × Storage)) :=
 cond (decide (s8 < (s2.size : Int)))
  (if 0 ≤ (w6 ((w6 (s1 + s8)).tdiv 16)) then (if (w6 ((w6 (s1 + s8)).tdiv 16)) < (b7.Tags.length : Int) then ((b7.Tags[(w6 ((w6 (s1 + s8)).tdiv 16)).toNat]?).bind fun x1001 =>
  some (.again (s1, s2, (w6 (s8 + 1)), b6, (⟨b7.Bytes, (b7.Tags.set ((w6 ((w6 (s1 + s8)).tdiv 16)).toNat) false)⟩ : Storage)))) else none) else none)
  (some (.leave (s1, s2, s8, b6, b7)))
def zbp.r0 (N : Nat) (x : Int × ByteArray × Int × Storage × Storage) := zbp.b0 N x.1 x.2.1 x.2.2.1 x.2.2.2.1 x.2.2.2.2
def zbp (N : Nat) (a0 : Storage) (a1 : Int) (a2 : ByteArray) : Option Storage :=
 (zf8 a0).bind fun r1 => (zg8 a0.Bytes a1 a2).bind fun r2 =>
  (zh (zbp.r0 N) N (a1, a2, 0, (⟨(⟨#[]⟩ : ByteArray), []⟩ : Storage), (⟨r2, r1.Tags⟩ : Storage))).bind fun y3 => some y3.2.2.2.2
def zbp.k (N : Nat) : Kq := ⟨165, (ctv [.val Ty.Storage, .val T6, .val Ty.str] [Ty.Storage] [] [1] [Ty.Storage, T6, Ty.str] (zbp N)), go [zf8.k, zg8.k] {} [(0, .plain { slots := [(1, .val T6), (2, .val Ty.str), (6, .ptr 6 0), (7, .ptr 7 0), (8, .val T6)], boxes := [(6, Ty.Storage, [1]), (7, Ty.Storage, [1])] } [T6, Ty.str, T6, Ty.Storage, Ty.Storage] (zh (zbp.r0 N) N))] Proofs.Tryz.func165 (hL := ⟨⟨_, _, rfl, by kernel_rfl⟩, trivial⟩)⟩
def zfj (a0 : Int) (a1 : Int) : Option (Int × Bool) :=
 (cond (a1 == 11) (some true) (some (a1 == 13))).bind fun g1 => cond g1 (some ((w6 (0 - a0)), (decide (a1 ≥ 10)))) (some (a0, (decide (a1 ≥ 10))))
def zfj.k : Kq := ⟨230, (cvv [T6, Ty.bool] [T6, T6] zfj), go [] {} [] Proofs.Tryz.func230⟩
def zbd.b0 (N : Nat) (s0 : ByteArray) (s5 : Int) (s6 : Int) (s7 : Int) (b2 : Value) : Option (Round (Value × Int × Int) (ByteArray × Int × Int × Int × Value)) :=
 cond (decide (s7 < (s0.size : Int))) (cond (s7 == (w6 ((s0.size : Int) - 1))) ((zgg s0 s7).bind fun x1001 =>
  (cond (decide ((w6 ((w6 (x1001.toNat : Int)).tdiv 16)) < 10)) (some true) ((zgg s0 s7).bind fun x1002 =>
  some (decide (((x1002.toNat : Int).tmod 16) > 9)))).bind fun g1003 => cond g1003 (some (.result ((⟨0, (⟨#[]⟩ : ByteArray)⟩ : Value), s7, 21))) ((zgg s0 s7).bind fun x1004 =>
  some (.again (s0, (w6 ((w6 (10 * s5)) + ((w6 (x1004.toNat : Int)).tmod 16))), (w6 ((w6 (x1001.toNat : Int)).tdiv 16)), (w6 (s7 + 1)), b2))))
  ((cond (decide (s6 < 10)) (some true) ((zgg s0 s7).bind fun x1005 => some (decide (((x1005.toNat : Int).tmod 16) > 9)))).bind fun g1006 =>
  cond g1006 (some (.result ((⟨0, (⟨#[]⟩ : ByteArray)⟩ : Value), s7, 21))) ((zgg s0 s7).bind fun x1007 =>
  some (.again (s0, (w6 ((w6 (10 * s5)) + ((w6 (x1007.toNat : Int)).tmod 16))), s6, (w6 (s7 + 1)), b2)))))
  (some (.leave (s0, s5, s6, s7, b2)))
def zbd.r0 (N : Nat) (x : ByteArray × Int × Int × Int × Value) := zbd.b0 N x.1 x.2.1 x.2.2.1 x.2.2.2.1 x.2.2.2.2
def zbd (N : Nat) (a0 : ByteArray) : Option (Value × Int × Int) :=
 (zp (zbd.r0 N) N (a0, 0, 15, 0, (⟨0, (⟨#[]⟩ : ByteArray)⟩ : Value))).bind fun z2 => zdt z2 (fun z => some z) (fun y1 =>
  (zfj y1.2.1 y1.2.2.1).bind fun r3 => some ((⟨r3.1, (⟨#[]⟩ : ByteArray)⟩ : Value), 0, 0))
def zbd.k (N : Nat) : Kq := ⟨181, (cvv [Ty.Value, T6, T6] [Ty.str] (zbd N)), go [zfj.k] {} [(0, .rets { slots := [(0, .val Ty.str), (2, .ptr 2 0), (5, .val T6), (6, .val T6), (7, .val T6)], boxes := [(2, Ty.Value, [])] } [Ty.str, T6, T6, T6, Ty.Value] (zp (zbd.r0 N) N))] Proofs.Tryz.func181 (hL := ⟨⟨_, _, rfl, by kernel_rfl⟩, trivial⟩)⟩
def zba.b0 (N : Nat) (s1 : ByteArray) (s7 : Int) (s8 : Int) (b2 : DataType) (b4 : Value) : Option (Round (Value × Int × Int) (ByteArray × Int × Int × DataType × Value)) :=
 cond (decide (s8 < (w6 (2 * (s1.size : Int))))) ((zgg s1 (w6 (s8.tdiv 2))).bind fun x1001 => cond ((s8.tmod 2) == 1)
  ((zgg s1 (w6 (s8.tdiv 2))).bind fun x1002 => cond (s8 == (w6 ((w6 (2 * (s1.size : Int))) - 1)))
  ((cond (decide (((w6 (x1002.toNat : Int)).tmod 16) < 10)) (some true) ((cond (s8 == 0) (some ((b2.Length.tmod 2) == 0)) (some false)).bind fun g1003 =>
  (cond g1003 (some (((w6 (x1002.toNat : Int)).tmod 16) != 0)) (some false)).bind fun g1004 => some g1004)).bind fun g1005 =>
  cond g1005 (some (.result ((⟨0, (⟨#[]⟩ : ByteArray)⟩ : Value), (w6 (s8.tdiv 2)), 21)))
  (cond (s8 == (w6 ((w6 (2 * (s1.size : Int))) - 1))) ((zfj s7 ((w6 (x1002.toNat : Int)).tmod 16)).bind fun r1006 =>
  some (.again (s1, r1006.1, (w6 (s8 + 1)), b2, b4)))
  (some (.again (s1, (w6 ((w6 (10 * s7)) + ((w6 (x1002.toNat : Int)).tmod 16))), (w6 (s8 + 1)), b2, b4)))))
  ((cond (decide (((w6 (x1002.toNat : Int)).tmod 16) > 9)) (some true) ((cond (s8 == 0) (some ((b2.Length.tmod 2) == 0)) (some false)).bind fun g1007 =>
  (cond g1007 (some (((w6 (x1002.toNat : Int)).tmod 16) != 0)) (some false)).bind fun g1008 => some g1008)).bind fun g1009 =>
  cond g1009 (some (.result ((⟨0, (⟨#[]⟩ : ByteArray)⟩ : Value), (w6 (s8.tdiv 2)), 21)))
  (cond (s8 == (w6 ((w6 (2 * (s1.size : Int))) - 1))) ((zfj s7 ((w6 (x1002.toNat : Int)).tmod 16)).bind fun r1010 =>
  some (.again (s1, r1010.1, (w6 (s8 + 1)), b2, b4)))
  (some (.again (s1, (w6 ((w6 (10 * s7)) + ((w6 (x1002.toNat : Int)).tmod 16))), (w6 (s8 + 1)), b2, b4))))))
  (cond (s8 == (w6 ((w6 (2 * (s1.size : Int))) - 1))) ((cond (decide ((w6 ((w6 (x1001.toNat : Int)).tdiv 16)) < 10))
  (some true) ((cond (s8 == 0) (some ((b2.Length.tmod 2) == 0)) (some false)).bind fun g1011 =>
  (cond g1011 (some ((w6 ((w6 (x1001.toNat : Int)).tdiv 16)) != 0)) (some false)).bind fun g1012 => some g1012)).bind fun g1013 =>
  cond g1013 (some (.result ((⟨0, (⟨#[]⟩ : ByteArray)⟩ : Value), (w6 (s8.tdiv 2)), 21)))
  (cond (s8 == (w6 ((w6 (2 * (s1.size : Int))) - 1)))
  ((zfj s7 (w6 ((w6 (x1001.toNat : Int)).tdiv 16))).bind fun r1014 => some (.again (s1, r1014.1, (w6 (s8 + 1)), b2, b4)))
  (some (.again (s1, (w6 ((w6 (10 * s7)) + (w6 ((w6 (x1001.toNat : Int)).tdiv 16)))), (w6 (s8 + 1)), b2, b4)))))
  ((cond (decide ((w6 ((w6 (x1001.toNat : Int)).tdiv 16)) > 9)) (some true) ((cond (s8 == 0) (some ((b2.Length.tmod 2) == 0))
  (some false)).bind fun g1015 => (cond g1015 (some ((w6 ((w6 (x1001.toNat : Int)).tdiv 16)) != 0)) (some false)).bind fun g1016 =>
  some g1016)).bind fun g1017 => cond g1017 (some (.result ((⟨0, (⟨#[]⟩ : ByteArray)⟩ : Value), (w6 (s8.tdiv 2)), 21)))
  (cond (s8 == (w6 ((w6 (2 * (s1.size : Int))) - 1)))
  ((zfj s7 (w6 ((w6 (x1001.toNat : Int)).tdiv 16))).bind fun r1018 => some (.again (s1, r1018.1, (w6 (s8 + 1)), b2, b4)))
  (some (.again (s1, (w6 ((w6 (10 * s7)) + (w6 ((w6 (x1001.toNat : Int)).tdiv 16)))), (w6 (s8 + 1)), b2, b4)))))))
  (some (.leave (s1, s7, s8, b2, b4)))
def zba.r0 (N : Nat) (x : ByteArray × Int × Int × DataType × Value) := zba.b0 N x.1 x.2.1 x.2.2.1 x.2.2.2.1 x.2.2.2.2
def zba (N : Nat) (a0 : DataType) (a1 : ByteArray) : Option (Value × Int × Int) :=
 (zp (zba.r0 N) N (a1, 0, 0, a0, (⟨0, (⟨#[]⟩ : ByteArray)⟩ : Value))).bind fun z2 => zdt z2 (fun z => some z) (fun y1 =>
  some ((⟨y1.2.1, (⟨#[]⟩ : ByteArray)⟩ : Value), 0, 0))
def zba.k (N : Nat) : Kq := ⟨182, (cvv [Ty.Value, T6, T6] [Ty.DataType, Ty.str] (zba N)), go [zfj.k] {} [(0, .rets { slots := [(1, .val Ty.str), (2, .ptr 2 0), (4, .ptr 4 0), (7, .val T6), (8, .val T6)], boxes := [(2, Ty.DataType, []), (4, Ty.Value, [])] } [Ty.str, T6, T6, Ty.DataType, Ty.Value] (zp (zba.r0 N) N))] Proofs.Tryz.func182 (hL := ⟨⟨_, _, rfl, by kernel_rfl⟩, trivial⟩)⟩
def zka (N : Nat) (a0 : DataType) (a1 : ByteArray) : Option (Value × Int × Int) :=
 (zef a0).bind fun r1 => cond (r1 != 0) (some ((⟨0, (⟨#[]⟩ : ByteArray)⟩ : Value), 0, r1)) (cond (a0.Kind == 4) (some ((⟨0, (⟨#[]⟩ : ByteArray)⟩ : Value), 0, 17))
  ((zcp a0).bind fun r2 => cond ((a1.size : Int) != r2) (some ((⟨0, (⟨#[]⟩ : ByteArray)⟩ : Value), 0, 18)) (cond (a0.Kind == 0) (some ((⟨0, a1⟩ : Value), 0, 0))
  (cond (a0.Kind == 3) ((zc6 N a1 0 (a1.size : Int)).bind fun r3 => (zgg a1 0).bind fun x4 => cond (decide ((x4.toNat : Int) ≥ 128))
  (if (w6 (8 * (a1.size : Int))) < 0 then none else (zgi N a0).bind fun r5 => (zgi N a0).bind fun r6 =>
  (zf (w6 (r3 - (w6 (1 * 2 ^ (min (w6 (8 * (a1.size : Int))).toNat 64))))) (w6 (0 - r5)) r6).bind fun r7 =>
  cond (!r7) (some ((⟨0, (⟨#[]⟩ : ByteArray)⟩ : Value), 0, 19))
  (some ((⟨(w6 (r3 - (w6 (1 * 2 ^ (min (w6 (8 * (a1.size : Int))).toNat 64))))), (⟨#[]⟩ : ByteArray)⟩ : Value), 0, 0)))
  ((zgi N a0).bind fun r8 => (zgi N a0).bind fun r9 => (zf r3 (w6 (0 - r8)) r9).bind fun r10 => cond (!r10)
  (some ((⟨0, (⟨#[]⟩ : ByteArray)⟩ : Value), 0, 19)) (some ((⟨r3, (⟨#[]⟩ : ByteArray)⟩ : Value), 0, 0)))) (cond (a0.Kind == 2) ((zbd N a1).bind fun r11 =>
  some (r11.1, r11.2.1, r11.2.2)) ((zba N a0 a1).bind fun r12 => some (r12.1, r12.2.1, r12.2.2)))))))
def zka.k (N : Nat) : Kq := ⟨125, (cvv [Ty.Value, T6, T6] [Ty.DataType, Ty.str] (zka N)), go [zf.k, zcp.k, zef.k, zc6.k N, zgi.k N, zbd.k N, zba.k N] {lits := [35, 51]} [] Proofs.Tryz.func125⟩
def zbu (N : Nat) (a0 : zB) (a1 : zC) (a2 : Int) : Option (Number × Int) :=
 (zd4 N a0 a1 a2).bind fun r1 => cond (r1.2 != 0) (some ((⟨0, 0⟩ : Number), r1.2)) ((idx a0.zA a2).bind fun x2 => (zka N x2.zK r1.1).bind fun r3 =>
  cond (r3.2.2 != 0) (some ((⟨0, 0⟩ : Number), 1)) (some ((⟨r3.1.N, x2.zK.Scale⟩ : Number), 0)))
def zbu.k (N : Nat) : Kq := ⟨79, (cvv [Ty.Number, T6] [Ty.zB, Ty.zC, T6] (zbu N)), go [zd4.k N, zka.k N] {} [] Proofs.Tryz.func79⟩
def zfa (a0 : Number) : Option Int :=
 (zf a0.N (-999999999999999) 999999999999999).bind fun r1 => (cond r1 ((zf a0.Scale 0 15).bind fun r2 => some r2) (some false)).bind fun g3 =>
  (zah (!g3)).bind fun r4 => some (w6 (3 * r4))
def zfa.k : Kq := ⟨220, (cvv [T6] [Ty.Number] zfa), go [zf.k, zah.k] {} [] Proofs.Tryz.func220⟩
def zfk (a0 : DataType) : Option Int :=
 (zef a0).bind fun r1 => cond (r1 != 0) (some r1) ((zb7 a0.Kind).bind fun r2 => (zah (!r2)).bind fun r3 => some (w6 (17 * r3)))
def zfk.k : Kq := ⟨221, (cvv [T6] [Ty.DataType] zfk), go [zah.k, zb7.k, zef.k] {} [] Proofs.Tryz.func221⟩
def zb2.b0 (N : Nat) (s0 : List Int) : Option (Stp (List Int)) :=
 (cond (decide ((s0.length : Int) > 0)) ((idx s0 (w6 ((s0.length : Int) - 1))).bind fun x1001 => some (x1001 == 0)) (some false)).bind fun g1002 =>
  cond g1002 (if 0 ≤ (w6 ((s0.length : Int) - 1)) ∧ (w6 ((s0.length : Int) - 1)) ≤ (s0.length : Int) then (if 0 ≤ (0 : Int) ∧ (0 : Int) ≤ (w6 ((s0.length : Int) - 1)) then (some (.again ((s0.take (w6 ((s0.length : Int) - 1)).toNat).drop (0 : Int).toNat))) else none) else none)
  (some (.leave s0))
def zb2.r0 (N : Nat) (x : (List Int)) := zb2.b0 N x
def zb2 (N : Nat) (a0 : List Int) : Option ((List Int)) :=
 (zh (zb2.r0 N) N a0).bind fun y1 => some y1
def zb2.k (N : Nat) : Kq := ⟨269, (cvv [(Ty.sl T6)] [(Ty.sl T6)] (zb2 N)), go [] {} [(0, .plain { slots := [(0, .val (Ty.sl T6))], boxes := [] } [(Ty.sl T6)] (zh (zb2.r0 N) N))] Proofs.Tryz.func269 (hL := ⟨⟨_, _, rfl, by kernel_rfl⟩, trivial⟩)⟩
def zcl.b0 (N : Nat) (s0 : Int) (s5 : List Int) (s6 : Int) (b4 : zJ) : Option (Stp (Int × (List Int) × Int × zJ)) :=
 cond (decide (s6 > 0)) (cond (Nat.ble ((s5.length + ([(s6.tmod 10)] : List Int).length) * 8) za3)
  (some (.again (s0, (s5 ++ ([(s6.tmod 10)] : List Int)), (w6 (s6.tdiv 10)), b4))) none) (some (.leave (s0, s5, s6, b4)))
def zcl.r0 (N : Nat) (x : Int × (List Int) × Int × zJ) := zcl.b0 N x.1 x.2.1 x.2.2.1 x.2.2.2
def zcl (N : Nat) (a0 : Int) (a1 : Int) : Option zJ :=
 if 0 ≤ a1 then (if a1 ≤ a1 then (cond (Nat.ble (a1.toNat * 8) za3) ((zfm a0).bind fun r1 =>
  (zh (zcl.r0 N) N (a0, (List.replicate a1.toNat (0 : Int)), r1, (⟨false, []⟩ : zJ))).bind fun y2 => (zb2 N y2.2.1).bind fun r3 =>
  some (⟨(decide (y2.1 < 0)), r3⟩ : zJ)) none) else none) else none
def zcl.k (N : Nat) : Kq := ⟨253, (cvv [Ty.zJ] [T6, T6] (zcl N)), go [zfm.k, zb2.k N] {lits := [18]} [(0, .plain { slots := [(0, .val T6), (4, .ptr 4 0), (5, .own 5000005 T6), (6, .val T6)], boxes := [(4, Ty.zJ, [1])] } [T6, (Ty.sl T6), T6, Ty.zJ] (zh (zcl.r0 N) N))] Proofs.Tryz.func253 (hL := ⟨⟨_, _, rfl, by kernel_rfl⟩, trivial⟩)⟩
def zgd (a0 : Int) : Option ((List Int)) :=
 if 0 ≤ a0 then (if a0 ≤ a0 then (cond (Nat.ble (a0.toNat * 8) za3) (cond (Nat.ble (((List.replicate a0.toNat (0 : Int)).length + ([1] : List Int).length) * 8) za3)
  (some ((List.replicate a0.toNat (0 : Int)) ++ ([1] : List Int))) none) none) else none) else none
def zgd.k : Kq := ⟨248, (cvv [(Ty.sl T6)] [T6] zgd), go [] {lits := [5]} [] Proofs.Tryz.func248⟩
def zi2 (N : Nat) (a0 : Number) : Option zP :=
 (zcl N a0.N 0).bind fun r1 => (zgd a0.Scale).bind fun r2 => some (⟨r1, r2⟩ : zP)
def zi2.k (N : Nat) : Kq := ⟨226, (cvv [Ty.zP] [Ty.Number] (zi2 N)), go [zgd.k, zcl.k N] {} [] Proofs.Tryz.func226⟩
def zct.b0 (N : Nat) (s0 : List Int) (s1 : List Int) (s5 : Int) : Option (Round Int ((List Int) × (List Int) × Int)) :=
 cond (decide (s5 ≥ 0)) ((idx s0 s5).bind fun x1001 => (idx s1 s5).bind fun x1002 => cond (x1001 != x1002) ((idx s0 s5).bind fun x1003 => (idx s1 s5).bind fun x1004 =>
  (zah (decide (x1003 > x1004))).bind fun r1005 => some (.result (w6 ((w6 (2 * r1005)) - 1))))
  (some (.again (s0, s1, (w6 (s5 - 1)))))) (some (.leave (s0, s1, s5)))
def zct.r0 (N : Nat) (x : (List Int) × (List Int) × Int) := zct.b0 N x.1 x.2.1 x.2.2
def zct (N : Nat) (a0 : List Int) (a1 : List Int) : Option Int :=
 cond ((a0.length : Int) != (a1.length : Int)) ((zah (decide ((a0.length : Int) > (a1.length : Int)))).bind fun r1 =>
  some (w6 ((w6 (2 * r1)) - 1))) ((zp (zct.r0 N) N (a0, a1, (w6 ((a0.length : Int) - 1)))).bind fun z3 => zdt z3 (fun z =>
  some z) (fun y2 => some 0))
def zct.k (N : Nat) : Kq := ⟨255, (cvv [T6] [(Ty.sl T6), (Ty.sl T6)] (zct N)), go [zah.k] {} [(0, .rets { slots := [(0, .val (Ty.sl T6)), (1, .val (Ty.sl T6)), (5, .val T6)], boxes := [] } [(Ty.sl T6), (Ty.sl T6), T6] (zp (zct.r0 N) N))] Proofs.Tryz.func255 (hL := ⟨⟨_, _, rfl, by kernel_rfl⟩, trivial⟩)⟩
def zc7.b0 (N : Nat) (s0 : List Int) (s1 : List Int) (s5 : List Int) (s6 : Int) (s7 : Int) : Option (Stp ((List Int) × (List Int) × (List Int) × Int × Int)) :=
 cond (decide (s7 < (s0.length : Int))) ((idx s0 s7).bind fun x1001 => cond (decide (s7 < (s1.length : Int))) ((idx s1 s7).bind fun x1002 =>
  (zah (decide ((w6 ((w6 (x1001 - s6)) - x1002)) < 0))).bind fun r1003 =>
  cond (Nat.ble ((s5.length + ([(w6 ((w6 ((w6 (x1001 - s6)) - x1002)) + (w6 (10 * r1003))))] : List Int).length) * 8) za3)
  (some (.again (s0, s1, (s5 ++ ([(w6 ((w6 ((w6 (x1001 - s6)) - x1002)) + (w6 (10 * r1003))))] : List Int)), r1003, (w6 (s7 + 1))))) none)
  ((zah (decide ((w6 (x1001 - s6)) < 0))).bind fun r1004 =>
  cond (Nat.ble ((s5.length + ([(w6 ((w6 (x1001 - s6)) + (w6 (10 * r1004))))] : List Int).length) * 8) za3)
  (some (.again (s0, s1, (s5 ++ ([(w6 ((w6 (x1001 - s6)) + (w6 (10 * r1004))))] : List Int)), r1004, (w6 (s7 + 1))))) none))
  (some (.leave (s0, s1, s5, s6, s7)))
def zc7.r0 (N : Nat) (x : (List Int) × (List Int) × (List Int) × Int × Int) := zc7.b0 N x.1 x.2.1 x.2.2.1 x.2.2.2.1 x.2.2.2.2
def zc7 (N : Nat) (a0 : List Int) (a1 : List Int) : Option ((List Int)) :=
 (zh (zc7.r0 N) N (a0, a1, [], 0, 0)).bind fun y1 => (zb2 N y1.2.2.1).bind fun r2 => some r2
def zc7.k (N : Nat) : Kq := ⟨256, (cvv [(Ty.sl T6)] [(Ty.sl T6), (Ty.sl T6)] (zc7 N)), go [zah.k, zb2.k N] {lits := [39]} [(0, .plain { slots := [(0, .val (Ty.sl T6)), (1, .val (Ty.sl T6)), (5, .own 5000005 T6), (6, .val T6), (7, .val T6)], boxes := [] } [(Ty.sl T6), (Ty.sl T6), (Ty.sl T6), T6, T6] (zh (zc7.r0 N) N))] Proofs.Tryz.func256 (hL := ⟨⟨_, _, rfl, by kernel_rfl⟩, trivial⟩)⟩
def za1.b2 (N : Nat) (s0 : List Int) (s1 : List Int) (s6 : List Int) (s7 : List Int) (s8 : Int) : Option (Stp ((List Int) × (List Int) × (List Int) × (List Int) × Int)) :=
 (zct N s7 s1).bind fun r3001 => cond (decide (r3001 ≥ 0)) ((zc7 N s7 s1).bind fun r3002 =>
  if 0 ≤ s8 then (if s8 < (s6.length : Int) then ((s6[s8.toNat]?).bind fun x3003 => if 0 ≤ s8 then (if s8 < (s6.length : Int) then ((s6[s8.toNat]?).bind fun x3004 =>
  some (.again (s0, s1, (s6.set s8.toNat (w6 (x3003 + 1))), r3002, s8))) else none) else none) else none) else none) (some (.leave (s0, s1, s6, s7, s8)))
def za1.r2 (N : Nat) (x : (List Int) × (List Int) × (List Int) × (List Int) × Int) := za1.b2 N x.1 x.2.1 x.2.2.1 x.2.2.2.1 x.2.2.2.2
def za1.b0 (N : Nat) (s0 : List Int) (s1 : List Int) (s6 : List Int) (s7 : List Int) (s8 : Int) : Option (Stp ((List Int) × (List Int) × (List Int) × (List Int) × Int)) :=
 cond (decide (s8 ≥ 0)) ((idx s0 s8).bind fun x1001 => cond (Nat.ble ((([x1001] : List Int).length + s7.length) * 8) za3)
  ((zb2 N (([x1001] : List Int) ++ s7)).bind fun r1002 => (zh (za1.r2 N) N (s0, s1, s6, r1002, s8)).bind fun y1003 =>
  some (.again (y1003.1, y1003.2.1, y1003.2.2.1, y1003.2.2.2.1, (w6 (y1003.2.2.2.2 - 1))))) none) (some (.leave (s0, s1, s6, s7, s8)))
def za1.r0 (N : Nat) (x : (List Int) × (List Int) × (List Int) × (List Int) × Int) := za1.b0 N x.1 x.2.1 x.2.2.1 x.2.2.2.1 x.2.2.2.2
def za1 (N : Nat) (a0 : List Int) (a1 : List Int) : Option ((List Int) × (List Int)) :=
 if 0 ≤ (a0.length : Int) then (if (a0.length : Int) ≤ (a0.length : Int) then (cond (Nat.ble ((a0.length : Int).toNat * 8) za3)
  ((zh (za1.r0 N) N (a0, a1, (List.replicate (a0.length : Int).toNat (0 : Int)), [], (w6 ((a0.length : Int) - 1)))).bind fun y1 =>
  (zb2 N y1.2.2.1).bind fun r2 => some (r2, y1.2.2.2.1)) none) else none) else none
def za1.k (N : Nat) : Kq := ⟨250, (cvv [(Ty.sl T6), (Ty.sl T6)] [(Ty.sl T6), (Ty.sl T6)] (za1 N)), go [zct.k N, zc7.k N, zb2.k N] {lits := [25]} [(2, .plain { slots := [(0, .val (Ty.sl T6)), (1, .val (Ty.sl T6)), (6, .own 5000006 T6), (7, .val (Ty.sl T6)), (8, .val T6)], boxes := [] } [(Ty.sl T6), (Ty.sl T6), (Ty.sl T6), (Ty.sl T6), T6] (zh (za1.r2 N) N)), (0, .plain { slots := [(0, .val (Ty.sl T6)), (1, .val (Ty.sl T6)), (6, .own 5000006 T6), (7, .val (Ty.sl T6)), (8, .val T6)], boxes := [] } [(Ty.sl T6), (Ty.sl T6), (Ty.sl T6), (Ty.sl T6), T6] (zh (za1.r0 N) N))] Proofs.Tryz.func250 (hL := ⟨⟨_, _, rfl, by kernel_rfl⟩, ⟨_, _, rfl, by kernel_rfl⟩, trivial⟩)⟩
def zcq.b0 (N : Nat) (s0 : List Int) (s1 : List Int) (s5 : List Int) (s6 : Int) (s7 : Int) : Option (Stp ((List Int) × (List Int) × (List Int) × Int × Int)) :=
 (cond (decide (s7 < (s0.length : Int))) (some true) (some (decide (s7 < (s1.length : Int))))).bind fun g1001 => (cond g1001 (some true) (some (decide (s6 > 0)))).bind fun g1002 =>
  cond g1002 (cond (decide (s7 < (s0.length : Int))) ((idx s0 s7).bind fun x1003 => cond (decide (s7 < (s1.length : Int))) ((idx s1 s7).bind fun x1004 =>
  cond (Nat.ble ((s5.length + ([((w6 ((w6 (s6 + x1003)) + x1004)).tmod 10)] : List Int).length) * 8) za3)
  (some (.again (s0, s1, (s5 ++ ([((w6 ((w6 (s6 + x1003)) + x1004)).tmod 10)] : List Int)), (w6 ((w6 ((w6 (s6 + x1003)) + x1004)).tdiv 10)), (w6 (s7 + 1))))) none)
  (cond (Nat.ble ((s5.length + ([((w6 (s6 + x1003)).tmod 10)] : List Int).length) * 8) za3)
  (some (.again (s0, s1, (s5 ++ ([((w6 (s6 + x1003)).tmod 10)] : List Int)), (w6 ((w6 (s6 + x1003)).tdiv 10)), (w6 (s7 + 1))))) none))
  (cond (decide (s7 < (s1.length : Int))) ((idx s1 s7).bind fun x1005 => cond (Nat.ble ((s5.length + ([((w6 (s6 + x1005)).tmod 10)] : List Int).length) * 8) za3)
  (some (.again (s0, s1, (s5 ++ ([((w6 (s6 + x1005)).tmod 10)] : List Int)), (w6 ((w6 (s6 + x1005)).tdiv 10)), (w6 (s7 + 1))))) none)
  (cond (Nat.ble ((s5.length + ([(s6.tmod 10)] : List Int).length) * 8) za3)
  (some (.again (s0, s1, (s5 ++ ([(s6.tmod 10)] : List Int)), (w6 (s6.tdiv 10)), (w6 (s7 + 1))))) none))) (some (.leave (s0, s1, s5, s6, s7)))
def zcq.r0 (N : Nat) (x : (List Int) × (List Int) × (List Int) × Int × Int) := zcq.b0 N x.1 x.2.1 x.2.2.1 x.2.2.2.1 x.2.2.2.2
def zcq (N : Nat) (a0 : List Int) (a1 : List Int) : Option ((List Int)) :=
 (zh (zcq.r0 N) N (a0, a1, [], 0, 0)).bind fun y1 => some y1.2.2.1
def zcq.k (N : Nat) : Kq := ⟨254, (cvv [(Ty.sl T6)] [(Ty.sl T6), (Ty.sl T6)] (zcq N)), go [] {lits := [49]} [(0, .plain { slots := [(0, .val (Ty.sl T6)), (1, .val (Ty.sl T6)), (5, .own 5000005 T6), (6, .val T6), (7, .val T6)], boxes := [] } [(Ty.sl T6), (Ty.sl T6), (Ty.sl T6), T6, T6] (zh (zcq.r0 N) N))] Proofs.Tryz.func254 (hL := ⟨⟨_, _, rfl, by kernel_rfl⟩, trivial⟩)⟩
def zju (N : Nat) (a0 : zP) (a1 : Int) (a2 : Bool) : Option zJ :=
 if 0 ≤ a1 then (if a1 ≤ a1 then (cond (Nat.ble (a1.toNat * 8) za3) (cond (Nat.ble (((List.replicate a1.toNat (0 : Int)).length + a0.Top.zQ.length) * 8) za3)
  ((zb2 N ((List.replicate a1.toNat (0 : Int)) ++ a0.Top.zQ)).bind fun r1 => (za1 N r1 a0.zW).bind fun r2 =>
  (cond a2 ((zcq N r2.2 r2.2).bind fun r3 => (zct N r3 a0.zW).bind fun r4 => some (decide (r4 ≥ 0))) (some false)).bind fun g5 =>
  cond g5 ((zcq N r2.1 ([1] : List Int)).bind fun r6 => (cond a0.Top.Below (some (decide ((r6.length : Int) > 0))) (some false)).bind fun g7 => some (⟨g7, r6⟩ : zJ))
  ((cond a0.Top.Below (some (decide ((r2.1.length : Int) > 0))) (some false)).bind fun g8 => some (⟨g8, r2.1⟩ : zJ))) none) none) else none) else none
def zju.k (N : Nat) : Kq := ⟨251, (cvv [Ty.zJ] [Ty.zP, T6, Ty.bool] (zju N)), go [za1.k N, zcq.k N, zct.k N, zb2.k N] {pre := [(2, [7])], lits := [18, 28, 35]} [] Proofs.Tryz.func251⟩
def zc8.b0 (N : Nat) (s3 : Int) (s4 : Int) (b1 : zJ) : Option (Stp (Int × Int × zJ)) :=
 cond (decide (s4 ≥ 0)) ((idx b1.zQ s4).bind fun x1001 => some (.again ((w6 ((w6 (10 * s3)) + x1001)), (w6 (s4 - 1)), b1)))
  (some (.leave (s3, s4, b1)))
def zc8.r0 (N : Nat) (x : Int × Int × zJ) := zc8.b0 N x.1 x.2.1 x.2.2
def zc8 (N : Nat) (a0 : zJ) : Option Int :=
 (zh (zc8.r0 N) N (0, (w6 ((a0.zQ.length : Int) - 1)), a0)).bind fun y1 => cond y1.2.2.Below (some (w6 (0 - y1.1))) (some y1.1)
def zc8.k (N : Nat) : Kq := ⟨252, (cvv [T6] [Ty.zJ] (zc8 N)), go [] {} [(0, .plain { slots := [(1, .ptr 1 0), (3, .val T6), (4, .val T6)], boxes := [(1, Ty.zJ, [])] } [T6, T6, Ty.zJ] (zh (zc8.r0 N) N))] Proofs.Tryz.func252 (hL := ⟨⟨_, _, rfl, by kernel_rfl⟩, trivial⟩)⟩
def zin (N : Nat) (a0 : zP) (a1 : DataType) (a2 : Bool) : Option (Int × Int) :=
 (zju N a0 a1.Scale a2).bind fun r1 => cond (decide ((r1.zQ.length : Int) > a1.Length)) (some (0, 19)) ((zc8 N r1).bind fun r2 => some (r2, 0))
def zin.k (N : Nat) : Kq := ⟨223, (cvv [T6, T6] [Ty.zP, Ty.DataType, Ty.bool] (zin N)), go [zju.k N, zc8.k N] {} [] Proofs.Tryz.func223⟩
def zia (N : Nat) (a0 : Number) (a1 : DataType) (a2 : Bool) : Option (Value × Int) :=
 (zfa a0).bind fun r1 => cond (r1 != 0) (some ((⟨0, (⟨#[]⟩ : ByteArray)⟩ : Value), r1)) ((zfk a1).bind fun r2 => cond (r2 != 0)
  (some ((⟨0, (⟨#[]⟩ : ByteArray)⟩ : Value), r2)) ((zi2 N a0).bind fun r3 => (zin N r3 a1 a2).bind fun r4 => some ((⟨r4.1, (⟨#[]⟩ : ByteArray)⟩ : Value), r4.2)))
def zia.k (N : Nat) : Kq := ⟨171, (cvv [Ty.Value, T6] [Ty.Number, Ty.DataType, Ty.bool] (zia N)), go [zfa.k, zfk.k, zin.k N, zi2.k N] {lits := [26]} [] Proofs.Tryz.func171⟩
def zim (N : Nat) (a0 : zB) (a1 : zC) (a2 : Int) (a3 : Number) (a4 : Bool) : Option (Int × zC) :=
 (idx a0.zA a2).bind fun x1 => (zia N a3 x1.zK a4).bind fun r2 => cond (r2.2 != 0) (some (2, a1)) ((zbv N a0 a1 a2).bind fun r3 => cond (r3.2 != 0)
  (some (r3.2, a1)) ((zaa N x1.zK r2.1).bind fun r4 => (zbp N a1.Storage r3.1 r4).bind fun r5 =>
  some (0, (⟨r5, a1.At, a1.Stack, a1.Lines, a1.Status, a1.Exception, a1.Steps⟩ : zC))))
def zim.k (N : Nat) : Kq := ⟨112, (ctv [.val Ty.zB, .ptr Ty.zC true [3, 4], .val T6, .val Ty.Number, .val Ty.bool] [T6] [Ty.zC] [] [Ty.zB, Ty.zC, T6, Ty.Number, Ty.bool] (zim N)), go [zaa.k N, zbv.k N, zbp.k N, zia.k N] {lits := [51], pk := [1000000]} [] Proofs.Tryz.func112⟩
def zhe (N : Nat) (a0 : Number) (a1 : Number) : Option (zJ × zJ × Int) :=
 (zcl N a0.N (w6 ((if a1.Scale > a0.Scale then a1.Scale else a0.Scale) - a0.Scale))).bind fun r1 =>
  (zcl N a1.N (w6 ((if a1.Scale > a0.Scale then a1.Scale else a0.Scale) - a1.Scale))).bind fun r2 =>
  some (r1, r2, (if a1.Scale > a0.Scale then a1.Scale else a0.Scale))
def zhe.k (N : Nat) : Kq := ⟨224, (cvv [Ty.zJ, Ty.zJ, T6] [Ty.Number, Ty.Number] (zhe N)), go [zcl.k N] {} [] Proofs.Tryz.func224⟩
def zji (N : Nat) (a0 : zJ) (a1 : zJ) : Option zJ :=
 cond (a0.Below == a1.Below) ((zcq N a0.zQ a1.zQ).bind fun r1 => some (⟨a0.Below, r1⟩ : zJ)) ((zct N a0.zQ a1.zQ).bind fun r2 =>
  cond (decide (r2 < 0)) ((zc7 N a1.zQ a0.zQ).bind fun r3 => (cond a1.Below (some (decide ((r3.length : Int) > 0))) (some false)).bind fun g4 =>
  some (⟨g4, r3⟩ : zJ)) ((zc7 N a0.zQ a1.zQ).bind fun r5 => (cond a0.Below (some (decide ((r5.length : Int) > 0))) (some false)).bind fun g6 =>
  some (⟨g6, r5⟩ : zJ)))
def zji.k (N : Nat) : Kq := ⟨225, (cvv [Ty.zJ] [Ty.zJ, Ty.zJ] (zji N)), go [zcq.k N, zct.k N, zc7.k N] {} [] Proofs.Tryz.func225⟩
def za8.b2 (N : Nat) (s5 : List Int) (s6 : Int) (s7 : List Int) (s8 : Int) (s9 : Int) (b2 : zJ) (b3 : zJ) (b4 : zJ) : Option (Stp ((List Int) × Int × (List Int) × Int × Int × zJ × zJ × zJ)) :=
 (cond (decide (s9 < (b2.zQ.length : Int))) (some true) (some (decide (s8 > 0)))).bind fun g3001 => cond g3001 (cond (decide (s9 < (b2.zQ.length : Int)))
  ((idx b2.zQ s9).bind fun x3002 => (idx b3.zQ s6).bind fun x3003 =>
  cond (Nat.ble ((s7.length + ([((w6 (s8 + (w6 (x3002 * x3003)))).tmod 10)] : List Int).length) * 8) za3)
  (some (.again (s5, s6, (s7 ++ ([((w6 (s8 + (w6 (x3002 * x3003)))).tmod 10)] : List Int)), (w6 ((w6 (s8 + (w6 (x3002 * x3003)))).tdiv 10)), (w6 (s9 + 1)), b2, b3, b4))) none)
  (cond (Nat.ble ((s7.length + ([(s8.tmod 10)] : List Int).length) * 8) za3)
  (some (.again (s5, s6, (s7 ++ ([(s8.tmod 10)] : List Int)), (w6 (s8.tdiv 10)), (w6 (s9 + 1)), b2, b3, b4))) none))
  (some (.leave (s5, s6, s7, s8, s9, b2, b3, b4)))
def za8.r2 (N : Nat) (x : (List Int) × Int × (List Int) × Int × Int × zJ × zJ × zJ) := za8.b2 N x.1 x.2.1 x.2.2.1 x.2.2.2.1 x.2.2.2.2.1 x.2.2.2.2.2.1 x.2.2.2.2.2.2.1 x.2.2.2.2.2.2.2
def za8.b0 (N : Nat) (s5 : List Int) (s6 : Int) (b2 : zJ) (b3 : zJ) (b4 : zJ) : Option (Stp ((List Int) × Int × zJ × zJ × zJ)) :=
 cond (decide (s6 < (b3.zQ.length : Int))) (if 0 ≤ s6 then (if s6 ≤ s6 then (cond (Nat.ble (s6.toNat * 8) za3)
  ((zh (za8.r2 N) N (s5, s6, (List.replicate s6.toNat (0 : Int)), 0, 0, b2, b3, b4)).bind fun y1001 => (zcq N y1001.1 y1001.2.2.1).bind fun r1002 =>
  some (.again (r1002, (w6 (y1001.2.1 + 1)), y1001.2.2.2.2.2.1, y1001.2.2.2.2.2.2.1, y1001.2.2.2.2.2.2.2))) none) else none) else none)
  (some (.leave (s5, s6, b2, b3, b4)))
def za8.r0 (N : Nat) (x : (List Int) × Int × zJ × zJ × zJ) := za8.b0 N x.1 x.2.1 x.2.2.1 x.2.2.2.1 x.2.2.2.2
def za8 (N : Nat) (a0 : zJ) (a1 : zJ) : Option zJ :=
 (zh (za8.r0 N) N ([], 0, a0, a1, (⟨false, []⟩ : zJ))).bind fun y1 => (zb2 N y1.1).bind fun r2 => (cond (!(y1.2.2.1.Below == y1.2.2.2.1.Below))
  (some (decide ((r2.length : Int) > 0))) (some false)).bind fun g3 => some (⟨g3, r2⟩ : zJ)
def za8.k (N : Nat) : Kq := ⟨249, (cvv [Ty.zJ] [Ty.zJ, Ty.zJ] (za8 N)), go [zcq.k N, zb2.k N] {lits := [53]} [(2, .plain { slots := [(2, .ptr 2 0), (3, .ptr 3 0), (4, .ptr 4 0), (5, .val (Ty.sl T6)), (6, .val T6), (7, .own 5000007 T6), (8, .val T6), (9, .val T6)], boxes := [(2, Ty.zJ, []), (3, Ty.zJ, []), (4, Ty.zJ, [1])] } [(Ty.sl T6), T6, (Ty.sl T6), T6, T6, Ty.zJ, Ty.zJ, Ty.zJ] (zh (za8.r2 N) N)), (0, .plain { slots := [(2, .ptr 2 0), (3, .ptr 3 0), (4, .ptr 4 0), (5, .val (Ty.sl T6)), (6, .val T6)], boxes := [(2, Ty.zJ, []), (3, Ty.zJ, []), (4, Ty.zJ, [1])] } [(Ty.sl T6), T6, Ty.zJ, Ty.zJ, Ty.zJ] (zh (za8.r0 N) N))] Proofs.Tryz.func249 (hL := ⟨⟨_, _, rfl, by kernel_rfl⟩, ⟨_, _, rfl, by kernel_rfl⟩, trivial⟩)⟩
def zlo (N : Nat) (a0 : Int) (a1 : Number) (a2 : Number) : Option (zP × Int) :=
 (zhe N a1 a2).bind fun r1 => (cond (a0 == 3) (some true) (some (a0 == 4))).bind fun g2 => (cond g2 (some ((r1.2.1.zQ.length : Int) == 0))
  (some false)).bind fun g3 => cond g3 (some ((⟨(⟨false, []⟩ : zJ), []⟩ : zP), 20)) (cond (a0 == 1) ((cond (!r1.2.1.Below)
  (some (decide ((r1.2.1.zQ.length : Int) > 0))) (some false)).bind fun g4 => (zji N r1.1 (⟨g4, r1.2.1.zQ⟩ : zJ)).bind fun r5 =>
  (zgd r1.2.2).bind fun r6 => some ((⟨r5, r6⟩ : zP), 0)) (cond (a0 == 2) ((za8 N r1.1 r1.2.1).bind fun r7 =>
  (zgd (w6 (2 * r1.2.2))).bind fun r8 => some ((⟨r7, r8⟩ : zP), 0)) (cond (a0 == 3)
  (some ((⟨(⟨(!(r1.1.Below == r1.2.1.Below)), r1.1.zQ⟩ : zJ), r1.2.1.zQ⟩ : zP), 0)) (cond (a0 == 4)
  ((za1 N r1.1.zQ r1.2.1.zQ).bind fun r9 => (zgd r1.2.2).bind fun r10 => some ((⟨(⟨r1.1.Below, r9.2⟩ : zJ), r10⟩ : zP), 0))
  ((zji N r1.1 r1.2.1).bind fun r11 => (zgd r1.2.2).bind fun r12 => some ((⟨r11, r12⟩ : zP), 0))))))
def zlo.k (N : Nat) : Kq := ⟨222, (cvv [Ty.zP, T6] [T6, Ty.Number, Ty.Number] (zlo N)), go [zhe.k N, zji.k N, zgd.k, za8.k N, za1.k N] {} [] Proofs.Tryz.func222⟩
def zfl (N : Nat) (a0 : zS) (a1 : Number) (a2 : Number) : Option (Value × Int) :=
 (zf a0.Op 0 4).bind fun r1 => cond (!r1) (some ((⟨0, (⟨#[]⟩ : ByteArray)⟩ : Value), 4)) ((zfa a1).bind fun r2 => cond (r2 != 0)
  (some ((⟨0, (⟨#[]⟩ : ByteArray)⟩ : Value), r2)) ((zfa a2).bind fun r3 => cond (r3 != 0) (some ((⟨0, (⟨#[]⟩ : ByteArray)⟩ : Value), r3))
  ((zfk a0.zK).bind fun r4 => cond (r4 != 0) (some ((⟨0, (⟨#[]⟩ : ByteArray)⟩ : Value), r4)) ((zlo N a0.Op a1 a2).bind fun r5 => cond (r5.2 != 0)
  (some ((⟨0, (⟨#[]⟩ : ByteArray)⟩ : Value), r5.2)) ((zin N r5.1 a0.zK a0.Half).bind fun r6 => some ((⟨r6.1, (⟨#[]⟩ : ByteArray)⟩ : Value), r6.2))))))
def zfl.k (N : Nat) : Kq := ⟨167, (cvv [Ty.Value, T6] [Ty.zS, Ty.Number, Ty.Number] (zfl N)), go [zf.k, zfa.k, zfk.k, zlo.k N, zin.k N] {} [] Proofs.Tryz.func167⟩
def zgp (N : Nat) (a0 : zB) (a1 : zC) (a2 : zI) : Option (Int × zC) :=
 (idx a2.Args 0).bind fun x1 => (cond (a2.Op == 0) ((zek a0 x1).bind fun r2 => some (!r2)) (some false)).bind fun g3 => cond g3 ((idx a2.Args 1).bind fun x4 =>
  (zd4 N a0 a1 x4).bind fun r5 => cond (r5.2 != 0) (some (r5.2, a1)) ((zbv N a0 a1 x1).bind fun r6 => cond (r6.2 != 0) (some (r6.2, a1))
  ((idx a0.zA x1).bind fun x7 => (ze4 N r5.1 x7.zK.Length).bind fun r8 => (zbp N a1.Storage r6.1 r8).bind fun r9 =>
  some (0, (⟨r9, a1.At, a1.Stack, a1.Lines, a1.Status, a1.Exception, a1.Steps⟩ : zC))))) ((idx a2.Args 1).bind fun x10 => (zbu N a0 a1 x10).bind fun r11 =>
  cond (r11.2 != 0) (some (r11.2, a1)) ((cond (a2.Op == 0) (some true) (some (a2.Op == 1))).bind fun g12 => cond g12 ((zim N a0 a1 x1 r11.1 (a2.Op == 1)).bind fun r13 =>
  some (r13.1, r13.2)) ((idx a2.Args 2).bind fun x14 => (zbu N a0 a1 x14).bind fun r15 => cond (r15.2 != 0) (some (r15.2, a1))
  (if 0 ≤ (w6 (a2.Op - 2)) then (if (w6 (a2.Op - 2)) < (([0, 1, 2, 3, 4] : List Int).length : Int) then ((([0, 1, 2, 3, 4] : List Int)[(w6 (a2.Op - 2)).toNat]?).bind fun x16 =>
  (idx a0.zA x1).bind fun x17 => (zfl N (⟨x16, x17.zK, false⟩ : zS) r11.1 r15.1).bind fun r18 => cond (r18.2 == 20) (some (3, a1))
  (cond (r18.2 != 0) (some (2, a1)) ((zbv N a0 a1 x1).bind fun r19 => cond (r19.2 != 0) (some (r19.2, a1)) ((zaa N x17.zK r18.1).bind fun r20 =>
  (zbp N a1.Storage r19.1 r20).bind fun r21 => some (0, (⟨r21, a1.At, a1.Stack, a1.Lines, a1.Status, a1.Exception, a1.Steps⟩ : zC)))))) else none) else none))))
def zgp.k (N : Nat) : Kq := ⟨108, (ctv [.val Ty.zB, .ptr Ty.zC true [3, 4], .val Ty.zI] [T6] [Ty.zC] [] [Ty.zB, Ty.zC, Ty.zI] (zgp N)), go [zd4.k N, zaa.k N, zbv.k N, zek.k, zbu.k N, zim.k N, zbp.k N, ze4.k N, zfl.k N] {lits := [73, 168], pk := [1000000]} [] Proofs.Tryz.func108⟩
def zk7 (N : Nat) (a0 : Number) (a1 : Number) : Option Int :=
 (zhe N a0 a1).bind fun r1 => (zji N r1.1 (⟨(!r1.2.1.Below), r1.2.1.zQ⟩ : zJ)).bind fun r2 => cond ((r2.zQ.length : Int) == 0) (some 0)
  ((zah r2.Below).bind fun r3 => some (w6 (1 - (w6 (2 * r3)))))
def zk7.k (N : Nat) : Kq := ⟨168, (cvv [T6] [Ty.Number, Ty.Number] (zk7 N)), go [zah.k, zhe.k N, zji.k N] {} [] Proofs.Tryz.func168⟩
def zgq (N : Nat) (a0 : zB) (a1 : zC) (a2 : zI) : Option (Bool × Int) :=
 (idx a2.Args 0).bind fun x1 => (zek a0 x1).bind fun r2 => cond r2 ((idx a2.Args 0).bind fun x3 => (zbu N a0 a1 x3).bind fun r4 => cond (r4.2 != 0)
  (some (false, r4.2)) ((idx a2.Args 1).bind fun x5 => (zbu N a0 a1 x5).bind fun r6 => cond (r6.2 != 0) (some (false, r6.2)) ((zk7 N r4.1 r6.1).bind fun r7 =>
  cond (a2.Op == 7) (some ((r7 == 0), 0)) (some ((decide (r7 < 0)), 0))))) ((idx a2.Args 0).bind fun x8 => (zd4 N a0 a1 x8).bind fun r9 => cond (r9.2 != 0)
  (some (false, r9.2)) ((idx a2.Args 1).bind fun x10 => (zd4 N a0 a1 x10).bind fun r11 => cond (r11.2 != 0) (some (false, r11.2))
  ((ze4 N r9.1 (if (r11.1.size : Int) > (r9.1.size : Int) then (r11.1.size : Int) else (r9.1.size : Int))).bind fun r12 =>
  (ze4 N r11.1 (if (r11.1.size : Int) > (r9.1.size : Int) then (r11.1.size : Int) else (r9.1.size : Int))).bind fun r13 =>
  (zah (!((Op.bytesLess r12.toList r13.toList) || (r12.toList == r13.toList)))).bind fun r14 => (zah (Op.bytesLess r12.toList r13.toList)).bind fun r15 =>
  cond (a2.Op == 7) (some (((w6 (r14 - r15)) == 0), 0)) (some ((decide ((w6 (r14 - r15)) < 0)), 0)))))
def zgq.k (N : Nat) : Kq := ⟨109, (cvv [Ty.bool, T6] [Ty.zB, Ty.zC, Ty.zI] (zgq N)), go [zd4.k N, zek.k, zbu.k N, zah.k, ze4.k N, zk7.k N] {} [] Proofs.Tryz.func109⟩
def zk6 (N : Nat) (a0 : Pointer) : Option ByteArray :=
 (zat N a0.Kind 1).bind fun r1 => if ((r1.size + (⟨#[0]⟩ : ByteArray).size : Nat) : Int) > IntKind.i64.max then none else (zat N a0.Authority 2).bind fun r2 =>
  if (((r1 ++ (⟨#[0]⟩ : ByteArray)).size + r2.size : Nat) : Int) > IntKind.i64.max then none else (zat N a0.Address.zV 6).bind fun r3 =>
  if ((((r1 ++ (⟨#[0]⟩ : ByteArray)) ++ r2).size + r3.size : Nat) : Int) > IntKind.i64.max then none else (zat N a0.Address.Offset 6).bind fun r4 =>
  if (((((r1 ++ (⟨#[0]⟩ : ByteArray)) ++ r2) ++ r3).size + r4.size : Nat) : Int) > IntKind.i64.max then none else some ((((r1 ++ (⟨#[0]⟩ : ByteArray)) ++ r2) ++ r3) ++ r4)
def zk6.k (N : Nat) : Kq := ⟨169, (cvv [Ty.str] [Ty.Pointer] (zk6 N)), go [zat.k N] {} [] Proofs.Tryz.func169⟩
def zfr (N : Nat) (a0 : Storage) (a1 : Int) (a2 : Pointer) : Option Storage :=
 (zk6 N a2).bind fun r1 => (zbp N a0 a1 r1).bind fun r2 =>
  if 0 ≤ (w6 (a1.tdiv 16)) then (if (w6 (a1.tdiv 16)) < (r2.Tags.length : Int) then ((r2.Tags[(w6 (a1.tdiv 16)).toNat]?).bind fun x3 =>
  some (⟨r2.Bytes, (r2.Tags.set ((w6 (a1.tdiv 16)).toNat) true)⟩ : Storage)) else none) else none
def zfr.k (N : Nat) : Kq := ⟨110, (ctv [.val Ty.Storage, .val T6, .val Ty.Pointer] [Ty.Storage] [] [1] [Ty.Storage, T6, Ty.Pointer] (zfr N)), go [zbp.k N, zk6.k N] {lits := [11]} [] Proofs.Tryz.func110⟩
def zhw (N : Nat) (a0 : Number) : Option Int :=
 (zdl N a0.Scale).bind fun r1 => if r1 = 0 then none else some (w6 ((a0.N : Int).tdiv r1))
def zhw.k (N : Nat) : Kq := ⟨111, (cvv [T6] [Ty.Number] (zhw N)), go [zdl.k N] {} [] Proofs.Tryz.func111⟩
def zcw : Nat → Int → Option ByteArray
 | 0, _ => none
 | N + 1, a0 =>
 cond (decide (a0 < (-9))) ((zcw N (w6 (0 - (w6 (a0.tdiv 10))))).bind fun r1 =>
  if (((⟨#[45]⟩ : ByteArray).size + r1.size : Nat) : Int) > IntKind.i64.max then none else (zcw N (w6 (0 - (a0.tmod 10)))).bind fun r2 =>
  if ((((⟨#[45]⟩ : ByteArray) ++ r1).size + r2.size : Nat) : Int) > IntKind.i64.max then none else some (((⟨#[45]⟩ : ByteArray) ++ r1) ++ r2)) (cond (decide (a0 < 0))
  ((zcw N (w6 (0 - a0))).bind fun r3 =>
  if (((⟨#[45]⟩ : ByteArray).size + r3.size : Nat) : Int) > IntKind.i64.max then none else some ((⟨#[45]⟩ : ByteArray) ++ r3)) (cond (decide (a0 < 10))
  (some (zdd ([(IntKind.wrap .u8 (w6 (48 + a0)))] : List Int))) ((zcw N (w6 (a0.tdiv 10))).bind fun r4 =>
  if ((r4.size + (zdd ([(IntKind.wrap .u8 (w6 (48 + (a0.tmod 10))))] : List Int)).size : Nat) : Int) > IntKind.i64.max then none else some (r4 ++ (zdd ([(IntKind.wrap .u8 (w6 (48 + (a0.tmod 10))))] : List Int))))))
def zcw.t (N : Nat) : Ct U := (cvv [Ty.str] [T6] (zcw N))
theorem zcw.m : ∀ N : Nat, zib K0 126 (zcw.t N)
 | 0 => z64 Proofs.Tryz.func126 (by kernel_rfl) rfl fun ds y hy => by have := z0p (U := U) [T6] (zcw 0) (fun _ => none) (by intro a0; show none = zcw 0 a0; rfl) ds y hy; cases this
 | N + 1 => go [⟨126, zcw.t N, zcw.m N⟩] {} [] Proofs.Tryz.func126
def zcw.k (N : Nat) : Kq := ⟨126, zcw.t N, zcw.m N⟩
def zec.b0 (N : Nat) (s3 : ByteArray) (b1 : Number) : Option (Stp (ByteArray × Number)) :=
 cond (decide ((s3.size : Int) ≤ b1.Scale))
  (if (((⟨#[48]⟩ : ByteArray).size + s3.size : Nat) : Int) > IntKind.i64.max then none else some (.again (((⟨#[48]⟩ : ByteArray) ++ s3), b1))) (some (.leave (s3, b1)))
def zec.r0 (N : Nat) (x : ByteArray × Number) := zec.b0 N x.1 x.2
def zec (N : Nat) (a0 : Number) : Option ByteArray :=
 (zfm a0.N).bind fun r1 => (zcw N r1).bind fun r2 => (zh (zec.r0 N) N (r2, a0)).bind fun y3 => cond (decide (y3.2.Scale > 0))
  (if 0 ≤ (w6 ((y3.1.size : Int) - y3.2.Scale)) ∧ (w6 ((y3.1.size : Int) - y3.2.Scale)) ≤ (y3.1.size : Int) then (if 0 ≤ (0 : Int) ∧ (0 : Int) ≤ (w6 ((y3.1.size : Int) - y3.2.Scale)) then (if (((y3.1.extract (0 : Int).toNat (w6 ((y3.1.size : Int) - y3.2.Scale)).toNat).size + (⟨#[46]⟩ : ByteArray).size : Nat) : Int) > IntKind.i64.max then none else if 0 ≤ (w6 ((y3.1.size : Int) - y3.2.Scale)) ∧ (w6 ((y3.1.size : Int) - y3.2.Scale)) ≤ (y3.1.size : Int) then (if ((((y3.1.extract (0 : Int).toNat (w6 ((y3.1.size : Int) - y3.2.Scale)).toNat) ++ (⟨#[46]⟩ : ByteArray)).size + (y3.1.extract (w6 ((y3.1.size : Int) - y3.2.Scale)).toNat y3.1.size).size : Nat) : Int) > IntKind.i64.max then none else cond (decide (y3.2.N < 0))
  (if (((⟨#[45]⟩ : ByteArray).size + (((y3.1.extract (0 : Int).toNat (w6 ((y3.1.size : Int) - y3.2.Scale)).toNat) ++ (⟨#[46]⟩ : ByteArray)) ++ (y3.1.extract (w6 ((y3.1.size : Int) - y3.2.Scale)).toNat y3.1.size)).size : Nat) : Int) > IntKind.i64.max then none else some ((⟨#[45]⟩ : ByteArray) ++ (((y3.1.extract (0 : Int).toNat (w6 ((y3.1.size : Int) - y3.2.Scale)).toNat) ++ (⟨#[46]⟩ : ByteArray)) ++ (y3.1.extract (w6 ((y3.1.size : Int) - y3.2.Scale)).toNat y3.1.size))))
  (some (((y3.1.extract (0 : Int).toNat (w6 ((y3.1.size : Int) - y3.2.Scale)).toNat) ++ (⟨#[46]⟩ : ByteArray)) ++ (y3.1.extract (w6 ((y3.1.size : Int) - y3.2.Scale)).toNat y3.1.size)))) else none) else none) else none)
  (cond (decide (y3.2.N < 0)) (if (((⟨#[45]⟩ : ByteArray).size + y3.1.size : Nat) : Int) > IntKind.i64.max then none else some ((⟨#[45]⟩ : ByteArray) ++ y3.1)) (some y3.1))
def zec.k (N : Nat) : Kq := ⟨80, (cvv [Ty.str] [Ty.Number] (zec N)), go [zfm.k, zcw.k N] {lits := [6]} [(0, .plain { slots := [(1, .ptr 1 0), (3, .val Ty.str)], boxes := [(1, Ty.Number, [])] } [Ty.str, Ty.Number] (zh (zec.r0 N) N))] Proofs.Tryz.func80 (hL := ⟨⟨_, _, rfl, by kernel_rfl⟩, trivial⟩)⟩
def zjh (N : Nat) (a0 : zB) (a1 : zC) (a2 : Int) : Option (ByteArray × Int) :=
 (zek a0 a2).bind fun r1 => cond (!r1) ((zd4 N a0 a1 a2).bind fun r2 => some (r2.1, r2.2)) ((zbu N a0 a1 a2).bind fun r3 => cond (r3.2 != 0)
  (some ((⟨#[]⟩ : ByteArray), r3.2)) ((zec N r3.1).bind fun r4 => some (r4, 0)))
def zjh.k (N : Nat) : Kq := ⟨38, (cvv [Ty.str, T6] [Ty.zB, Ty.zC, T6] (zjh N)), go [zd4.k N, zek.k, zbu.k N, zec.k N] {} [] Proofs.Tryz.func38⟩
def zx (N : Nat) (a0 : zB) (a1 : zC) : Option (Int × Int × zC) :=
 (idx a0.zG a1.At).bind fun x1 => (zq N a0).bind fun r2 => (cond (x1.Op == 0) (some (x1.Op == 0)) (cond (x1.Op == 1) (some (x1.Op == 1)) (cond (x1.Op == 2)
  (some (x1.Op == 2)) (cond (x1.Op == 3) (some (x1.Op == 3)) (cond (x1.Op == 4) (some (x1.Op == 4)) (cond (x1.Op == 5) (some (x1.Op == 5)) (some (x1.Op == 6)))))))).bind fun q3 =>
  cond q3 ((zgp N a0 a1 x1).bind fun r4 => some ((w6 (a1.At + 1)), r4.1, r4.2)) ((cond (x1.Op == 7) (some (x1.Op == 7)) (some (x1.Op == 8))).bind fun q5 =>
  cond q5 ((zgq N a0 a1 x1).bind fun r6 => cond (r6.2 != 0) (some (0, r6.2, a1)) (cond r6.1 ((idx x1.Args 2).bind fun x7 => (idx a0.zA x7).bind fun x8 =>
  some (x8.Target, 0, a1)) (some ((w6 (a1.At + 1)), 0, a1)))) (cond (x1.Op == 9) ((idx x1.Args 0).bind fun x9 => (idx a0.zA x9).bind fun x10 =>
  some (x10.Target, 0, a1)) (cond (x1.Op == 10) ((idx x1.Args 1).bind fun x11 => (zbv N a0 a1 x11).bind fun r12 => cond (r12.2 != 0) (some (0, r12.2, a1))
  ((idx x1.Args 0).bind fun x13 => (idx r2.1 x13).bind fun x14 => (zfr N a1.Storage x14 (⟨0, (⟨1, r12.1⟩ : Address), 0⟩ : Pointer)).bind fun r15 =>
  some ((w6 (a1.At + 1)), 0, (⟨r15, a1.At, a1.Stack, a1.Lines, a1.Status, a1.Exception, a1.Steps⟩ : zC)))) (cond (x1.Op == 11) ((idx x1.Args 1).bind fun x16 =>
  (idx r2.1 x16).bind fun x17 => (zg4 N a1.Storage x17).bind fun r18 => cond (r18.2 != 0) (some (0, 4, a1)) ((idx x1.Args 0).bind fun x19 => (idx r2.1 x19).bind fun x20 =>
  (zfr N a1.Storage x20 r18.1).bind fun r21 => some ((w6 (a1.At + 1)), 0, (⟨r21, a1.At, a1.Stack, a1.Lines, a1.Status, a1.Exception, a1.Steps⟩ : zC))))
  (cond (x1.Op == 12) ((idx x1.Args 0).bind fun x22 => (idx r2.1 x22).bind fun x23 => (zg4 N a1.Storage x23).bind fun r24 => cond (r24.2 != 0) (some (0, 4, a1))
  ((idx x1.Args 1).bind fun x25 => (zbu N a0 a1 x25).bind fun r26 => cond (r26.2 != 0) (some (0, r26.2, a1)) ((zhw N r26.1).bind fun r27 =>
  (zf (w6 (r24.1.Address.Offset + r27)) 0 16777215).bind fun r28 => cond (!r28) (some (0, 5, a1)) ((idx x1.Args 0).bind fun x29 =>
  (idx r2.1 x29).bind fun x30 =>
  (zfr N a1.Storage x30 (⟨r24.1.Kind, (⟨r24.1.Address.zV, (w6 (r24.1.Address.Offset + r27))⟩ : Address), r24.1.Authority⟩ : Pointer)).bind fun r31 =>
  some ((w6 (a1.At + 1)), 0, (⟨r31, a1.At, a1.Stack, a1.Lines, a1.Status, a1.Exception, a1.Steps⟩ : zC)))))) (cond (x1.Op == 13)
  (cond ((a1.Stack.length : Int) == 6) (some (0, 6, a1)) (cond (Nat.ble ((a1.Stack.length + ([a1.At] : List Int).length) * 8) za3) ((idx x1.Args 0).bind fun x32 =>
  (idx a0.zA x32).bind fun x33 =>
  some (x33.Target, 0, (⟨a1.Storage, a1.At, (a1.Stack ++ ([a1.At] : List Int)), a1.Lines, a1.Status, a1.Exception, a1.Steps⟩ : zC))) none)) (cond (x1.Op == 14)
  (cond ((a1.Stack.length : Int) == 0) (some ((w6 (a1.At + 1)), 0, (⟨a1.Storage, a1.At, a1.Stack, a1.Lines, 1, a1.Exception, a1.Steps⟩ : zC)))
  (if 0 ≤ (w6 ((a1.Stack.length : Int) - 1)) then (if (w6 ((a1.Stack.length : Int) - 1)) < (a1.Stack.length : Int) then ((a1.Stack[(w6 ((a1.Stack.length : Int) - 1)).toNat]?).bind fun x34 =>
  if 0 ≤ (w6 ((a1.Stack.length : Int) - 1)) ∧ (w6 ((a1.Stack.length : Int) - 1)) ≤ (a1.Stack.length : Int) then (if 0 ≤ (0 : Int) ∧ (0 : Int) ≤ (w6 ((a1.Stack.length : Int) - 1)) then (some ((w6 (x34 + 1)), 0, (⟨a1.Storage, a1.At, ((a1.Stack.drop ((0 : Int).toNat)).take ((w6 ((a1.Stack.length : Int) - 1)).toNat - (0 : Int).toNat)), a1.Lines, a1.Status, a1.Exception, a1.Steps⟩ : zC))) else none) else none) else none) else none))
  (cond (x1.Op == 15) ((idx x1.Args 0).bind fun x35 => (zbu N a0 a1 x35).bind fun r36 => cond (r36.2 != 0) (some (0, r36.2, a1)) ((zhw N r36.1).bind fun r37 =>
  (zf r37 100 999).bind fun r38 => cond r38 (some (0, r37, a1)) (some (0, 2, a1)))) (cond (x1.Op == 16) ((idx x1.Args 0).bind fun x39 =>
  (zim N a0 a1 x39 (⟨a1.Exception, 0⟩ : Number) false).bind fun r40 => some ((w6 (a1.At + 1)), r40.1, r40.2)) (cond (x1.Op == 17)
  ((idx x1.Args 0).bind fun x41 => (zjh N a0 a1 x41).bind fun r42 => cond (r42.2 != 0) (some (0, r42.2, a1)) (cond ((a1.Lines.length : Int) == 40)
  (some ((w6 (a1.At + 1)), 0, (⟨a1.Storage, a1.At, a1.Stack, a1.Lines, 3, a1.Exception, a1.Steps⟩ : zC)))
  (cond (Nat.ble ((a1.Lines.length + ([r42.1] : List ByteArray).length) * 16) za3)
  (some ((w6 (a1.At + 1)), 0, (⟨a1.Storage, a1.At, a1.Stack, (a1.Lines ++ ([r42.1] : List ByteArray)), a1.Status, a1.Exception, a1.Steps⟩ : zC))) none)))
  (cond (x1.Op == 18) (some ((w6 (a1.At + 1)), 0, (⟨a1.Storage, a1.At, a1.Stack, a1.Lines, 1, a1.Exception, a1.Steps⟩ : zC)))
  (some ((w6 (a1.At + 1)), 0, a1)))))))))))))
def zx.k (N : Nat) : Kq := ⟨66, (ctv [.val Ty.zB, .ptr Ty.zC true [3, 4]] [T6, T6] [Ty.zC] [] [Ty.zB, Ty.zC] (zx N)), go [zf.k, zjh.k N, zq.k N, zg4.k N, zbv.k N, zbu.k N, zgp.k N, zgq.k N, zfr.k N, zhw.k N, zim.k N] {lits := [243, 365], pk := [1000000], bj := [44, 57]} [] Proofs.Tryz.func66⟩
def zci.b0 (N : Nat) (s1 : Int) (s2 : Int) (s7 : Int) (b3 : zB) : Option (Round Int (Int × Int × Int × zB)) :=
 cond (decide (s7 < (b3.zL.length : Int))) ((idx b3.zL s7).bind fun x1001 => (cond (decide (x1001.From ≤ s1)) (some (decide (s1 < x1001.To)))
  (some false)).bind fun g1002 => (cond g1002 ((cond (x1001.Exception == 0) (some true) (some (x1001.Exception == s2))).bind fun g1003 => some g1003) (some false)).bind fun g1004 =>
  cond g1004 (some (.result x1001.Handler)) (some (.again (s1, s2, (w6 (s7 + 1)), b3)))) (some (.leave (s1, s2, s7, b3)))
def zci.r0 (N : Nat) (x : Int × Int × Int × zB) := zci.b0 N x.1 x.2.1 x.2.2.1 x.2.2.2
def zci (N : Nat) (a0 : zB) (a1 : Int) (a2 : Int) : Option Int :=
 (zp (zci.r0 N) N (a1, a2, 0, a0)).bind fun z2 => zdt z2 (fun z => some z) (fun y1 => some (-1))
def zci.k (N : Nat) : Kq := ⟨21, (cvv [T6] [Ty.zB, T6, T6] (zci N)), go [] {} [(0, .rets { slots := [(1, .val T6), (2, .val T6), (3, .ptr 3 0), (7, .val T6)], boxes := [(3, Ty.zB, [])] } [T6, T6, T6, Ty.zB] (zp (zci.r0 N) N))] Proofs.Tryz.func21 (hL := ⟨⟨_, _, rfl, by kernel_rfl⟩, trivial⟩)⟩
def zdz.b0 (N : Nat) (s2 : Int) (b3 : zB) (b4 : zC) (b6 : zC) : Option (Round zC (Int × zB × zC × zC)) :=
 (zci N b3 b4.At s2).bind fun r1001 => cond (r1001 != (-1)) (some (.result (⟨b4.Storage, r1001, b4.Stack, b4.Lines, b4.Status, b4.Exception, b4.Steps⟩ : zC)))
  (cond ((b4.Stack.length : Int) == 0) (some (.result (⟨b4.Storage, b4.At, b4.Stack, b4.Lines, 2, b4.Exception, b4.Steps⟩ : zC)))
  ((idx b4.Stack (w6 ((b4.Stack.length : Int) - 1))).bind fun x1002 =>
  if 0 ≤ (w6 ((b4.Stack.length : Int) - 1)) ∧ (w6 ((b4.Stack.length : Int) - 1)) ≤ (b4.Stack.length : Int) then (if 0 ≤ (0 : Int) ∧ (0 : Int) ≤ (w6 ((b4.Stack.length : Int) - 1)) then (some (.again (s2, b3, (⟨b4.Storage, x1002, ((b4.Stack.take (w6 ((b4.Stack.length : Int) - 1)).toNat).drop (0 : Int).toNat), b4.Lines, b4.Status, b4.Exception, b4.Steps⟩ : zC), b6))) else none) else none))
def zdz.r0 (N : Nat) (x : Int × zB × zC × zC) := zdz.b0 N x.1 x.2.1 x.2.2.1 x.2.2.2
def zdz (N : Nat) (a0 : zB) (a1 : zC) (a2 : Int) : Option zC :=
 (zp (zdz.r0 N) N (a2, a0, (⟨a1.Storage, a1.At, a1.Stack, a1.Lines, a1.Status, a2, a1.Steps⟩ : zC), (⟨(⟨(⟨#[]⟩ : ByteArray), []⟩ : Storage), 0, [], [], 0, 0, 0⟩ : zC))).bind fun z2 =>
  zdt z2 (fun z => some z) (fun y1 => some y1.2.2.2)
def zdz.k (N : Nat) : Kq := ⟨67, (cvv [Ty.zC] [Ty.zB, Ty.zC, T6] (zdz N)), go [zci.k N] {} [(0, .rets { slots := [(2, .val T6), (3, .ptr 3 0), (4, .ptr 4 0), (6, .ptr 6 0)], boxes := [(3, Ty.zB, []), (4, Ty.zC, []), (6, Ty.zC, [1, 3, 4])] } [T6, Ty.zB, Ty.zC, Ty.zC] (zp (zdz.r0 N) N))] Proofs.Tryz.func67 (hL := ⟨⟨_, _, rfl, by kernel_rfl⟩, trivial⟩)⟩
def zl5 (N : Nat) (a0 : zB) (a1 : zC) : Option zC :=
 (zln a1).bind fun r1 => (zx N a0 (⟨r1.Storage, r1.At, r1.Stack, r1.Lines, r1.Status, r1.Exception, (w6 (r1.Steps + 1))⟩ : zC)).bind fun r2 =>
  cond (r2.2.1 != 0) ((zln a1).bind fun r3 =>
  (zdz N a0 (⟨r3.Storage, r3.At, r3.Stack, r3.Lines, r3.Status, r3.Exception, (w6 (r3.Steps + 1))⟩ : zC) r2.2.1).bind fun r4 => (cond (r4.Status == 0)
  (some (r4.Steps == 300)) (some false)).bind fun g5 => cond g5 (some (⟨r4.Storage, r4.At, r4.Stack, r4.Lines, 3, r4.Exception, r4.Steps⟩ : zC)) (some r4))
  (cond (r2.2.2.Status == 0) (cond (r2.1 == (a0.zG.length : Int))
  (some (⟨r2.2.2.Storage, r2.2.2.At, r2.2.2.Stack, r2.2.2.Lines, 1, r2.2.2.Exception, r2.2.2.Steps⟩ : zC)) ((cond (r2.2.2.Status == 0) (some (r2.2.2.Steps == 300))
  (some false)).bind fun g6 => cond g6 (some (⟨r2.2.2.Storage, r2.1, r2.2.2.Stack, r2.2.2.Lines, 3, r2.2.2.Exception, r2.2.2.Steps⟩ : zC))
  (some (⟨r2.2.2.Storage, r2.1, r2.2.2.Stack, r2.2.2.Lines, r2.2.2.Status, r2.2.2.Exception, r2.2.2.Steps⟩ : zC)))) ((cond (r2.2.2.Status == 0) (some (r2.2.2.Steps == 300))
  (some false)).bind fun g7 => cond g7 (some (⟨r2.2.2.Storage, r2.2.2.At, r2.2.2.Stack, r2.2.2.Lines, 3, r2.2.2.Exception, r2.2.2.Steps⟩ : zC)) (some r2.2.2)))
def zl5.k (N : Nat) : Kq := ⟨29, (cvv [Ty.zC] [Ty.zB, Ty.zC] (zl5 N)), go [zln.k, zx.k N, zdz.k N] {} [] Proofs.Tryz.func29⟩
def zcz.b0 (N : Nat) (s1 : Int) (s6 : List zC) (b2 : zB) (b5 : zC) : Option (Stp (Int × (List zC) × zB × zC)) :=
 (cond (b5.Status == 0) (some (decide (b5.Steps < s1))) (some false)).bind fun g1001 => cond g1001 ((zl5 N b2 b5).bind fun r1002 =>
  cond (Nat.ble ((s6.length + ([r1002] : List zC).length) * 120) za3) (some (.again (s1, (s6 ++ ([r1002] : List zC)), b2, r1002))) none) (some (.leave (s1, s6, b2, b5)))
def zcz.r0 (N : Nat) (x : Int × (List zC) × zB × zC) := zcz.b0 N x.1 x.2.1 x.2.2.1 x.2.2.2
def zcz (N : Nat) (a0 : zB) (a1 : Int) : Option ((List zC)) :=
 (zk5 N a0).bind fun r1 => (zh (zcz.r0 N) N (a1, ([r1] : List zC), a0, r1)).bind fun y2 => some y2.2.1
def zcz.k (N : Nat) : Kq := ⟨17, (cvv [(Ty.sl Ty.zC)] [Ty.zB, T6] (zcz N)), go [zk5.k N, zl5.k N] {lits := [25]} [(0, .plain { slots := [(1, .val T6), (2, .ptr 2 0), (5, .ptr 5 0), (6, .own 5000006 Ty.zC)], boxes := [(2, Ty.zB, []), (5, Ty.zC, [])] } [T6, (Ty.sl Ty.zC), Ty.zB, Ty.zC] (zh (zcz.r0 N) N))] Proofs.Tryz.func17 (hL := ⟨⟨_, _, rfl, by kernel_rfl⟩, trivial⟩)⟩
def zee.b0 (N : Nat) (s0 : List Bool) (s1 : List Bool) (s5 : Int) : Option (Round Bool ((List Bool) × (List Bool) × Int)) :=
 cond (decide (s5 < (s0.length : Int))) ((idx s0 s5).bind fun x1001 => (idx s1 s5).bind fun x1002 => cond (!(x1001 == x1002)) (some (.result false))
  (some (.again (s0, s1, (w6 (s5 + 1)))))) (some (.leave (s0, s1, s5)))
def zee.r0 (N : Nat) (x : (List Bool) × (List Bool) × Int) := zee.b0 N x.1 x.2.1 x.2.2
def zee (N : Nat) (a0 : List Bool) (a1 : List Bool) : Option Bool :=
 cond ((a0.length : Int) != (a1.length : Int)) (some false) ((zp (zee.r0 N) N (a0, a1, 0)).bind fun z2 => zdt z2 (fun z => some z) (fun y1 => some true))
def zee.k (N : Nat) : Kq := ⟨68, (cvv [Ty.bool] [(Ty.sl Ty.bool), (Ty.sl Ty.bool)] (zee N)), go [] {} [(0, .rets { slots := [(0, .val (Ty.sl Ty.bool)), (1, .val (Ty.sl Ty.bool)), (5, .val T6)], boxes := [] } [(Ty.sl Ty.bool), (Ty.sl Ty.bool), T6] (zp (zee.r0 N) N))] Proofs.Tryz.func68 (hL := ⟨⟨_, _, rfl, by kernel_rfl⟩, trivial⟩)⟩
def zhv (N : Nat) (a0 : Storage) (a1 : Storage) : Option Bool :=
 (cond (a0.Bytes.toList == a1.Bytes.toList) ((zee N a0.Tags a1.Tags).bind fun r1 => some r1) (some false)).bind fun g2 => some g2
def zhv.k (N : Nat) : Kq := ⟨30, (cvv [Ty.bool] [Ty.Storage, Ty.Storage] (zhv N)), go [zee.k N] {} [] Proofs.Tryz.func30⟩
def ze9.b0 (N : Nat) (s0 : List Int) (s1 : List Int) (s5 : Int) : Option (Round Bool ((List Int) × (List Int) × Int)) :=
 cond (decide (s5 < (s0.length : Int))) ((idx s0 s5).bind fun x1001 => (idx s1 s5).bind fun x1002 => cond (x1001 != x1002) (some (.result false))
  (some (.again (s0, s1, (w6 (s5 + 1)))))) (some (.leave (s0, s1, s5)))
def ze9.r0 (N : Nat) (x : (List Int) × (List Int) × Int) := ze9.b0 N x.1 x.2.1 x.2.2
def ze9 (N : Nat) (a0 : List Int) (a1 : List Int) : Option Bool :=
 cond ((a0.length : Int) != (a1.length : Int)) (some false) ((zp (ze9.r0 N) N (a0, a1, 0)).bind fun z2 => zdt z2 (fun z => some z) (fun y1 => some true))
def ze9.k (N : Nat) : Kq := ⟨48, (cvv [Ty.bool] [(Ty.sl T6), (Ty.sl T6)] (ze9 N)), go [] {} [(0, .rets { slots := [(0, .val (Ty.sl T6)), (1, .val (Ty.sl T6)), (5, .val T6)], boxes := [] } [(Ty.sl T6), (Ty.sl T6), T6] (zp (ze9.r0 N) N))] Proofs.Tryz.func48 (hL := ⟨⟨_, _, rfl, by kernel_rfl⟩, trivial⟩)⟩
def zks (N : Nat) (a0 : zC) (a1 : zC) : Option Bool :=
 (zhv N a0.Storage a1.Storage).bind fun r1 => (cond r1 (some (a0.At == a1.At)) (some false)).bind fun g2 => (cond g2 ((ze9 N a0.Stack a1.Stack).bind fun r3 =>
  some r3) (some false)).bind fun g4 => (cond g4 ((zcg N a0.Lines a1.Lines).bind fun r5 => some r5) (some false)).bind fun g6 => (cond g6 (some (a0.Status == a1.Status))
  (some false)).bind fun g7 => (cond g7 (some (a0.Exception == a1.Exception)) (some false)).bind fun g8 => (cond g8 (some (a0.Steps == a1.Steps)) (some false)).bind fun g9 => some g9
def zks.k (N : Nat) : Kq := ⟨18, (cvv [Ty.bool] [Ty.zC, Ty.zC] (zks N)), go [zhv.k N, zcg.k N, ze9.k N] {} [] Proofs.Tryz.func18⟩
def zar.b0 (N : Nat) (s5 : List zC) (s8 : List zC) (s9 : Int) : Option (Round Bool ((List zC) × (List zC) × Int)) :=
 cond (decide (s9 < (s5.length : Int))) ((idx s5 s9).bind fun x1001 => (idx s8 s9).bind fun x1002 => (zks N x1001 x1002).bind fun r1003 => cond (!r1003)
  (some (.result false)) (some (.again (s5, s8, (w6 (s9 + 1)))))) (some (.leave (s5, s8, s9)))
def zar.r0 (N : Nat) (x : (List zC) × (List zC) × Int) := zar.b0 N x.1 x.2.1 x.2.2
def zar (N : Nat) (a0 : zB) (a1 : Int) : Option Bool :=
 (zml N).bind fun r1 => cond (!r1) (some false) ((zb6 N a0).bind fun r2 => cond (!r2) (some true) ((ze7 N a0).bind fun r3 =>
  (zep N r3 a1).bind fun r4 => (znf N a0).bind fun r5 => (cond (r5 == 0) ((zf a1 0 300).bind fun r6 => some (!r6)) (some false)).bind fun g7 =>
  cond g7 ((cond (r4.2 == 3) (some ((r4.1.length : Int) == 0)) (some false)).bind fun g8 => some g8) (cond (r5 != 0) ((cond (r4.2 == r5) (some ((r4.1.length : Int) == 0))
  (some false)).bind fun g9 => some g9) ((zcz N a0 a1).bind fun r10 => (cond (r4.2 != 0) (some true) (some ((r4.1.length : Int) != (r10.length : Int)))).bind fun g11 =>
  cond g11 (some false) ((zp (zar.r0 N) N (r4.1, r10, 0)).bind fun z13 => zdt z13 (fun z => some z) (fun y12 => some true))))))
def zar.k (N : Nat) : Kq := ⟨3, (cvv [Ty.bool] [Ty.zB, T6] (zar N)), go [zml.k N, zb6.k N, zep.k N, ze7.k N, znf.k N, zf.k, zcz.k N, zks.k N] {lits := [17]} [(0, .rets { slots := [(5, .val (Ty.sl Ty.zC)), (8, .val (Ty.sl Ty.zC)), (9, .val T6)], boxes := [] } [(Ty.sl Ty.zC), (Ty.sl Ty.zC), T6] (zp (zar.r0 N) N))] Proofs.Tryz.func3 (hL := ⟨⟨_, _, rfl, by kernel_rfl⟩, trivial⟩)⟩
end
end Go.Proofs.YtmifhmfokbigiaaGreatDoor.M
