/- What the program's functions compute, each tied to its code: part 1. -/
import Derived.Test.YtmifhmfokbigiaaGreatDoorF0
namespace Go.Proofs.YtmifhmfokbigiaaGreatDoor.M
open Go Go.Amx
set_option linter.unusedVariables false
set_option maxRecDepth 100000
noncomputable section
def za0.b0 (N : Nat) (b1000000 : zD) : Option (Round zD zD) :=
 (zi7 N b1000000.zB b1000000.zC.At b1000000.raised).bind fun r1001 => cond (decide (r1001 ≥ 0))
  (some (.result (⟨b1000000.zB, (⟨b1000000.zC.Storage, r1001, b1000000.zC.Stack, b1000000.zC.Lines, b1000000.zC.Status, b1000000.zC.Exception, b1000000.zC.Steps⟩ : zC), b1000000.layout, b1000000.raised⟩ : zD)))
  (cond ((b1000000.zC.Stack.length : Int) == 0) ((zas b1000000 2).bind fun r1002 => some (.result r1002))
  ((idx b1000000.zC.Stack (w6 ((b1000000.zC.Stack.length : Int) - 1))).bind fun x1003 =>
  if 0 ≤ (w6 ((b1000000.zC.Stack.length : Int) - 1)) ∧ (w6 ((b1000000.zC.Stack.length : Int) - 1)) ≤ (b1000000.zC.Stack.length : Int) then (if 0 ≤ (0 : Int) ∧ (0 : Int) ≤ (w6 ((b1000000.zC.Stack.length : Int) - 1)) then ((zki 8 ((b1000000.zC.Stack.take (w6 ((b1000000.zC.Stack.length : Int) - 1)).toNat).drop (0 : Int).toNat)).bind fun r1004 =>
  some (.again (⟨b1000000.zB, (⟨b1000000.zC.Storage, x1003, r1004, b1000000.zC.Lines, b1000000.zC.Status, b1000000.zC.Exception, b1000000.zC.Steps⟩ : zC), b1000000.layout, b1000000.raised⟩ : zD))) else none) else none))
def za0.r0 (N : Nat) (x : zD) := za0.b0 N x
def za0 (N : Nat) (a0 : zD) : Option zD :=
 (zj (za0.r0 N) N (⟨a0.zB, (⟨a0.zC.Storage, a0.zC.At, a0.zC.Stack, a0.zC.Lines, a0.zC.Status, a0.raised, a0.zC.Steps⟩ : zC), a0.layout, a0.raised⟩ : zD)).bind fun z2 =>
  zb5 z2 (fun z => some z) (fun y1 => some y1)
def za0.k (N : Nat) : Kq := ⟨106, (ctv [.ptr Ty.zD true []] [] [Ty.zD] [] [Ty.zD] (za0 N)), go [zi7.k N, zas.k, z08.k] {pk := [1000000]} [(0, .rets { slots := [(0, .ptr 1000000 0)], boxes := [(1000000, Ty.zD, [])] } [Ty.zD] (zj (za0.r0 N) N))] Proofs.Tryz.func106 (hL := ⟨⟨_, _, rfl, by kernel_rfl⟩, trivial⟩)⟩
def zfw (N : Nat) (a0 : zB) (a1 : zC) (a2 : List Int) : Option zC :=
 (idx a0.zG a1.At).bind fun x1 =>
  (zd N (⟨a0, (⟨a1.Storage, a1.At, a1.Stack, a1.Lines, a1.Status, a1.Exception, (w6 (a1.Steps + 1))⟩ : zC), a2, 0⟩ : zD) x1).bind fun r2 =>
  cond (r2.2.raised != 0) ((za0 N r2.2).bind fun r3 => (cond (r3.zC.Status == 0) (some (r3.zC.Steps == 300)) (some false)).bind fun g4 =>
  cond g4 ((zas r3 3).bind fun r5 => some r5.zC) (some r3.zC)) (cond (r2.2.zC.Status != 0) ((cond (r2.2.zC.Status == 0)
  (some (r2.2.zC.Steps == 300)) (some false)).bind fun g6 => cond g6 ((zas r2.2 3).bind fun r7 => some r7.zC) (some r2.2.zC))
  (cond (r2.1 == (a0.zG.length : Int)) ((zas r2.2 1).bind fun r8 => (cond (r8.zC.Status == 0) (some (r8.zC.Steps == 300))
  (some false)).bind fun g9 => cond g9 ((zas r8 3).bind fun r10 => some r10.zC) (some r8.zC)) ((cond (r2.2.zC.Status == 0)
  (some (r2.2.zC.Steps == 300)) (some false)).bind fun g11 =>
  cond g11 ((zas (⟨r2.2.zB, (⟨r2.2.zC.Storage, r2.1, r2.2.zC.Stack, r2.2.zC.Lines, r2.2.zC.Status, r2.2.zC.Exception, r2.2.zC.Steps⟩ : zC), r2.2.layout, r2.2.raised⟩ : zD) 3).bind fun r12 =>
  some r12.zC) (some (⟨r2.2.zC.Storage, r2.1, r2.2.zC.Stack, r2.2.zC.Lines, r2.2.zC.Status, r2.2.zC.Exception, r2.2.zC.Steps⟩ : zC)))))
def zfw.k (N : Nat) : Kq := ⟨65, (cvv [Ty.zC] [Ty.zB, Ty.zC, (Ty.sl T6)] (zfw N)), go [zd.k N, za0.k N, zas.k] {} [] Proofs.Tryz.func65⟩
def zbm.b0 (N : Nat) (s1 : Int) (s9 : List Int) (s11 : Int) (b1000000 : zC) (b3 : zB) (b7 : zC) : Option (Stp (Int × (List Int) × Int × zC × zB × zC)) :=
 (cond (decide (s11 < s1)) (some (b7.Status == 0)) (some false)).bind fun g1001 => cond g1001 ((zfw N b3 b7 s9).bind fun r1002 =>
  (zh9 r1002 b1000000).bind fun r1003 => some (.again (s1, s9, (w6 (s11 + 1)), r1003, b3, r1002))) (some (.leave (s1, s9, s11, b1000000, b3, b7)))
def zbm.r0 (N : Nat) (x : Int × (List Int) × Int × zC × zB × zC) := zbm.b0 N x.1 x.2.1 x.2.2.1 x.2.2.2.1 x.2.2.2.2.1 x.2.2.2.2.2
def zbm (N : Nat) (a0 : zB) (a1 : Int) (a2 : zC) : Option (Int × zC) :=
 (ze7 N a0).bind fun r1 => cond (r1.2 != 0) (some (r1.2, a2)) ((zd0 N a0).bind fun r2 => cond (r2.2.2 != 0) (some (r2.2.2, a2))
  ((zh9 r1.1 a2).bind fun r3 => (zl (zbm.r0 N) N (a1, r2.1, 0, r3, a0, r1.1)).bind fun y4 => some (0, y4.2.2.2.1)))
def zbm.k (N : Nat) : Kq := ⟨44, (ctv [.val Ty.zB, .val T6, .clo 69 1, .ptr Ty.zC true []] [T6] [Ty.zC] [] [Ty.zB, T6, Ty.zC] (zbm N)), go [ze7.k N, zd0.k N, zfw.k N, zh9.k] {pk := [1000000]} [(0, .plain { slots := [(1, .val T6), (2, .fn 69 [1000000]), (3, .ptr 3 0), (7, .ptr 7 0), (9, .val (Ty.sl T6)), (11, .val T6)], boxes := [(1000000, Ty.zC, []), (3, Ty.zB, []), (7, Ty.zC, [])] } [T6, (Ty.sl T6), T6, Ty.zC, Ty.zB, Ty.zC] (zl (zbm.r0 N) N))] Proofs.Tryz.func44 (hL := ⟨⟨_, _, rfl, by kernel_rfl⟩, trivial⟩)⟩
def zjb (N : Nat) (a0 : zB) : Option (zP × Int) :=
 (zbm N a0 300 (⟨(⟨(⟨#[]⟩ : ByteArray), []⟩ : Storage), 0, [], [], 0, 0, 0⟩ : zC)).bind fun r1 => cond (r1.1 != 0) (some ((⟨[], 0, 0, 0⟩ : zP), r1.1))
  (some ((⟨r1.2.Lines, r1.2.Status, r1.2.Exception, r1.2.Steps⟩ : zP), 0))
def zjb.k (N : Nat) : Kq := ⟨32, (cvv [Ty.zP, T6] [Ty.zB] (zjb N)), go [zbm.k N] {} [] Proofs.Tryz.func32⟩
def zc0.b0 (N : Nat) (s0 : List ByteArray) (s1 : List ByteArray) (s5 : Int) : Option (Round Bool ((List ByteArray) × (List ByteArray) × Int)) :=
 cond (decide (s5 < (s0.length : Int))) ((idx s0 s5).bind fun x1001 => (idx s1 s5).bind fun x1002 => cond (!(x1001.toList == x1002.toList)) (some (.result false))
  (some (.again (s0, s1, (w6 (s5 + 1)))))) (some (.leave (s0, s1, s5)))
def zc0.r0 (N : Nat) (x : (List ByteArray) × (List ByteArray) × Int) := zc0.b0 N x.1 x.2.1 x.2.2
def zc0 (N : Nat) (a0 : List ByteArray) (a1 : List ByteArray) : Option Bool :=
 cond ((a0.length : Int) != (a1.length : Int)) (some false) ((zj (zc0.r0 N) N (a0, a1, 0)).bind fun z2 => zb5 z2 (fun z => some z) (fun y1 => some true))
def zc0.k (N : Nat) : Kq := ⟨31, (cvv [Ty.bool] [(Ty.sl Ty.str), (Ty.sl Ty.str)] (zc0 N)), go [] {} [(0, .rets { slots := [(0, .val (Ty.sl Ty.str)), (1, .val (Ty.sl Ty.str)), (5, .val T6)], boxes := [] } [(Ty.sl Ty.str), (Ty.sl Ty.str), T6] (zj (zc0.r0 N) N))] Proofs.Tryz.func31 (hL := ⟨⟨_, _, rfl, by kernel_rfl⟩, trivial⟩)⟩
def zgh (N : Nat) (a0 : zP) (a1 : zP) : Option Bool :=
 (zc0 N a0.Lines a1.Lines).bind fun r1 => (cond r1 (some (a0.Status == a1.Status)) (some false)).bind fun g2 => (cond g2 (some (a0.Exception == a1.Exception))
  (some false)).bind fun g3 => (cond g3 (some (a0.Steps == a1.Steps)) (some false)).bind fun g4 => some g4
def zgh.k (N : Nat) : Kq := ⟨33, (cvv [Ty.bool] [Ty.zP, Ty.zP] (zgh N)), go [zc0.k N] {} [] Proofs.Tryz.func33⟩
def zqf (N : Nat)  : Option Bool :=
 (zt6).bind fun r1 => (zjb N r1).bind fun r2 => (cond (r2.2 == 0)
  ((zgh N r2.1 (⟨([(⟨#[56]⟩ : ByteArray)] : List ByteArray), 1, 0, 3⟩ : zP)).bind fun r3 => some r3) (some false)).bind fun g4 => some g4
def zqf.k (N : Nat) : Kq := ⟨11, (cvv [Ty.bool] [] (zqf N)), go [zjb.k N, zgh.k N, zt6.k] {lits := [4, 12]} [] Proofs.Tryz.func11⟩
def zco.b0 (N : Nat) (s3 : Int) (b1 : zB) : Option (Round Bool (Int × zB)) :=
 cond (decide (s3 < (b1.zA.length : Int))) ((idx b1.zA s3).bind fun x1001 => (cond (decide ((x1001.Name.size : Int) > 100)) (some true)
  (some (decide ((x1001.Base.size : Int) > 100)))).bind fun g1002 => (cond g1002 (some true) (some (decide ((x1001.Value.S.size : Int) > 600)))).bind fun g1003 =>
  cond g1003 (some (.result false)) (some (.again ((w6 (s3 + 1)), b1)))) (some (.leave (s3, b1)))
def zco.r0 (N : Nat) (x : Int × zB) := zco.b0 N x.1 x.2
def zco.b2 (N : Nat) (s5 : Int) (b1 : zB) : Option (Round Bool (Int × zB)) :=
 cond (decide (s5 < (b1.zG.length : Int))) ((idx b1.zG s5).bind fun x3001 => cond (decide ((x3001.Args.length : Int) > 6)) (some (.result false))
  (some (.again ((w6 (s5 + 1)), b1)))) (some (.leave (s5, b1)))
def zco.r2 (N : Nat) (x : Int × zB) := zco.b2 N x.1 x.2
def zco (N : Nat) (a0 : zB) : Option Bool :=
 (cond (decide ((a0.zA.length : Int) > 28)) (some true) (some (decide ((a0.zG.length : Int) > 44)))).bind fun g1 => (cond g1 (some true)
  (some (decide ((a0.zL.length : Int) > 9)))).bind fun g2 => cond g2 (some false) ((zj (zco.r0 N) N (0, a0)).bind fun z4 => zb5 z4 (fun z => some z) (fun y3 =>
  (zj (zco.r2 N) N (0, y3.2)).bind fun z6 => zb5 z6 (fun z => some z) (fun y5 => some true)))
def zco.k (N : Nat) : Kq := ⟨12, (cvv [Ty.bool] [Ty.zB] (zco N)), go [] {} [(0, .rets { slots := [(1, .ptr 1 0), (3, .val T6)], boxes := [(1, Ty.zB, [])] } [T6, Ty.zB] (zj (zco.r0 N) N)), (2, .rets { slots := [(1, .ptr 1 0), (5, .val T6)], boxes := [(1, Ty.zB, [])] } [T6, Ty.zB] (zj (zco.r2 N) N))] Proofs.Tryz.func12 (hL := ⟨⟨_, _, rfl, by kernel_rfl⟩, ⟨_, _, rfl, by kernel_rfl⟩, trivial⟩)⟩
def zi (a0 : Int) (a1 : Int) (a2 : Int) : Option Bool :=
 (cond (decide (a1 ≤ a0)) (some (decide (a0 ≤ a2))) (some false)).bind fun g1 => some g1
def zi.k : Kq := ⟨16, (cvv [Ty.bool] [T6, T6, T6] zi), go [] {} [] Proofs.Tryz.func16⟩
def zpo (a0 : Int) : Option Bool :=
 (cond (decide (65 ≤ a0)) (some (decide (a0 ≤ 90))) (some false)).bind fun g1 => some g1
def zpo.k : Kq := ⟨190, (cvv [Ty.bool] [(Ty.int .u8)] zpo), go [] {} [] Proofs.Tryz.func190⟩
def zpq (a0 : Int) : Option Bool :=
 (cond (decide (48 ≤ a0)) (some (decide (a0 ≤ 57))) (some false)).bind fun g1 => some g1
def zpq.k : Kq := ⟨191, (cvv [Ty.bool] [(Ty.int .u8)] zpq), go [] {} [] Proofs.Tryz.func191⟩
def zdx.b0 (N : Nat) (s0 : ByteArray) (s3 : Int) : Option (Round Bool (ByteArray × Int)) :=
 cond (decide (s3 < (s0.size : Int))) ((zhl s0 s3).bind fun x1001 => (zpo (x1001.toNat : Int)).bind fun r1002 => (cond r1002 (some true)
  (some ((x1001.toNat : Int) == 36))).bind fun g1003 => (cond g1003 (some true) (some ((x1001.toNat : Int) == 35))).bind fun g1004 => (cond g1004 (some true)
  (some ((x1001.toNat : Int) == 64))).bind fun g1005 => (cond (!g1005) ((cond (s3 == 0) (some true) ((zpq (x1001.toNat : Int)).bind fun r1006 => (cond (!r1006)
  (some ((x1001.toNat : Int) != 95)) (some false)).bind fun g1007 => (cond g1007 (some ((x1001.toNat : Int) != 46)) (some false)).bind fun g1008 => some g1008)).bind fun g1009 =>
  some g1009) (some false)).bind fun g1010 => cond g1010 (some (.result false)) (some (.again (s0, (w6 (s3 + 1)))))) (some (.leave (s0, s3)))
def zdx.r0 (N : Nat) (x : ByteArray × Int) := zdx.b0 N x.1 x.2
def zdx (N : Nat) (a0 : ByteArray) : Option Bool :=
 (zi (a0.size : Int) 1 10).bind fun r1 => cond (!r1) (some false) ((zj (zdx.r0 N) N (a0, 0)).bind fun z3 => zb5 z3 (fun z => some z) (fun y2 => some true))
def zdx.k (N : Nat) : Kq := ⟨132, (cvv [Ty.bool] [Ty.str] (zdx N)), go [zi.k, zpo.k, zpq.k] {lits := [7]} [(0, .rets { slots := [(0, .val Ty.str), (3, .val T6)], boxes := [] } [Ty.str, T6] (zj (zdx.r0 N) N))] Proofs.Tryz.func132 (hL := ⟨⟨_, _, rfl, by kernel_rfl⟩, trivial⟩)⟩
def zee.b0 (N : Nat) (s1 : ByteArray) (s5 : Int) (b2 : zB) : Option (Round Int (ByteArray × Int × zB)) :=
 cond (decide (s5 < (b2.zA.length : Int))) ((idx b2.zA s5).bind fun x1001 => cond (x1001.Name.toList == s1.toList) (some (.result s5))
  (some (.again (s1, (w6 (s5 + 1)), b2)))) (some (.leave (s1, s5, b2)))
def zee.r0 (N : Nat) (x : ByteArray × Int × zB) := zee.b0 N x.1 x.2.1 x.2.2
def zee (N : Nat) (a0 : zB) (a1 : ByteArray) : Option Int :=
 (zj (zee.r0 N) N (a1, 0, a0)).bind fun z2 => zb5 z2 (fun z => some z) (fun y1 => some (-1))
def zee.k (N : Nat) : Kq := ⟨100, (cvv [T6] [Ty.zB, Ty.str] (zee N)), go [] {} [(0, .rets { slots := [(1, .val Ty.str), (2, .ptr 2 0), (5, .val T6)], boxes := [(2, Ty.zB, [])] } [Ty.str, T6, Ty.zB] (zj (zee.r0 N) N))] Proofs.Tryz.func100 (hL := ⟨⟨_, _, rfl, by kernel_rfl⟩, trivial⟩)⟩
def zkx (a0 : zF) : Option Bool :=
 (cond (a0.Base.toList == (⟨#[]⟩ : ByteArray).toList) (some (a0.Offset == 0)) (some false)).bind fun g1 => (cond (a0.Kind == 0) (some (a0.Kind == 0))
  (some (a0.Kind == 4))).bind fun q2 => cond q2 ((cond (!g1) (some true) (some (a0.Target != 0))).bind fun g3 => some g3) ((cond (a0.Kind == 1) (some (a0.Kind == 1))
  (some (a0.Kind == 2))).bind fun q4 => cond q4 ((cond (!(zfd [(a0.Value.N == 0), (a0.Value.S == (⟨#[]⟩ : ByteArray))])) (some true) (some (a0.Target != 0))).bind fun g5 =>
  some g5) (cond (a0.Kind == 3) ((cond (!(zfd [(a0.zJ.Kind == 0), (a0.zJ.Length == 0), (a0.zJ.Scale == 0)])) (some true)
  (some (!(zfd [(a0.Value.N == 0), (a0.Value.S == (⟨#[]⟩ : ByteArray))])))).bind fun g6 => (cond g6 (some true) (some (!g1))).bind fun g7 => (cond g7 (some true)
  (some (a0.Target != 0))).bind fun g8 => some g8) ((cond (!(zfd [(a0.zJ.Kind == 0), (a0.zJ.Length == 0), (a0.zJ.Scale == 0)])) (some true)
  (some (!(zfd [(a0.Value.N == 0), (a0.Value.S == (⟨#[]⟩ : ByteArray))])))).bind fun g9 => (cond g9 (some true) (some (!g1))).bind fun g10 => some g10)))
def zkx.k : Kq := ⟨133, (cvv [Ty.bool] [Ty.zF] zkx), go [] {bj := [19, 29]} [] Proofs.Tryz.func133⟩
def zgt (a0 : Int) : Option Bool :=
 (cond (a0 == 0) (some true) (some (a0 == 1))).bind fun g1 => (cond g1 (some true) (some (a0 == 2))).bind fun g2 => some g2
def zgt.k : Kq := ⟨118, (cvv [Ty.bool] [T6] zgt), go [] {} [] Proofs.Tryz.func118⟩
def zhp (a0 : Int) : Option Bool :=
 (zgt a0).bind fun r1 => (cond r1 (some true) (some (a0 == 4))).bind fun g2 => some g2
def zhp.k : Kq := ⟨74, (cvv [Ty.bool] [T6] zhp), go [zgt.k] {} [] Proofs.Tryz.func74⟩
def zc4 (a0 : Int) : Option Bool :=
 (zi a0 1 3).bind fun r1 => some r1
def zc4.k : Kq := ⟨124, (cvv [Ty.bool] [T6] zc4), go [zi.k] {} [] Proofs.Tryz.func124⟩
def zbj (a0 : Bool) : Option Int :=
 cond a0 (some 1) (some 0)
def zbj.k : Kq := ⟨122, (cvv [T6] [Ty.bool] zbj), go [] {} [] Proofs.Tryz.func122⟩
def zgq (a0 : DataType) : Option Int :=
 (zi a0.Kind 0 4).bind fun r1 => cond (!r1) (some 4) (cond (a0.Kind == 0) ((zi a0.Length 1 256).bind fun r2 => cond (!r2) (some 18)
  ((zc4 a0.Kind).bind fun r3 => cond r3 ((zi a0.Scale 0 a0.Length).bind fun r4 => (zbj (!r4)).bind fun r5 => some (w6 (3 * r5)))
  ((zi a0.Scale 0 0).bind fun r6 => (zbj (!r6)).bind fun r7 => some (w6 (3 * r7))))) ((cond (a0.Kind == 1) (some (a0.Kind == 1))
  (some (a0.Kind == 2))).bind fun q8 => cond q8 ((zi a0.Length 1 15).bind fun r9 => cond (!r9) (some 18) ((zc4 a0.Kind).bind fun r10 =>
  cond r10 ((zi a0.Scale 0 a0.Length).bind fun r11 => (zbj (!r11)).bind fun r12 => some (w6 (3 * r12))) ((zi a0.Scale 0 0).bind fun r13 =>
  (zbj (!r13)).bind fun r14 => some (w6 (3 * r14))))) (cond (a0.Kind == 3) ((cond (a0.Length == 4) (some true) (some (a0.Length == 9))).bind fun g15 =>
  cond (!g15) (some 18) ((zc4 a0.Kind).bind fun r16 => cond r16 ((zi a0.Scale 0 a0.Length).bind fun r17 => (zbj (!r17)).bind fun r18 =>
  some (w6 (3 * r18))) ((zi a0.Scale 0 0).bind fun r19 => (zbj (!r19)).bind fun r20 => some (w6 (3 * r20))))) (cond (!(a0.Length == 0))
  (some 18) ((zc4 a0.Kind).bind fun r21 => cond r21 ((zi a0.Scale 0 a0.Length).bind fun r22 => (zbj (!r22)).bind fun r23 =>
  some (w6 (3 * r23))) ((zi a0.Scale 0 0).bind fun r24 => (zbj (!r24)).bind fun r25 => some (w6 (3 * r25))))))))
def zgq.k : Kq := ⟨134, (cvv [T6] [Ty.DataType] zgq), go [zi.k, zbj.k, zc4.k] {bj := [19]} [] Proofs.Tryz.func134⟩
def zed.b0 (N : Nat) (s0 : Int) (s3 : Int) (s4 : Int) : Option (Stp (Int × Int × Int)) :=
 cond (decide (s4 < s0)) (some (.again (s0, (w6 (s3 * 10)), (w6 (s4 + 1))))) (some (.leave (s0, s3, s4)))
def zed.r0 (N : Nat) (x : Int × Int × Int) := zed.b0 N x.1 x.2.1 x.2.2
def zed (N : Nat) (a0 : Int) : Option Int :=
 (zl (zed.r0 N) N (a0, 1, 0)).bind fun y1 => some y1.2.1
def zed.k (N : Nat) : Kq := ⟨170, (cvv [T6] [T6] (zed N)), go [] {} [(0, .plain { slots := [(0, .val T6), (3, .val T6), (4, .val T6)], boxes := [] } [T6, T6, T6] (zl (zed.r0 N) N))] Proofs.Tryz.func170 (hL := ⟨⟨_, _, rfl, by kernel_rfl⟩, trivial⟩)⟩
def ziw (N : Nat) (a0 : DataType) : Option Int :=
 (zed N a0.Length).bind fun r1 => some (w6 (r1 - 1))
def ziw.k (N : Nat) : Kq := ⟨180, (cvv [T6] [Ty.DataType] (ziw N)), go [zed.k N] {} [] Proofs.Tryz.func180⟩
def zjs (N : Nat) (a0 : DataType) (a1 : Value) : Option Int :=
 (zgq a0).bind fun r1 => cond (r1 != 0) (some r1) (cond (a0.Kind == 4) (some 17) ((cond (a0.Kind == 0) (some (a1.N != 0)) (some false)).bind fun g2 =>
  (cond g2 (some true) ((cond (a0.Kind != 0) (some (!(a1.S.toList == (⟨#[]⟩ : ByteArray).toList))) (some false)).bind fun g3 => some g3)).bind fun g4 => cond g4 (some 5)
  (cond (a0.Kind == 0) ((zbj ((a1.S.size : Int) != a0.Length)).bind fun r5 => some (w6 (18 * r5))) ((ziw N a0).bind fun r6 =>
  (ziw N a0).bind fun r7 => (zi a1.N (w6 (0 - r6)) r7).bind fun r8 => (zbj (!r8)).bind fun r9 => some (w6 (19 * r9))))))
def zjs.k (N : Nat) : Kq := ⟨135, (cvv [T6] [Ty.DataType, Ty.Value] (zjs N)), go [zi.k, zbj.k, zgq.k, ziw.k N] {lits := [49]} [] Proofs.Tryz.func135⟩
def zec (a0 : DataType) : Option Int :=
 cond (a0.Kind == 1) (some (w6 ((w6 (a0.Length.tdiv 2)) + 1))) (cond (a0.Kind == 3) ((zbj (a0.Length == 9)).bind fun r1 =>
  some (w6 (2 + (w6 (2 * r1))))) (cond (a0.Kind == 4) (some 16) (some a0.Length)))
def zec.k : Kq := ⟨77, (cvv [T6] [Ty.DataType] zec), go [zbj.k] {} [] Proofs.Tryz.func77⟩
def zjr (N : Nat) (a0 : zB) (a1 : Int) : Option Int :=
 (idx a0.zA a1).bind fun x1 => (zdx N x1.Name).bind fun r2 => cond (!r2) (some 7) ((zee N a0 x1.Name).bind fun r3 => cond (decide (r3 < a1)) (some 13)
  ((zi x1.Kind 0 5).bind fun r4 => cond (!r4) (some 4) ((zkx x1).bind fun r5 => cond r5 (some 5) ((zhp x1.Kind).bind fun r6 =>
  cond r6 ((zgq x1.zJ).bind fun r7 => cond (r7 != 0) (some r7) (cond (x1.zJ.Kind == 4) (some 17) ((zee N a0 x1.Base).bind fun r8 => (cond (x1.Kind == 0)
  (some (x1.Kind == 0)) (some (x1.Kind == 4))).bind fun q9 => cond q9 ((zjs N x1.zJ x1.Value).bind fun r10 => some r10) ((cond (x1.Kind == 1) (some (x1.Kind == 1))
  (some (x1.Kind == 2))).bind fun q11 => cond q11 ((cond (r8 == (-1)) (some true) (some (decide (r8 ≥ a1)))).bind fun g12 => cond g12 (some 11) ((idx a0.zA r8).bind fun x13 =>
  (cond (x1.Kind == 1) (some (x13.Kind != 0)) (some false)).bind fun g14 => (cond g14 (some true) ((cond (x1.Kind == 2) (some (x13.Kind != 3)) (some false)).bind fun g15 =>
  some g15)).bind fun g16 => cond g16 (some 17) (cond (x1.Kind == 1) ((zec x13.zJ).bind fun r17 => (zec x1.zJ).bind fun r18 =>
  (zi x1.Offset 0 (w6 (r17 - r18))).bind fun r19 => cond (!r19) (some 3) (some 0)) ((zi x1.Offset 0 256).bind fun r20 => cond (!r20) (some 3)
  (some 0))))) (cond (x1.Kind == 5) ((zi x1.Target 0 (w6 ((a0.zG.length : Int) - 1))).bind fun r21 => cond (!r21) (some 3) (some 0)) (some 0))))))
  ((zee N a0 x1.Base).bind fun r22 => (cond (x1.Kind == 0) (some (x1.Kind == 0)) (some (x1.Kind == 4))).bind fun q23 =>
  cond q23 ((zjs N x1.zJ x1.Value).bind fun r24 => some r24) ((cond (x1.Kind == 1) (some (x1.Kind == 1)) (some (x1.Kind == 2))).bind fun q25 =>
  cond q25 ((cond (r22 == (-1)) (some true) (some (decide (r22 ≥ a1)))).bind fun g26 => cond g26 (some 11) ((idx a0.zA r22).bind fun x27 => (cond (x1.Kind == 1)
  (some (x27.Kind != 0)) (some false)).bind fun g28 => (cond g28 (some true) ((cond (x1.Kind == 2) (some (x27.Kind != 3)) (some false)).bind fun g29 => some g29)).bind fun g30 =>
  cond g30 (some 17) (cond (x1.Kind == 1) ((zec x27.zJ).bind fun r31 => (zec x1.zJ).bind fun r32 =>
  (zi x1.Offset 0 (w6 (r31 - r32))).bind fun r33 => cond (!r33) (some 3) (some 0)) ((zi x1.Offset 0 256).bind fun r34 => cond (!r34) (some 3)
  (some 0))))) (cond (x1.Kind == 5) ((zi x1.Target 0 (w6 ((a0.zG.length : Int) - 1))).bind fun r35 => cond (!r35) (some 3) (some 0)) (some 0))))))))
def zjr.k (N : Nat) : Kq := ⟨82, (cvv [T6] [Ty.zB, T6] (zjr N)), go [zi.k, zhp.k, zec.k, zee.k N, zdx.k N, zkx.k, zgq.k, zjs.k N] {bj := [54, 62]} [] Proofs.Tryz.func82⟩
def zw.b0 (N : Nat) (s4 : List Int) (s5 : Int) (s6 : Int) (b1 : zB) : Option (Stp ((List Int) × Int × Int × zB)) :=
 cond (decide (s6 < (b1.zA.length : Int))) (if 0 ≤ s6 then (if s6 < (s4.length : Int) then ((s4[s6.toNat]?).bind fun x1001 => (idx b1.zA s6).bind fun x1002 =>
  cond (x1002.Kind == 3) (if 0 ≤ s6 then (if s6 < ((s4.set s6.toNat (-1)).length : Int) then (((s4.set s6.toNat (-1))[s6.toNat]?).bind fun x1003 =>
  some (.again (((s4.set s6.toNat (-1)).set s6.toNat s5), (w6 (s5 + 16)), (w6 (s6 + 1)), b1))) else none) else none)
  (some (.again ((s4.set s6.toNat (-1)), s5, (w6 (s6 + 1)), b1)))) else none) else none) (some (.leave (s4, s5, s6, b1)))
def zw.r0 (N : Nat) (x : (List Int) × Int × Int × zB) := zw.b0 N x.1 x.2.1 x.2.2.1 x.2.2.2
def zw.b2 (N : Nat) (s4 : List Int) (s5 : Int) (s7 : Int) (b1 : zB) : Option (Stp ((List Int) × Int × Int × zB)) :=
 cond (decide (s7 < (b1.zA.length : Int))) ((idx b1.zA s7).bind fun x3001 => cond (x3001.Kind == 0)
  (if 0 ≤ s7 then (if s7 < (s4.length : Int) then ((s4[s7.toNat]?).bind fun x3002 => (zec x3001.zJ).bind fun r3003 =>
  some (.again ((s4.set s7.toNat s5), (w6 (s5 + r3003)), (w6 (s7 + 1)), b1))) else none) else none)
  (some (.again (s4, s5, (w6 (s7 + 1)), b1)))) (some (.leave (s4, s5, s7, b1)))
def zw.r2 (N : Nat) (x : (List Int) × Int × Int × zB) := zw.b2 N x.1 x.2.1 x.2.2.1 x.2.2.2
def zw.b4 (N : Nat) (s4 : List Int) (s5 : Int) (s9 : Int) (b1 : zB) : Option (Stp ((List Int) × Int × Int × zB)) :=
 cond (decide (s9 < (b1.zA.length : Int))) ((idx b1.zA s9).bind fun x5001 => cond (x5001.Kind == 1) ((zee N b1 x5001.Base).bind fun r5002 =>
  if 0 ≤ r5002 then (if r5002 < (s4.length : Int) then ((s4[r5002.toNat]?).bind fun x5003 => if 0 ≤ s9 then (if s9 < (s4.length : Int) then ((s4[s9.toNat]?).bind fun x5004 =>
  some (.again ((s4.set s9.toNat (w6 (x5003 + x5001.Offset))), s5, (w6 (s9 + 1)), b1))) else none) else none) else none) else none)
  (some (.again (s4, s5, (w6 (s9 + 1)), b1)))) (some (.leave (s4, s5, s9, b1)))
def zw.r4 (N : Nat) (x : (List Int) × Int × Int × zB) := zw.b4 N x.1 x.2.1 x.2.2.1 x.2.2.2
def zw (N : Nat) (a0 : zB) : Option ((List Int) × Int) :=
 if 0 ≤ (a0.zA.length : Int) then (if (a0.zA.length : Int) ≤ (a0.zA.length : Int) then (cond (Nat.ble ((a0.zA.length : Int).toNat * 8) zbr)
  ((zl (zw.r0 N) N ((List.replicate (a0.zA.length : Int).toNat (0 : Int)), 0, 0, a0)).bind fun y1 =>
  (zl (zw.r2 N) N (y1.1, y1.2.1, 0, y1.2.2.2)).bind fun y2 => (zl (zw.r4 N) N (y2.1, y2.2.1, 0, y2.2.2.2)).bind fun y3 =>
  some (y3.1, (w6 ((w6 ((w6 (y3.2.1 + 16)) - 1)).tdiv 16)))) none) else none) else none
def zw.k (N : Nat) : Kq := ⟨60, (cvv [(Ty.sl T6), T6] [Ty.zB] (zw N)), go [zec.k, zee.k N] {} [(0, .plain { slots := [(1, .ptr 1 0), (4, .own 5000004 T6), (5, .val T6), (6, .val T6)], boxes := [(1, Ty.zB, [])] } [(Ty.sl T6), T6, T6, Ty.zB] (zl (zw.r0 N) N)), (2, .plain { slots := [(1, .ptr 1 0), (4, .own 5000004 T6), (5, .val T6), (7, .val T6)], boxes := [(1, Ty.zB, [])] } [(Ty.sl T6), T6, T6, Ty.zB] (zl (zw.r2 N) N)), (4, .plain { slots := [(1, .ptr 1 0), (4, .own 5000004 T6), (5, .val T6), (9, .val T6)], boxes := [(1, Ty.zB, [])] } [(Ty.sl T6), T6, T6, Ty.zB] (zl (zw.r4 N) N))] Proofs.Tryz.func60 (hL := ⟨⟨_, _, rfl, by kernel_rfl⟩, ⟨_, _, rfl, by kernel_rfl⟩, ⟨_, _, rfl, by kernel_rfl⟩, trivial⟩)⟩
def zm2 (a0 : Int) : Option ((List Int)) :=
 cond (a0 == 0) (some ([0, 4] : List Int)) (cond (a0 == 1) (some ([1, 3] : List Int)) ((cond (a0 == 2) (some (a0 == 2)) (cond (a0 == 3) (some (a0 == 3)) (cond (a0 == 4)
  (some (a0 == 4)) (cond (a0 == 5) (some (a0 == 5)) (some (a0 == 6)))))).bind fun q1 => cond q1 (some ([1, 3, 3] : List Int)) ((cond (a0 == 7) (some (a0 == 7))
  (some (a0 == 8))).bind fun q2 => cond q2 (some ([2, 4, 6] : List Int)) ((cond (a0 == 9) (some (a0 == 9)) (some (a0 == 13))).bind fun q3 => cond q3 (some ([6] : List Int))
  (cond (a0 == 10) (some ([5, 0] : List Int)) (cond (a0 == 11) (some ([5, 5] : List Int)) (cond (a0 == 12) (some ([5, 3] : List Int)) (cond (a0 == 15) (some ([3] : List Int))
  (cond (a0 == 16) (some ([1] : List Int)) (cond (a0 == 17) (some ([2] : List Int)) (some [])))))))))))
def zm2.k : Kq := ⟨136, (cvv [(Ty.sl T6)] [T6] zm2), go [] {bj := [10, 17, 21]} [] Proofs.Tryz.func136⟩
def zhk (a0 : zF) : Option Bool :=
 (zc4 a0.zJ.Kind).bind fun r1 => some r1
def zhk.k : Kq := ⟨137, (cvv [Ty.bool] [Ty.zF] zhk), go [zc4.k] {} [] Proofs.Tryz.func137⟩
def za5.b0 (N : Nat) (s5 : List Int) (s6 : Int) (b2 : zB) (b3 : zI) : Option (Round Int ((List Int) × Int × zB × zI)) :=
 cond (decide (s6 < (s5.length : Int))) ((idx b3.Args s6).bind fun x1001 => (zi x1001 0 (w6 ((b2.zA.length : Int) - 1))).bind fun r1002 =>
  cond (!r1002) (some (.result 3)) ((idx b3.Args s6).bind fun x1003 => (idx b2.zA x1003).bind fun x1004 => (idx s5 s6).bind fun x1005 => cond (x1005 == 0)
  ((zgt x1004.Kind).bind fun r1006 => cond (!r1006) (some (.result 17)) (some (.again (s5, (w6 (s6 + 1)), b2, b3)))) (cond (x1005 == 1)
  ((zgt x1004.Kind).bind fun r1007 => (cond r1007 ((zhk x1004).bind fun r1008 => some r1008) (some false)).bind fun g1009 => cond (!g1009) (some (.result 17))
  (some (.again (s5, (w6 (s6 + 1)), b2, b3)))) (cond (x1005 == 2) ((zhp x1004.Kind).bind fun r1010 => cond (!r1010) (some (.result 17))
  (some (.again (s5, (w6 (s6 + 1)), b2, b3)))) (cond (x1005 == 3) ((zhp x1004.Kind).bind fun r1011 => (cond r1011 ((zhk x1004).bind fun r1012 =>
  some r1012) (some false)).bind fun g1013 => cond (!g1013) (some (.result 17)) (some (.again (s5, (w6 (s6 + 1)), b2, b3)))) (cond (x1005 == 4)
  ((zhp x1004.Kind).bind fun r1014 => (cond r1014 ((zhk x1004).bind fun r1015 => (idx b3.Args (w6 (s6 - 1))).bind fun x1016 =>
  (idx b2.zA x1016).bind fun x1017 => (zhk x1017).bind fun r1018 => some (r1015 == r1018)) (some false)).bind fun g1019 => cond (!g1019) (some (.result 17))
  (some (.again (s5, (w6 (s6 + 1)), b2, b3)))) (cond (x1005 == 5) (cond (!(x1004.Kind == 3)) (some (.result 17))
  (some (.again (s5, (w6 (s6 + 1)), b2, b3)))) (cond (x1005 == 6) (cond (!(x1004.Kind == 5)) (some (.result 17))
  (some (.again (s5, (w6 (s6 + 1)), b2, b3)))) (some (.result 17)))))))))) (some (.leave (s5, s6, b2, b3)))
def za5.r0 (N : Nat) (x : (List Int) × Int × zB × zI) := za5.b0 N x.1 x.2.1 x.2.2.1 x.2.2.2
def za5 (N : Nat) (a0 : zB) (a1 : zI) : Option Int :=
 (zi a1.Op 0 18).bind fun r1 => cond (!r1) (some 4) ((zm2 a1.Op).bind fun r2 => cond ((a1.Args.length : Int) != (r2.length : Int)) (some 37)
  ((zj (za5.r0 N) N (r2, 0, a0, a1)).bind fun z4 => zb5 z4 (fun z => some z) (fun y3 => some 0)))
def za5.k (N : Nat) : Kq := ⟨83, (cvv [T6] [Ty.zB, Ty.zI] (za5 N)), go [zi.k, zhp.k, zgt.k, zm2.k, zhk.k] {} [(0, .rets { slots := [(2, .ptr 2 0), (3, .ptr 3 0), (5, .val (Ty.sl T6)), (6, .val T6)], boxes := [(2, Ty.zB, []), (3, Ty.zI, [])] } [(Ty.sl T6), T6, Ty.zB, Ty.zI] (zj (za5.r0 N) N))] Proofs.Tryz.func83 (hL := ⟨⟨_, _, rfl, by kernel_rfl⟩, trivial⟩)⟩
def zad.b0 (N : Nat) (s4 : Int) (b1 : zB) (b2 : zM) : Option (Round (zM × Int) (Int × zB × zM)) :=
 cond (decide (s4 < (b1.zA.length : Int))) ((zjr N b1 s4).bind fun r1001 => cond (r1001 != 0) (some (.result ((⟨1, s4⟩ : zM), r1001)))
  (some (.again ((w6 (s4 + 1)), b1, b2)))) (some (.leave (s4, b1, b2)))
def zad.r0 (N : Nat) (x : Int × zB × zM) := zad.b0 N x.1 x.2.1 x.2.2
def zad.b2 (N : Nat) (s8 : Int) (b1 : zB) (b2 : zM) : Option (Round (zM × Int) (Int × zB × zM)) :=
 cond (decide (s8 < (b1.zG.length : Int))) ((idx b1.zG s8).bind fun x3001 => (za5 N b1 x3001).bind fun r3002 => cond (r3002 != 0)
  (some (.result ((⟨2, s8⟩ : zM), r3002))) (some (.again ((w6 (s8 + 1)), b1, b2)))) (some (.leave (s8, b1, b2)))
def zad.r2 (N : Nat) (x : Int × zB × zM) := zad.b2 N x.1 x.2.1 x.2.2
def zad.b4 (N : Nat) (s10 : Int) (b1 : zB) (b2 : zM) : Option (Round (zM × Int) (Int × zB × zM)) :=
 cond (decide (s10 < (b1.zL.length : Int))) ((idx b1.zL s10).bind fun x5001 => (cond (decide (x5001.From < 0)) (some true)
  (some (decide (x5001.From ≥ x5001.To)))).bind fun g5002 => (cond g5002 (some true) (some (decide (x5001.To > (b1.zG.length : Int))))).bind fun g5003 =>
  (cond g5003 (some true) ((zi x5001.Exception 0 999).bind fun r5004 => some (!r5004))).bind fun g5005 => (cond g5005 (some true)
  ((zi x5001.Handler 0 (w6 ((b1.zG.length : Int) - 1))).bind fun r5006 => some (!r5006))).bind fun g5007 =>
  cond g5007 (some (.result ((⟨3, s10⟩ : zM), 3))) (some (.again ((w6 (s10 + 1)), b1, b2)))) (some (.leave (s10, b1, b2)))
def zad.r4 (N : Nat) (x : Int × zB × zM) := zad.b4 N x.1 x.2.1 x.2.2
def zad (N : Nat) (a0 : zB) : Option (zM × Int) :=
 (cond (decide ((a0.zA.length : Int) > 24)) (some true) (some (decide ((a0.zG.length : Int) > 40)))).bind fun g1 => (cond g1 (some true)
  (some (decide ((a0.zL.length : Int) > 6)))).bind fun g2 => cond g2 (some ((⟨0, 0⟩ : zM), 2)) (cond ((a0.zG.length : Int) == 0) (some ((⟨0, 0⟩ : zM), 1))
  ((zj (zad.r0 N) N (0, a0, (⟨0, 0⟩ : zM))).bind fun z4 => zb5 z4 (fun z => some z) (fun y3 => (zw N y3.2.1).bind fun r5 => cond (decide (r5.2 > 24))
  (some ((⟨0, 0⟩ : zM), 30)) ((zj (zad.r2 N) N (0, y3.2.1, y3.2.2)).bind fun z7 => zb5 z7 (fun z => some z) (fun y6 =>
  (zj (zad.r4 N) N (0, y6.2.1, y6.2.2)).bind fun z9 => zb5 z9 (fun z => some z) (fun y8 => some ((⟨0, 0⟩ : zM), 0)))))))
def zad.k (N : Nat) : Kq := ⟨47, (cvv [Ty.zM, T6] [Ty.zB] (zad N)), go [zi.k, zw.k N, zjr.k N, za5.k N] {} [(0, .rets { slots := [(1, .ptr 1 0), (2, .ptr 2 0), (4, .val T6)], boxes := [(1, Ty.zB, []), (2, Ty.zM, [])] } [T6, Ty.zB, Ty.zM] (zj (zad.r0 N) N)), (2, .rets { slots := [(1, .ptr 1 0), (2, .ptr 2 0), (8, .val T6)], boxes := [(1, Ty.zB, []), (2, Ty.zM, [])] } [T6, Ty.zB, Ty.zM] (zj (zad.r2 N) N)), (4, .rets { slots := [(1, .ptr 1 0), (2, .ptr 2 0), (10, .val T6)], boxes := [(1, Ty.zB, []), (2, Ty.zM, [])] } [T6, Ty.zB, Ty.zM] (zj (zad.r4 N) N))] Proofs.Tryz.func47 (hL := ⟨⟨_, _, rfl, by kernel_rfl⟩, ⟨_, _, rfl, by kernel_rfl⟩, ⟨_, _, rfl, by kernel_rfl⟩, trivial⟩)⟩
def zrd (N : Nat) (a0 : zB) : Option Int :=
 (zad N a0).bind fun r1 => some r1.2
def zrd.k (N : Nat) : Kq := ⟨15, (cvv [T6] [Ty.zB] (zrd N)), go [zad.k N] {} [] Proofs.Tryz.func15⟩
def zh5 (a0 : List Int) : Option ((List Int)) :=
 cond (Nat.ble (a0.length * 8) zbr) (some a0) none
def zh5.k : Kq := ⟨46, (ctv [.val (Ty.sl T6)] [(Ty.sl T6)] [] [0] [(Ty.sl T6)] zh5), go [] {} [] Proofs.Tryz.func46⟩
def zdu.b0 (N : Nat) (s4 : Int) (b1 : zB) (b2 : zB) (b3 : zB) : Option (Stp (Int × zB × zB × zB)) :=
 cond (decide (s4 < (b1.zG.length : Int))) ((idx b1.zG s4).bind fun x1001 => (idx b1.zG s4).bind fun x1002 =>
  (zh5 x1002.Args).bind fun r1003 => cond (Nat.ble ((b3.zG.length + ([(⟨x1001.Op, r1003⟩ : zI)] : List zI).length) * 32) zbr)
  (some (.again ((w6 (s4 + 1)), b1, b2, (⟨b3.zA, (b3.zG ++ ([(⟨x1001.Op, r1003⟩ : zI)] : List zI)), b3.zL⟩ : zB)))) none)
  (some (.leave (s4, b1, b2, b3)))
def zdu.r0 (N : Nat) (x : Int × zB × zB × zB) := zdu.b0 N x.1 x.2.1 x.2.2.1 x.2.2.2
def zdu (N : Nat) (a0 : zB) : Option zB :=
 cond (Nat.ble (a0.zA.length * 104) zbr) (cond (Nat.ble (a0.zL.length * 32) zbr)
  ((zl (zdu.r0 N) N (0, a0, (⟨[], [], []⟩ : zB), (⟨a0.zA, [], a0.zL⟩ : zB))).bind fun y1 => some y1.2.2.2) none) none
def zdu.k (N : Nat) : Kq := ⟨14, (cvv [Ty.zB] [Ty.zB] (zdu N)), go [zh5.k] {lits := [33, 35]} [(0, .plain { slots := [(1, .ptr 1 0), (2, .ptr 2 0), (3, .ptr 3 0), (4, .val T6)], boxes := [(1, Ty.zB, []), (2, Ty.zB, [0, 1, 2]), (3, Ty.zB, [0, 1, 2])] } [T6, Ty.zB, Ty.zB, Ty.zB] (zl (zdu.r0 N) N))] Proofs.Tryz.func14 (hL := ⟨⟨_, _, rfl, by kernel_rfl⟩, trivial⟩)⟩
def zd8 (N : Nat) (a0 : zB) : Option Int :=
 (ze N a0).bind fun r1 => some r1.2
def zd8.k (N : Nat) : Kq := ⟨41, (cvv [T6] [Ty.zB] (zd8 N)), go [ze.k N] {} [] Proofs.Tryz.func41⟩
def zch (a0 : Bool) (a1 : Int) : Option Int :=
 cond a0 (some a1) (some 0)
def zch.k : Kq := ⟨42, (cvv [T6] [Ty.bool, T6] zch), go [] {} [] Proofs.Tryz.func42⟩
def zae.b0 (N : Nat) (s5 : List Int) (s6 : Int) (s7 : Int) : Option (Round Int ((List Int) × Int × Int)) :=
 cond (decide (s7 < s6)) ((idx s5 s7).bind fun x1001 => cond (x1001 != 0) (some (.result x1001)) (some (.again (s5, s6, (w6 (s7 + 1)))))) (some (.leave (s5, s6, s7)))
def zae.r0 (N : Nat) (x : (List Int) × Int × Int) := zae.b0 N x.1 x.2.1 x.2.2
def zae (N : Nat) (a0 : List Int) : Option Int :=
 (zj (zae.r0 N) N (a0, (a0.length : Int), 0)).bind fun z2 => zb5 z2 (fun z => some z) (fun y1 => some 0)
def zae.k (N : Nat) : Kq := ⟨40, (cvv [T6] [(Ty.sl T6)] (zae N)), go [] {} [(0, .rets { slots := [(5, .val (Ty.sl T6)), (6, .val T6), (7, .val T6)], boxes := [] } [(Ty.sl T6), T6, T6] (zj (zae.r0 N) N))] Proofs.Tryz.func40 (hL := ⟨⟨_, _, rfl, by kernel_rfl⟩, trivial⟩)⟩
def ze0 (a0 : zC) (a1 : List zC) : Option ((List zC)) :=
 cond (Nat.ble ((a1.length + ([a0] : List zC).length) * 120) zbr) (some (a1 ++ ([a0] : List zC))) none
def ze0.k : Kq := ⟨45, (ctv [.val Ty.zC, .ptr (Ty.sl Ty.zC) true [0]] [] [(Ty.sl Ty.zC)] [] [Ty.zC, (Ty.sl Ty.zC)] ze0), go [] {lits := [5], pk := [1000000]} [] Proofs.Tryz.func45⟩
def zbi.b0 (N : Nat) (s1 : Int) (s9 : List Int) (s11 : Int) (b1000000 : List zC) (b3 : zB) (b7 : zC) : Option (Stp (Int × (List Int) × Int × (List zC) × zB × zC)) :=
 (cond (decide (s11 < s1)) (some (b7.Status == 0)) (some false)).bind fun g1001 => cond g1001 ((zfw N b3 b7 s9).bind fun r1002 =>
  (ze0 r1002 b1000000).bind fun r1003 => some (.again (s1, s9, (w6 (s11 + 1)), r1003, b3, r1002))) (some (.leave (s1, s9, s11, b1000000, b3, b7)))
def zbi.r0 (N : Nat) (x : Int × (List Int) × Int × (List zC) × zB × zC) := zbi.b0 N x.1 x.2.1 x.2.2.1 x.2.2.2.1 x.2.2.2.2.1 x.2.2.2.2.2
def zbi (N : Nat) (a0 : zB) (a1 : Int) (a2 : List zC) : Option (Int × (List zC)) :=
 (ze7 N a0).bind fun r1 => cond (r1.2 != 0) (some (r1.2, a2)) ((zd0 N a0).bind fun r2 => cond (r2.2.2 != 0) (some (r2.2.2, a2))
  ((ze0 r1.1 a2).bind fun r3 => (zl (zbi.r0 N) N (a1, r2.1, 0, r3, a0, r1.1)).bind fun y4 => some (0, y4.2.2.2.1)))
def zbi.k (N : Nat) : Kq := ⟨44, (ctv [.val Ty.zB, .val T6, .clo 45 1, .ptr (Ty.sl Ty.zC) true [0]] [T6] [(Ty.sl Ty.zC)] [] [Ty.zB, T6, (Ty.sl Ty.zC)] (zbi N)), go [ze7.k N, ze0.k, zd0.k N, zfw.k N] {pk := [1000000]} [(0, .plain { slots := [(1, .val T6), (2, .fn 45 [1000000]), (3, .ptr 3 0), (7, .ptr 7 0), (9, .val (Ty.sl T6)), (11, .val T6)], boxes := [(1000000, (Ty.sl Ty.zC), [0]), (3, Ty.zB, []), (7, Ty.zC, [])] } [T6, (Ty.sl T6), T6, (Ty.sl Ty.zC), Ty.zB, Ty.zC] (zl (zbi.r0 N) N))] Proofs.Tryz.func44 (hL := ⟨⟨_, _, rfl, by kernel_rfl⟩, trivial⟩)⟩
def zio (N : Nat) (a0 : zB) (a1 : Int) : Option ((List zC) × Int) :=
 (zd8 N a0).bind fun r1 => (zct a1 0 300).bind fun r2 => (zch (!r2) 3).bind fun r3 => (zae N ([r1, r3] : List Int)).bind fun r4 =>
  cond (r4 != 0) (some ([], r4)) ((zbi N a0 a1 []).bind fun r5 => some (r5.2, r5.1))
def zio.k (N : Nat) : Kq := ⟨13, (cvv [(Ty.sl Ty.zC), T6] [Ty.zB, T6] (zio N)), go [zae.k N, zd8.k N, zch.k, zct.k, zbi.k N] {lits := [10, 14, 15]} [] Proofs.Tryz.func13⟩
def zfc.b0 (N : Nat) (s3 : Int) (b1 : zC) : Option (Round Bool (Int × zC)) :=
 (cond (decide (s3 < (b1.Lines.length : Int))) (some (decide (s3 < 44))) (some false)).bind fun g1001 => cond g1001 ((idx b1.Lines s3).bind fun x1002 =>
  cond (decide ((x1002.size : Int) > 300)) (some (.result false)) (some (.again ((w6 (s3 + 1)), b1)))) (some (.leave (s3, b1)))
def zfc.r0 (N : Nat) (x : Int × zC) := zfc.b0 N x.1 x.2
def zfc (N : Nat) (a0 : zC) : Option Bool :=
 (zj (zfc.r0 N) N (0, a0)).bind fun z2 => zb5 z2 (fun z => some z) (fun y1 => (cond (decide ((y1.2.Storage.Bytes.size : Int) ≤ 480))
  (some (decide ((y1.2.Storage.Tags.length : Int) ≤ 30))) (some false)).bind fun g3 => (cond g3 (some (decide ((y1.2.Stack.length : Int) ≤ 9))) (some false)).bind fun g4 =>
  (cond g4 (some (decide ((y1.2.Lines.length : Int) < 44))) (some false)).bind fun g5 => some g5)
def zfc.k (N : Nat) : Kq := ⟨19, (cvv [Ty.bool] [Ty.zC] (zfc N)), go [] {} [(0, .rets { slots := [(1, .ptr 1 0), (3, .val T6)], boxes := [(1, Ty.zC, [])] } [T6, Ty.zC] (zj (zfc.r0 N) N))] Proofs.Tryz.func19 (hL := ⟨⟨_, _, rfl, by kernel_rfl⟩, trivial⟩)⟩
def zer.b0 (N : Nat) (s0 : List Bool) (s1 : List Bool) (s5 : Int) : Option (Round Bool ((List Bool) × (List Bool) × Int)) :=
 cond (decide (s5 < (s0.length : Int))) ((idx s0 s5).bind fun x1001 => (idx s1 s5).bind fun x1002 => cond (!(x1001 == x1002)) (some (.result false))
  (some (.again (s0, s1, (w6 (s5 + 1)))))) (some (.leave (s0, s1, s5)))
def zer.r0 (N : Nat) (x : (List Bool) × (List Bool) × Int) := zer.b0 N x.1 x.2.1 x.2.2
def zer (N : Nat) (a0 : List Bool) (a1 : List Bool) : Option Bool :=
 cond ((a0.length : Int) != (a1.length : Int)) (some false) ((zj (zer.r0 N) N (a0, a1, 0)).bind fun z2 => zb5 z2 (fun z => some z) (fun y1 => some true))
def zer.k (N : Nat) : Kq := ⟨68, (cvv [Ty.bool] [(Ty.sl Ty.bool), (Ty.sl Ty.bool)] (zer N)), go [] {} [(0, .rets { slots := [(0, .val (Ty.sl Ty.bool)), (1, .val (Ty.sl Ty.bool)), (5, .val T6)], boxes := [] } [(Ty.sl Ty.bool), (Ty.sl Ty.bool), T6] (zj (zer.r0 N) N))] Proofs.Tryz.func68 (hL := ⟨⟨_, _, rfl, by kernel_rfl⟩, trivial⟩)⟩
def zj1 (N : Nat) (a0 : Storage) (a1 : Storage) : Option Bool :=
 (cond (a0.Bytes.toList == a1.Bytes.toList) ((zer N a0.Tags a1.Tags).bind fun r1 => some r1) (some false)).bind fun g2 => some g2
def zj1.k (N : Nat) : Kq := ⟨30, (cvv [Ty.bool] [Ty.Storage, Ty.Storage] (zj1 N)), go [zer.k N] {} [] Proofs.Tryz.func30⟩
def zga.b0 (N : Nat) (s0 : List Int) (s1 : List Int) (s5 : Int) : Option (Round Bool ((List Int) × (List Int) × Int)) :=
 cond (decide (s5 < (s0.length : Int))) ((idx s0 s5).bind fun x1001 => (idx s1 s5).bind fun x1002 => cond (x1001 != x1002) (some (.result false))
  (some (.again (s0, s1, (w6 (s5 + 1)))))) (some (.leave (s0, s1, s5)))
def zga.r0 (N : Nat) (x : (List Int) × (List Int) × Int) := zga.b0 N x.1 x.2.1 x.2.2
def zga (N : Nat) (a0 : List Int) (a1 : List Int) : Option Bool :=
 cond ((a0.length : Int) != (a1.length : Int)) (some false) ((zj (zga.r0 N) N (a0, a1, 0)).bind fun z2 => zb5 z2 (fun z => some z) (fun y1 => some true))
def zga.k (N : Nat) : Kq := ⟨48, (cvv [Ty.bool] [(Ty.sl T6), (Ty.sl T6)] (zga N)), go [] {} [(0, .rets { slots := [(0, .val (Ty.sl T6)), (1, .val (Ty.sl T6)), (5, .val T6)], boxes := [] } [(Ty.sl T6), (Ty.sl T6), T6] (zj (zga.r0 N) N))] Proofs.Tryz.func48 (hL := ⟨⟨_, _, rfl, by kernel_rfl⟩, trivial⟩)⟩
def zl5 (N : Nat) (a0 : zC) (a1 : zC) : Option Bool :=
 (zj1 N a0.Storage a1.Storage).bind fun r1 => (cond r1 (some (a0.At == a1.At)) (some false)).bind fun g2 => (cond g2 ((zga N a0.Stack a1.Stack).bind fun r3 =>
  some r3) (some false)).bind fun g4 => (cond g4 ((zc0 N a0.Lines a1.Lines).bind fun r5 => some r5) (some false)).bind fun g6 => (cond g6 (some (a0.Status == a1.Status))
  (some false)).bind fun g7 => (cond g7 (some (a0.Exception == a1.Exception)) (some false)).bind fun g8 => (cond g8 (some (a0.Steps == a1.Steps)) (some false)).bind fun g9 => some g9
def zl5.k (N : Nat) : Kq := ⟨18, (cvv [Ty.bool] [Ty.zC, Ty.zC] (zl5 N)), go [zj1.k N, zc0.k N, zga.k N] {} [] Proofs.Tryz.func18⟩
def zk7 (a0 : List Bool) : Option ((List Bool)) :=
 cond (Nat.ble (a0.length * 1) zbr) (some a0) none
def zk7.k : Kq := ⟨99, (ctv [.val (Ty.sl Ty.bool)] [(Ty.sl Ty.bool)] [] [0] [(Ty.sl Ty.bool)] zk7), go [] {} [] Proofs.Tryz.func99⟩
def zhm (a0 : Storage) : Option Storage :=
 (zk7 a0.Tags).bind fun r1 => some (⟨a0.Bytes, r1⟩ : Storage)
def zhm.k : Kq := ⟨58, (ctv [.val Ty.Storage] [Ty.Storage] [] [1] [Ty.Storage] zhm), go [zk7.k] {} [] Proofs.Tryz.func58⟩
def zj2 (a0 : List ByteArray) : Option ((List ByteArray)) :=
 cond (Nat.ble (a0.length * 16) zbr) (some a0) none
def zj2.k : Kq := ⟨59, (ctv [.val (Ty.sl Ty.str)] [(Ty.sl Ty.str)] [] [0] [(Ty.sl Ty.str)] zj2), go [] {} [] Proofs.Tryz.func59⟩
def zj9 (a0 : zC) : Option zC :=
 (zhm a0.Storage).bind fun r1 => (zh5 a0.Stack).bind fun r2 => (zj2 a0.Lines).bind fun r3 =>
  some (⟨r1, a0.At, r2, r3, a0.Status, a0.Exception, a0.Steps⟩ : zC)
def zj9.k : Kq := ⟨26, (ctv [.val Ty.zC] [Ty.zC] [] [3, 4] [Ty.zC] zj9), go [zh5.k, zhm.k, zj2.k] {} [] Proofs.Tryz.func26⟩
def zbn.b0 (N : Nat) (s6 : List Int) (s18 : List Bool) (s19 : Int) (s20 : Int) : Option (Stp ((List Int) × (List Bool) × Int × Int)) :=
 cond (decide (s20 < s19)) ((idx s18 s20).bind fun x1001 => cond x1001 (cond (Nat.ble ((s6.length + ([(w6 (s20 * 16))] : List Int).length) * 8) zbr)
  (some (.again ((s6 ++ ([(w6 (s20 * 16))] : List Int)), s18, s19, (w6 (s20 + 1))))) none)
  (some (.again (s6, s18, s19, (w6 (s20 + 1)))))) (some (.leave (s6, s18, s19, s20)))
def zbn.r0 (N : Nat) (x : (List Int) × (List Bool) × Int × Int) := zbn.b0 N x.1 x.2.1 x.2.2.1 x.2.2.2
def zbn (N : Nat) (a0 : Storage) : Option ((List Int) × Int) :=
 (zaa N a0).bind fun r1 => cond (r1.2 != 0) (some ([], r1.2)) ((zl (zbn.r0 N) N ([], a0.Tags, (a0.Tags.length : Int), 0)).bind fun y2 =>
  some (y2.1, 0))
def zbn.k (N : Nat) : Kq := ⟨94, (cvv [(Ty.sl T6), T6] [Ty.Storage] (zbn N)), go [zaa.k N] {lits := [29]} [(0, .plain { slots := [(6, .own 5000006 T6), (18, .val (Ty.sl Ty.bool)), (19, .val T6), (20, .val T6)], boxes := [] } [(Ty.sl T6), (Ty.sl Ty.bool), T6, T6] (zl (zbn.r0 N) N))] Proofs.Tryz.func94 (hL := ⟨⟨_, _, rfl, by kernel_rfl⟩, trivial⟩)⟩
def zg9 (N : Nat) (a0 : Int) (a1 : Storage) : Option Bool :=
 (zdj N a1 a0).bind fun r1 => (cond (r1.1.Kind != 0) (some true) (some (r1.1.Address.zU != 1))).bind fun g2 => some g2
def zg9.k (N : Nat) : Kq := ⟨95, (ctv [.val T6, .ptr Ty.Storage false []] [Ty.bool] [] [] [T6, Ty.Storage] (zg9 N)), go [zdj.k N] {ro := [1000000], pk := [1000000]} [] Proofs.Tryz.func95⟩
def zaj.b0 (N : Nat) (s0 : List Int) (s7 : Int) (s8 : Int) (b1000000 : Storage) : Option (Round Int ((List Int) × Int × Int × Storage)) :=
 cond (decide (s8 < s7)) ((idx s0 s8).bind fun x1001 => (zg9 N x1001 b1000000).bind fun r1002 => cond r1002 (some (.result s8))
  (some (.again (s0, s7, (w6 (s8 + 1)), b1000000)))) (some (.leave (s0, s7, s8, b1000000)))
def zaj.r0 (N : Nat) (x : (List Int) × Int × Int × Storage) := zaj.b0 N x.1 x.2.1 x.2.2.1 x.2.2.2
def zaj (N : Nat) (a0 : List Int) (a1 : Storage) : Option Int :=
 (zj (zaj.r0 N) N (a0, (a0.length : Int), 0, a1)).bind fun z2 => zb5 z2 (fun z => some z) (fun y1 => some (-1))
def zaj.k (N : Nat) : Kq := ⟨98, (ctv [.val (Ty.sl T6), .clo 95 1, .ptr Ty.Storage false []] [T6] [] [] [(Ty.sl T6), Ty.Storage] (zaj N)), go [zg9.k N] {ro := [1000000], pk := [1000000]} [(0, .rets { slots := [(0, .val (Ty.sl T6)), (1, .fn 95 [1000000]), (7, .val T6), (8, .val T6)], boxes := [(1000000, Ty.Storage, [])] } [(Ty.sl T6), T6, T6, Ty.Storage] (zj (zaj.r0 N) N))] Proofs.Tryz.func98 (hL := ⟨⟨_, _, rfl, by kernel_rfl⟩, trivial⟩)⟩
def ze9 (N : Nat) (a0 : List Int) (a1 : Storage) : Option Bool :=
 (zaj N a0 a1).bind fun r1 => some (decide (r1 ≥ 0))
def ze9.k (N : Nat) : Kq := ⟨56, (ctv [.val (Ty.sl T6), .clo 95 1, .ptr Ty.Storage false []] [Ty.bool] [] [] [(Ty.sl T6), Ty.Storage] (ze9 N)), go [zaj.k N] {ro := [1000000], pk := [1000000]} [] Proofs.Tryz.func56⟩
def zg0 (N : Nat) (a0 : zB) (a1 : Storage) : Option Int :=
 (zd0 N a0).bind fun r1 => (zch ((a1.Bytes.size : Int) != (w6 (r1.2.1 * 16))) 18).bind fun r2 =>
  (zae N ([r1.2.2, r2] : List Int)).bind fun r3 => cond (r3 != 0) (some r3) ((zaa N a1).bind fun r4 => cond (r4.2 != 0) (some r4.2)
  ((zbn N a1).bind fun r5 => (ze9 N r5.1 a1).bind fun r6 => (zch r6 22).bind fun r7 => some r7))
def zg0.k (N : Nat) : Kq := ⟨52, (cvv [T6] [Ty.zB, Ty.Storage] (zg0 N)), go [zae.k N, zch.k, ze9.k N, zd0.k N, zaa.k N, zbn.k N] {lits := [25, 26, 46]} [] Proofs.Tryz.func52⟩
def zha (a0 : ByteArray) : Option Bool :=
 some (decide ((a0.size : Int) > 256))
def zha.k : Kq := ⟨55, (cvv [Ty.bool] [Ty.str] zha), go [] {} [] Proofs.Tryz.func55⟩
def zab.b0 (N : Nat) (s0 : List ByteArray) (s7 : Int) (s8 : Int) : Option (Round Int ((List ByteArray) × Int × Int)) :=
 cond (decide (s8 < s7)) ((idx s0 s8).bind fun x1001 => (zha x1001).bind fun r1002 => cond r1002 (some (.result s8))
  (some (.again (s0, s7, (w6 (s8 + 1)))))) (some (.leave (s0, s7, s8)))
def zab.r0 (N : Nat) (x : (List ByteArray) × Int × Int) := zab.b0 N x.1 x.2.1 x.2.2
def zab (N : Nat) (a0 : List ByteArray) : Option Int :=
 (zj (zab.r0 N) N (a0, (a0.length : Int), 0)).bind fun z2 => zb5 z2 (fun z => some z) (fun y1 => some (-1))
def zab.k (N : Nat) : Kq := ⟨97, (ctv [.val (Ty.sl Ty.str), .clo 55 0] [T6] [] [] [(Ty.sl Ty.str)] (zab N)), go [zha.k] {} [(0, .rets { slots := [(0, .val (Ty.sl Ty.str)), (1, .fn 55 []), (7, .val T6), (8, .val T6)], boxes := [] } [(Ty.sl Ty.str), T6, T6] (zj (zab.r0 N) N))] Proofs.Tryz.func97 (hL := ⟨⟨_, _, rfl, by kernel_rfl⟩, trivial⟩)⟩
def zc3 (N : Nat) (a0 : List ByteArray) : Option Bool :=
 (zab N a0).bind fun r1 => some (decide (r1 ≥ 0))
def zc3.k (N : Nat) : Kq := ⟨54, (ctv [.val (Ty.sl Ty.str), .clo 55 0] [Ty.bool] [] [] [(Ty.sl Ty.str)] (zc3 N)), go [zab.k N] {} [] Proofs.Tryz.func54⟩
def zhd (a0 : Int) (a1 : Int) (a2 : zB) : Option Bool :=
 (zct a0 0 (w6 (a1 - 1))).bind fun r1 => (cond r1 ((idx a2.zG a0).bind fun x2 => some (x2.Op == 13)) (some false)).bind fun g3 => some g3
def zhd.k : Kq := ⟨53, (ctv [.val T6, .ptr T6 false [], .ptr Ty.zB false []] [Ty.bool] [] [] [T6, T6, Ty.zB] zhd), go [zct.k] {ro := [1000000, 1000001], pk := [1000000, 1000001]} [] Proofs.Tryz.func53⟩
def zfg (a0 : Int) (a1 : Int) (a2 : zB) : Option Bool :=
 (zhd a0 a1 a2).bind fun r1 => some (!r1)
def zfg.k : Kq := ⟨57, (ctv [.val T6, .bclo T6 53 2, .ptr T6 false [], .ptr Ty.zB false []] [Ty.bool] [] [] [T6, T6, Ty.zB] zfg), go [zhd.k] {ro := [1000000, 1000001, 1000002], pk := [1000000, 1000001, 1000002]} [] Proofs.Tryz.func57⟩
def zak.b0 (N : Nat) (s0 : List Int) (s7 : Int) (s8 : Int) (b1000001 : Int) (b1000002 : zB) : Option (Round Int ((List Int) × Int × Int × Int × zB)) :=
 cond (decide (s8 < s7)) ((idx s0 s8).bind fun x1001 => (zfg x1001 b1000001 b1000002).bind fun r1002 => cond r1002 (some (.result s8))
  (some (.again (s0, s7, (w6 (s8 + 1)), b1000001, b1000002)))) (some (.leave (s0, s7, s8, b1000001, b1000002)))
def zak.r0 (N : Nat) (x : (List Int) × Int × Int × Int × zB) := zak.b0 N x.1 x.2.1 x.2.2.1 x.2.2.2.1 x.2.2.2.2
def zak (N : Nat) (a0 : List Int) (a1 : Int) (a2 : zB) : Option Int :=
 (zj (zak.r0 N) N (a0, (a0.length : Int), 0, a1, a2)).bind fun z2 => zb5 z2 (fun z => some z) (fun y1 => some (-1))
def zak.k (N : Nat) : Kq := ⟨98, (ctv [.val (Ty.sl T6), .clo 57 1, .bclo T6 53 2, .ptr T6 false [], .ptr Ty.zB false []] [T6] [] [] [(Ty.sl T6), T6, Ty.zB] (zak N)), go [zfg.k] {ro := [1000000, 1000001, 1000002], pk := [1000000, 1000001, 1000002]} [(0, .rets { slots := [(0, .val (Ty.sl T6)), (1, .fn 57 [1000000]), (7, .val T6), (8, .val T6)], boxes := [(1000001, T6, []), (1000002, Ty.zB, [])], fboxes := [(1000000, 53, [1000001, 1000002])] } [(Ty.sl T6), T6, T6, T6, Ty.zB] (zj (zak.r0 N) N))] Proofs.Tryz.func98 (hL := ⟨⟨_, _, rfl, by kernel_rfl⟩, trivial⟩)⟩
def zdt (N : Nat) (a0 : List Int) (a1 : Int) (a2 : zB) : Option Bool :=
 (zak N a0 a1 a2).bind fun r1 => some (decide (r1 ≥ 0))
def zdt.k (N : Nat) : Kq := ⟨56, (ctv [.val (Ty.sl T6), .clo 57 1, .bclo T6 53 2, .ptr T6 false [], .ptr Ty.zB false []] [Ty.bool] [] [] [(Ty.sl T6), T6, Ty.zB] (zdt N)), go [zak.k N] {ro := [1000000, 1000001, 1000002], pk := [1000000, 1000001, 1000002]} [] Proofs.Tryz.func56⟩
def zdi (N : Nat) (a0 : zB) (a1 : zC) : Option Int :=
 (zd8 N a0).bind fun r1 => cond (r1 != 0) (some r1) ((zg0 N a0 a1.Storage).bind fun r2 => cond (r2 != 0) (some r2)
  ((zc3 N a1.Lines).bind fun r3 => (zdt N a1.Stack (a0.zG.length : Int) a0).bind fun r4 =>
  (zct a1.At 0 (w6 ((a0.zG.length : Int) - 1))).bind fun r5 => (zch (!r5) 3).bind fun r6 => (cond (decide ((a1.Stack.length : Int) > 6))
  (some true) (some (decide ((a1.Lines.length : Int) > 40)))).bind fun g7 => (zch g7 2).bind fun r8 => (zch (!(!r4)) 3).bind fun r9 =>
  (zch r3 18).bind fun r10 => (zct a1.Status 0 3).bind fun r11 => (zch (!r11) 4).bind fun r12 => (zct a1.Exception 0 999).bind fun r13 =>
  (cond (!r13) (some true) ((zct a1.Steps 0 300).bind fun r14 => some (!r14))).bind fun g15 => (zch g15 3).bind fun r16 =>
  (zae N ([r6, r8, r9, r10, r12, r16] : List Int)).bind fun r17 => some r17))
def zdi.k (N : Nat) : Kq := ⟨25, (cvv [T6] [Ty.zB, Ty.zC] (zdi N)), go [zae.k N, zd8.k N, zch.k, zct.k, zg0.k N, zc3.k N, zdt.k N] {lits := [41, 52, 55, 57, 62, 73, 74]} [] Proofs.Tryz.func25⟩
def zk1 (N : Nat) (a0 : zB) (a1 : zC) : Option (zC × Int) :=
 (zdi N a0 a1).bind fun r1 => (cond (a1.Status != 0) (some true) (some (decide (a1.Steps ≥ 300)))).bind fun g2 => (zch g2 26).bind fun r3 =>
  (zae N ([r1, r3] : List Int)).bind fun r4 => cond (r4 != 0) (some ((⟨(⟨(⟨#[]⟩ : ByteArray), []⟩ : Storage), 0, [], [], 0, 0, 0⟩ : zC), r4))
  ((zd0 N a0).bind fun r5 => cond (r5.2.2 != 0) (some ((⟨(⟨(⟨#[]⟩ : ByteArray), []⟩ : Storage), 0, [], [], 0, 0, 0⟩ : zC), r5.2.2))
  ((zfw N a0 a1 r5.1).bind fun r6 => some (r6, 0)))
def zk1.k (N : Nat) : Kq := ⟨28, (cvv [Ty.zC, T6] [Ty.zB, Ty.zC] (zk1 N)), go [zdi.k N, zae.k N, zch.k, zd0.k N, zfw.k N] {lits := [12, 21, 22]} [] Proofs.Tryz.func28⟩
def za8.b0 (N : Nat) (s3 : List zC) (s9 : Int) (b1 : zB) (b7 : zP) : Option (Round Bool ((List zC) × Int × zB × zP)) :=
 cond (decide (s9 < (s3.length : Int))) ((idx s3 s9).bind fun x1001 => (zfc N x1001).bind fun r1002 => (cond (!r1002) (some true) ((zdu N b1).bind fun r1003 =>
  (idx s3 s9).bind fun x1004 => (zj9 x1004).bind fun r1005 => (zdi N r1003 r1005).bind fun r1006 => some (r1006 != 0))).bind fun g1007 =>
  (cond g1007 (some true) ((idx s3 s9).bind fun x1008 => some (x1008.Steps != s9))).bind fun g1009 => (cond g1009 (some true) ((idx s3 s9).bind fun x1010 =>
  some (!((x1010.Status == 0) == (decide (s9 < (w6 ((s3.length : Int) - 1)))))))).bind fun g1011 => cond g1011 (some (.result false)) (cond (s9 == 0)
  (some (.again (s3, (w6 (s9 + 1)), b1, b7))) ((zdu N b1).bind fun r1012 => (idx s3 (w6 (s9 - 1))).bind fun x1013 =>
  (zj9 x1013).bind fun r1014 => (zk1 N r1012 r1014).bind fun r1015 => (cond (r1015.2 != 0) (some true) ((idx s3 s9).bind fun x1016 =>
  (zl5 N r1015.1 x1016).bind fun r1017 => some (!r1017))).bind fun g1018 => cond g1018 (some (.result false)) (some (.again (s3, (w6 (s9 + 1)), b1, b7))))))
  (some (.leave (s3, s9, b1, b7)))
def za8.r0 (N : Nat) (x : (List zC) × Int × zB × zP) := za8.b0 N x.1 x.2.1 x.2.2.1 x.2.2.2
def za8 (N : Nat) (a0 : zB) : Option Bool :=
 (zqf N).bind fun r1 => cond (!r1) (some false) ((zco N a0).bind fun r2 => (cond (!r2) (some true) ((zrd N a0).bind fun r3 => some (r3 != 0))).bind fun g4 =>
  cond g4 (some true) ((zdu N a0).bind fun r5 => (zio N r5 300).bind fun r6 => (zdu N a0).bind fun r7 => (ze7 N r7).bind fun r8 =>
  (zdu N a0).bind fun r9 => (zjb N r9).bind fun r10 => (cond (r6.2 != 0) (some true) (some (r8.2 != 0))).bind fun g11 => (cond g11 (some true)
  (some (r10.2 != 0))).bind fun g12 => (cond g12 (some true) (some ((r6.1.length : Int) == 0))).bind fun g13 => (cond g13 (some true)
  (some (decide ((r6.1.length : Int) > 301)))).bind fun g14 => (cond g14 (some true) ((zfc N r8.1).bind fun r15 => some (!r15))).bind fun g16 => (cond g16 (some true)
  ((idx r6.1 0).bind fun x17 => (zl5 N x17 r8.1).bind fun r18 => some (!r18))).bind fun g19 => cond g19 (some false)
  ((zj (za8.r0 N) N (r6.1, 0, a0, r10.1)).bind fun z21 => zb5 z21 (fun z => some z) (fun y20 =>
  (idx y20.1 (w6 ((y20.1.length : Int) - 1))).bind fun x22 =>
  (zgh N y20.2.2.2 (⟨x22.Lines, x22.Status, x22.Exception, x22.Steps⟩ : zP)).bind fun r23 => some r23))))
def za8.k (N : Nat) : Kq := ⟨9, (cvv [Ty.bool] [Ty.zB] (za8 N)), go [zqf.k N, zco.k N, zio.k N, zdu.k N, zrd.k N, zl5.k N, zfc.k N, ze7.k N, zdi.k N, zj9.k, zk1.k N, zjb.k N, zgh.k N] {lits := [25, 31, 37, 88, 93, 124, 130]} [(0, .rets { slots := [(1, .ptr 1 0), (3, .val (Ty.sl Ty.zC)), (7, .ptr 7 0), (9, .val T6)], boxes := [(1, Ty.zB, []), (7, Ty.zP, [])] } [(Ty.sl Ty.zC), T6, Ty.zB, Ty.zP] (zj (za8.r0 N) N))] Proofs.Tryz.func9 (hL := ⟨⟨_, _, rfl, by kernel_rfl⟩, trivial⟩)⟩
end
end Go.Proofs.YtmifhmfokbigiaaGreatDoor.M
