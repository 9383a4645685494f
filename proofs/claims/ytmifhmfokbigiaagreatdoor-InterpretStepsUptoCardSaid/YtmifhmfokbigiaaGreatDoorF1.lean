/- What the program's functions compute, each tied to its code: part 1. -/
import Derived.Test.YtmifhmfokbigiaaGreatDoorF0
namespace Go.Proofs.YtmifhmfokbigiaaGreatDoor.M
open Go Go.Amx
set_option linter.unusedVariables false
set_option maxRecDepth 100000
noncomputable section
def za2.b0 (N : Nat) (b1000000 : zD) : Option (Round zD zD) :=
 (zjx N b1000000.zB b1000000.zC.At b1000000.raised).bind fun r1001 => cond (decide (r1001 ≥ 0))
  (some (.result (⟨b1000000.zB, (⟨b1000000.zC.Storage, r1001, b1000000.zC.Stack, b1000000.zC.Lines, b1000000.zC.Status, b1000000.zC.Exception, b1000000.zC.Steps⟩ : zC), b1000000.layout, b1000000.raised⟩ : zD)))
  (cond ((b1000000.zC.Stack.length : Int) == 0) ((zat b1000000 2).bind fun r1002 => some (.result r1002))
  ((idx b1000000.zC.Stack (w6 ((b1000000.zC.Stack.length : Int) - 1))).bind fun x1003 =>
  if 0 ≤ (w6 ((b1000000.zC.Stack.length : Int) - 1)) ∧ (w6 ((b1000000.zC.Stack.length : Int) - 1)) ≤ (b1000000.zC.Stack.length : Int) then (if 0 ≤ (0 : Int) ∧ (0 : Int) ≤ (w6 ((b1000000.zC.Stack.length : Int) - 1)) then ((zki 8 ((b1000000.zC.Stack.take (w6 ((b1000000.zC.Stack.length : Int) - 1)).toNat).drop (0 : Int).toNat)).bind fun r1004 =>
  some (.again (⟨b1000000.zB, (⟨b1000000.zC.Storage, x1003, r1004, b1000000.zC.Lines, b1000000.zC.Status, b1000000.zC.Exception, b1000000.zC.Steps⟩ : zC), b1000000.layout, b1000000.raised⟩ : zD))) else none) else none))
def za2.r0 (N : Nat) (x : zD) := za2.b0 N x
def za2 (N : Nat) (a0 : zD) : Option zD :=
 (zj (za2.r0 N) N (⟨a0.zB, (⟨a0.zC.Storage, a0.zC.At, a0.zC.Stack, a0.zC.Lines, a0.zC.Status, a0.raised, a0.zC.Steps⟩ : zC), a0.layout, a0.raised⟩ : zD)).bind fun z2 =>
  zb5 z2 (fun z => some z) (fun y1 => some y1)
def za2.k (N : Nat) : Kq := ⟨106, (ctv [.ptr Ty.zD true []] [] [Ty.zD] [] [Ty.zD] (za2 N)), go [zjx.k N, zat.k, z0t.k] {pk := [1000000]} [(0, .rets { slots := [(0, .ptr 1000000 0)], boxes := [(1000000, Ty.zD, [])] } [Ty.zD] (zj (za2.r0 N) N))] Proofs.Tryz.func106 (hL := ⟨⟨_, _, rfl, by kernel_rfl⟩, trivial⟩)⟩
def zji (N : Nat) (a0 : zB) (a1 : zC) (a2 : List Int) : Option zC :=
 (idx a0.zF a1.At).bind fun x1 =>
  (zd N (⟨a0, (⟨a1.Storage, a1.At, a1.Stack, a1.Lines, a1.Status, a1.Exception, (w6 (a1.Steps + 1))⟩ : zC), a2, 0⟩ : zD) x1).bind fun r2 =>
  cond (r2.2.raised != 0) ((za2 N r2.2).bind fun r3 => (cond (r3.zC.Status == 0) (some (r3.zC.Steps == 300)) (some false)).bind fun g4 =>
  cond g4 ((zat r3 3).bind fun r5 => some r5.zC) (some r3.zC)) (cond (r2.2.zC.Status != 0) ((cond (r2.2.zC.Status == 0)
  (some (r2.2.zC.Steps == 300)) (some false)).bind fun g6 => cond g6 ((zat r2.2 3).bind fun r7 => some r7.zC) (some r2.2.zC))
  (cond (r2.1 == (a0.zF.length : Int)) ((zat r2.2 1).bind fun r8 => (cond (r8.zC.Status == 0) (some (r8.zC.Steps == 300))
  (some false)).bind fun g9 => cond g9 ((zat r8 3).bind fun r10 => some r10.zC) (some r8.zC)) ((cond (r2.2.zC.Status == 0)
  (some (r2.2.zC.Steps == 300)) (some false)).bind fun g11 =>
  cond g11 ((zat (⟨r2.2.zB, (⟨r2.2.zC.Storage, r2.1, r2.2.zC.Stack, r2.2.zC.Lines, r2.2.zC.Status, r2.2.zC.Exception, r2.2.zC.Steps⟩ : zC), r2.2.layout, r2.2.raised⟩ : zD) 3).bind fun r12 =>
  some r12.zC) (some (⟨r2.2.zC.Storage, r2.1, r2.2.zC.Stack, r2.2.zC.Lines, r2.2.zC.Status, r2.2.zC.Exception, r2.2.zC.Steps⟩ : zC)))))
def zji.k (N : Nat) : Kq := ⟨65, (cvv [Ty.zC] [Ty.zB, Ty.zC, (Ty.sl T6)] (zji N)), go [zd.k N, za2.k N, zat.k] {} [] Proofs.Tryz.func65⟩
def zdt.b0 (N : Nat) (s1 : Int) (s9 : List Int) (s11 : Int) (b1000000 : zC) (b3 : zB) (b7 : zC) : Option (Stp (Int × (List Int) × Int × zC × zB × zC)) :=
 (cond (decide (s11 < s1)) (some (b7.Status == 0)) (some false)).bind fun g1001 => cond g1001 ((zji N b3 b7 s9).bind fun r1002 =>
  (zmg r1002 b1000000).bind fun r1003 => some (.again (s1, s9, (w6 (s11 + 1)), r1003, b3, r1002))) (some (.leave (s1, s9, s11, b1000000, b3, b7)))
def zdt.r0 (N : Nat) (x : Int × (List Int) × Int × zC × zB × zC) := zdt.b0 N x.1 x.2.1 x.2.2.1 x.2.2.2.1 x.2.2.2.2.1 x.2.2.2.2.2
def zdt (N : Nat) (a0 : zB) (a1 : Int) (a2 : zC) : Option (Int × zC) :=
 (zpq N a0).bind fun r1 => cond (r1.2 != 0) (some (r1.2, a2)) ((zga N a0).bind fun r2 => cond (r2.2.2 != 0) (some (r2.2.2, a2))
  ((zmg r1.1 a2).bind fun r3 => (zl (zdt.r0 N) N (a1, r2.1, 0, r3, a0, r1.1)).bind fun y4 => some (0, y4.2.2.2.1)))
def zdt.k (N : Nat) : Kq := ⟨44, (ctv [.val Ty.zB, .val T6, .clo 69 1, .ptr Ty.zC true []] [T6] [Ty.zC] [] [Ty.zB, T6, Ty.zC] (zdt N)), go [zpq.k N, zga.k N, zji.k N, zmg.k] {pk := [1000000]} [(0, .plain { slots := [(1, .val T6), (2, .fn 69 [1000000]), (3, .ptr 3 0), (7, .ptr 7 0), (9, .val (Ty.sl T6)), (11, .val T6)], boxes := [(1000000, Ty.zC, []), (3, Ty.zB, []), (7, Ty.zC, [])] } [T6, (Ty.sl T6), T6, Ty.zC, Ty.zB, Ty.zC] (zl (zdt.r0 N) N))] Proofs.Tryz.func44 (hL := ⟨⟨_, _, rfl, by kernel_rfl⟩, trivial⟩)⟩
def zrj (N : Nat) (a0 : zB) : Option (zU × Int) :=
 (zdt N a0 300 (⟨(⟨(⟨#[]⟩ : ByteArray), []⟩ : Storage), 0, [], [], 0, 0, 0⟩ : zC)).bind fun r1 => cond (r1.1 != 0) (some ((⟨[], 0, 0, 0⟩ : zU), r1.1))
  (some ((⟨r1.2.Lines, r1.2.Status, r1.2.Exception, r1.2.Steps⟩ : zU), 0))
def zrj.k (N : Nat) : Kq := ⟨32, (cvv [Ty.zU, T6] [Ty.zB] (zrj N)), go [zdt.k N] {} [] Proofs.Tryz.func32⟩
def zc2.b0 (N : Nat) (s0 : List ByteArray) (s1 : List ByteArray) (s5 : Int) : Option (Round Bool ((List ByteArray) × (List ByteArray) × Int)) :=
 cond (decide (s5 < (s0.length : Int))) ((idx s0 s5).bind fun x1001 => (idx s1 s5).bind fun x1002 => cond (!(x1001.toList == x1002.toList)) (some (.result false))
  (some (.again (s0, s1, (w6 (s5 + 1)))))) (some (.leave (s0, s1, s5)))
def zc2.r0 (N : Nat) (x : (List ByteArray) × (List ByteArray) × Int) := zc2.b0 N x.1 x.2.1 x.2.2
def zc2 (N : Nat) (a0 : List ByteArray) (a1 : List ByteArray) : Option Bool :=
 cond ((a0.length : Int) != (a1.length : Int)) (some false) ((zj (zc2.r0 N) N (a0, a1, 0)).bind fun z2 => zb5 z2 (fun z => some z) (fun y1 => some true))
def zc2.k (N : Nat) : Kq := ⟨31, (cvv [Ty.bool] [(Ty.sl Ty.str), (Ty.sl Ty.str)] (zc2 N)), go [] {} [(0, .rets { slots := [(0, .val (Ty.sl Ty.str)), (1, .val (Ty.sl Ty.str)), (5, .val T6)], boxes := [] } [(Ty.sl Ty.str), (Ty.sl Ty.str), T6] (zj (zc2.r0 N) N))] Proofs.Tryz.func31 (hL := ⟨⟨_, _, rfl, by kernel_rfl⟩, trivial⟩)⟩
def zov (N : Nat) (a0 : zU) (a1 : zU) : Option Bool :=
 (zc2 N a0.Lines a1.Lines).bind fun r1 => (cond r1 (some (a0.Status == a1.Status)) (some false)).bind fun g2 => (cond g2 (some (a0.Exception == a1.Exception))
  (some false)).bind fun g3 => (cond g3 (some (a0.Steps == a1.Steps)) (some false)).bind fun g4 => some g4
def zov.k (N : Nat) : Kq := ⟨33, (cvv [Ty.bool] [Ty.zU, Ty.zU] (zov N)), go [zc2.k N] {} [] Proofs.Tryz.func33⟩
def zq8 (N : Nat)  : Option Bool :=
 (zuu).bind fun r1 => (zrj N r1).bind fun r2 => (cond (r2.2 == 0)
  ((zov N r2.1 (⟨([(⟨#[56]⟩ : ByteArray)] : List ByteArray), 1, 0, 3⟩ : zU)).bind fun r3 => some r3) (some false)).bind fun g4 => some g4
def zq8.k (N : Nat) : Kq := ⟨11, (cvv [Ty.bool] [] (zq8 N)), go [zrj.k N, zov.k N, zuu.k] {lits := [4, 12]} [] Proofs.Tryz.func11⟩
def zct.b0 (N : Nat) (s3 : Int) (b1 : zB) : Option (Round Bool (Int × zB)) :=
 cond (decide (s3 < (b1.zA.length : Int))) ((idx b1.zA s3).bind fun x1001 => (cond (decide ((x1001.Name.size : Int) > 100)) (some true)
  (some (decide ((x1001.Base.size : Int) > 100)))).bind fun g1002 => (cond g1002 (some true) (some (decide ((x1001.Value.S.size : Int) > 600)))).bind fun g1003 =>
  cond g1003 (some (.result false)) (some (.again ((w6 (s3 + 1)), b1)))) (some (.leave (s3, b1)))
def zct.r0 (N : Nat) (x : Int × zB) := zct.b0 N x.1 x.2
def zct.b2 (N : Nat) (s5 : Int) (b1 : zB) : Option (Round Bool (Int × zB)) :=
 cond (decide (s5 < (b1.zF.length : Int))) ((idx b1.zF s5).bind fun x3001 => cond (decide ((x3001.Args.length : Int) > 6)) (some (.result false))
  (some (.again ((w6 (s5 + 1)), b1)))) (some (.leave (s5, b1)))
def zct.r2 (N : Nat) (x : Int × zB) := zct.b2 N x.1 x.2
def zct (N : Nat) (a0 : zB) : Option Bool :=
 (cond (decide ((a0.zA.length : Int) > 28)) (some true) (some (decide ((a0.zF.length : Int) > 44)))).bind fun g1 => (cond g1 (some true)
  (some (decide ((a0.zL.length : Int) > 9)))).bind fun g2 => cond g2 (some false) ((zj (zct.r0 N) N (0, a0)).bind fun z4 => zb5 z4 (fun z => some z) (fun y3 =>
  (zj (zct.r2 N) N (0, y3.2)).bind fun z6 => zb5 z6 (fun z => some z) (fun y5 => some true)))
def zct.k (N : Nat) : Kq := ⟨12, (cvv [Ty.bool] [Ty.zB] (zct N)), go [] {} [(0, .rets { slots := [(1, .ptr 1 0), (3, .val T6)], boxes := [(1, Ty.zB, [])] } [T6, Ty.zB] (zj (zct.r0 N) N)), (2, .rets { slots := [(1, .ptr 1 0), (5, .val T6)], boxes := [(1, Ty.zB, [])] } [T6, Ty.zB] (zj (zct.r2 N) N))] Proofs.Tryz.func12 (hL := ⟨⟨_, _, rfl, by kernel_rfl⟩, ⟨_, _, rfl, by kernel_rfl⟩, trivial⟩)⟩
def zgm.b0 (N : Nat) (s3 : Int) (b1 : zC) : Option (Round Bool (Int × zC)) :=
 (cond (decide (s3 < (b1.Lines.length : Int))) (some (decide (s3 < 44))) (some false)).bind fun g1001 => cond g1001 ((idx b1.Lines s3).bind fun x1002 =>
  cond (decide ((x1002.size : Int) > 300)) (some (.result false)) (some (.again ((w6 (s3 + 1)), b1)))) (some (.leave (s3, b1)))
def zgm.r0 (N : Nat) (x : Int × zC) := zgm.b0 N x.1 x.2
def zgm (N : Nat) (a0 : zC) : Option Bool :=
 (zj (zgm.r0 N) N (0, a0)).bind fun z2 => zb5 z2 (fun z => some z) (fun y1 => (cond (decide ((y1.2.Storage.Bytes.size : Int) ≤ 480))
  (some (decide ((y1.2.Storage.Tags.length : Int) ≤ 30))) (some false)).bind fun g3 => (cond g3 (some (decide ((y1.2.Stack.length : Int) ≤ 9))) (some false)).bind fun g4 =>
  (cond g4 (some (decide ((y1.2.Lines.length : Int) < 44))) (some false)).bind fun g5 => some g5)
def zgm.k (N : Nat) : Kq := ⟨19, (cvv [Ty.bool] [Ty.zC] (zgm N)), go [] {} [(0, .rets { slots := [(1, .ptr 1 0), (3, .val T6)], boxes := [(1, Ty.zC, [])] } [T6, Ty.zC] (zj (zgm.r0 N) N))] Proofs.Tryz.func19 (hL := ⟨⟨_, _, rfl, by kernel_rfl⟩, trivial⟩)⟩
def ziv (a0 : List Int) : Option ((List Int)) :=
 cond (Nat.ble (a0.length * 8) zbr) (some a0) none
def ziv.k : Kq := ⟨46, (ctv [.val (Ty.sl T6)] [(Ty.sl T6)] [] [0] [(Ty.sl T6)] ziv), go [] {} [] Proofs.Tryz.func46⟩
def zgj.b0 (N : Nat) (s4 : Int) (b1 : zB) (b2 : zB) (b3 : zB) : Option (Stp (Int × zB × zB × zB)) :=
 cond (decide (s4 < (b1.zF.length : Int))) ((idx b1.zF s4).bind fun x1001 => (idx b1.zF s4).bind fun x1002 =>
  (ziv x1002.Args).bind fun r1003 => cond (Nat.ble ((b3.zF.length + ([(⟨x1001.Op, r1003⟩ : zI)] : List zI).length) * 32) zbr)
  (some (.again ((w6 (s4 + 1)), b1, b2, (⟨b3.zA, (b3.zF ++ ([(⟨x1001.Op, r1003⟩ : zI)] : List zI)), b3.zL⟩ : zB)))) none)
  (some (.leave (s4, b1, b2, b3)))
def zgj.r0 (N : Nat) (x : Int × zB × zB × zB) := zgj.b0 N x.1 x.2.1 x.2.2.1 x.2.2.2
def zgj (N : Nat) (a0 : zB) : Option zB :=
 cond (Nat.ble (a0.zA.length * 104) zbr) (cond (Nat.ble (a0.zL.length * 32) zbr)
  ((zl (zgj.r0 N) N (0, a0, (⟨[], [], []⟩ : zB), (⟨a0.zA, [], a0.zL⟩ : zB))).bind fun y1 => some y1.2.2.2) none) none
def zgj.k (N : Nat) : Kq := ⟨14, (cvv [Ty.zB] [Ty.zB] (zgj N)), go [ziv.k] {lits := [33, 35]} [(0, .plain { slots := [(1, .ptr 1 0), (2, .ptr 2 0), (3, .ptr 3 0), (4, .val T6)], boxes := [(1, Ty.zB, []), (2, Ty.zB, [0, 1, 2]), (3, Ty.zB, [0, 1, 2])] } [T6, Ty.zB, Ty.zB, Ty.zB] (zl (zgj.r0 N) N))] Proofs.Tryz.func14 (hL := ⟨⟨_, _, rfl, by kernel_rfl⟩, trivial⟩)⟩
def zly (a0 : List Bool) : Option ((List Bool)) :=
 cond (Nat.ble (a0.length * 1) zbr) (some a0) none
def zly.k : Kq := ⟨99, (ctv [.val (Ty.sl Ty.bool)] [(Ty.sl Ty.bool)] [] [0] [(Ty.sl Ty.bool)] zly), go [] {} [] Proofs.Tryz.func99⟩
def zgt (a0 : Storage) : Option Storage :=
 (zly a0.Tags).bind fun r1 => some (⟨a0.Bytes, r1⟩ : Storage)
def zgt.k : Kq := ⟨58, (ctv [.val Ty.Storage] [Ty.Storage] [] [1] [Ty.Storage] zgt), go [zly.k] {} [] Proofs.Tryz.func58⟩
def zkf (a0 : List ByteArray) : Option ((List ByteArray)) :=
 cond (Nat.ble (a0.length * 16) zbr) (some a0) none
def zkf.k : Kq := ⟨59, (ctv [.val (Ty.sl Ty.str)] [(Ty.sl Ty.str)] [] [0] [(Ty.sl Ty.str)] zkf), go [] {} [] Proofs.Tryz.func59⟩
def zkl (a0 : zC) : Option zC :=
 (zgt a0.Storage).bind fun r1 => (ziv a0.Stack).bind fun r2 => (zkf a0.Lines).bind fun r3 =>
  some (⟨r1, a0.At, r2, r3, a0.Status, a0.Exception, a0.Steps⟩ : zC)
def zkl.k : Kq := ⟨26, (ctv [.val Ty.zC] [Ty.zC] [] [3, 4] [Ty.zC] zkl), go [ziv.k, zgt.k, zkf.k] {} [] Proofs.Tryz.func26⟩
def zht (N : Nat) (a0 : zB) : Option Int :=
 (ze N a0).bind fun r1 => some r1.2
def zht.k (N : Nat) : Kq := ⟨41, (cvv [T6] [Ty.zB] (zht N)), go [ze.k N] {} [] Proofs.Tryz.func41⟩
def zc3 (a0 : Bool) (a1 : Int) : Option Int :=
 cond a0 (some a1) (some 0)
def zc3.k : Kq := ⟨42, (cvv [T6] [Ty.bool, T6] zc3), go [] {} [] Proofs.Tryz.func42⟩
def zaj.b0 (N : Nat) (s5 : List Int) (s6 : Int) (s7 : Int) : Option (Round Int ((List Int) × Int × Int)) :=
 cond (decide (s7 < s6)) ((idx s5 s7).bind fun x1001 => cond (x1001 != 0) (some (.result x1001)) (some (.again (s5, s6, (w6 (s7 + 1)))))) (some (.leave (s5, s6, s7)))
def zaj.r0 (N : Nat) (x : (List Int) × Int × Int) := zaj.b0 N x.1 x.2.1 x.2.2
def zaj (N : Nat) (a0 : List Int) : Option Int :=
 (zj (zaj.r0 N) N (a0, (a0.length : Int), 0)).bind fun z2 => zb5 z2 (fun z => some z) (fun y1 => some 0)
def zaj.k (N : Nat) : Kq := ⟨40, (cvv [T6] [(Ty.sl T6)] (zaj N)), go [] {} [(0, .rets { slots := [(5, .val (Ty.sl T6)), (6, .val T6), (7, .val T6)], boxes := [] } [(Ty.sl T6), T6, T6] (zj (zaj.r0 N) N))] Proofs.Tryz.func40 (hL := ⟨⟨_, _, rfl, by kernel_rfl⟩, trivial⟩)⟩
def zbo.b0 (N : Nat) (s6 : List Int) (s18 : List Bool) (s19 : Int) (s20 : Int) : Option (Stp ((List Int) × (List Bool) × Int × Int)) :=
 cond (decide (s20 < s19)) ((idx s18 s20).bind fun x1001 => cond x1001 (cond (Nat.ble ((s6.length + ([(w6 (s20 * 16))] : List Int).length) * 8) zbr)
  (some (.again ((s6 ++ ([(w6 (s20 * 16))] : List Int)), s18, s19, (w6 (s20 + 1))))) none)
  (some (.again (s6, s18, s19, (w6 (s20 + 1)))))) (some (.leave (s6, s18, s19, s20)))
def zbo.r0 (N : Nat) (x : (List Int) × (List Bool) × Int × Int) := zbo.b0 N x.1 x.2.1 x.2.2.1 x.2.2.2
def zbo (N : Nat) (a0 : Storage) : Option ((List Int) × Int) :=
 (zaa N a0).bind fun r1 => cond (r1.2 != 0) (some ([], r1.2)) ((zl (zbo.r0 N) N ([], a0.Tags, (a0.Tags.length : Int), 0)).bind fun y2 =>
  some (y2.1, 0))
def zbo.k (N : Nat) : Kq := ⟨94, (cvv [(Ty.sl T6), T6] [Ty.Storage] (zbo N)), go [zaa.k N] {lits := [29]} [(0, .plain { slots := [(6, .own 5000006 T6), (18, .val (Ty.sl Ty.bool)), (19, .val T6), (20, .val T6)], boxes := [] } [(Ty.sl T6), (Ty.sl Ty.bool), T6, T6] (zl (zbo.r0 N) N))] Proofs.Tryz.func94 (hL := ⟨⟨_, _, rfl, by kernel_rfl⟩, trivial⟩)⟩
def zh5 (N : Nat) (a0 : Int) (a1 : Storage) : Option Bool :=
 (zdw N a1 a0).bind fun r1 => (cond (r1.1.Kind != 0) (some true) (some (r1.1.Address.zT != 1))).bind fun g2 => some g2
def zh5.k (N : Nat) : Kq := ⟨95, (ctv [.val T6, .ptr Ty.Storage false []] [Ty.bool] [] [] [T6, Ty.Storage] (zh5 N)), go [zdw.k N] {ro := [1000000], pk := [1000000]} [] Proofs.Tryz.func95⟩
def zak.b0 (N : Nat) (s0 : List Int) (s7 : Int) (s8 : Int) (b1000000 : Storage) : Option (Round Int ((List Int) × Int × Int × Storage)) :=
 cond (decide (s8 < s7)) ((idx s0 s8).bind fun x1001 => (zh5 N x1001 b1000000).bind fun r1002 => cond r1002 (some (.result s8))
  (some (.again (s0, s7, (w6 (s8 + 1)), b1000000)))) (some (.leave (s0, s7, s8, b1000000)))
def zak.r0 (N : Nat) (x : (List Int) × Int × Int × Storage) := zak.b0 N x.1 x.2.1 x.2.2.1 x.2.2.2
def zak (N : Nat) (a0 : List Int) (a1 : Storage) : Option Int :=
 (zj (zak.r0 N) N (a0, (a0.length : Int), 0, a1)).bind fun z2 => zb5 z2 (fun z => some z) (fun y1 => some (-1))
def zak.k (N : Nat) : Kq := ⟨98, (ctv [.val (Ty.sl T6), .clo 95 1, .ptr Ty.Storage false []] [T6] [] [] [(Ty.sl T6), Ty.Storage] (zak N)), go [zh5.k N] {ro := [1000000], pk := [1000000]} [(0, .rets { slots := [(0, .val (Ty.sl T6)), (1, .fn 95 [1000000]), (7, .val T6), (8, .val T6)], boxes := [(1000000, Ty.Storage, [])] } [(Ty.sl T6), T6, T6, Ty.Storage] (zj (zak.r0 N) N))] Proofs.Tryz.func98 (hL := ⟨⟨_, _, rfl, by kernel_rfl⟩, trivial⟩)⟩
def zfn (N : Nat) (a0 : List Int) (a1 : Storage) : Option Bool :=
 (zak N a0 a1).bind fun r1 => some (decide (r1 ≥ 0))
def zfn.k (N : Nat) : Kq := ⟨56, (ctv [.val (Ty.sl T6), .clo 95 1, .ptr Ty.Storage false []] [Ty.bool] [] [] [(Ty.sl T6), Ty.Storage] (zfn N)), go [zak.k N] {ro := [1000000], pk := [1000000]} [] Proofs.Tryz.func56⟩
def zhs (N : Nat) (a0 : zB) (a1 : Storage) : Option Int :=
 (zga N a0).bind fun r1 => (zc3 ((a1.Bytes.size : Int) != (w6 (r1.2.1 * 16))) 18).bind fun r2 =>
  (zaj N ([r1.2.2, r2] : List Int)).bind fun r3 => cond (r3 != 0) (some r3) ((zaa N a1).bind fun r4 => cond (r4.2 != 0) (some r4.2)
  ((zbo N a1).bind fun r5 => (zfn N r5.1 a1).bind fun r6 => (zc3 r6 22).bind fun r7 => some r7))
def zhs.k (N : Nat) : Kq := ⟨52, (cvv [T6] [Ty.zB, Ty.Storage] (zhs N)), go [zaj.k N, zc3.k, zfn.k N, zga.k N, zaa.k N, zbo.k N] {lits := [25, 26, 46]} [] Proofs.Tryz.func52⟩
def zh7 (a0 : ByteArray) : Option Bool :=
 some (decide ((a0.size : Int) > 256))
def zh7.k : Kq := ⟨55, (cvv [Ty.bool] [Ty.str] zh7), go [] {} [] Proofs.Tryz.func55⟩
def zac.b0 (N : Nat) (s0 : List ByteArray) (s7 : Int) (s8 : Int) : Option (Round Int ((List ByteArray) × Int × Int)) :=
 cond (decide (s8 < s7)) ((idx s0 s8).bind fun x1001 => (zh7 x1001).bind fun r1002 => cond r1002 (some (.result s8))
  (some (.again (s0, s7, (w6 (s8 + 1)))))) (some (.leave (s0, s7, s8)))
def zac.r0 (N : Nat) (x : (List ByteArray) × Int × Int) := zac.b0 N x.1 x.2.1 x.2.2
def zac (N : Nat) (a0 : List ByteArray) : Option Int :=
 (zj (zac.r0 N) N (a0, (a0.length : Int), 0)).bind fun z2 => zb5 z2 (fun z => some z) (fun y1 => some (-1))
def zac.k (N : Nat) : Kq := ⟨97, (ctv [.val (Ty.sl Ty.str), .clo 55 0] [T6] [] [] [(Ty.sl Ty.str)] (zac N)), go [zh7.k] {} [(0, .rets { slots := [(0, .val (Ty.sl Ty.str)), (1, .fn 55 []), (7, .val T6), (8, .val T6)], boxes := [] } [(Ty.sl Ty.str), T6, T6] (zj (zac.r0 N) N))] Proofs.Tryz.func97 (hL := ⟨⟨_, _, rfl, by kernel_rfl⟩, trivial⟩)⟩
def zdf (N : Nat) (a0 : List ByteArray) : Option Bool :=
 (zac N a0).bind fun r1 => some (decide (r1 ≥ 0))
def zdf.k (N : Nat) : Kq := ⟨54, (ctv [.val (Ty.sl Ty.str), .clo 55 0] [Ty.bool] [] [] [(Ty.sl Ty.str)] (zdf N)), go [zac.k N] {} [] Proofs.Tryz.func54⟩
def zh9 (a0 : Int) (a1 : Int) (a2 : zB) : Option Bool :=
 (zda a0 0 (w6 (a1 - 1))).bind fun r1 => (cond r1 ((idx a2.zF a0).bind fun x2 => some (x2.Op == 13)) (some false)).bind fun g3 => some g3
def zh9.k : Kq := ⟨53, (ctv [.val T6, .ptr T6 false [], .ptr Ty.zB false []] [Ty.bool] [] [] [T6, T6, Ty.zB] zh9), go [zda.k] {ro := [1000000, 1000001], pk := [1000000, 1000001]} [] Proofs.Tryz.func53⟩
def zfs (a0 : Int) (a1 : Int) (a2 : zB) : Option Bool :=
 (zh9 a0 a1 a2).bind fun r1 => some (!r1)
def zfs.k : Kq := ⟨57, (ctv [.val T6, .bclo T6 53 2, .ptr T6 false [], .ptr Ty.zB false []] [Ty.bool] [] [] [T6, T6, Ty.zB] zfs), go [zh9.k] {ro := [1000000, 1000001, 1000002], pk := [1000000, 1000001, 1000002]} [] Proofs.Tryz.func57⟩
def zal.b0 (N : Nat) (s0 : List Int) (s7 : Int) (s8 : Int) (b1000001 : Int) (b1000002 : zB) : Option (Round Int ((List Int) × Int × Int × Int × zB)) :=
 cond (decide (s8 < s7)) ((idx s0 s8).bind fun x1001 => (zfs x1001 b1000001 b1000002).bind fun r1002 => cond r1002 (some (.result s8))
  (some (.again (s0, s7, (w6 (s8 + 1)), b1000001, b1000002)))) (some (.leave (s0, s7, s8, b1000001, b1000002)))
def zal.r0 (N : Nat) (x : (List Int) × Int × Int × Int × zB) := zal.b0 N x.1 x.2.1 x.2.2.1 x.2.2.2.1 x.2.2.2.2
def zal (N : Nat) (a0 : List Int) (a1 : Int) (a2 : zB) : Option Int :=
 (zj (zal.r0 N) N (a0, (a0.length : Int), 0, a1, a2)).bind fun z2 => zb5 z2 (fun z => some z) (fun y1 => some (-1))
def zal.k (N : Nat) : Kq := ⟨98, (ctv [.val (Ty.sl T6), .clo 57 1, .bclo T6 53 2, .ptr T6 false [], .ptr Ty.zB false []] [T6] [] [] [(Ty.sl T6), T6, Ty.zB] (zal N)), go [zfs.k] {ro := [1000000, 1000001, 1000002], pk := [1000000, 1000001, 1000002]} [(0, .rets { slots := [(0, .val (Ty.sl T6)), (1, .fn 57 [1000000]), (7, .val T6), (8, .val T6)], boxes := [(1000001, T6, []), (1000002, Ty.zB, [])], fboxes := [(1000000, 53, [1000001, 1000002])] } [(Ty.sl T6), T6, T6, T6, Ty.zB] (zj (zal.r0 N) N))] Proofs.Tryz.func98 (hL := ⟨⟨_, _, rfl, by kernel_rfl⟩, trivial⟩)⟩
def zec (N : Nat) (a0 : List Int) (a1 : Int) (a2 : zB) : Option Bool :=
 (zal N a0 a1 a2).bind fun r1 => some (decide (r1 ≥ 0))
def zec.k (N : Nat) : Kq := ⟨56, (ctv [.val (Ty.sl T6), .clo 57 1, .bclo T6 53 2, .ptr T6 false [], .ptr Ty.zB false []] [Ty.bool] [] [] [(Ty.sl T6), T6, Ty.zB] (zec N)), go [zal.k N] {ro := [1000000, 1000001, 1000002], pk := [1000000, 1000001, 1000002]} [] Proofs.Tryz.func56⟩
def zdu (N : Nat) (a0 : zB) (a1 : zC) : Option Int :=
 (zht N a0).bind fun r1 => cond (r1 != 0) (some r1) ((zhs N a0 a1.Storage).bind fun r2 => cond (r2 != 0) (some r2)
  ((zdf N a1.Lines).bind fun r3 => (zec N a1.Stack (a0.zF.length : Int) a0).bind fun r4 =>
  (zda a1.At 0 (w6 ((a0.zF.length : Int) - 1))).bind fun r5 => (zc3 (!r5) 3).bind fun r6 => (cond (decide ((a1.Stack.length : Int) > 6))
  (some true) (some (decide ((a1.Lines.length : Int) > 40)))).bind fun g7 => (zc3 g7 2).bind fun r8 => (zc3 (!(!r4)) 3).bind fun r9 =>
  (zc3 r3 18).bind fun r10 => (zda a1.Status 0 3).bind fun r11 => (zc3 (!r11) 4).bind fun r12 => (zda a1.Exception 0 999).bind fun r13 =>
  (cond (!r13) (some true) ((zda a1.Steps 0 300).bind fun r14 => some (!r14))).bind fun g15 => (zc3 g15 3).bind fun r16 =>
  (zaj N ([r6, r8, r9, r10, r12, r16] : List Int)).bind fun r17 => some r17))
def zdu.k (N : Nat) : Kq := ⟨25, (cvv [T6] [Ty.zB, Ty.zC] (zdu N)), go [zaj.k N, zht.k N, zc3.k, zda.k, zhs.k N, zdf.k N, zec.k N] {lits := [41, 52, 55, 57, 62, 73, 74]} [] Proofs.Tryz.func25⟩
def zgd (N : Nat) (a0 : zB) (a1 : zC) : Option (zC × Int) :=
 (zdu N a0 a1).bind fun r1 => (cond (a1.Status != 0) (some true) (some (decide (a1.Steps ≥ 300)))).bind fun g2 => (zc3 g2 26).bind fun r3 =>
  (zaj N ([r1, r3] : List Int)).bind fun r4 => cond (r4 != 0) (some ((⟨(⟨(⟨#[]⟩ : ByteArray), []⟩ : Storage), 0, [], [], 0, 0, 0⟩ : zC), r4))
  ((zga N a0).bind fun r5 => cond (r5.2.2 != 0) (some ((⟨(⟨(⟨#[]⟩ : ByteArray), []⟩ : Storage), 0, [], [], 0, 0, 0⟩ : zC), r5.2.2))
  ((zji N a0 a1 r5.1).bind fun r6 => some (r6, 0)))
def zgd.k (N : Nat) : Kq := ⟨28, (cvv [Ty.zC, T6] [Ty.zB, Ty.zC] (zgd N)), go [zdu.k N, zaj.k N, zc3.k, zga.k N, zji.k N] {lits := [12, 21, 22]} [] Proofs.Tryz.func28⟩
def zf (a0 : Int) (a1 : Int) (a2 : Int) : Option Bool :=
 (cond (decide (a1 ≤ a0)) (some (decide (a0 ≤ a2))) (some false)).bind fun g1 => some g1
def zf.k : Kq := ⟨16, (cvv [Ty.bool] [T6, T6, T6] zf), go [] {} [] Proofs.Tryz.func16⟩
def zqd (a0 : Int) : Option Bool :=
 (cond (decide (65 ≤ a0)) (some (decide (a0 ≤ 90))) (some false)).bind fun g1 => some g1
def zqd.k : Kq := ⟨190, (cvv [Ty.bool] [(Ty.int .u8)] zqd), go [] {} [] Proofs.Tryz.func190⟩
def zqe (a0 : Int) : Option Bool :=
 (cond (decide (48 ≤ a0)) (some (decide (a0 ≤ 57))) (some false)).bind fun g1 => some g1
def zqe.k : Kq := ⟨191, (cvv [Ty.bool] [(Ty.int .u8)] zqe), go [] {} [] Proofs.Tryz.func191⟩
def zeh.b0 (N : Nat) (s0 : ByteArray) (s3 : Int) : Option (Round Bool (ByteArray × Int)) :=
 cond (decide (s3 < (s0.size : Int))) ((zhl s0 s3).bind fun x1001 => (zqd (x1001.toNat : Int)).bind fun r1002 => (cond r1002 (some true)
  (some ((x1001.toNat : Int) == 36))).bind fun g1003 => (cond g1003 (some true) (some ((x1001.toNat : Int) == 35))).bind fun g1004 => (cond g1004 (some true)
  (some ((x1001.toNat : Int) == 64))).bind fun g1005 => (cond (!g1005) ((cond (s3 == 0) (some true) ((zqe (x1001.toNat : Int)).bind fun r1006 => (cond (!r1006)
  (some ((x1001.toNat : Int) != 95)) (some false)).bind fun g1007 => (cond g1007 (some ((x1001.toNat : Int) != 46)) (some false)).bind fun g1008 => some g1008)).bind fun g1009 =>
  some g1009) (some false)).bind fun g1010 => cond g1010 (some (.result false)) (some (.again (s0, (w6 (s3 + 1)))))) (some (.leave (s0, s3)))
def zeh.r0 (N : Nat) (x : ByteArray × Int) := zeh.b0 N x.1 x.2
def zeh (N : Nat) (a0 : ByteArray) : Option Bool :=
 (zf (a0.size : Int) 1 10).bind fun r1 => cond (!r1) (some false) ((zj (zeh.r0 N) N (a0, 0)).bind fun z3 => zb5 z3 (fun z => some z) (fun y2 => some true))
def zeh.k (N : Nat) : Kq := ⟨132, (cvv [Ty.bool] [Ty.str] (zeh N)), go [zf.k, zqd.k, zqe.k] {lits := [7]} [(0, .rets { slots := [(0, .val Ty.str), (3, .val T6)], boxes := [] } [Ty.str, T6] (zj (zeh.r0 N) N))] Proofs.Tryz.func132 (hL := ⟨⟨_, _, rfl, by kernel_rfl⟩, trivial⟩)⟩
def zel.b0 (N : Nat) (s1 : ByteArray) (s5 : Int) (b2 : zB) : Option (Round Int (ByteArray × Int × zB)) :=
 cond (decide (s5 < (b2.zA.length : Int))) ((idx b2.zA s5).bind fun x1001 => cond (x1001.Name.toList == s1.toList) (some (.result s5))
  (some (.again (s1, (w6 (s5 + 1)), b2)))) (some (.leave (s1, s5, b2)))
def zel.r0 (N : Nat) (x : ByteArray × Int × zB) := zel.b0 N x.1 x.2.1 x.2.2
def zel (N : Nat) (a0 : zB) (a1 : ByteArray) : Option Int :=
 (zj (zel.r0 N) N (a1, 0, a0)).bind fun z2 => zb5 z2 (fun z => some z) (fun y1 => some (-1))
def zel.k (N : Nat) : Kq := ⟨100, (cvv [T6] [Ty.zB, Ty.str] (zel N)), go [] {} [(0, .rets { slots := [(1, .val Ty.str), (2, .ptr 2 0), (5, .val T6)], boxes := [(2, Ty.zB, [])] } [Ty.str, T6, Ty.zB] (zj (zel.r0 N) N))] Proofs.Tryz.func100 (hL := ⟨⟨_, _, rfl, by kernel_rfl⟩, trivial⟩)⟩
def zlp (a0 : zG) : Option Bool :=
 (cond (a0.Base.toList == (⟨#[]⟩ : ByteArray).toList) (some (a0.Offset == 0)) (some false)).bind fun g1 => (cond (a0.Kind == 0) (some (a0.Kind == 0))
  (some (a0.Kind == 4))).bind fun q2 => cond q2 ((cond (!g1) (some true) (some (a0.Target != 0))).bind fun g3 => some g3) ((cond (a0.Kind == 1) (some (a0.Kind == 1))
  (some (a0.Kind == 2))).bind fun q4 => cond q4 ((cond (!(zfd [(a0.Value.N == 0), (a0.Value.S == (⟨#[]⟩ : ByteArray))])) (some true) (some (a0.Target != 0))).bind fun g5 =>
  some g5) (cond (a0.Kind == 3) ((cond (!(zfd [(a0.zK.Kind == 0), (a0.zK.Length == 0), (a0.zK.Scale == 0)])) (some true)
  (some (!(zfd [(a0.Value.N == 0), (a0.Value.S == (⟨#[]⟩ : ByteArray))])))).bind fun g6 => (cond g6 (some true) (some (!g1))).bind fun g7 => (cond g7 (some true)
  (some (a0.Target != 0))).bind fun g8 => some g8) ((cond (!(zfd [(a0.zK.Kind == 0), (a0.zK.Length == 0), (a0.zK.Scale == 0)])) (some true)
  (some (!(zfd [(a0.Value.N == 0), (a0.Value.S == (⟨#[]⟩ : ByteArray))])))).bind fun g9 => (cond g9 (some true) (some (!g1))).bind fun g10 => some g10)))
def zlp.k : Kq := ⟨133, (cvv [Ty.bool] [Ty.zG] zlp), go [] {bj := [19, 29]} [] Proofs.Tryz.func133⟩
def zhp (a0 : Int) : Option Bool :=
 (cond (a0 == 0) (some true) (some (a0 == 1))).bind fun g1 => (cond g1 (some true) (some (a0 == 2))).bind fun g2 => some g2
def zhp.k : Kq := ⟨118, (cvv [Ty.bool] [T6] zhp), go [] {} [] Proofs.Tryz.func118⟩
def zik (a0 : Int) : Option Bool :=
 (zhp a0).bind fun r1 => (cond r1 (some true) (some (a0 == 4))).bind fun g2 => some g2
def zik.k : Kq := ⟨74, (cvv [Ty.bool] [T6] zik), go [zhp.k] {} [] Proofs.Tryz.func74⟩
def zcu (a0 : Int) : Option Bool :=
 (zf a0 1 3).bind fun r1 => some r1
def zcu.k : Kq := ⟨124, (cvv [Ty.bool] [T6] zcu), go [zf.k] {} [] Proofs.Tryz.func124⟩
def zao (a0 : Bool) : Option Int :=
 cond a0 (some 1) (some 0)
def zao.k : Kq := ⟨122, (cvv [T6] [Ty.bool] zao), go [] {} [] Proofs.Tryz.func122⟩
def zfc (a0 : DataType) : Option Int :=
 (zf a0.Kind 0 4).bind fun r1 => cond (!r1) (some 4) (cond (a0.Kind == 0) ((zf a0.Length 1 256).bind fun r2 => cond (!r2) (some 18)
  ((zcu a0.Kind).bind fun r3 => cond r3 ((zf a0.Scale 0 a0.Length).bind fun r4 => (zao (!r4)).bind fun r5 => some (w6 (3 * r5)))
  ((zf a0.Scale 0 0).bind fun r6 => (zao (!r6)).bind fun r7 => some (w6 (3 * r7))))) ((cond (a0.Kind == 1) (some (a0.Kind == 1))
  (some (a0.Kind == 2))).bind fun q8 => cond q8 ((zf a0.Length 1 15).bind fun r9 => cond (!r9) (some 18) ((zcu a0.Kind).bind fun r10 =>
  cond r10 ((zf a0.Scale 0 a0.Length).bind fun r11 => (zao (!r11)).bind fun r12 => some (w6 (3 * r12))) ((zf a0.Scale 0 0).bind fun r13 =>
  (zao (!r13)).bind fun r14 => some (w6 (3 * r14))))) (cond (a0.Kind == 3) ((cond (a0.Length == 4) (some true) (some (a0.Length == 9))).bind fun g15 =>
  cond (!g15) (some 18) ((zcu a0.Kind).bind fun r16 => cond r16 ((zf a0.Scale 0 a0.Length).bind fun r17 => (zao (!r17)).bind fun r18 =>
  some (w6 (3 * r18))) ((zf a0.Scale 0 0).bind fun r19 => (zao (!r19)).bind fun r20 => some (w6 (3 * r20))))) (cond (!(a0.Length == 0))
  (some 18) ((zcu a0.Kind).bind fun r21 => cond r21 ((zf a0.Scale 0 a0.Length).bind fun r22 => (zao (!r22)).bind fun r23 =>
  some (w6 (3 * r23))) ((zf a0.Scale 0 0).bind fun r24 => (zao (!r24)).bind fun r25 => some (w6 (3 * r25))))))))
def zfc.k : Kq := ⟨134, (cvv [T6] [Ty.DataType] zfc), go [zf.k, zao.k, zcu.k] {bj := [19]} [] Proofs.Tryz.func134⟩
def zea.b0 (N : Nat) (s0 : Int) (s3 : Int) (s4 : Int) : Option (Stp (Int × Int × Int)) :=
 cond (decide (s4 < s0)) (some (.again (s0, (w6 (s3 * 10)), (w6 (s4 + 1))))) (some (.leave (s0, s3, s4)))
def zea.r0 (N : Nat) (x : Int × Int × Int) := zea.b0 N x.1 x.2.1 x.2.2
def zea (N : Nat) (a0 : Int) : Option Int :=
 (zl (zea.r0 N) N (a0, 1, 0)).bind fun y1 => some y1.2.1
def zea.k (N : Nat) : Kq := ⟨170, (cvv [T6] [T6] (zea N)), go [] {} [(0, .plain { slots := [(0, .val T6), (3, .val T6), (4, .val T6)], boxes := [] } [T6, T6, T6] (zl (zea.r0 N) N))] Proofs.Tryz.func170 (hL := ⟨⟨_, _, rfl, by kernel_rfl⟩, trivial⟩)⟩
def zis (N : Nat) (a0 : DataType) : Option Int :=
 (zea N a0.Length).bind fun r1 => some (w6 (r1 - 1))
def zis.k (N : Nat) : Kq := ⟨180, (cvv [T6] [Ty.DataType] (zis N)), go [zea.k N] {} [] Proofs.Tryz.func180⟩
def zj8 (N : Nat) (a0 : DataType) (a1 : Value) : Option Int :=
 (zfc a0).bind fun r1 => cond (r1 != 0) (some r1) (cond (a0.Kind == 4) (some 17) ((cond (a0.Kind == 0) (some (a1.N != 0)) (some false)).bind fun g2 =>
  (cond g2 (some true) ((cond (a0.Kind != 0) (some (!(a1.S.toList == (⟨#[]⟩ : ByteArray).toList))) (some false)).bind fun g3 => some g3)).bind fun g4 => cond g4 (some 5)
  (cond (a0.Kind == 0) ((zao ((a1.S.size : Int) != a0.Length)).bind fun r5 => some (w6 (18 * r5))) ((zis N a0).bind fun r6 =>
  (zis N a0).bind fun r7 => (zf a1.N (w6 (0 - r6)) r7).bind fun r8 => (zao (!r8)).bind fun r9 => some (w6 (19 * r9))))))
def zj8.k (N : Nat) : Kq := ⟨135, (cvv [T6] [Ty.DataType, Ty.Value] (zj8 N)), go [zf.k, zao.k, zfc.k, zis.k N] {lits := [49]} [] Proofs.Tryz.func135⟩
def zdd (a0 : DataType) : Option Int :=
 cond (a0.Kind == 1) (some (w6 ((w6 (a0.Length.tdiv 2)) + 1))) (cond (a0.Kind == 3) ((zao (a0.Length == 9)).bind fun r1 =>
  some (w6 (2 + (w6 (2 * r1))))) (cond (a0.Kind == 4) (some 16) (some a0.Length)))
def zdd.k : Kq := ⟨77, (cvv [T6] [Ty.DataType] zdd), go [zao.k] {} [] Proofs.Tryz.func77⟩
def zj6 (N : Nat) (a0 : zB) (a1 : Int) : Option Int :=
 (idx a0.zA a1).bind fun x1 => (zeh N x1.Name).bind fun r2 => cond (!r2) (some 7) ((zel N a0 x1.Name).bind fun r3 => cond (decide (r3 < a1)) (some 13)
  ((zf x1.Kind 0 5).bind fun r4 => cond (!r4) (some 4) ((zlp x1).bind fun r5 => cond r5 (some 5) ((zik x1.Kind).bind fun r6 =>
  cond r6 ((zfc x1.zK).bind fun r7 => cond (r7 != 0) (some r7) (cond (x1.zK.Kind == 4) (some 17) ((zel N a0 x1.Base).bind fun r8 => (cond (x1.Kind == 0)
  (some (x1.Kind == 0)) (some (x1.Kind == 4))).bind fun q9 => cond q9 ((zj8 N x1.zK x1.Value).bind fun r10 => some r10) ((cond (x1.Kind == 1) (some (x1.Kind == 1))
  (some (x1.Kind == 2))).bind fun q11 => cond q11 ((cond (r8 == (-1)) (some true) (some (decide (r8 ≥ a1)))).bind fun g12 => cond g12 (some 11) ((idx a0.zA r8).bind fun x13 =>
  (cond (x1.Kind == 1) (some (x13.Kind != 0)) (some false)).bind fun g14 => (cond g14 (some true) ((cond (x1.Kind == 2) (some (x13.Kind != 3)) (some false)).bind fun g15 =>
  some g15)).bind fun g16 => cond g16 (some 17) (cond (x1.Kind == 1) ((zdd x13.zK).bind fun r17 => (zdd x1.zK).bind fun r18 =>
  (zf x1.Offset 0 (w6 (r17 - r18))).bind fun r19 => cond (!r19) (some 3) (some 0)) ((zf x1.Offset 0 256).bind fun r20 => cond (!r20) (some 3)
  (some 0))))) (cond (x1.Kind == 5) ((zf x1.Target 0 (w6 ((a0.zF.length : Int) - 1))).bind fun r21 => cond (!r21) (some 3) (some 0)) (some 0))))))
  ((zel N a0 x1.Base).bind fun r22 => (cond (x1.Kind == 0) (some (x1.Kind == 0)) (some (x1.Kind == 4))).bind fun q23 =>
  cond q23 ((zj8 N x1.zK x1.Value).bind fun r24 => some r24) ((cond (x1.Kind == 1) (some (x1.Kind == 1)) (some (x1.Kind == 2))).bind fun q25 =>
  cond q25 ((cond (r22 == (-1)) (some true) (some (decide (r22 ≥ a1)))).bind fun g26 => cond g26 (some 11) ((idx a0.zA r22).bind fun x27 => (cond (x1.Kind == 1)
  (some (x27.Kind != 0)) (some false)).bind fun g28 => (cond g28 (some true) ((cond (x1.Kind == 2) (some (x27.Kind != 3)) (some false)).bind fun g29 => some g29)).bind fun g30 =>
  cond g30 (some 17) (cond (x1.Kind == 1) ((zdd x27.zK).bind fun r31 => (zdd x1.zK).bind fun r32 =>
  (zf x1.Offset 0 (w6 (r31 - r32))).bind fun r33 => cond (!r33) (some 3) (some 0)) ((zf x1.Offset 0 256).bind fun r34 => cond (!r34) (some 3)
  (some 0))))) (cond (x1.Kind == 5) ((zf x1.Target 0 (w6 ((a0.zF.length : Int) - 1))).bind fun r35 => cond (!r35) (some 3) (some 0)) (some 0))))))))
def zj6.k (N : Nat) : Kq := ⟨82, (cvv [T6] [Ty.zB, T6] (zj6 N)), go [zf.k, zik.k, zdd.k, zel.k N, zeh.k N, zlp.k, zfc.k, zj8.k N] {bj := [54, 62]} [] Proofs.Tryz.func82⟩
def zq.b0 (N : Nat) (s4 : List Int) (s5 : Int) (s6 : Int) (b1 : zB) : Option (Stp ((List Int) × Int × Int × zB)) :=
 cond (decide (s6 < (b1.zA.length : Int))) (if 0 ≤ s6 then (if s6 < (s4.length : Int) then ((s4[s6.toNat]?).bind fun x1001 => (idx b1.zA s6).bind fun x1002 =>
  cond (x1002.Kind == 3) (if 0 ≤ s6 then (if s6 < ((s4.set s6.toNat (-1)).length : Int) then (((s4.set s6.toNat (-1))[s6.toNat]?).bind fun x1003 =>
  some (.again (((s4.set s6.toNat (-1)).set s6.toNat s5), (w6 (s5 + 16)), (w6 (s6 + 1)), b1))) else none) else none)
  (some (.again ((s4.set s6.toNat (-1)), s5, (w6 (s6 + 1)), b1)))) else none) else none) (some (.leave (s4, s5, s6, b1)))
def zq.r0 (N : Nat) (x : (List Int) × Int × Int × zB) := zq.b0 N x.1 x.2.1 x.2.2.1 x.2.2.2
def zq.b2 (N : Nat) (s4 : List Int) (s5 : Int) (s7 : Int) (b1 : zB) : Option (Stp ((List Int) × Int × Int × zB)) :=
 cond (decide (s7 < (b1.zA.length : Int))) ((idx b1.zA s7).bind fun x3001 => cond (x3001.Kind == 0)
  (if 0 ≤ s7 then (if s7 < (s4.length : Int) then ((s4[s7.toNat]?).bind fun x3002 => (zdd x3001.zK).bind fun r3003 =>
  some (.again ((s4.set s7.toNat s5), (w6 (s5 + r3003)), (w6 (s7 + 1)), b1))) else none) else none)
  (some (.again (s4, s5, (w6 (s7 + 1)), b1)))) (some (.leave (s4, s5, s7, b1)))
def zq.r2 (N : Nat) (x : (List Int) × Int × Int × zB) := zq.b2 N x.1 x.2.1 x.2.2.1 x.2.2.2
def zq.b4 (N : Nat) (s4 : List Int) (s5 : Int) (s9 : Int) (b1 : zB) : Option (Stp ((List Int) × Int × Int × zB)) :=
 cond (decide (s9 < (b1.zA.length : Int))) ((idx b1.zA s9).bind fun x5001 => cond (x5001.Kind == 1) ((zel N b1 x5001.Base).bind fun r5002 =>
  if 0 ≤ r5002 then (if r5002 < (s4.length : Int) then ((s4[r5002.toNat]?).bind fun x5003 => if 0 ≤ s9 then (if s9 < (s4.length : Int) then ((s4[s9.toNat]?).bind fun x5004 =>
  some (.again ((s4.set s9.toNat (w6 (x5003 + x5001.Offset))), s5, (w6 (s9 + 1)), b1))) else none) else none) else none) else none)
  (some (.again (s4, s5, (w6 (s9 + 1)), b1)))) (some (.leave (s4, s5, s9, b1)))
def zq.r4 (N : Nat) (x : (List Int) × Int × Int × zB) := zq.b4 N x.1 x.2.1 x.2.2.1 x.2.2.2
def zq (N : Nat) (a0 : zB) : Option ((List Int) × Int) :=
 if 0 ≤ (a0.zA.length : Int) then (if (a0.zA.length : Int) ≤ (a0.zA.length : Int) then (cond (Nat.ble ((a0.zA.length : Int).toNat * 8) zbr)
  ((zl (zq.r0 N) N ((List.replicate (a0.zA.length : Int).toNat (0 : Int)), 0, 0, a0)).bind fun y1 =>
  (zl (zq.r2 N) N (y1.1, y1.2.1, 0, y1.2.2.2)).bind fun y2 => (zl (zq.r4 N) N (y2.1, y2.2.1, 0, y2.2.2.2)).bind fun y3 =>
  some (y3.1, (w6 ((w6 ((w6 (y3.2.1 + 16)) - 1)).tdiv 16)))) none) else none) else none
def zq.k (N : Nat) : Kq := ⟨60, (cvv [(Ty.sl T6), T6] [Ty.zB] (zq N)), go [zdd.k, zel.k N] {} [(0, .plain { slots := [(1, .ptr 1 0), (4, .own 5000004 T6), (5, .val T6), (6, .val T6)], boxes := [(1, Ty.zB, [])] } [(Ty.sl T6), T6, T6, Ty.zB] (zl (zq.r0 N) N)), (2, .plain { slots := [(1, .ptr 1 0), (4, .own 5000004 T6), (5, .val T6), (7, .val T6)], boxes := [(1, Ty.zB, [])] } [(Ty.sl T6), T6, T6, Ty.zB] (zl (zq.r2 N) N)), (4, .plain { slots := [(1, .ptr 1 0), (4, .own 5000004 T6), (5, .val T6), (9, .val T6)], boxes := [(1, Ty.zB, [])] } [(Ty.sl T6), T6, T6, Ty.zB] (zl (zq.r4 N) N))] Proofs.Tryz.func60 (hL := ⟨⟨_, _, rfl, by kernel_rfl⟩, ⟨_, _, rfl, by kernel_rfl⟩, ⟨_, _, rfl, by kernel_rfl⟩, trivial⟩)⟩
def zng (a0 : Int) : Option ((List Int)) :=
 cond (a0 == 0) (some ([0, 4] : List Int)) (cond (a0 == 1) (some ([1, 3] : List Int)) ((cond (a0 == 2) (some (a0 == 2)) (cond (a0 == 3) (some (a0 == 3)) (cond (a0 == 4)
  (some (a0 == 4)) (cond (a0 == 5) (some (a0 == 5)) (some (a0 == 6)))))).bind fun q1 => cond q1 (some ([1, 3, 3] : List Int)) ((cond (a0 == 7) (some (a0 == 7))
  (some (a0 == 8))).bind fun q2 => cond q2 (some ([2, 4, 6] : List Int)) ((cond (a0 == 9) (some (a0 == 9)) (some (a0 == 13))).bind fun q3 => cond q3 (some ([6] : List Int))
  (cond (a0 == 10) (some ([5, 0] : List Int)) (cond (a0 == 11) (some ([5, 5] : List Int)) (cond (a0 == 12) (some ([5, 3] : List Int)) (cond (a0 == 15) (some ([3] : List Int))
  (cond (a0 == 16) (some ([1] : List Int)) (cond (a0 == 17) (some ([2] : List Int)) (some [])))))))))))
def zng.k : Kq := ⟨136, (cvv [(Ty.sl T6)] [T6] zng), go [] {bj := [10, 17, 21]} [] Proofs.Tryz.func136⟩
def zif (a0 : zG) : Option Bool :=
 (zcu a0.zK.Kind).bind fun r1 => some r1
def zif.k : Kq := ⟨137, (cvv [Ty.bool] [Ty.zG] zif), go [zcu.k] {} [] Proofs.Tryz.func137⟩
def zba.b0 (N : Nat) (s5 : List Int) (s6 : Int) (b2 : zB) (b3 : zI) : Option (Round Int ((List Int) × Int × zB × zI)) :=
 cond (decide (s6 < (s5.length : Int))) ((idx b3.Args s6).bind fun x1001 => (zf x1001 0 (w6 ((b2.zA.length : Int) - 1))).bind fun r1002 =>
  cond (!r1002) (some (.result 3)) ((idx b3.Args s6).bind fun x1003 => (idx b2.zA x1003).bind fun x1004 => (idx s5 s6).bind fun x1005 => cond (x1005 == 0)
  ((zhp x1004.Kind).bind fun r1006 => cond (!r1006) (some (.result 17)) (some (.again (s5, (w6 (s6 + 1)), b2, b3)))) (cond (x1005 == 1)
  ((zhp x1004.Kind).bind fun r1007 => (cond r1007 ((zif x1004).bind fun r1008 => some r1008) (some false)).bind fun g1009 => cond (!g1009) (some (.result 17))
  (some (.again (s5, (w6 (s6 + 1)), b2, b3)))) (cond (x1005 == 2) ((zik x1004.Kind).bind fun r1010 => cond (!r1010) (some (.result 17))
  (some (.again (s5, (w6 (s6 + 1)), b2, b3)))) (cond (x1005 == 3) ((zik x1004.Kind).bind fun r1011 => (cond r1011 ((zif x1004).bind fun r1012 =>
  some r1012) (some false)).bind fun g1013 => cond (!g1013) (some (.result 17)) (some (.again (s5, (w6 (s6 + 1)), b2, b3)))) (cond (x1005 == 4)
  ((zik x1004.Kind).bind fun r1014 => (cond r1014 ((zif x1004).bind fun r1015 => (idx b3.Args (w6 (s6 - 1))).bind fun x1016 =>
  (idx b2.zA x1016).bind fun x1017 => (zif x1017).bind fun r1018 => some (r1015 == r1018)) (some false)).bind fun g1019 => cond (!g1019) (some (.result 17))
  (some (.again (s5, (w6 (s6 + 1)), b2, b3)))) (cond (x1005 == 5) (cond (!(x1004.Kind == 3)) (some (.result 17))
  (some (.again (s5, (w6 (s6 + 1)), b2, b3)))) (cond (x1005 == 6) (cond (!(x1004.Kind == 5)) (some (.result 17))
  (some (.again (s5, (w6 (s6 + 1)), b2, b3)))) (some (.result 17)))))))))) (some (.leave (s5, s6, b2, b3)))
def zba.r0 (N : Nat) (x : (List Int) × Int × zB × zI) := zba.b0 N x.1 x.2.1 x.2.2.1 x.2.2.2
def zba (N : Nat) (a0 : zB) (a1 : zI) : Option Int :=
 (zf a1.Op 0 18).bind fun r1 => cond (!r1) (some 4) ((zng a1.Op).bind fun r2 => cond ((a1.Args.length : Int) != (r2.length : Int)) (some 37)
  ((zj (zba.r0 N) N (r2, 0, a0, a1)).bind fun z4 => zb5 z4 (fun z => some z) (fun y3 => some 0)))
def zba.k (N : Nat) : Kq := ⟨83, (cvv [T6] [Ty.zB, Ty.zI] (zba N)), go [zf.k, zik.k, zhp.k, zng.k, zif.k] {} [(0, .rets { slots := [(2, .ptr 2 0), (3, .ptr 3 0), (5, .val (Ty.sl T6)), (6, .val T6)], boxes := [(2, Ty.zB, []), (3, Ty.zI, [])] } [(Ty.sl T6), T6, Ty.zB, Ty.zI] (zj (zba.r0 N) N))] Proofs.Tryz.func83 (hL := ⟨⟨_, _, rfl, by kernel_rfl⟩, trivial⟩)⟩
def zae.b0 (N : Nat) (s4 : Int) (b1 : zB) (b2 : zM) : Option (Round (zM × Int) (Int × zB × zM)) :=
 cond (decide (s4 < (b1.zA.length : Int))) ((zj6 N b1 s4).bind fun r1001 => cond (r1001 != 0) (some (.result ((⟨1, s4⟩ : zM), r1001)))
  (some (.again ((w6 (s4 + 1)), b1, b2)))) (some (.leave (s4, b1, b2)))
def zae.r0 (N : Nat) (x : Int × zB × zM) := zae.b0 N x.1 x.2.1 x.2.2
def zae.b2 (N : Nat) (s8 : Int) (b1 : zB) (b2 : zM) : Option (Round (zM × Int) (Int × zB × zM)) :=
 cond (decide (s8 < (b1.zF.length : Int))) ((idx b1.zF s8).bind fun x3001 => (zba N b1 x3001).bind fun r3002 => cond (r3002 != 0)
  (some (.result ((⟨2, s8⟩ : zM), r3002))) (some (.again ((w6 (s8 + 1)), b1, b2)))) (some (.leave (s8, b1, b2)))
def zae.r2 (N : Nat) (x : Int × zB × zM) := zae.b2 N x.1 x.2.1 x.2.2
def zae.b4 (N : Nat) (s10 : Int) (b1 : zB) (b2 : zM) : Option (Round (zM × Int) (Int × zB × zM)) :=
 cond (decide (s10 < (b1.zL.length : Int))) ((idx b1.zL s10).bind fun x5001 => (cond (decide (x5001.From < 0)) (some true)
  (some (decide (x5001.From ≥ x5001.To)))).bind fun g5002 => (cond g5002 (some true) (some (decide (x5001.To > (b1.zF.length : Int))))).bind fun g5003 =>
  (cond g5003 (some true) ((zf x5001.Exception 0 999).bind fun r5004 => some (!r5004))).bind fun g5005 => (cond g5005 (some true)
  ((zf x5001.Handler 0 (w6 ((b1.zF.length : Int) - 1))).bind fun r5006 => some (!r5006))).bind fun g5007 =>
  cond g5007 (some (.result ((⟨3, s10⟩ : zM), 3))) (some (.again ((w6 (s10 + 1)), b1, b2)))) (some (.leave (s10, b1, b2)))
def zae.r4 (N : Nat) (x : Int × zB × zM) := zae.b4 N x.1 x.2.1 x.2.2
def zae (N : Nat) (a0 : zB) : Option (zM × Int) :=
 (cond (decide ((a0.zA.length : Int) > 24)) (some true) (some (decide ((a0.zF.length : Int) > 40)))).bind fun g1 => (cond g1 (some true)
  (some (decide ((a0.zL.length : Int) > 6)))).bind fun g2 => cond g2 (some ((⟨0, 0⟩ : zM), 2)) (cond ((a0.zF.length : Int) == 0) (some ((⟨0, 0⟩ : zM), 1))
  ((zj (zae.r0 N) N (0, a0, (⟨0, 0⟩ : zM))).bind fun z4 => zb5 z4 (fun z => some z) (fun y3 => (zq N y3.2.1).bind fun r5 => cond (decide (r5.2 > 24))
  (some ((⟨0, 0⟩ : zM), 30)) ((zj (zae.r2 N) N (0, y3.2.1, y3.2.2)).bind fun z7 => zb5 z7 (fun z => some z) (fun y6 =>
  (zj (zae.r4 N) N (0, y6.2.1, y6.2.2)).bind fun z9 => zb5 z9 (fun z => some z) (fun y8 => some ((⟨0, 0⟩ : zM), 0)))))))
def zae.k (N : Nat) : Kq := ⟨47, (cvv [Ty.zM, T6] [Ty.zB] (zae N)), go [zf.k, zq.k N, zj6.k N, zba.k N] {} [(0, .rets { slots := [(1, .ptr 1 0), (2, .ptr 2 0), (4, .val T6)], boxes := [(1, Ty.zB, []), (2, Ty.zM, [])] } [T6, Ty.zB, Ty.zM] (zj (zae.r0 N) N)), (2, .rets { slots := [(1, .ptr 1 0), (2, .ptr 2 0), (8, .val T6)], boxes := [(1, Ty.zB, []), (2, Ty.zM, [])] } [T6, Ty.zB, Ty.zM] (zj (zae.r2 N) N)), (4, .rets { slots := [(1, .ptr 1 0), (2, .ptr 2 0), (10, .val T6)], boxes := [(1, Ty.zB, []), (2, Ty.zM, [])] } [T6, Ty.zB, Ty.zM] (zj (zae.r4 N) N))] Proofs.Tryz.func47 (hL := ⟨⟨_, _, rfl, by kernel_rfl⟩, ⟨_, _, rfl, by kernel_rfl⟩, ⟨_, _, rfl, by kernel_rfl⟩, trivial⟩)⟩
def zr8 (N : Nat) (a0 : zB) : Option Int :=
 (zae N a0).bind fun r1 => some r1.2
def zr8.k (N : Nat) : Kq := ⟨15, (cvv [T6] [Ty.zB] (zr8 N)), go [zae.k N] {} [] Proofs.Tryz.func15⟩
def zk7 (a0 : Storage) (a1 : Int) : Option ByteArray :=
 if 0 ≤ (w6 ((w6 (a1 * 16)) + 16)) ∧ (w6 ((w6 (a1 * 16)) + 16)) ≤ (a0.Bytes.size : Int) then (if 0 ≤ (w6 (a1 * 16)) ∧ (w6 (a1 * 16)) ≤ (w6 ((w6 (a1 * 16)) + 16)) then (some (a0.Bytes.extract (w6 (a1 * 16)).toNat (w6 ((w6 (a1 * 16)) + 16)).toNat)) else none) else none
def zk7.k : Kq := ⟨104, (cvv [Ty.str] [Ty.Storage, T6] zk7), go [] {} [] Proofs.Tryz.func104⟩
def zdv.b0 (N : Nat) (s0 : ByteArray) (s1 : Int) (s2 : Int) (s7 : Int) (s8 : Int) : Option (Stp (ByteArray × Int × Int × Int × Int)) :=
 cond (decide (s8 < s2)) ((zhl s0 (w6 (s1 + s8))).bind fun x1001 =>
  some (.again (s0, s1, s2, (w6 ((w6 (s7 * 256)) + (w6 (x1001.toNat : Int)))), (w6 (s8 + 1)))))
  (some (.leave (s0, s1, s2, s7, s8)))
def zdv.r0 (N : Nat) (x : ByteArray × Int × Int × Int × Int) := zdv.b0 N x.1 x.2.1 x.2.2.1 x.2.2.2.1 x.2.2.2.2
def zdv (N : Nat) (a0 : ByteArray) (a1 : Int) (a2 : Int) : Option Int :=
 (zl (zdv.r0 N) N (a0, a1, a2, 0, 0)).bind fun y1 => some y1.2.2.2.1
def zdv.k (N : Nat) : Kq := ⟨149, (cvv [T6] [Ty.str, T6, T6] (zdv N)), go [] {} [(0, .plain { slots := [(0, .val Ty.str), (1, .val T6), (2, .val T6), (7, .val T6), (8, .val T6)], boxes := [] } [Ty.str, T6, T6, T6, T6] (zl (zdv.r0 N) N))] Proofs.Tryz.func149 (hL := ⟨⟨_, _, rfl, by kernel_rfl⟩, trivial⟩)⟩
def zj7 (a0 : Pointer) : Option Int :=
 (zf a0.Kind 0 2).bind fun r1 => cond (!r1) (some 4) ((zf a0.Address.zT 0 1099511627775).bind fun r2 => (cond (!r2) (some true)
  ((zf a0.Address.Offset 0 16777215).bind fun r3 => some (!r3))).bind fun g4 => (cond g4 (some true) ((zf a0.Authority 0 1023).bind fun r5 =>
  some (!r5))).bind fun g6 => cond g6 (some 3) ((cond (a0.Kind != 1) (some (a0.Authority != 0)) (some false)).bind fun g7 => cond g7 (some 5) (some 0)))
def zj7.k : Kq := ⟨150, (cvv [T6] [Ty.Pointer] zj7), go [zf.k] {} [] Proofs.Tryz.func150⟩
def zps (N : Nat) (a0 : ByteArray) : Option (Pointer × Int) :=
 cond ((a0.size : Int) != 16) (some ((⟨0, (⟨0, 0⟩ : Address), 0⟩ : Pointer), 18)) ((zhl a0 1).bind fun x1 => cond ((x1.toNat : Int) != 0)
  (some ((⟨0, (⟨0, 0⟩ : Address), 0⟩ : Pointer), 5)) ((zhl a0 0).bind fun x2 => (zdv N a0 2 2).bind fun r3 => (zdv N a0 4 6).bind fun r4 =>
  (zdv N a0 10 6).bind fun r5 => (zj7 (⟨(w6 (x2.toNat : Int)), (⟨r4, r5⟩ : Address), r3⟩ : Pointer)).bind fun r6 => cond (r6 != 0)
  (some ((⟨0, (⟨0, 0⟩ : Address), 0⟩ : Pointer), r6)) (some ((⟨(w6 (x2.toNat : Int)), (⟨r4, r5⟩ : Address), r3⟩ : Pointer), 0))))
def zps.k (N : Nat) : Kq := ⟨103, (cvv [Ty.Pointer, T6] [Ty.str] (zps N)), go [zdv.k N, zj7.k] {} [] Proofs.Tryz.func103⟩
def zee.b0 (N : Nat) (s4 : Int) (s5 : Int) (b1 : Storage) : Option (Round (Int × Int) (Int × Int × Storage)) :=
 cond (decide (s5 < s4)) ((idx b1.Tags s5).bind fun x1001 => cond x1001 ((zk7 b1 s5).bind fun r1002 => (zps N r1002).bind fun r1003 => cond (r1003.2 != 0)
  (some (.result (s5, 22))) (some (.again (s4, (w6 (s5 + 1)), b1)))) (some (.again (s4, (w6 (s5 + 1)), b1)))) (some (.leave (s4, s5, b1)))
def zee.r0 (N : Nat) (x : Int × Int × Storage) := zee.b0 N x.1 x.2.1 x.2.2
def zee (N : Nat) (a0 : Storage) : Option (Int × Int) :=
 cond (decide ((a0.Bytes.size : Int) > 1024)) (some (0, 2)) (cond (((a0.Bytes.size : Int).tmod 16) != 0) (some (0, 18))
  (cond ((a0.Tags.length : Int) != (w6 ((a0.Bytes.size : Int).tdiv 16))) (some (0, 6))
  ((zj (zee.r0 N) N ((w6 ((a0.Bytes.size : Int).tdiv 16)), 0, a0)).bind fun z2 => zb5 z2 (fun z => some z) (fun y1 => some (y1.1, 0)))))
def zee.k (N : Nat) : Kq := ⟨101, (cvv [T6, T6] [Ty.Storage] (zee N)), go [zps.k N, zk7.k] {lits := [39]} [(0, .rets { slots := [(1, .ptr 1 0), (4, .val T6), (5, .val T6)], boxes := [(1, Ty.Storage, [])] } [T6, T6, Ty.Storage] (zj (zee.r0 N) N))] Proofs.Tryz.func101 (hL := ⟨⟨_, _, rfl, by kernel_rfl⟩, trivial⟩)⟩
def zsl (N : Nat) (a0 : Storage) : Option Int :=
 (zee N a0).bind fun r1 => some r1.2
def zsl.k (N : Nat) : Kq := ⟨61, (cvv [T6] [Ty.Storage] (zsl N)), go [zee.k N] {} [] Proofs.Tryz.func61⟩
def zcw.b0 (N : Nat) (s3 : List Int) (s4 : Int) (b1 : Storage) : Option (Stp ((List Int) × Int × Storage)) :=
 cond (decide (s4 < (b1.Tags.length : Int))) ((idx b1.Tags s4).bind fun x1001 =>
  cond x1001 (cond (Nat.ble ((s3.length + ([(w6 (s4 * 16))] : List Int).length) * 8) zbr)
  (some (.again ((s3 ++ ([(w6 (s4 * 16))] : List Int)), (w6 (s4 + 1)), b1))) none) (some (.again (s3, (w6 (s4 + 1)), b1))))
  (some (.leave (s3, s4, b1)))
def zcw.r0 (N : Nat) (x : (List Int) × Int × Storage) := zcw.b0 N x.1 x.2.1 x.2.2
def zcw (N : Nat) (a0 : Storage) : Option ((List Int)) :=
 (zl (zcw.r0 N) N ([], 0, a0)).bind fun y1 => some y1.1
def zcw.k (N : Nat) : Kq := ⟨62, (cvv [(Ty.sl T6)] [Ty.Storage] (zcw N)), go [] {lits := [20]} [(0, .plain { slots := [(1, .ptr 1 0), (3, .own 5000003 T6), (4, .val T6)], boxes := [(1, Ty.Storage, [])] } [(Ty.sl T6), T6, Ty.Storage] (zl (zcw.r0 N) N))] Proofs.Tryz.func62 (hL := ⟨⟨_, _, rfl, by kernel_rfl⟩, trivial⟩)⟩
def zl4 (a0 : Storage) (a1 : Int) : Option Bool :=
 (zf a1 0 (w6 ((a0.Bytes.size : Int) - 16))).bind fun r1 => (cond r1 (some ((a1.tmod 16) == 0)) (some false)).bind fun g2 => some g2
def zl4.k : Kq := ⟨102, (cvv [Ty.bool] [Ty.Storage, T6] zl4), go [zf.k] {} [] Proofs.Tryz.func102⟩
def zfw (N : Nat) (a0 : Storage) (a1 : Int) : Option (Pointer × Int) :=
 (zl4 a0 a1).bind fun r1 => cond (!r1) (some ((⟨0, (⟨0, 0⟩ : Address), 0⟩ : Pointer), 3)) ((idx a0.Tags (w6 (a1.tdiv 16))).bind fun x2 => cond (!x2)
  (some ((⟨0, (⟨0, 0⟩ : Address), 0⟩ : Pointer), 22)) ((zk7 a0 (w6 (a1.tdiv 16))).bind fun r3 => (zps N r3).bind fun r4 => some (r4.1, 0)))
def zfw.k (N : Nat) : Kq := ⟨63, (cvv [Ty.Pointer, T6] [Ty.Storage, T6] (zfw N)), go [zl4.k, zps.k N, zk7.k] {lits := [25]} [] Proofs.Tryz.func63⟩
def za0.b0 (N : Nat) (s9 : List Int) (s10 : Int) (b2 : zB) (b3 : zC) : Option (Round Int ((List Int) × Int × zB × zC)) :=
 cond (decide (s10 < (s9.length : Int))) ((idx s9 s10).bind fun x1001 => (zfw N b3.Storage x1001).bind fun r1002 => (cond (r1002.1.Kind != 0) (some true)
  (some (r1002.1.Address.zT != 1))).bind fun g1003 => cond g1003 (some (.result 22)) (some (.again (s9, (w6 (s10 + 1)), b2, b3))))
  (some (.leave (s9, s10, b2, b3)))
def za0.r0 (N : Nat) (x : (List Int) × Int × zB × zC) := za0.b0 N x.1 x.2.1 x.2.2.1 x.2.2.2
def za0.b2 (N : Nat) (s13 : Int) (b2 : zB) (b3 : zC) : Option (Round Int (Int × zB × zC)) :=
 cond (decide (s13 < (b3.Stack.length : Int))) ((idx b3.Stack s13).bind fun x3001 =>
  (zf x3001 0 (w6 ((b2.zF.length : Int) - 1))).bind fun r3002 => (cond (!r3002) (some true) ((idx b3.Stack s13).bind fun x3003 =>
  (idx b2.zF x3003).bind fun x3004 => some (x3004.Op != 13))).bind fun g3005 => cond g3005 (some (.result 3)) (some (.again ((w6 (s13 + 1)), b2, b3))))
  (some (.leave (s13, b2, b3)))
def za0.r2 (N : Nat) (x : Int × zB × zC) := za0.b2 N x.1 x.2.1 x.2.2
def za0.b4 (N : Nat) (s14 : Int) (b3 : zC) : Option (Round Int (Int × zC)) :=
 cond (decide (s14 < (b3.Lines.length : Int))) ((idx b3.Lines s14).bind fun x5001 => cond (decide ((x5001.size : Int) > 256)) (some (.result 18))
  (some (.again ((w6 (s14 + 1)), b3)))) (some (.leave (s14, b3)))
def za0.r4 (N : Nat) (x : Int × zC) := za0.b4 N x.1 x.2
def za0 (N : Nat) (a0 : zB) (a1 : zC) : Option Int :=
 (zr8 N a0).bind fun r1 => cond (r1 != 0) (some r1) ((zq N a0).bind fun r2 => cond ((a1.Storage.Bytes.size : Int) != (w6 (r2.2 * 16))) (some 18)
  ((zsl N a1.Storage).bind fun r3 => cond (r3 != 0) (some r3) ((zcw N a1.Storage).bind fun r4 => (zj (za0.r0 N) N (r4, 0, a0, a1)).bind fun z6 =>
  zb5 z6 (fun z => some z) (fun y5 => (zf y5.2.2.2.At 0 (w6 ((y5.2.2.1.zF.length : Int) - 1))).bind fun r7 => cond (!r7) (some 3)
  ((cond (decide ((y5.2.2.2.Stack.length : Int) > 6)) (some true) (some (decide ((y5.2.2.2.Lines.length : Int) > 40)))).bind fun g8 => cond g8 (some 2)
  ((zj (za0.r2 N) N (0, y5.2.2.1, y5.2.2.2)).bind fun z10 => zb5 z10 (fun z => some z) (fun y9 => (zj (za0.r4 N) N (0, y9.2.2)).bind fun z12 => zb5 z12 (fun z =>
  some z) (fun y11 => (zf y11.2.Status 0 3).bind fun r13 => cond (!r13) (some 4) ((zf y11.2.Exception 0 999).bind fun r14 => (cond (!r14) (some true)
  ((zf y11.2.Steps 0 300).bind fun r15 => some (!r15))).bind fun g16 => cond g16 (some 3) (some 0))))))))))
def za0.k (N : Nat) : Kq := ⟨27, (cvv [T6] [Ty.zB, Ty.zC] (za0 N)), go [zr8.k N, zf.k, zq.k N, zsl.k N, zcw.k N, zfw.k N] {} [(0, .rets { slots := [(2, .ptr 2 0), (3, .ptr 3 0), (9, .val (Ty.sl T6)), (10, .val T6)], boxes := [(2, Ty.zB, []), (3, Ty.zC, [])] } [(Ty.sl T6), T6, Ty.zB, Ty.zC] (zj (za0.r0 N) N)), (2, .rets { slots := [(2, .ptr 2 0), (3, .ptr 3 0), (13, .val T6)], boxes := [(2, Ty.zB, []), (3, Ty.zC, [])] } [T6, Ty.zB, Ty.zC] (zj (za0.r2 N) N)), (4, .rets { slots := [(3, .ptr 3 0), (14, .val T6)], boxes := [(3, Ty.zC, [])] } [T6, Ty.zC] (zj (za0.r4 N) N))] Proofs.Tryz.func27 (hL := ⟨⟨_, _, rfl, by kernel_rfl⟩, ⟨_, _, rfl, by kernel_rfl⟩, ⟨_, _, rfl, by kernel_rfl⟩, trivial⟩)⟩
def zqu (a0 : zC) : Option Bool :=
 (cond ((a0.Storage.Bytes.size : Int) == 0) (some ((a0.Storage.Tags.length : Int) == 0)) (some false)).bind fun g1 => (cond g1 (some ((a0.Stack.length : Int) == 0))
  (some false)).bind fun g2 => (cond g2 (some ((a0.Lines.length : Int) == 0)) (some false)).bind fun g3 => (cond g3 (some (a0.At == 0)) (some false)).bind fun g4 =>
  (cond g4 (some (a0.Status == 0)) (some false)).bind fun g5 => (cond g5 (some (a0.Exception == 0)) (some false)).bind fun g6 => (cond g6 (some (a0.Steps == 0))
  (some false)).bind fun g7 => some g7
def zqu.k : Kq := ⟨23, (cvv [Ty.bool] [Ty.zC] zqu), go [] {} [] Proofs.Tryz.func23⟩
def zfi (a0 : zB) (a1 : Int) : Option Bool :=
 (idx a0.zA a1).bind fun x1 => (zcu x1.zK.Kind).bind fun r2 => some r2
def zfi.k : Kq := ⟨78, (cvv [Ty.bool] [Ty.zB, T6] zfi), go [zcu.k] {} [] Proofs.Tryz.func78⟩
def za4.b0 (N : Nat) (s0 : Int) (s1 : Int) (s5 : List Int) (s6 : Int) : Option (Stp (Int × Int × (List Int) × Int)) :=
 cond (decide (s6 < s1))
  (if 0 ≤ (w6 ((w6 (s1 - 1)) - s6)) then (if (w6 ((w6 (s1 - 1)) - s6)) < (s5.length : Int) then ((s5[(w6 ((w6 (s1 - 1)) - s6)).toNat]?).bind fun x1001 =>
  some (.again ((w6 (s0.tdiv 256)), s1, (s5.set ((w6 ((w6 (s1 - 1)) - s6)).toNat)
  (IntKind.wrap .u8 (s0.tmod 256))), (w6 (s6 + 1))))) else none) else none) (some (.leave (s0, s1, s5, s6)))
def za4.r0 (N : Nat) (x : Int × Int × (List Int) × Int) := za4.b0 N x.1 x.2.1 x.2.2.1 x.2.2.2
def za4 (N : Nat) (a0 : Int) (a1 : Int) : Option ByteArray :=
 if 0 ≤ a1 then (if a1 ≤ a1 then (cond (Nat.ble (a1.toNat * 1) zbr) ((zl (za4.r0 N) N (a0, a1, (List.replicate a1.toNat (0 : Int)), 0)).bind fun y1 =>
  some (zd3 y1.2.2.1)) none) else none) else none
def za4.k (N : Nat) : Kq := ⟨119, (cvv [Ty.str] [T6, T6] (za4 N)), go [] {} [(0, .plain { slots := [(0, .val T6), (1, .val T6), (5, .own 5000005 (Ty.int .u8)), (6, .val T6)], boxes := [] } [T6, T6, (Ty.sl (Ty.int .u8)), T6] (zl (za4.r0 N) N))] Proofs.Tryz.func119 (hL := ⟨⟨_, _, rfl, by kernel_rfl⟩, trivial⟩)⟩
def zha (a0 : Int) : Option Int :=
 some (if (w6 (0 - a0)) > a0 then (w6 (0 - a0)) else a0)
def zha.k : Kq := ⟨121, (cvv [T6] [T6] zha), go [] {} [] Proofs.Tryz.func121⟩
def zdq.b0 (N : Nat) (s0 : Int) (s5 : List Int) (s6 : Int) : Option (Stp (Int × (List Int) × Int)) :=
 cond (decide (s6 ≥ 0)) (if 0 ≤ s6 then (if s6 < (s5.length : Int) then ((s5[s6.toNat]?).bind fun x1001 =>
  some (.again ((w6 (s0.tdiv 10)), (s5.set s6.toNat (s0.tmod 10)), (w6 (s6 - 1))))) else none) else none) (some (.leave (s0, s5, s6)))
def zdq.r0 (N : Nat) (x : Int × (List Int) × Int) := zdq.b0 N x.1 x.2.1 x.2.2
def zdq (N : Nat) (a0 : Int) (a1 : Int) : Option ((List Int)) :=
 if 0 ≤ a1 then (if a1 ≤ a1 then (cond (Nat.ble (a1.toNat * 8) zbr)
  ((zl (zdq.r0 N) N (a0, (List.replicate a1.toNat (0 : Int)), (w6 (a1 - 1)))).bind fun y1 => some y1.2.1) none) else none) else none
def zdq.k (N : Nat) : Kq := ⟨120, (ctv [.val T6, .val T6] [(Ty.sl T6)] [] [0] [T6, T6] (zdq N)), go [] {} [(0, .plain { slots := [(0, .val T6), (5, .own 5000005 T6), (6, .val T6)], boxes := [] } [T6, (Ty.sl T6), T6] (zl (zdq.r0 N) N))] Proofs.Tryz.func120 (hL := ⟨⟨_, _, rfl, by kernel_rfl⟩, trivial⟩)⟩
def zaf.b1 (N : Nat) (s6 : List Int) (s7 : List Int) (s8 : Int) (b2 : DataType) (b3 : Value) : Option (Stp ((List Int) × (List Int) × Int × DataType × Value)) :=
 cond (decide (s8 < b2.Length)) (if 0 ≤ s8 then (if s8 < (s6.length : Int) then ((s6[s8.toNat]?).bind fun x2001 =>
  if 0 ≤ s8 then (if s8 < (s7.length : Int) then ((s7[s8.toNat]?).bind fun x2002 =>
  some (.again (s6, (s7.set s8.toNat (IntKind.wrap .u8 (w6 (240 + x2001)))), (w6 (s8 + 1)), b2, b3))) else none) else none) else none) else none)
  (some (.leave (s6, s7, s8, b2, b3)))
def zaf.r1 (N : Nat) (x : (List Int) × (List Int) × Int × DataType × Value) := zaf.b1 N x.1 x.2.1 x.2.2.1 x.2.2.2.1 x.2.2.2.2
def zaf.b3 (N : Nat) (s6 : List Int) (s9 : List Int) (s10 : Int) : Option (Stp ((List Int) × (List Int) × Int)) :=
 cond (decide (s10 < (s9.length : Int)))
  (if 0 ≤ (w6 (2 * s10)) then (if (w6 (2 * s10)) < (s6.length : Int) then ((s6[(w6 (2 * s10)).toNat]?).bind fun x4001 =>
  if 0 ≤ (w6 ((w6 (2 * s10)) + 1)) then (if (w6 ((w6 (2 * s10)) + 1)) < (s6.length : Int) then ((s6[(w6 ((w6 (2 * s10)) + 1)).toNat]?).bind fun x4002 =>
  if 0 ≤ s10 then (if s10 < (s9.length : Int) then ((s9[s10.toNat]?).bind fun x4003 =>
  some (.again (s6, (s9.set s10.toNat (IntKind.wrap .u8 (w6 ((w6 (16 * x4001)) + x4002)))), (w6 (s10 + 1))))) else none) else none) else none) else none) else none) else none)
  (some (.leave (s6, s9, s10)))
def zaf.r3 (N : Nat) (x : (List Int) × (List Int) × Int) := zaf.b3 N x.1 x.2.1 x.2.2
def zaf (N : Nat) (a0 : DataType) (a1 : Value) : Option ByteArray :=
 cond (a0.Kind == 0) (some a1.S) (cond (a0.Kind == 3) (cond (decide (a1.N < 0)) ((zdd a0).bind fun r1 =>
  if (w6 (8 * r1)) < 0 then none else (zdd a0).bind fun r2 =>
  (za4 N (w6 (a1.N + (w6 (1 * 2 ^ (min (w6 (8 * r1)).toNat 64))))) r2).bind fun r3 => some r3) ((zdd a0).bind fun r4 =>
  (za4 N a1.N r4).bind fun r5 => some r5)) ((zha a1.N).bind fun r6 => (zdq N r6 a0.Length).bind fun r7 => cond (a0.Kind == 2)
  (if 0 ≤ a0.Length then (if a0.Length ≤ a0.Length then (cond (Nat.ble (a0.Length.toNat * 1) zbr)
  ((zl (zaf.r1 N) N (r7, (List.replicate a0.Length.toNat (0 : Int)), 0, a0, a1)).bind fun y8 => cond (decide (y8.2.2.2.2.N < 0))
  (if 0 ≤ (w6 (y8.2.2.2.1.Length - 1)) then (if (w6 (y8.2.2.2.1.Length - 1)) < (y8.1.length : Int) then ((y8.1[(w6 (y8.2.2.2.1.Length - 1)).toNat]?).bind fun x9 =>
  if 0 ≤ (w6 (y8.2.2.2.1.Length - 1)) then (if (w6 (y8.2.2.2.1.Length - 1)) < (y8.2.1.length : Int) then ((y8.2.1[(w6 (y8.2.2.2.1.Length - 1)).toNat]?).bind fun x10 =>
  some (zd3 (y8.2.1.set ((w6 (y8.2.2.2.1.Length - 1)).toNat) (IntKind.wrap .u8 (w6 (208 + x9)))))) else none) else none) else none) else none)
  (some (zd3 y8.2.1))) none) else none) else none) (cond ((a0.Length.tmod 2) == 0) (cond (Nat.ble ((([0] : List Int).length + r7.length) * 8) zbr)
  ((zao (decide (a1.N < 0))).bind fun r11 =>
  cond (Nat.ble (((([0] : List Int) ++ r7).length + ([(w6 (15 - (w6 (2 * r11))))] : List Int).length) * 8) zbr)
  (if 0 ≤ (w6 ((((([0] : List Int) ++ r7) ++ ([(w6 (15 - (w6 (2 * r11))))] : List Int)).length : Int).tdiv 2)) then (if (w6 ((((([0] : List Int) ++ r7) ++ ([(w6 (15 - (w6 (2 * r11))))] : List Int)).length : Int).tdiv 2)) ≤ (w6 ((((([0] : List Int) ++ r7) ++ ([(w6 (15 - (w6 (2 * r11))))] : List Int)).length : Int).tdiv 2)) then (cond (Nat.ble ((w6 ((((([0] : List Int) ++ r7) ++ ([(w6 (15 - (w6 (2 * r11))))] : List Int)).length : Int).tdiv 2)).toNat * 1) zbr)
  ((zl (zaf.r3 N) N (((([0] : List Int) ++ r7) ++ ([(w6 (15 - (w6 (2 * r11))))] : List Int)), (List.replicate (w6 ((((([0] : List Int) ++ r7) ++ ([(w6 (15 - (w6 (2 * r11))))] : List Int)).length : Int).tdiv 2)).toNat (0 : Int)), 0)).bind fun y12 =>
  some (zd3 y12.2.1)) none) else none) else none) none) none) ((zao (decide (a1.N < 0))).bind fun r13 =>
  cond (Nat.ble ((r7.length + ([(w6 (15 - (w6 (2 * r13))))] : List Int).length) * 8) zbr)
  (if 0 ≤ (w6 (((r7 ++ ([(w6 (15 - (w6 (2 * r13))))] : List Int)).length : Int).tdiv 2)) then (if (w6 (((r7 ++ ([(w6 (15 - (w6 (2 * r13))))] : List Int)).length : Int).tdiv 2)) ≤ (w6 (((r7 ++ ([(w6 (15 - (w6 (2 * r13))))] : List Int)).length : Int).tdiv 2)) then (cond (Nat.ble ((w6 (((r7 ++ ([(w6 (15 - (w6 (2 * r13))))] : List Int)).length : Int).tdiv 2)).toNat * 1) zbr)
  ((zl (zaf.r3 N) N ((r7 ++ ([(w6 (15 - (w6 (2 * r13))))] : List Int)), (List.replicate (w6 (((r7 ++ ([(w6 (15 - (w6 (2 * r13))))] : List Int)).length : Int).tdiv 2)).toNat (0 : Int)), 0)).bind fun y14 =>
  some (zd3 y14.2.1)) none) else none) else none) none))))
def zaf.k (N : Nat) : Kq := ⟨75, (cvv [Ty.str] [Ty.DataType, Ty.Value] (zaf N)), go [zdd.k, za4.k N, zdq.k N, zha.k, zao.k] {lits := [31, 35, 92]} [(1, .plain { slots := [(2, .ptr 2 0), (3, .ptr 3 0), (6, .own 5000006 T6), (7, .own 5000007 (Ty.int .u8)), (8, .val T6)], boxes := [(2, Ty.DataType, []), (3, Ty.Value, [])] } [(Ty.sl T6), (Ty.sl (Ty.int .u8)), T6, Ty.DataType, Ty.Value] (zl (zaf.r1 N) N)), (3, .plain { slots := [(6, .own 5000006 T6), (9, .own 5000009 (Ty.int .u8)), (10, .val T6)], boxes := [] } [(Ty.sl T6), (Ty.sl (Ty.int .u8)), T6] (zl (zaf.r3 N) N))] Proofs.Tryz.func75 (hL := ⟨⟨_, _, rfl, by kernel_rfl⟩, ⟨_, _, rfl, by kernel_rfl⟩, trivial⟩)⟩
def zph (a0 : Storage) (a1 : Int) (a2 : Int) : Option Bool :=
 (zf a1 0 (a0.Bytes.size : Int)).bind fun r1 => (cond r1 ((zf a2 0 (w6 ((a0.Bytes.size : Int) - a1))).bind fun r2 => some r2)
  (some false)).bind fun g3 => some g3
def zph.k : Kq := ⟨123, (cvv [Ty.bool] [Ty.Storage, T6, T6] zph), go [zf.k] {lits := [10]} [] Proofs.Tryz.func123⟩
def zcc (N : Nat) (a0 : zB) (a1 : zC) (a2 : Int) : Option (Int × Int) :=
 (idx a0.zA a2).bind fun x1 => (zq N a0).bind fun r2 => cond (x1.Kind != 2) ((idx r2.1 a2).bind fun x3 => some (x3, 0)) ((zel N a0 x1.Base).bind fun r4 =>
  (idx r2.1 r4).bind fun x5 => (zfw N a1.Storage x5).bind fun r6 => cond (r6.2 != 0) (some (0, 4)) ((zdd x1.zK).bind fun r7 =>
  (zph a1.Storage (w6 (r6.1.Address.Offset + x1.Offset)) r7).bind fun r8 => cond (!r8) (some (0, 5))
  (some ((w6 (r6.1.Address.Offset + x1.Offset)), 0))))
def zcc.k (N : Nat) : Kq := ⟨76, (cvv [T6, T6] [Ty.zB, Ty.zC, T6] (zcc N)), go [zq.k N, zfw.k N, zdd.k, zel.k N, zph.k] {lits := [57]} [] Proofs.Tryz.func76⟩
def zet (N : Nat) (a0 : zB) (a1 : zC) (a2 : Int) : Option (ByteArray × Int) :=
 (idx a0.zA a2).bind fun x1 => cond (x1.Kind == 4) ((zaf N x1.zK x1.Value).bind fun r2 => some (r2, 0)) ((zcc N a0 a1 a2).bind fun r3 => cond (r3.2 != 0)
  (some ((⟨#[]⟩ : ByteArray), r3.2)) ((zdd x1.zK).bind fun r4 =>
  if 0 ≤ (w6 (r3.1 + r4)) ∧ (w6 (r3.1 + r4)) ≤ (a1.Storage.Bytes.size : Int) then (if 0 ≤ r3.1 ∧ r3.1 ≤ (w6 (r3.1 + r4)) then (some ((a1.Storage.Bytes.extract r3.1.toNat (w6 (r3.1 + r4)).toNat), 0)) else none) else none))
def zet.k (N : Nat) : Kq := ⟨37, (cvv [Ty.str, T6] [Ty.zB, Ty.zC, T6] (zet N)), go [zaf.k N, zcc.k N, zdd.k] {} [] Proofs.Tryz.func37⟩
def zeg.b0 (N : Nat) (s0 : Int) (s1 : Int) (s5 : List Int) (s6 : Int) : Option (Stp (Int × Int × (List Int) × Int)) :=
 cond (decide (s6 < s1)) (cond (Nat.ble ((s5.length + ([s0] : List Int).length) * 1) zbr) (some (.again (s0, s1, (s5 ++ ([s0] : List Int)), (w6 (s6 + 1))))) none)
  (some (.leave (s0, s1, s5, s6)))
def zeg.r0 (N : Nat) (x : Int × Int × (List Int) × Int) := zeg.b0 N x.1 x.2.1 x.2.2.1 x.2.2.2
def zeg (N : Nat) (a0 : Int) (a1 : Int) : Option ByteArray :=
 (zl (zeg.r0 N) N (a0, a1, [], 0)).bind fun y1 => some (zd3 y1.2.2.1)
def zeg.k (N : Nat) : Kq := ⟨91, (cvv [Ty.str] [(Ty.int .u8), T6] (zeg N)), go [] {lits := [14]} [(0, .plain { slots := [(0, .val (Ty.int .u8)), (1, .val T6), (5, .own 5000005 (Ty.int .u8)), (6, .val T6)], boxes := [] } [(Ty.int .u8), T6, (Ty.sl (Ty.int .u8)), T6] (zl (zeg.r0 N) N))] Proofs.Tryz.func91 (hL := ⟨⟨_, _, rfl, by kernel_rfl⟩, trivial⟩)⟩
def zgg (N : Nat) (a0 : ByteArray) (a1 : Int) : Option ByteArray :=
 cond (decide ((a0.size : Int) ≥ a1))
  (if 0 ≤ a1 ∧ a1 ≤ (a0.size : Int) then (if 0 ≤ (0 : Int) ∧ (0 : Int) ≤ a1 then (some (a0.extract (0 : Int).toNat a1.toNat)) else none) else none)
  ((zeg N 32 (w6 (a1 - (a0.size : Int)))).bind fun r1 => if ((a0.size + r1.size : Nat) : Int) > IntKind.i64.max then none else some (a0 ++ r1))
def zgg.k (N : Nat) : Kq := ⟨166, (cvv [Ty.str] [Ty.str, T6] (zgg N)), go [zeg.k N] {} [] Proofs.Tryz.func166⟩
def zqc (a0 : ByteArray) (a1 : Int) (a2 : ByteArray) : Option ByteArray :=
 if 0 ≤ a1 ∧ a1 ≤ (a0.size : Int) then (if 0 ≤ (0 : Int) ∧ (0 : Int) ≤ a1 then (if (((a0.extract (0 : Int).toNat a1.toNat).size + a2.size : Nat) : Int) > IntKind.i64.max then none else if 0 ≤ (w6 (a1 + (a2.size : Int))) ∧ (w6 (a1 + (a2.size : Int))) ≤ (a0.size : Int) then (if ((((a0.extract (0 : Int).toNat a1.toNat) ++ a2).size + (a0.extract (w6 (a1 + (a2.size : Int))).toNat a0.size).size : Nat) : Int) > IntKind.i64.max then none else some (((a0.extract (0 : Int).toNat a1.toNat) ++ a2) ++ (a0.extract (w6 (a1 + (a2.size : Int))).toNat a0.size))) else none) else none) else none
def zqc.k : Kq := ⟨92, (cvv [Ty.str] [Ty.str, T6, Ty.str] zqc), go [] {} [] Proofs.Tryz.func92⟩
def zb1.b0 (N : Nat) (s1 : Int) (s2 : ByteArray) (s8 : Int) (b6 : Storage) (b7 : Storage) : Option (Stp (Int × ByteArray × Int × Storage × Storage)) :=
 cond (decide (s8 < (s2.size : Int)))
  (if 0 ≤ (w6 ((w6 (s1 + s8)).tdiv 16)) then (if (w6 ((w6 (s1 + s8)).tdiv 16)) < (b7.Tags.length : Int) then ((b7.Tags[(w6 ((w6 (s1 + s8)).tdiv 16)).toNat]?).bind fun x1001 =>
  some (.again (s1, s2, (w6 (s8 + 1)), b6, (⟨b7.Bytes, (b7.Tags.set ((w6 ((w6 (s1 + s8)).tdiv 16)).toNat) false)⟩ : Storage)))) else none) else none)
  (some (.leave (s1, s2, s8, b6, b7)))
def zb1.r0 (N : Nat) (x : Int × ByteArray × Int × Storage × Storage) := zb1.b0 N x.1 x.2.1 x.2.2.1 x.2.2.2.1 x.2.2.2.2
def zb1 (N : Nat) (a0 : Storage) (a1 : Int) (a2 : ByteArray) : Option Storage :=
 (zgt a0).bind fun r1 => (zqc a0.Bytes a1 a2).bind fun r2 =>
  (zl (zb1.r0 N) N (a1, a2, 0, (⟨(⟨#[]⟩ : ByteArray), []⟩ : Storage), (⟨r2, r1.Tags⟩ : Storage))).bind fun y3 => some y3.2.2.2.2
def zb1.k (N : Nat) : Kq := ⟨165, (ctv [.val Ty.Storage, .val T6, .val Ty.str] [Ty.Storage] [] [1] [Ty.Storage, T6, Ty.str] (zb1 N)), go [zgt.k, zqc.k] {} [(0, .plain { slots := [(1, .val T6), (2, .val Ty.str), (6, .ptr 6 0), (7, .ptr 7 0), (8, .val T6)], boxes := [(6, Ty.Storage, [1]), (7, Ty.Storage, [1])] } [T6, Ty.str, T6, Ty.Storage, Ty.Storage] (zl (zb1.r0 N) N))] Proofs.Tryz.func165 (hL := ⟨⟨_, _, rfl, by kernel_rfl⟩, trivial⟩)⟩
def zg4 (a0 : Int) (a1 : Int) : Option (Int × Bool) :=
 (cond (a1 == 11) (some true) (some (a1 == 13))).bind fun g1 => cond g1 (some ((w6 (0 - a0)), (decide (a1 ≥ 10)))) (some (a0, (decide (a1 ≥ 10))))
def zg4.k : Kq := ⟨230, (cvv [T6, Ty.bool] [T6, T6] zg4), go [] {} [] Proofs.Tryz.func230⟩
def zbp.b0 (N : Nat) (s0 : ByteArray) (s5 : Int) (s6 : Int) (s7 : Int) (b2 : Value) : Option (Round (Value × Int × Int) (ByteArray × Int × Int × Int × Value)) :=
 cond (decide (s7 < (s0.size : Int))) (cond (s7 == (w6 ((s0.size : Int) - 1))) ((zhl s0 s7).bind fun x1001 =>
  (cond (decide ((w6 ((w6 (x1001.toNat : Int)).tdiv 16)) < 10)) (some true) ((zhl s0 s7).bind fun x1002 =>
  some (decide (((x1002.toNat : Int).tmod 16) > 9)))).bind fun g1003 => cond g1003 (some (.result ((⟨0, (⟨#[]⟩ : ByteArray)⟩ : Value), s7, 21))) ((zhl s0 s7).bind fun x1004 =>
  some (.again (s0, (w6 ((w6 (10 * s5)) + ((w6 (x1004.toNat : Int)).tmod 16))), (w6 ((w6 (x1001.toNat : Int)).tdiv 16)), (w6 (s7 + 1)), b2))))
  ((cond (decide (s6 < 10)) (some true) ((zhl s0 s7).bind fun x1005 => some (decide (((x1005.toNat : Int).tmod 16) > 9)))).bind fun g1006 =>
  cond g1006 (some (.result ((⟨0, (⟨#[]⟩ : ByteArray)⟩ : Value), s7, 21))) ((zhl s0 s7).bind fun x1007 =>
  some (.again (s0, (w6 ((w6 (10 * s5)) + ((w6 (x1007.toNat : Int)).tmod 16))), s6, (w6 (s7 + 1)), b2)))))
  (some (.leave (s0, s5, s6, s7, b2)))
def zbp.r0 (N : Nat) (x : ByteArray × Int × Int × Int × Value) := zbp.b0 N x.1 x.2.1 x.2.2.1 x.2.2.2.1 x.2.2.2.2
def zbp (N : Nat) (a0 : ByteArray) : Option (Value × Int × Int) :=
 (zj (zbp.r0 N) N (a0, 0, 15, 0, (⟨0, (⟨#[]⟩ : ByteArray)⟩ : Value))).bind fun z2 => zb5 z2 (fun z => some z) (fun y1 =>
  (zg4 y1.2.1 y1.2.2.1).bind fun r3 => some ((⟨r3.1, (⟨#[]⟩ : ByteArray)⟩ : Value), 0, 0))
def zbp.k (N : Nat) : Kq := ⟨181, (cvv [Ty.Value, T6, T6] [Ty.str] (zbp N)), go [zg4.k] {} [(0, .rets { slots := [(0, .val Ty.str), (2, .ptr 2 0), (5, .val T6), (6, .val T6), (7, .val T6)], boxes := [(2, Ty.Value, [])] } [Ty.str, T6, T6, T6, Ty.Value] (zj (zbp.r0 N) N))] Proofs.Tryz.func181 (hL := ⟨⟨_, _, rfl, by kernel_rfl⟩, trivial⟩)⟩
def zbn.b0 (N : Nat) (s1 : ByteArray) (s7 : Int) (s8 : Int) (b2 : DataType) (b4 : Value) : Option (Round (Value × Int × Int) (ByteArray × Int × Int × DataType × Value)) :=
 cond (decide (s8 < (w6 (2 * (s1.size : Int))))) ((zhl s1 (w6 (s8.tdiv 2))).bind fun x1001 => cond ((s8.tmod 2) == 1)
  ((zhl s1 (w6 (s8.tdiv 2))).bind fun x1002 => cond (s8 == (w6 ((w6 (2 * (s1.size : Int))) - 1)))
  ((cond (decide (((w6 (x1002.toNat : Int)).tmod 16) < 10)) (some true) ((cond (s8 == 0) (some ((b2.Length.tmod 2) == 0)) (some false)).bind fun g1003 =>
  (cond g1003 (some (((w6 (x1002.toNat : Int)).tmod 16) != 0)) (some false)).bind fun g1004 => some g1004)).bind fun g1005 =>
  cond g1005 (some (.result ((⟨0, (⟨#[]⟩ : ByteArray)⟩ : Value), (w6 (s8.tdiv 2)), 21)))
  (cond (s8 == (w6 ((w6 (2 * (s1.size : Int))) - 1))) ((zg4 s7 ((w6 (x1002.toNat : Int)).tmod 16)).bind fun r1006 =>
  some (.again (s1, r1006.1, (w6 (s8 + 1)), b2, b4)))
  (some (.again (s1, (w6 ((w6 (10 * s7)) + ((w6 (x1002.toNat : Int)).tmod 16))), (w6 (s8 + 1)), b2, b4)))))
  ((cond (decide (((w6 (x1002.toNat : Int)).tmod 16) > 9)) (some true) ((cond (s8 == 0) (some ((b2.Length.tmod 2) == 0)) (some false)).bind fun g1007 =>
  (cond g1007 (some (((w6 (x1002.toNat : Int)).tmod 16) != 0)) (some false)).bind fun g1008 => some g1008)).bind fun g1009 =>
  cond g1009 (some (.result ((⟨0, (⟨#[]⟩ : ByteArray)⟩ : Value), (w6 (s8.tdiv 2)), 21)))
  (cond (s8 == (w6 ((w6 (2 * (s1.size : Int))) - 1))) ((zg4 s7 ((w6 (x1002.toNat : Int)).tmod 16)).bind fun r1010 =>
  some (.again (s1, r1010.1, (w6 (s8 + 1)), b2, b4)))
  (some (.again (s1, (w6 ((w6 (10 * s7)) + ((w6 (x1002.toNat : Int)).tmod 16))), (w6 (s8 + 1)), b2, b4))))))
  (cond (s8 == (w6 ((w6 (2 * (s1.size : Int))) - 1))) ((cond (decide ((w6 ((w6 (x1001.toNat : Int)).tdiv 16)) < 10))
  (some true) ((cond (s8 == 0) (some ((b2.Length.tmod 2) == 0)) (some false)).bind fun g1011 =>
  (cond g1011 (some ((w6 ((w6 (x1001.toNat : Int)).tdiv 16)) != 0)) (some false)).bind fun g1012 => some g1012)).bind fun g1013 =>
  cond g1013 (some (.result ((⟨0, (⟨#[]⟩ : ByteArray)⟩ : Value), (w6 (s8.tdiv 2)), 21)))
  (cond (s8 == (w6 ((w6 (2 * (s1.size : Int))) - 1)))
  ((zg4 s7 (w6 ((w6 (x1001.toNat : Int)).tdiv 16))).bind fun r1014 => some (.again (s1, r1014.1, (w6 (s8 + 1)), b2, b4)))
  (some (.again (s1, (w6 ((w6 (10 * s7)) + (w6 ((w6 (x1001.toNat : Int)).tdiv 16)))), (w6 (s8 + 1)), b2, b4)))))
  ((cond (decide ((w6 ((w6 (x1001.toNat : Int)).tdiv 16)) > 9)) (some true) ((cond (s8 == 0) (some ((b2.Length.tmod 2) == 0))
  (some false)).bind fun g1015 => (cond g1015 (some ((w6 ((w6 (x1001.toNat : Int)).tdiv 16)) != 0)) (some false)).bind fun g1016 =>
  some g1016)).bind fun g1017 => cond g1017 (some (.result ((⟨0, (⟨#[]⟩ : ByteArray)⟩ : Value), (w6 (s8.tdiv 2)), 21)))
  (cond (s8 == (w6 ((w6 (2 * (s1.size : Int))) - 1)))
  ((zg4 s7 (w6 ((w6 (x1001.toNat : Int)).tdiv 16))).bind fun r1018 => some (.again (s1, r1018.1, (w6 (s8 + 1)), b2, b4)))
  (some (.again (s1, (w6 ((w6 (10 * s7)) + (w6 ((w6 (x1001.toNat : Int)).tdiv 16)))), (w6 (s8 + 1)), b2, b4)))))))
  (some (.leave (s1, s7, s8, b2, b4)))
def zbn.r0 (N : Nat) (x : ByteArray × Int × Int × DataType × Value) := zbn.b0 N x.1 x.2.1 x.2.2.1 x.2.2.2.1 x.2.2.2.2
def zbn (N : Nat) (a0 : DataType) (a1 : ByteArray) : Option (Value × Int × Int) :=
 (zj (zbn.r0 N) N (a1, 0, 0, a0, (⟨0, (⟨#[]⟩ : ByteArray)⟩ : Value))).bind fun z2 => zb5 z2 (fun z => some z) (fun y1 =>
  some ((⟨y1.2.1, (⟨#[]⟩ : ByteArray)⟩ : Value), 0, 0))
def zbn.k (N : Nat) : Kq := ⟨182, (cvv [Ty.Value, T6, T6] [Ty.DataType, Ty.str] (zbn N)), go [zg4.k] {} [(0, .rets { slots := [(1, .val Ty.str), (2, .ptr 2 0), (4, .ptr 4 0), (7, .val T6), (8, .val T6)], boxes := [(2, Ty.DataType, []), (4, Ty.Value, [])] } [Ty.str, T6, T6, Ty.DataType, Ty.Value] (zj (zbn.r0 N) N))] Proofs.Tryz.func182 (hL := ⟨⟨_, _, rfl, by kernel_rfl⟩, trivial⟩)⟩
def zob (N : Nat) (a0 : DataType) (a1 : ByteArray) : Option (Value × Int × Int) :=
 (zfc a0).bind fun r1 => cond (r1 != 0) (some ((⟨0, (⟨#[]⟩ : ByteArray)⟩ : Value), 0, r1)) (cond (a0.Kind == 4) (some ((⟨0, (⟨#[]⟩ : ByteArray)⟩ : Value), 0, 17))
  ((zdd a0).bind fun r2 => cond ((a1.size : Int) != r2) (some ((⟨0, (⟨#[]⟩ : ByteArray)⟩ : Value), 0, 18)) (cond (a0.Kind == 0) (some ((⟨0, a1⟩ : Value), 0, 0))
  (cond (a0.Kind == 3) ((zdv N a1 0 (a1.size : Int)).bind fun r3 => (zhl a1 0).bind fun x4 => cond (decide ((x4.toNat : Int) ≥ 128))
  (if (w6 (8 * (a1.size : Int))) < 0 then none else (zis N a0).bind fun r5 => (zis N a0).bind fun r6 =>
  (zf (w6 (r3 - (w6 (1 * 2 ^ (min (w6 (8 * (a1.size : Int))).toNat 64))))) (w6 (0 - r5)) r6).bind fun r7 =>
  cond (!r7) (some ((⟨0, (⟨#[]⟩ : ByteArray)⟩ : Value), 0, 19))
  (some ((⟨(w6 (r3 - (w6 (1 * 2 ^ (min (w6 (8 * (a1.size : Int))).toNat 64))))), (⟨#[]⟩ : ByteArray)⟩ : Value), 0, 0)))
  ((zis N a0).bind fun r8 => (zis N a0).bind fun r9 => (zf r3 (w6 (0 - r8)) r9).bind fun r10 => cond (!r10)
  (some ((⟨0, (⟨#[]⟩ : ByteArray)⟩ : Value), 0, 19)) (some ((⟨r3, (⟨#[]⟩ : ByteArray)⟩ : Value), 0, 0)))) (cond (a0.Kind == 2) ((zbp N a1).bind fun r11 =>
  some (r11.1, r11.2.1, r11.2.2)) ((zbn N a0 a1).bind fun r12 => some (r12.1, r12.2.1, r12.2.2)))))))
def zob.k (N : Nat) : Kq := ⟨125, (cvv [Ty.Value, T6, T6] [Ty.DataType, Ty.str] (zob N)), go [zf.k, zdd.k, zfc.k, zdv.k N, zis.k N, zbp.k N, zbn.k N] {lits := [35, 51]} [] Proofs.Tryz.func125⟩
def zb9 (N : Nat) (a0 : zB) (a1 : zC) (a2 : Int) : Option (Number × Int) :=
 (zet N a0 a1 a2).bind fun r1 => cond (r1.2 != 0) (some ((⟨0, 0⟩ : Number), r1.2)) ((idx a0.zA a2).bind fun x2 => (zob N x2.zK r1.1).bind fun r3 =>
  cond (r3.2.2 != 0) (some ((⟨0, 0⟩ : Number), 1)) (some ((⟨r3.1.N, x2.zK.Scale⟩ : Number), 0)))
def zb9.k (N : Nat) : Kq := ⟨79, (cvv [Ty.Number, T6] [Ty.zB, Ty.zC, T6] (zb9 N)), go [zet.k N, zob.k N] {} [] Proofs.Tryz.func79⟩
def zgp (a0 : Number) : Option Int :=
 (zf a0.N (-999999999999999) 999999999999999).bind fun r1 => (cond r1 ((zf a0.Scale 0 15).bind fun r2 => some r2) (some false)).bind fun g3 =>
  (zao (!g3)).bind fun r4 => some (w6 (3 * r4))
def zgp.k : Kq := ⟨220, (cvv [T6] [Ty.Number] zgp), go [zf.k, zao.k] {} [] Proofs.Tryz.func220⟩
def zg8 (a0 : DataType) : Option Int :=
 (zfc a0).bind fun r1 => cond (r1 != 0) (some r1) ((zcu a0.Kind).bind fun r2 => (zao (!r2)).bind fun r3 => some (w6 (17 * r3)))
def zg8.k : Kq := ⟨221, (cvv [T6] [Ty.DataType] zg8), go [zao.k, zcu.k, zfc.k] {} [] Proofs.Tryz.func221⟩
def zco.b0 (N : Nat) (s0 : List Int) : Option (Stp (List Int)) :=
 (cond (decide ((s0.length : Int) > 0)) ((idx s0 (w6 ((s0.length : Int) - 1))).bind fun x1001 => some (x1001 == 0)) (some false)).bind fun g1002 =>
  cond g1002 (if 0 ≤ (w6 ((s0.length : Int) - 1)) ∧ (w6 ((s0.length : Int) - 1)) ≤ (s0.length : Int) then (if 0 ≤ (0 : Int) ∧ (0 : Int) ≤ (w6 ((s0.length : Int) - 1)) then (some (.again ((s0.take (w6 ((s0.length : Int) - 1)).toNat).drop (0 : Int).toNat))) else none) else none)
  (some (.leave s0))
def zco.r0 (N : Nat) (x : (List Int)) := zco.b0 N x
def zco (N : Nat) (a0 : List Int) : Option ((List Int)) :=
 (zl (zco.r0 N) N a0).bind fun y1 => some y1
def zco.k (N : Nat) : Kq := ⟨269, (cvv [(Ty.sl T6)] [(Ty.sl T6)] (zco N)), go [] {} [(0, .plain { slots := [(0, .val (Ty.sl T6))], boxes := [] } [(Ty.sl T6)] (zl (zco.r0 N) N))] Proofs.Tryz.func269 (hL := ⟨⟨_, _, rfl, by kernel_rfl⟩, trivial⟩)⟩
def zc9.b0 (N : Nat) (s0 : Int) (s5 : List Int) (s6 : Int) (b4 : zJ) : Option (Stp (Int × (List Int) × Int × zJ)) :=
 cond (decide (s6 > 0)) (cond (Nat.ble ((s5.length + ([(s6.tmod 10)] : List Int).length) * 8) zbr)
  (some (.again (s0, (s5 ++ ([(s6.tmod 10)] : List Int)), (w6 (s6.tdiv 10)), b4))) none) (some (.leave (s0, s5, s6, b4)))
def zc9.r0 (N : Nat) (x : Int × (List Int) × Int × zJ) := zc9.b0 N x.1 x.2.1 x.2.2.1 x.2.2.2
def zc9 (N : Nat) (a0 : Int) (a1 : Int) : Option zJ :=
 if 0 ≤ a1 then (if a1 ≤ a1 then (cond (Nat.ble (a1.toNat * 8) zbr) ((zha a0).bind fun r1 =>
  (zl (zc9.r0 N) N (a0, (List.replicate a1.toNat (0 : Int)), r1, (⟨false, []⟩ : zJ))).bind fun y2 => (zco N y2.2.1).bind fun r3 =>
  some (⟨(decide (y2.1 < 0)), r3⟩ : zJ)) none) else none) else none
def zc9.k (N : Nat) : Kq := ⟨253, (cvv [Ty.zJ] [T6, T6] (zc9 N)), go [zha.k, zco.k N] {lits := [18]} [(0, .plain { slots := [(0, .val T6), (4, .ptr 4 0), (5, .own 5000005 T6), (6, .val T6)], boxes := [(4, Ty.zJ, [1])] } [T6, (Ty.sl T6), T6, Ty.zJ] (zl (zc9.r0 N) N))] Proofs.Tryz.func253 (hL := ⟨⟨_, _, rfl, by kernel_rfl⟩, trivial⟩)⟩
def zio (a0 : Int) : Option ((List Int)) :=
 if 0 ≤ a0 then (if a0 ≤ a0 then (cond (Nat.ble (a0.toNat * 8) zbr) (cond (Nat.ble (((List.replicate a0.toNat (0 : Int)).length + ([1] : List Int).length) * 8) zbr)
  (some ((List.replicate a0.toNat (0 : Int)) ++ ([1] : List Int))) none) none) else none) else none
def zio.k : Kq := ⟨248, (cvv [(Ty.sl T6)] [T6] zio), go [] {lits := [5]} [] Proofs.Tryz.func248⟩
def zl5 (N : Nat) (a0 : Number) : Option zP :=
 (zc9 N a0.N 0).bind fun r1 => (zio a0.Scale).bind fun r2 => some (⟨r1, r2⟩ : zP)
def zl5.k (N : Nat) : Kq := ⟨226, (cvv [Ty.zP] [Ty.Number] (zl5 N)), go [zio.k, zc9.k N] {} [] Proofs.Tryz.func226⟩
def zdj.b0 (N : Nat) (s0 : List Int) (s1 : List Int) (s5 : Int) : Option (Round Int ((List Int) × (List Int) × Int)) :=
 cond (decide (s5 ≥ 0)) ((idx s0 s5).bind fun x1001 => (idx s1 s5).bind fun x1002 => cond (x1001 != x1002) ((idx s0 s5).bind fun x1003 => (idx s1 s5).bind fun x1004 =>
  (zao (decide (x1003 > x1004))).bind fun r1005 => some (.result (w6 ((w6 (2 * r1005)) - 1))))
  (some (.again (s0, s1, (w6 (s5 - 1)))))) (some (.leave (s0, s1, s5)))
def zdj.r0 (N : Nat) (x : (List Int) × (List Int) × Int) := zdj.b0 N x.1 x.2.1 x.2.2
def zdj (N : Nat) (a0 : List Int) (a1 : List Int) : Option Int :=
 cond ((a0.length : Int) != (a1.length : Int)) ((zao (decide ((a0.length : Int) > (a1.length : Int)))).bind fun r1 =>
  some (w6 ((w6 (2 * r1)) - 1))) ((zj (zdj.r0 N) N (a0, a1, (w6 ((a0.length : Int) - 1)))).bind fun z3 => zb5 z3 (fun z =>
  some z) (fun y2 => some 0))
def zdj.k (N : Nat) : Kq := ⟨255, (cvv [T6] [(Ty.sl T6), (Ty.sl T6)] (zdj N)), go [zao.k] {} [(0, .rets { slots := [(0, .val (Ty.sl T6)), (1, .val (Ty.sl T6)), (5, .val T6)], boxes := [] } [(Ty.sl T6), (Ty.sl T6), T6] (zj (zdj.r0 N) N))] Proofs.Tryz.func255 (hL := ⟨⟨_, _, rfl, by kernel_rfl⟩, trivial⟩)⟩
def zdx.b0 (N : Nat) (s0 : List Int) (s1 : List Int) (s5 : List Int) (s6 : Int) (s7 : Int) : Option (Stp ((List Int) × (List Int) × (List Int) × Int × Int)) :=
 cond (decide (s7 < (s0.length : Int))) ((idx s0 s7).bind fun x1001 => cond (decide (s7 < (s1.length : Int))) ((idx s1 s7).bind fun x1002 =>
  (zao (decide ((w6 ((w6 (x1001 - s6)) - x1002)) < 0))).bind fun r1003 =>
  cond (Nat.ble ((s5.length + ([(w6 ((w6 ((w6 (x1001 - s6)) - x1002)) + (w6 (10 * r1003))))] : List Int).length) * 8) zbr)
  (some (.again (s0, s1, (s5 ++ ([(w6 ((w6 ((w6 (x1001 - s6)) - x1002)) + (w6 (10 * r1003))))] : List Int)), r1003, (w6 (s7 + 1))))) none)
  ((zao (decide ((w6 (x1001 - s6)) < 0))).bind fun r1004 =>
  cond (Nat.ble ((s5.length + ([(w6 ((w6 (x1001 - s6)) + (w6 (10 * r1004))))] : List Int).length) * 8) zbr)
  (some (.again (s0, s1, (s5 ++ ([(w6 ((w6 (x1001 - s6)) + (w6 (10 * r1004))))] : List Int)), r1004, (w6 (s7 + 1))))) none))
  (some (.leave (s0, s1, s5, s6, s7)))
def zdx.r0 (N : Nat) (x : (List Int) × (List Int) × (List Int) × Int × Int) := zdx.b0 N x.1 x.2.1 x.2.2.1 x.2.2.2.1 x.2.2.2.2
def zdx (N : Nat) (a0 : List Int) (a1 : List Int) : Option ((List Int)) :=
 (zl (zdx.r0 N) N (a0, a1, [], 0, 0)).bind fun y1 => (zco N y1.2.2.1).bind fun r2 => some r2
def zdx.k (N : Nat) : Kq := ⟨256, (cvv [(Ty.sl T6)] [(Ty.sl T6), (Ty.sl T6)] (zdx N)), go [zao.k, zco.k N] {lits := [39]} [(0, .plain { slots := [(0, .val (Ty.sl T6)), (1, .val (Ty.sl T6)), (5, .own 5000005 T6), (6, .val T6), (7, .val T6)], boxes := [] } [(Ty.sl T6), (Ty.sl T6), (Ty.sl T6), T6, T6] (zl (zdx.r0 N) N))] Proofs.Tryz.func256 (hL := ⟨⟨_, _, rfl, by kernel_rfl⟩, trivial⟩)⟩
def zbf.b2 (N : Nat) (s0 : List Int) (s1 : List Int) (s6 : List Int) (s7 : List Int) (s8 : Int) : Option (Stp ((List Int) × (List Int) × (List Int) × (List Int) × Int)) :=
 (zdj N s7 s1).bind fun r3001 => cond (decide (r3001 ≥ 0)) ((zdx N s7 s1).bind fun r3002 =>
  if 0 ≤ s8 then (if s8 < (s6.length : Int) then ((s6[s8.toNat]?).bind fun x3003 => if 0 ≤ s8 then (if s8 < (s6.length : Int) then ((s6[s8.toNat]?).bind fun x3004 =>
  some (.again (s0, s1, (s6.set s8.toNat (w6 (x3003 + 1))), r3002, s8))) else none) else none) else none) else none) (some (.leave (s0, s1, s6, s7, s8)))
def zbf.r2 (N : Nat) (x : (List Int) × (List Int) × (List Int) × (List Int) × Int) := zbf.b2 N x.1 x.2.1 x.2.2.1 x.2.2.2.1 x.2.2.2.2
def zbf.b0 (N : Nat) (s0 : List Int) (s1 : List Int) (s6 : List Int) (s7 : List Int) (s8 : Int) : Option (Stp ((List Int) × (List Int) × (List Int) × (List Int) × Int)) :=
 cond (decide (s8 ≥ 0)) ((idx s0 s8).bind fun x1001 => cond (Nat.ble ((([x1001] : List Int).length + s7.length) * 8) zbr)
  ((zco N (([x1001] : List Int) ++ s7)).bind fun r1002 => (zl (zbf.r2 N) N (s0, s1, s6, r1002, s8)).bind fun y1003 =>
  some (.again (y1003.1, y1003.2.1, y1003.2.2.1, y1003.2.2.2.1, (w6 (y1003.2.2.2.2 - 1))))) none) (some (.leave (s0, s1, s6, s7, s8)))
def zbf.r0 (N : Nat) (x : (List Int) × (List Int) × (List Int) × (List Int) × Int) := zbf.b0 N x.1 x.2.1 x.2.2.1 x.2.2.2.1 x.2.2.2.2
def zbf (N : Nat) (a0 : List Int) (a1 : List Int) : Option ((List Int) × (List Int)) :=
 if 0 ≤ (a0.length : Int) then (if (a0.length : Int) ≤ (a0.length : Int) then (cond (Nat.ble ((a0.length : Int).toNat * 8) zbr)
  ((zl (zbf.r0 N) N (a0, a1, (List.replicate (a0.length : Int).toNat (0 : Int)), [], (w6 ((a0.length : Int) - 1)))).bind fun y1 =>
  (zco N y1.2.2.1).bind fun r2 => some (r2, y1.2.2.2.1)) none) else none) else none
def zbf.k (N : Nat) : Kq := ⟨250, (cvv [(Ty.sl T6), (Ty.sl T6)] [(Ty.sl T6), (Ty.sl T6)] (zbf N)), go [zdj.k N, zdx.k N, zco.k N] {lits := [25]} [(2, .plain { slots := [(0, .val (Ty.sl T6)), (1, .val (Ty.sl T6)), (6, .own 5000006 T6), (7, .val (Ty.sl T6)), (8, .val T6)], boxes := [] } [(Ty.sl T6), (Ty.sl T6), (Ty.sl T6), (Ty.sl T6), T6] (zl (zbf.r2 N) N)), (0, .plain { slots := [(0, .val (Ty.sl T6)), (1, .val (Ty.sl T6)), (6, .own 5000006 T6), (7, .val (Ty.sl T6)), (8, .val T6)], boxes := [] } [(Ty.sl T6), (Ty.sl T6), (Ty.sl T6), (Ty.sl T6), T6] (zl (zbf.r0 N) N))] Proofs.Tryz.func250 (hL := ⟨⟨_, _, rfl, by kernel_rfl⟩, ⟨_, _, rfl, by kernel_rfl⟩, trivial⟩)⟩
def zdg.b0 (N : Nat) (s0 : List Int) (s1 : List Int) (s5 : List Int) (s6 : Int) (s7 : Int) : Option (Stp ((List Int) × (List Int) × (List Int) × Int × Int)) :=
 (cond (decide (s7 < (s0.length : Int))) (some true) (some (decide (s7 < (s1.length : Int))))).bind fun g1001 => (cond g1001 (some true) (some (decide (s6 > 0)))).bind fun g1002 =>
  cond g1002 (cond (decide (s7 < (s0.length : Int))) ((idx s0 s7).bind fun x1003 => cond (decide (s7 < (s1.length : Int))) ((idx s1 s7).bind fun x1004 =>
  cond (Nat.ble ((s5.length + ([((w6 ((w6 (s6 + x1003)) + x1004)).tmod 10)] : List Int).length) * 8) zbr)
  (some (.again (s0, s1, (s5 ++ ([((w6 ((w6 (s6 + x1003)) + x1004)).tmod 10)] : List Int)), (w6 ((w6 ((w6 (s6 + x1003)) + x1004)).tdiv 10)), (w6 (s7 + 1))))) none)
  (cond (Nat.ble ((s5.length + ([((w6 (s6 + x1003)).tmod 10)] : List Int).length) * 8) zbr)
  (some (.again (s0, s1, (s5 ++ ([((w6 (s6 + x1003)).tmod 10)] : List Int)), (w6 ((w6 (s6 + x1003)).tdiv 10)), (w6 (s7 + 1))))) none))
  (cond (decide (s7 < (s1.length : Int))) ((idx s1 s7).bind fun x1005 => cond (Nat.ble ((s5.length + ([((w6 (s6 + x1005)).tmod 10)] : List Int).length) * 8) zbr)
  (some (.again (s0, s1, (s5 ++ ([((w6 (s6 + x1005)).tmod 10)] : List Int)), (w6 ((w6 (s6 + x1005)).tdiv 10)), (w6 (s7 + 1))))) none)
  (cond (Nat.ble ((s5.length + ([(s6.tmod 10)] : List Int).length) * 8) zbr)
  (some (.again (s0, s1, (s5 ++ ([(s6.tmod 10)] : List Int)), (w6 (s6.tdiv 10)), (w6 (s7 + 1))))) none))) (some (.leave (s0, s1, s5, s6, s7)))
def zdg.r0 (N : Nat) (x : (List Int) × (List Int) × (List Int) × Int × Int) := zdg.b0 N x.1 x.2.1 x.2.2.1 x.2.2.2.1 x.2.2.2.2
def zdg (N : Nat) (a0 : List Int) (a1 : List Int) : Option ((List Int)) :=
 (zl (zdg.r0 N) N (a0, a1, [], 0, 0)).bind fun y1 => some y1.2.2.1
def zdg.k (N : Nat) : Kq := ⟨254, (cvv [(Ty.sl T6)] [(Ty.sl T6), (Ty.sl T6)] (zdg N)), go [] {lits := [49]} [(0, .plain { slots := [(0, .val (Ty.sl T6)), (1, .val (Ty.sl T6)), (5, .own 5000005 T6), (6, .val T6), (7, .val T6)], boxes := [] } [(Ty.sl T6), (Ty.sl T6), (Ty.sl T6), T6, T6] (zl (zdg.r0 N) N))] Proofs.Tryz.func254 (hL := ⟨⟨_, _, rfl, by kernel_rfl⟩, trivial⟩)⟩
def znp (N : Nat) (a0 : zP) (a1 : Int) (a2 : Bool) : Option zJ :=
 if 0 ≤ a1 then (if a1 ≤ a1 then (cond (Nat.ble (a1.toNat * 8) zbr) (cond (Nat.ble (((List.replicate a1.toNat (0 : Int)).length + a0.Top.zQ.length) * 8) zbr)
  ((zco N ((List.replicate a1.toNat (0 : Int)) ++ a0.Top.zQ)).bind fun r1 => (zbf N r1 a0.zW).bind fun r2 =>
  (cond a2 ((zdg N r2.2 r2.2).bind fun r3 => (zdj N r3 a0.zW).bind fun r4 => some (decide (r4 ≥ 0))) (some false)).bind fun g5 =>
  cond g5 ((zdg N r2.1 ([1] : List Int)).bind fun r6 => (cond a0.Top.Below (some (decide ((r6.length : Int) > 0))) (some false)).bind fun g7 => some (⟨g7, r6⟩ : zJ))
  ((cond a0.Top.Below (some (decide ((r2.1.length : Int) > 0))) (some false)).bind fun g8 => some (⟨g8, r2.1⟩ : zJ))) none) none) else none) else none
def znp.k (N : Nat) : Kq := ⟨251, (cvv [Ty.zJ] [Ty.zP, T6, Ty.bool] (znp N)), go [zbf.k N, zdg.k N, zdj.k N, zco.k N] {pre := [(2, [7])], lits := [18, 28, 35]} [] Proofs.Tryz.func251⟩
def zdz.b0 (N : Nat) (s3 : Int) (s4 : Int) (b1 : zJ) : Option (Stp (Int × Int × zJ)) :=
 cond (decide (s4 ≥ 0)) ((idx b1.zQ s4).bind fun x1001 => some (.again ((w6 ((w6 (10 * s3)) + x1001)), (w6 (s4 - 1)), b1)))
  (some (.leave (s3, s4, b1)))
def zdz.r0 (N : Nat) (x : Int × Int × zJ) := zdz.b0 N x.1 x.2.1 x.2.2
def zdz (N : Nat) (a0 : zJ) : Option Int :=
 (zl (zdz.r0 N) N (0, (w6 ((a0.zQ.length : Int) - 1)), a0)).bind fun y1 => cond y1.2.2.Below (some (w6 (0 - y1.1))) (some y1.1)
def zdz.k (N : Nat) : Kq := ⟨252, (cvv [T6] [Ty.zJ] (zdz N)), go [] {} [(0, .plain { slots := [(1, .ptr 1 0), (3, .val T6), (4, .val T6)], boxes := [(1, Ty.zJ, [])] } [T6, T6, Ty.zJ] (zl (zdz.r0 N) N))] Proofs.Tryz.func252 (hL := ⟨⟨_, _, rfl, by kernel_rfl⟩, trivial⟩)⟩
def zlk (N : Nat) (a0 : zP) (a1 : DataType) (a2 : Bool) : Option (Int × Int) :=
 (znp N a0 a1.Scale a2).bind fun r1 => cond (decide ((r1.zQ.length : Int) > a1.Length)) (some (0, 19)) ((zdz N r1).bind fun r2 => some (r2, 0))
def zlk.k (N : Nat) : Kq := ⟨223, (cvv [T6, T6] [Ty.zP, Ty.DataType, Ty.bool] (zlk N)), go [znp.k N, zdz.k N] {} [] Proofs.Tryz.func223⟩
def zkx (N : Nat) (a0 : Number) (a1 : DataType) (a2 : Bool) : Option (Value × Int) :=
 (zgp a0).bind fun r1 => cond (r1 != 0) (some ((⟨0, (⟨#[]⟩ : ByteArray)⟩ : Value), r1)) ((zg8 a1).bind fun r2 => cond (r2 != 0)
  (some ((⟨0, (⟨#[]⟩ : ByteArray)⟩ : Value), r2)) ((zl5 N a0).bind fun r3 => (zlk N r3 a1 a2).bind fun r4 => some ((⟨r4.1, (⟨#[]⟩ : ByteArray)⟩ : Value), r4.2)))
def zkx.k (N : Nat) : Kq := ⟨171, (cvv [Ty.Value, T6] [Ty.Number, Ty.DataType, Ty.bool] (zkx N)), go [zgp.k, zg8.k, zlk.k N, zl5.k N] {lits := [26]} [] Proofs.Tryz.func171⟩
def zlg (N : Nat) (a0 : zB) (a1 : zC) (a2 : Int) (a3 : Number) (a4 : Bool) : Option (Int × zC) :=
 (idx a0.zA a2).bind fun x1 => (zkx N a3 x1.zK a4).bind fun r2 => cond (r2.2 != 0) (some (2, a1)) ((zcc N a0 a1 a2).bind fun r3 => cond (r3.2 != 0)
  (some (r3.2, a1)) ((zaf N x1.zK r2.1).bind fun r4 => (zb1 N a1.Storage r3.1 r4).bind fun r5 =>
  some (0, (⟨r5, a1.At, a1.Stack, a1.Lines, a1.Status, a1.Exception, a1.Steps⟩ : zC))))
def zlg.k (N : Nat) : Kq := ⟨112, (ctv [.val Ty.zB, .ptr Ty.zC true [3, 4], .val T6, .val Ty.Number, .val Ty.bool] [T6] [Ty.zC] [] [Ty.zB, Ty.zC, T6, Ty.Number, Ty.bool] (zlg N)), go [zaf.k N, zcc.k N, zb1.k N, zkx.k N] {lits := [51], pk := [1000000]} [] Proofs.Tryz.func112⟩
def zj1 (N : Nat) (a0 : Number) (a1 : Number) : Option (zJ × zJ × Int) :=
 (zc9 N a0.N (w6 ((if a1.Scale > a0.Scale then a1.Scale else a0.Scale) - a0.Scale))).bind fun r1 =>
  (zc9 N a1.N (w6 ((if a1.Scale > a0.Scale then a1.Scale else a0.Scale) - a1.Scale))).bind fun r2 =>
  some (r1, r2, (if a1.Scale > a0.Scale then a1.Scale else a0.Scale))
def zj1.k (N : Nat) : Kq := ⟨224, (cvv [Ty.zJ, Ty.zJ, T6] [Ty.Number, Ty.Number] (zj1 N)), go [zc9.k N] {} [] Proofs.Tryz.func224⟩
def zm4 (N : Nat) (a0 : zJ) (a1 : zJ) : Option zJ :=
 cond (a0.Below == a1.Below) ((zdg N a0.zQ a1.zQ).bind fun r1 => some (⟨a0.Below, r1⟩ : zJ)) ((zdj N a0.zQ a1.zQ).bind fun r2 =>
  cond (decide (r2 < 0)) ((zdx N a1.zQ a0.zQ).bind fun r3 => (cond a1.Below (some (decide ((r3.length : Int) > 0))) (some false)).bind fun g4 =>
  some (⟨g4, r3⟩ : zJ)) ((zdx N a0.zQ a1.zQ).bind fun r5 => (cond a0.Below (some (decide ((r5.length : Int) > 0))) (some false)).bind fun g6 =>
  some (⟨g6, r5⟩ : zJ)))
def zm4.k (N : Nat) : Kq := ⟨225, (cvv [Ty.zJ] [Ty.zJ, Ty.zJ] (zm4 N)), go [zdg.k N, zdj.k N, zdx.k N] {} [] Proofs.Tryz.func225⟩
def zbl.b2 (N : Nat) (s5 : List Int) (s6 : Int) (s7 : List Int) (s8 : Int) (s9 : Int) (b2 : zJ) (b3 : zJ) (b4 : zJ) : Option (Stp ((List Int) × Int × (List Int) × Int × Int × zJ × zJ × zJ)) :=
 (cond (decide (s9 < (b2.zQ.length : Int))) (some true) (some (decide (s8 > 0)))).bind fun g3001 => cond g3001 (cond (decide (s9 < (b2.zQ.length : Int)))
  ((idx b2.zQ s9).bind fun x3002 => (idx b3.zQ s6).bind fun x3003 =>
  cond (Nat.ble ((s7.length + ([((w6 (s8 + (w6 (x3002 * x3003)))).tmod 10)] : List Int).length) * 8) zbr)
  (some (.again (s5, s6, (s7 ++ ([((w6 (s8 + (w6 (x3002 * x3003)))).tmod 10)] : List Int)), (w6 ((w6 (s8 + (w6 (x3002 * x3003)))).tdiv 10)), (w6 (s9 + 1)), b2, b3, b4))) none)
  (cond (Nat.ble ((s7.length + ([(s8.tmod 10)] : List Int).length) * 8) zbr)
  (some (.again (s5, s6, (s7 ++ ([(s8.tmod 10)] : List Int)), (w6 (s8.tdiv 10)), (w6 (s9 + 1)), b2, b3, b4))) none))
  (some (.leave (s5, s6, s7, s8, s9, b2, b3, b4)))
def zbl.r2 (N : Nat) (x : (List Int) × Int × (List Int) × Int × Int × zJ × zJ × zJ) := zbl.b2 N x.1 x.2.1 x.2.2.1 x.2.2.2.1 x.2.2.2.2.1 x.2.2.2.2.2.1 x.2.2.2.2.2.2.1 x.2.2.2.2.2.2.2
def zbl.b0 (N : Nat) (s5 : List Int) (s6 : Int) (b2 : zJ) (b3 : zJ) (b4 : zJ) : Option (Stp ((List Int) × Int × zJ × zJ × zJ)) :=
 cond (decide (s6 < (b3.zQ.length : Int))) (if 0 ≤ s6 then (if s6 ≤ s6 then (cond (Nat.ble (s6.toNat * 8) zbr)
  ((zl (zbl.r2 N) N (s5, s6, (List.replicate s6.toNat (0 : Int)), 0, 0, b2, b3, b4)).bind fun y1001 => (zdg N y1001.1 y1001.2.2.1).bind fun r1002 =>
  some (.again (r1002, (w6 (y1001.2.1 + 1)), y1001.2.2.2.2.2.1, y1001.2.2.2.2.2.2.1, y1001.2.2.2.2.2.2.2))) none) else none) else none)
  (some (.leave (s5, s6, b2, b3, b4)))
def zbl.r0 (N : Nat) (x : (List Int) × Int × zJ × zJ × zJ) := zbl.b0 N x.1 x.2.1 x.2.2.1 x.2.2.2.1 x.2.2.2.2
def zbl (N : Nat) (a0 : zJ) (a1 : zJ) : Option zJ :=
 (zl (zbl.r0 N) N ([], 0, a0, a1, (⟨false, []⟩ : zJ))).bind fun y1 => (zco N y1.1).bind fun r2 => (cond (!(y1.2.2.1.Below == y1.2.2.2.1.Below))
  (some (decide ((r2.length : Int) > 0))) (some false)).bind fun g3 => some (⟨g3, r2⟩ : zJ)
def zbl.k (N : Nat) : Kq := ⟨249, (cvv [Ty.zJ] [Ty.zJ, Ty.zJ] (zbl N)), go [zdg.k N, zco.k N] {lits := [53]} [(2, .plain { slots := [(2, .ptr 2 0), (3, .ptr 3 0), (4, .ptr 4 0), (5, .val (Ty.sl T6)), (6, .val T6), (7, .own 5000007 T6), (8, .val T6), (9, .val T6)], boxes := [(2, Ty.zJ, []), (3, Ty.zJ, []), (4, Ty.zJ, [1])] } [(Ty.sl T6), T6, (Ty.sl T6), T6, T6, Ty.zJ, Ty.zJ, Ty.zJ] (zl (zbl.r2 N) N)), (0, .plain { slots := [(2, .ptr 2 0), (3, .ptr 3 0), (4, .ptr 4 0), (5, .val (Ty.sl T6)), (6, .val T6)], boxes := [(2, Ty.zJ, []), (3, Ty.zJ, []), (4, Ty.zJ, [1])] } [(Ty.sl T6), T6, Ty.zJ, Ty.zJ, Ty.zJ] (zl (zbl.r0 N) N))] Proofs.Tryz.func249 (hL := ⟨⟨_, _, rfl, by kernel_rfl⟩, ⟨_, _, rfl, by kernel_rfl⟩, trivial⟩)⟩
def zpu (N : Nat) (a0 : Int) (a1 : Number) (a2 : Number) : Option (zP × Int) :=
 (zj1 N a1 a2).bind fun r1 => (cond (a0 == 3) (some true) (some (a0 == 4))).bind fun g2 => (cond g2 (some ((r1.2.1.zQ.length : Int) == 0))
  (some false)).bind fun g3 => cond g3 (some ((⟨(⟨false, []⟩ : zJ), []⟩ : zP), 20)) (cond (a0 == 1) ((cond (!r1.2.1.Below)
  (some (decide ((r1.2.1.zQ.length : Int) > 0))) (some false)).bind fun g4 => (zm4 N r1.1 (⟨g4, r1.2.1.zQ⟩ : zJ)).bind fun r5 =>
  (zio r1.2.2).bind fun r6 => some ((⟨r5, r6⟩ : zP), 0)) (cond (a0 == 2) ((zbl N r1.1 r1.2.1).bind fun r7 =>
  (zio (w6 (2 * r1.2.2))).bind fun r8 => some ((⟨r7, r8⟩ : zP), 0)) (cond (a0 == 3)
  (some ((⟨(⟨(!(r1.1.Below == r1.2.1.Below)), r1.1.zQ⟩ : zJ), r1.2.1.zQ⟩ : zP), 0)) (cond (a0 == 4)
  ((zbf N r1.1.zQ r1.2.1.zQ).bind fun r9 => (zio r1.2.2).bind fun r10 => some ((⟨(⟨r1.1.Below, r9.2⟩ : zJ), r10⟩ : zP), 0))
  ((zm4 N r1.1 r1.2.1).bind fun r11 => (zio r1.2.2).bind fun r12 => some ((⟨r11, r12⟩ : zP), 0))))))
def zpu.k (N : Nat) : Kq := ⟨222, (cvv [Ty.zP, T6] [T6, Ty.Number, Ty.Number] (zpu N)), go [zj1.k N, zm4.k N, zio.k, zbl.k N, zbf.k N] {} [] Proofs.Tryz.func222⟩
def zg9 (N : Nat) (a0 : zS) (a1 : Number) (a2 : Number) : Option (Value × Int) :=
 (zf a0.Op 0 4).bind fun r1 => cond (!r1) (some ((⟨0, (⟨#[]⟩ : ByteArray)⟩ : Value), 4)) ((zgp a1).bind fun r2 => cond (r2 != 0)
  (some ((⟨0, (⟨#[]⟩ : ByteArray)⟩ : Value), r2)) ((zgp a2).bind fun r3 => cond (r3 != 0) (some ((⟨0, (⟨#[]⟩ : ByteArray)⟩ : Value), r3))
  ((zg8 a0.zK).bind fun r4 => cond (r4 != 0) (some ((⟨0, (⟨#[]⟩ : ByteArray)⟩ : Value), r4)) ((zpu N a0.Op a1 a2).bind fun r5 => cond (r5.2 != 0)
  (some ((⟨0, (⟨#[]⟩ : ByteArray)⟩ : Value), r5.2)) ((zlk N r5.1 a0.zK a0.Half).bind fun r6 => some ((⟨r6.1, (⟨#[]⟩ : ByteArray)⟩ : Value), r6.2))))))
def zg9.k (N : Nat) : Kq := ⟨167, (cvv [Ty.Value, T6] [Ty.zS, Ty.Number, Ty.Number] (zg9 N)), go [zf.k, zgp.k, zg8.k, zpu.k N, zlk.k N] {} [] Proofs.Tryz.func167⟩
def ziz (N : Nat) (a0 : zB) (a1 : zC) (a2 : zI) : Option (Int × zC) :=
 (idx a2.Args 0).bind fun x1 => (cond (a2.Op == 0) ((zfi a0 x1).bind fun r2 => some (!r2)) (some false)).bind fun g3 => cond g3 ((idx a2.Args 1).bind fun x4 =>
  (zet N a0 a1 x4).bind fun r5 => cond (r5.2 != 0) (some (r5.2, a1)) ((zcc N a0 a1 x1).bind fun r6 => cond (r6.2 != 0) (some (r6.2, a1))
  ((idx a0.zA x1).bind fun x7 => (zgg N r5.1 x7.zK.Length).bind fun r8 => (zb1 N a1.Storage r6.1 r8).bind fun r9 =>
  some (0, (⟨r9, a1.At, a1.Stack, a1.Lines, a1.Status, a1.Exception, a1.Steps⟩ : zC))))) ((idx a2.Args 1).bind fun x10 => (zb9 N a0 a1 x10).bind fun r11 =>
  cond (r11.2 != 0) (some (r11.2, a1)) ((cond (a2.Op == 0) (some true) (some (a2.Op == 1))).bind fun g12 => cond g12 ((zlg N a0 a1 x1 r11.1 (a2.Op == 1)).bind fun r13 =>
  some (r13.1, r13.2)) ((idx a2.Args 2).bind fun x14 => (zb9 N a0 a1 x14).bind fun r15 => cond (r15.2 != 0) (some (r15.2, a1))
  (if 0 ≤ (w6 (a2.Op - 2)) then (if (w6 (a2.Op - 2)) < (([0, 1, 2, 3, 4] : List Int).length : Int) then ((([0, 1, 2, 3, 4] : List Int)[(w6 (a2.Op - 2)).toNat]?).bind fun x16 =>
  (idx a0.zA x1).bind fun x17 => (zg9 N (⟨x16, x17.zK, false⟩ : zS) r11.1 r15.1).bind fun r18 => cond (r18.2 == 20) (some (3, a1))
  (cond (r18.2 != 0) (some (2, a1)) ((zcc N a0 a1 x1).bind fun r19 => cond (r19.2 != 0) (some (r19.2, a1)) ((zaf N x17.zK r18.1).bind fun r20 =>
  (zb1 N a1.Storage r19.1 r20).bind fun r21 => some (0, (⟨r21, a1.At, a1.Stack, a1.Lines, a1.Status, a1.Exception, a1.Steps⟩ : zC)))))) else none) else none))))
def ziz.k (N : Nat) : Kq := ⟨108, (ctv [.val Ty.zB, .ptr Ty.zC true [3, 4], .val Ty.zI] [T6] [Ty.zC] [] [Ty.zB, Ty.zC, Ty.zI] (ziz N)), go [zet.k N, zaf.k N, zcc.k N, zfi.k, zb9.k N, zlg.k N, zb1.k N, zgg.k N, zg9.k N] {lits := [73, 168], pk := [1000000]} [] Proofs.Tryz.func108⟩
def zpl (N : Nat) (a0 : Number) (a1 : Number) : Option Int :=
 (zj1 N a0 a1).bind fun r1 => (zm4 N r1.1 (⟨(!r1.2.1.Below), r1.2.1.zQ⟩ : zJ)).bind fun r2 => cond ((r2.zQ.length : Int) == 0) (some 0)
  ((zao r2.Below).bind fun r3 => some (w6 (1 - (w6 (2 * r3)))))
def zpl.k (N : Nat) : Kq := ⟨168, (cvv [T6] [Ty.Number, Ty.Number] (zpl N)), go [zao.k, zj1.k N, zm4.k N] {} [] Proofs.Tryz.func168⟩
def zi0 (N : Nat) (a0 : zB) (a1 : zC) (a2 : zI) : Option (Bool × Int) :=
 (idx a2.Args 0).bind fun x1 => (zfi a0 x1).bind fun r2 => cond r2 ((idx a2.Args 0).bind fun x3 => (zb9 N a0 a1 x3).bind fun r4 => cond (r4.2 != 0)
  (some (false, r4.2)) ((idx a2.Args 1).bind fun x5 => (zb9 N a0 a1 x5).bind fun r6 => cond (r6.2 != 0) (some (false, r6.2)) ((zpl N r4.1 r6.1).bind fun r7 =>
  cond (a2.Op == 7) (some ((r7 == 0), 0)) (some ((decide (r7 < 0)), 0))))) ((idx a2.Args 0).bind fun x8 => (zet N a0 a1 x8).bind fun r9 => cond (r9.2 != 0)
  (some (false, r9.2)) ((idx a2.Args 1).bind fun x10 => (zet N a0 a1 x10).bind fun r11 => cond (r11.2 != 0) (some (false, r11.2))
  ((zgg N r9.1 (if (r11.1.size : Int) > (r9.1.size : Int) then (r11.1.size : Int) else (r9.1.size : Int))).bind fun r12 =>
  (zgg N r11.1 (if (r11.1.size : Int) > (r9.1.size : Int) then (r11.1.size : Int) else (r9.1.size : Int))).bind fun r13 =>
  (zao (!((Op.bytesLess r12.toList r13.toList) || (r12.toList == r13.toList)))).bind fun r14 => (zao (Op.bytesLess r12.toList r13.toList)).bind fun r15 =>
  cond (a2.Op == 7) (some (((w6 (r14 - r15)) == 0), 0)) (some ((decide ((w6 (r14 - r15)) < 0)), 0)))))
def zi0.k (N : Nat) : Kq := ⟨109, (cvv [Ty.bool, T6] [Ty.zB, Ty.zC, Ty.zI] (zi0 N)), go [zet.k N, zfi.k, zb9.k N, zao.k, zgg.k N, zpl.k N] {} [] Proofs.Tryz.func109⟩
def zpj (N : Nat) (a0 : Pointer) : Option ByteArray :=
 (za4 N a0.Kind 1).bind fun r1 => if ((r1.size + (⟨#[0]⟩ : ByteArray).size : Nat) : Int) > IntKind.i64.max then none else (za4 N a0.Authority 2).bind fun r2 =>
  if (((r1 ++ (⟨#[0]⟩ : ByteArray)).size + r2.size : Nat) : Int) > IntKind.i64.max then none else (za4 N a0.Address.zT 6).bind fun r3 =>
  if ((((r1 ++ (⟨#[0]⟩ : ByteArray)) ++ r2).size + r3.size : Nat) : Int) > IntKind.i64.max then none else (za4 N a0.Address.Offset 6).bind fun r4 =>
  if (((((r1 ++ (⟨#[0]⟩ : ByteArray)) ++ r2) ++ r3).size + r4.size : Nat) : Int) > IntKind.i64.max then none else some ((((r1 ++ (⟨#[0]⟩ : ByteArray)) ++ r2) ++ r3) ++ r4)
def zpj.k (N : Nat) : Kq := ⟨169, (cvv [Ty.str] [Ty.Pointer] (zpj N)), go [za4.k N] {} [] Proofs.Tryz.func169⟩
def zhm (N : Nat) (a0 : Storage) (a1 : Int) (a2 : Pointer) : Option Storage :=
 (zpj N a2).bind fun r1 => (zb1 N a0 a1 r1).bind fun r2 =>
  if 0 ≤ (w6 (a1.tdiv 16)) then (if (w6 (a1.tdiv 16)) < (r2.Tags.length : Int) then ((r2.Tags[(w6 (a1.tdiv 16)).toNat]?).bind fun x3 =>
  some (⟨r2.Bytes, (r2.Tags.set ((w6 (a1.tdiv 16)).toNat) true)⟩ : Storage)) else none) else none
def zhm.k (N : Nat) : Kq := ⟨110, (ctv [.val Ty.Storage, .val T6, .val Ty.Pointer] [Ty.Storage] [] [1] [Ty.Storage, T6, Ty.Pointer] (zhm N)), go [zb1.k N, zpj.k N] {lits := [11]} [] Proofs.Tryz.func110⟩
def zkh (N : Nat) (a0 : Number) : Option Int :=
 (zea N a0.Scale).bind fun r1 => if r1 = 0 then none else some (w6 ((a0.N : Int).tdiv r1))
def zkh.k (N : Nat) : Kq := ⟨111, (cvv [T6] [Ty.Number] (zkh N)), go [zea.k N] {} [] Proofs.Tryz.func111⟩
def zdl : Nat → Int → Option ByteArray
 | 0, _ => none
 | N + 1, a0 =>
 cond (decide (a0 < (-9))) ((zdl N (w6 (0 - (w6 (a0.tdiv 10))))).bind fun r1 =>
  if (((⟨#[45]⟩ : ByteArray).size + r1.size : Nat) : Int) > IntKind.i64.max then none else (zdl N (w6 (0 - (a0.tmod 10)))).bind fun r2 =>
  if ((((⟨#[45]⟩ : ByteArray) ++ r1).size + r2.size : Nat) : Int) > IntKind.i64.max then none else some (((⟨#[45]⟩ : ByteArray) ++ r1) ++ r2)) (cond (decide (a0 < 0))
  ((zdl N (w6 (0 - a0))).bind fun r3 =>
  if (((⟨#[45]⟩ : ByteArray).size + r3.size : Nat) : Int) > IntKind.i64.max then none else some ((⟨#[45]⟩ : ByteArray) ++ r3)) (cond (decide (a0 < 10))
  (some (zd3 ([(IntKind.wrap .u8 (w6 (48 + a0)))] : List Int))) ((zdl N (w6 (a0.tdiv 10))).bind fun r4 =>
  if ((r4.size + (zd3 ([(IntKind.wrap .u8 (w6 (48 + (a0.tmod 10))))] : List Int)).size : Nat) : Int) > IntKind.i64.max then none else some (r4 ++ (zd3 ([(IntKind.wrap .u8 (w6 (48 + (a0.tmod 10))))] : List Int))))))
def zdl.t (N : Nat) : Ct U := (cvv [Ty.str] [T6] (zdl N))
theorem zdl.m : ∀ N : Nat, zgv K0 126 (zdl.t N)
 | 0 => z8k Proofs.Tryz.func126 (by kernel_rfl) rfl fun ds y hy => by have := zz8 (U := U) [T6] (zdl 0) (fun _ => none) (by intro a0; show none = zdl 0 a0; rfl) ds y hy; cases this
 | N + 1 => go [⟨126, zdl.t N, zdl.m N⟩] {} [] Proofs.Tryz.func126
def zdl.k (N : Nat) : Kq := ⟨126, zdl.t N, zdl.m N⟩
def ze9.b0 (N : Nat) (s3 : ByteArray) (b1 : Number) : Option (Stp (ByteArray × Number)) :=
 cond (decide ((s3.size : Int) ≤ b1.Scale))
  (if (((⟨#[48]⟩ : ByteArray).size + s3.size : Nat) : Int) > IntKind.i64.max then none else some (.again (((⟨#[48]⟩ : ByteArray) ++ s3), b1))) (some (.leave (s3, b1)))
def ze9.r0 (N : Nat) (x : ByteArray × Number) := ze9.b0 N x.1 x.2
def ze9 (N : Nat) (a0 : Number) : Option ByteArray :=
 (zha a0.N).bind fun r1 => (zdl N r1).bind fun r2 => (zl (ze9.r0 N) N (r2, a0)).bind fun y3 => cond (decide (y3.2.Scale > 0))
  (if 0 ≤ (w6 ((y3.1.size : Int) - y3.2.Scale)) ∧ (w6 ((y3.1.size : Int) - y3.2.Scale)) ≤ (y3.1.size : Int) then (if 0 ≤ (0 : Int) ∧ (0 : Int) ≤ (w6 ((y3.1.size : Int) - y3.2.Scale)) then (if (((y3.1.extract (0 : Int).toNat (w6 ((y3.1.size : Int) - y3.2.Scale)).toNat).size + (⟨#[46]⟩ : ByteArray).size : Nat) : Int) > IntKind.i64.max then none else if 0 ≤ (w6 ((y3.1.size : Int) - y3.2.Scale)) ∧ (w6 ((y3.1.size : Int) - y3.2.Scale)) ≤ (y3.1.size : Int) then (if ((((y3.1.extract (0 : Int).toNat (w6 ((y3.1.size : Int) - y3.2.Scale)).toNat) ++ (⟨#[46]⟩ : ByteArray)).size + (y3.1.extract (w6 ((y3.1.size : Int) - y3.2.Scale)).toNat y3.1.size).size : Nat) : Int) > IntKind.i64.max then none else cond (decide (y3.2.N < 0))
  (if (((⟨#[45]⟩ : ByteArray).size + (((y3.1.extract (0 : Int).toNat (w6 ((y3.1.size : Int) - y3.2.Scale)).toNat) ++ (⟨#[46]⟩ : ByteArray)) ++ (y3.1.extract (w6 ((y3.1.size : Int) - y3.2.Scale)).toNat y3.1.size)).size : Nat) : Int) > IntKind.i64.max then none else some ((⟨#[45]⟩ : ByteArray) ++ (((y3.1.extract (0 : Int).toNat (w6 ((y3.1.size : Int) - y3.2.Scale)).toNat) ++ (⟨#[46]⟩ : ByteArray)) ++ (y3.1.extract (w6 ((y3.1.size : Int) - y3.2.Scale)).toNat y3.1.size))))
  (some (((y3.1.extract (0 : Int).toNat (w6 ((y3.1.size : Int) - y3.2.Scale)).toNat) ++ (⟨#[46]⟩ : ByteArray)) ++ (y3.1.extract (w6 ((y3.1.size : Int) - y3.2.Scale)).toNat y3.1.size)))) else none) else none) else none)
  (cond (decide (y3.2.N < 0)) (if (((⟨#[45]⟩ : ByteArray).size + y3.1.size : Nat) : Int) > IntKind.i64.max then none else some ((⟨#[45]⟩ : ByteArray) ++ y3.1)) (some y3.1))
def ze9.k (N : Nat) : Kq := ⟨80, (cvv [Ty.str] [Ty.Number] (ze9 N)), go [zha.k, zdl.k N] {lits := [6]} [(0, .plain { slots := [(1, .ptr 1 0), (3, .val Ty.str)], boxes := [(1, Ty.Number, [])] } [Ty.str, Ty.Number] (zl (ze9.r0 N) N))] Proofs.Tryz.func80 (hL := ⟨⟨_, _, rfl, by kernel_rfl⟩, trivial⟩)⟩
def zm2 (N : Nat) (a0 : zB) (a1 : zC) (a2 : Int) : Option (ByteArray × Int) :=
 (zfi a0 a2).bind fun r1 => cond (!r1) ((zet N a0 a1 a2).bind fun r2 => some (r2.1, r2.2)) ((zb9 N a0 a1 a2).bind fun r3 => cond (r3.2 != 0)
  (some ((⟨#[]⟩ : ByteArray), r3.2)) ((ze9 N r3.1).bind fun r4 => some (r4, 0)))
def zm2.k (N : Nat) : Kq := ⟨38, (cvv [Ty.str, T6] [Ty.zB, Ty.zC, T6] (zm2 N)), go [zet.k N, zfi.k, zb9.k N, ze9.k N] {} [] Proofs.Tryz.func38⟩
def zab (N : Nat) (a0 : zB) (a1 : zC) : Option (Int × Int × zC) :=
 (idx a0.zF a1.At).bind fun x1 => (zq N a0).bind fun r2 => (cond (x1.Op == 0) (some (x1.Op == 0)) (cond (x1.Op == 1) (some (x1.Op == 1)) (cond (x1.Op == 2)
  (some (x1.Op == 2)) (cond (x1.Op == 3) (some (x1.Op == 3)) (cond (x1.Op == 4) (some (x1.Op == 4)) (cond (x1.Op == 5) (some (x1.Op == 5)) (some (x1.Op == 6)))))))).bind fun q3 =>
  cond q3 ((ziz N a0 a1 x1).bind fun r4 => some ((w6 (a1.At + 1)), r4.1, r4.2)) ((cond (x1.Op == 7) (some (x1.Op == 7)) (some (x1.Op == 8))).bind fun q5 =>
  cond q5 ((zi0 N a0 a1 x1).bind fun r6 => cond (r6.2 != 0) (some (0, r6.2, a1)) (cond r6.1 ((idx x1.Args 2).bind fun x7 => (idx a0.zA x7).bind fun x8 =>
  some (x8.Target, 0, a1)) (some ((w6 (a1.At + 1)), 0, a1)))) (cond (x1.Op == 9) ((idx x1.Args 0).bind fun x9 => (idx a0.zA x9).bind fun x10 =>
  some (x10.Target, 0, a1)) (cond (x1.Op == 10) ((idx x1.Args 1).bind fun x11 => (zcc N a0 a1 x11).bind fun r12 => cond (r12.2 != 0) (some (0, r12.2, a1))
  ((idx x1.Args 0).bind fun x13 => (idx r2.1 x13).bind fun x14 => (zhm N a1.Storage x14 (⟨0, (⟨1, r12.1⟩ : Address), 0⟩ : Pointer)).bind fun r15 =>
  some ((w6 (a1.At + 1)), 0, (⟨r15, a1.At, a1.Stack, a1.Lines, a1.Status, a1.Exception, a1.Steps⟩ : zC)))) (cond (x1.Op == 11) ((idx x1.Args 1).bind fun x16 =>
  (idx r2.1 x16).bind fun x17 => (zfw N a1.Storage x17).bind fun r18 => cond (r18.2 != 0) (some (0, 4, a1)) ((idx x1.Args 0).bind fun x19 => (idx r2.1 x19).bind fun x20 =>
  (zhm N a1.Storage x20 r18.1).bind fun r21 => some ((w6 (a1.At + 1)), 0, (⟨r21, a1.At, a1.Stack, a1.Lines, a1.Status, a1.Exception, a1.Steps⟩ : zC))))
  (cond (x1.Op == 12) ((idx x1.Args 0).bind fun x22 => (idx r2.1 x22).bind fun x23 => (zfw N a1.Storage x23).bind fun r24 => cond (r24.2 != 0) (some (0, 4, a1))
  ((idx x1.Args 1).bind fun x25 => (zb9 N a0 a1 x25).bind fun r26 => cond (r26.2 != 0) (some (0, r26.2, a1)) ((zkh N r26.1).bind fun r27 =>
  (zf (w6 (r24.1.Address.Offset + r27)) 0 16777215).bind fun r28 => cond (!r28) (some (0, 5, a1)) ((idx x1.Args 0).bind fun x29 =>
  (idx r2.1 x29).bind fun x30 =>
  (zhm N a1.Storage x30 (⟨r24.1.Kind, (⟨r24.1.Address.zT, (w6 (r24.1.Address.Offset + r27))⟩ : Address), r24.1.Authority⟩ : Pointer)).bind fun r31 =>
  some ((w6 (a1.At + 1)), 0, (⟨r31, a1.At, a1.Stack, a1.Lines, a1.Status, a1.Exception, a1.Steps⟩ : zC)))))) (cond (x1.Op == 13)
  (cond ((a1.Stack.length : Int) == 6) (some (0, 6, a1)) (cond (Nat.ble ((a1.Stack.length + ([a1.At] : List Int).length) * 8) zbr) ((idx x1.Args 0).bind fun x32 =>
  (idx a0.zA x32).bind fun x33 =>
  some (x33.Target, 0, (⟨a1.Storage, a1.At, (a1.Stack ++ ([a1.At] : List Int)), a1.Lines, a1.Status, a1.Exception, a1.Steps⟩ : zC))) none)) (cond (x1.Op == 14)
  (cond ((a1.Stack.length : Int) == 0) (some ((w6 (a1.At + 1)), 0, (⟨a1.Storage, a1.At, a1.Stack, a1.Lines, 1, a1.Exception, a1.Steps⟩ : zC)))
  (if 0 ≤ (w6 ((a1.Stack.length : Int) - 1)) then (if (w6 ((a1.Stack.length : Int) - 1)) < (a1.Stack.length : Int) then ((a1.Stack[(w6 ((a1.Stack.length : Int) - 1)).toNat]?).bind fun x34 =>
  if 0 ≤ (w6 ((a1.Stack.length : Int) - 1)) ∧ (w6 ((a1.Stack.length : Int) - 1)) ≤ (a1.Stack.length : Int) then (if 0 ≤ (0 : Int) ∧ (0 : Int) ≤ (w6 ((a1.Stack.length : Int) - 1)) then (some ((w6 (x34 + 1)), 0, (⟨a1.Storage, a1.At, ((a1.Stack.drop ((0 : Int).toNat)).take ((w6 ((a1.Stack.length : Int) - 1)).toNat - (0 : Int).toNat)), a1.Lines, a1.Status, a1.Exception, a1.Steps⟩ : zC))) else none) else none) else none) else none))
  (cond (x1.Op == 15) ((idx x1.Args 0).bind fun x35 => (zb9 N a0 a1 x35).bind fun r36 => cond (r36.2 != 0) (some (0, r36.2, a1)) ((zkh N r36.1).bind fun r37 =>
  (zf r37 100 999).bind fun r38 => cond r38 (some (0, r37, a1)) (some (0, 2, a1)))) (cond (x1.Op == 16) ((idx x1.Args 0).bind fun x39 =>
  (zlg N a0 a1 x39 (⟨a1.Exception, 0⟩ : Number) false).bind fun r40 => some ((w6 (a1.At + 1)), r40.1, r40.2)) (cond (x1.Op == 17)
  ((idx x1.Args 0).bind fun x41 => (zm2 N a0 a1 x41).bind fun r42 => cond (r42.2 != 0) (some (0, r42.2, a1)) (cond ((a1.Lines.length : Int) == 40)
  (some ((w6 (a1.At + 1)), 0, (⟨a1.Storage, a1.At, a1.Stack, a1.Lines, 3, a1.Exception, a1.Steps⟩ : zC)))
  (cond (Nat.ble ((a1.Lines.length + ([r42.1] : List ByteArray).length) * 16) zbr)
  (some ((w6 (a1.At + 1)), 0, (⟨a1.Storage, a1.At, a1.Stack, (a1.Lines ++ ([r42.1] : List ByteArray)), a1.Status, a1.Exception, a1.Steps⟩ : zC))) none)))
  (cond (x1.Op == 18) (some ((w6 (a1.At + 1)), 0, (⟨a1.Storage, a1.At, a1.Stack, a1.Lines, 1, a1.Exception, a1.Steps⟩ : zC)))
  (some ((w6 (a1.At + 1)), 0, a1)))))))))))))
def zab.k (N : Nat) : Kq := ⟨66, (ctv [.val Ty.zB, .ptr Ty.zC true [3, 4]] [T6, T6] [Ty.zC] [] [Ty.zB, Ty.zC] (zab N)), go [zf.k, zm2.k N, zq.k N, zfw.k N, zcc.k N, zb9.k N, ziz.k N, zi0.k N, zhm.k N, zkh.k N, zlg.k N] {lits := [243, 365], pk := [1000000], bj := [44, 57]} [] Proofs.Tryz.func66⟩
def zc4.b0 (N : Nat) (s1 : Int) (s2 : Int) (s7 : Int) (b3 : zB) : Option (Round Int (Int × Int × Int × zB)) :=
 cond (decide (s7 < (b3.zL.length : Int))) ((idx b3.zL s7).bind fun x1001 => (cond (decide (x1001.From ≤ s1)) (some (decide (s1 < x1001.To)))
  (some false)).bind fun g1002 => (cond g1002 ((cond (x1001.Exception == 0) (some true) (some (x1001.Exception == s2))).bind fun g1003 => some g1003) (some false)).bind fun g1004 =>
  cond g1004 (some (.result x1001.Handler)) (some (.again (s1, s2, (w6 (s7 + 1)), b3)))) (some (.leave (s1, s2, s7, b3)))
def zc4.r0 (N : Nat) (x : Int × Int × Int × zB) := zc4.b0 N x.1 x.2.1 x.2.2.1 x.2.2.2
def zc4 (N : Nat) (a0 : zB) (a1 : Int) (a2 : Int) : Option Int :=
 (zj (zc4.r0 N) N (a1, a2, 0, a0)).bind fun z2 => zb5 z2 (fun z => some z) (fun y1 => some (-1))
def zc4.k (N : Nat) : Kq := ⟨21, (cvv [T6] [Ty.zB, T6, T6] (zc4 N)), go [] {} [(0, .rets { slots := [(1, .val T6), (2, .val T6), (3, .ptr 3 0), (7, .val T6)], boxes := [(3, Ty.zB, [])] } [T6, T6, T6, Ty.zB] (zj (zc4.r0 N) N))] Proofs.Tryz.func21 (hL := ⟨⟨_, _, rfl, by kernel_rfl⟩, trivial⟩)⟩
def zen.b0 (N : Nat) (s2 : Int) (b3 : zB) (b4 : zC) (b6 : zC) : Option (Round zC (Int × zB × zC × zC)) :=
 (zc4 N b3 b4.At s2).bind fun r1001 => cond (r1001 != (-1)) (some (.result (⟨b4.Storage, r1001, b4.Stack, b4.Lines, b4.Status, b4.Exception, b4.Steps⟩ : zC)))
  (cond ((b4.Stack.length : Int) == 0) (some (.result (⟨b4.Storage, b4.At, b4.Stack, b4.Lines, 2, b4.Exception, b4.Steps⟩ : zC)))
  ((idx b4.Stack (w6 ((b4.Stack.length : Int) - 1))).bind fun x1002 =>
  if 0 ≤ (w6 ((b4.Stack.length : Int) - 1)) ∧ (w6 ((b4.Stack.length : Int) - 1)) ≤ (b4.Stack.length : Int) then (if 0 ≤ (0 : Int) ∧ (0 : Int) ≤ (w6 ((b4.Stack.length : Int) - 1)) then (some (.again (s2, b3, (⟨b4.Storage, x1002, ((b4.Stack.take (w6 ((b4.Stack.length : Int) - 1)).toNat).drop (0 : Int).toNat), b4.Lines, b4.Status, b4.Exception, b4.Steps⟩ : zC), b6))) else none) else none))
def zen.r0 (N : Nat) (x : Int × zB × zC × zC) := zen.b0 N x.1 x.2.1 x.2.2.1 x.2.2.2
def zen (N : Nat) (a0 : zB) (a1 : zC) (a2 : Int) : Option zC :=
 (zj (zen.r0 N) N (a2, a0, (⟨a1.Storage, a1.At, a1.Stack, a1.Lines, a1.Status, a2, a1.Steps⟩ : zC), (⟨(⟨(⟨#[]⟩ : ByteArray), []⟩ : Storage), 0, [], [], 0, 0, 0⟩ : zC))).bind fun z2 =>
  zb5 z2 (fun z => some z) (fun y1 => some y1.2.2.2)
def zen.k (N : Nat) : Kq := ⟨67, (cvv [Ty.zC] [Ty.zB, Ty.zC, T6] (zen N)), go [zc4.k N] {} [(0, .rets { slots := [(2, .val T6), (3, .ptr 3 0), (4, .ptr 4 0), (6, .ptr 6 0)], boxes := [(3, Ty.zB, []), (4, Ty.zC, []), (6, Ty.zC, [1, 3, 4])] } [T6, Ty.zB, Ty.zC, Ty.zC] (zj (zen.r0 N) N))] Proofs.Tryz.func67 (hL := ⟨⟨_, _, rfl, by kernel_rfl⟩, trivial⟩)⟩
end
end Go.Proofs.YtmifhmfokbigiaaGreatDoor.M
