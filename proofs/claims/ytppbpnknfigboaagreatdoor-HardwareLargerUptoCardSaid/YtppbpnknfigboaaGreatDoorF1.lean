/- What the program's functions compute, each tied to its code: part 1. -/
import Derived.Test.YtppbpnknfigboaaGreatDoorF0
namespace Go.Proofs.YtppbpnknfigboaaGreatDoor.M
open Go Go.Amx
set_option linter.unusedVariables false
set_option maxRecDepth 100000
noncomputable section
def ze3 (a0 : zC) : Option (Int × zC) :=
 cond (decide ((w6 ((a0.zA.Stack.length : Int) - 1)) < 0))
  (some (a0.zA.At, (⟨(⟨a0.zA.Registers, a0.zA.Condition, a0.zA.Storage, a0.zA.At, a0.zA.Stack, a0.zA.Lines, 1, a0.zA.Exception, a0.zA.Marks, a0.zA.Steps⟩ : zA), a0.code, a0.raised⟩ : zC)))
  ((idx a0.zA.Stack (w6 ((a0.zA.Stack.length : Int) - 1))).bind fun x1 =>
  if 0 ≤ (w6 ((a0.zA.Stack.length : Int) - 1)) ∧ (w6 ((a0.zA.Stack.length : Int) - 1)) ≤ (a0.zA.Stack.length : Int) then (if 0 ≤ (0 : Int) ∧ (0 : Int) ≤ (w6 ((a0.zA.Stack.length : Int) - 1)) then ((zda 8 ((a0.zA.Stack.take (w6 ((a0.zA.Stack.length : Int) - 1)).toNat).drop (0 : Int).toNat)).bind fun r2 =>
  some ((w6 (x1 + 1)), (⟨(⟨a0.zA.Registers, a0.zA.Condition, a0.zA.Storage, a0.zA.At, r2, a0.zA.Lines, a0.zA.Status, a0.zA.Exception, a0.zA.Marks, a0.zA.Steps⟩ : zA), a0.code, a0.raised⟩ : zC))) else none) else none)
def ze3.k : Kq := ⟨224, (ctv [.ptr Ty.zC true []] [T6] [Ty.zC] [] [Ty.zC] ze3), go [zu6.k] {pk := [1000000]} [] Proofs.Tryz.func224⟩
def zh1 (N : Nat) (a0 : zC) (a1 : zB) : Option (Int × zC) :=
 cond (a1.Op == 8) (some (a1.Target, a0)) (cond (a1.Op == 18) ((ze2 a0 a1.Target).bind fun r1 => some (r1.1, r1.2)) (cond (a1.Op == 19)
  ((ze3 a0).bind fun r2 => some (r2.1, r2.2)) (cond (a1.Op == 6) (cond ((zh .i64 a0.zA.Condition a1.Mask) != 0) (some (a1.Target, a0))
  (some ((w6 (a0.zA.At + 1)), a0))) (cond (a1.Op == 7) ((zat N a0 a1).bind fun r3 => cond ((zh .i64 r3 a1.Mask) != 0)
  (some (a1.Target, a0)) (some ((w6 (a0.zA.At + 1)), a0))) (some ((w6 (a0.zA.At + 1)), a0))))))
def zh1.k (N : Nat) : Kq := ⟨158, (ctv [.ptr Ty.zC true [], .val Ty.zB] [T6] [Ty.zC] [] [Ty.zC, Ty.zB] (zh1 N)), go [zat.k N, ze2.k, ze3.k] {pk := [1000000]} [] Proofs.Tryz.func158⟩
def zd (N : Nat) (a0 : zC) (a1 : zB) : Option (Int × zC) :=
 cond (a1.Op == 0) ((zbf N a0 a1.Place a1.zF).bind fun r1 => cond r1.2.1 ((zaa r1.2.2 a1.R r1.1).bind fun r2 =>
  some ((w6 (r2.zA.At + 1)), r2)) (some ((w6 (r1.2.2.zA.At + 1)), r1.2.2))) (cond (a1.Op == 1)
  ((zeu N a0 a1).bind fun r3 => some ((w6 (r3.zA.At + 1)), r3)) (cond (a1.Op == 2) ((zaa a0 a1.R a1.Number).bind fun r4 =>
  some ((w6 (r4.zA.At + 1)), r4)) (cond (a1.Op == 3) ((idx a0.zA.Registers a1.A).bind fun x5 => (zaa a0 a1.R x5).bind fun r6 =>
  some ((w6 (r6.zA.At + 1)), r6)) (cond (a1.Op == 4) ((zgc N a0 a1).bind fun r7 => some ((w6 (r7.zA.At + 1)), r7))
  (cond (a1.Op == 5) ((zat N a0 a1).bind fun r8 =>
  some ((w6 (a0.zA.At + 1)), (⟨(⟨a0.zA.Registers, r8, a0.zA.Storage, a0.zA.At, a0.zA.Stack, a0.zA.Lines, a0.zA.Status, a0.zA.Exception, a0.zA.Marks, a0.zA.Steps⟩ : zA), a0.code, a0.raised⟩ : zC)))
  ((cond (a1.Op == 9) (some (a1.Op == 9)) (some (a1.Op == 10))).bind fun q9 => cond q9 ((zgb N a0 a1).bind fun r10 =>
  some ((w6 (r10.zA.At + 1)), r10)) ((cond (a1.Op == 11) (some (a1.Op == 11)) (some (a1.Op == 12))).bind fun q11 =>
  cond q11 ((ze4 N a0 a1).bind fun r12 => some ((w6 (r12.zA.At + 1)), r12)) (cond (a1.Op == 13)
  ((zch a1.Text a1.Other).bind fun r13 =>
  some ((w6 (a0.zA.At + 1)), (⟨(⟨a0.zA.Registers, r13, a0.zA.Storage, a0.zA.At, a0.zA.Stack, a0.zA.Lines, a0.zA.Status, a0.zA.Exception, a0.zA.Marks, a0.zA.Steps⟩ : zA), a0.code, a0.raised⟩ : zC)))
  ((cond (a1.Op == 14) (some (a1.Op == 14)) (cond (a1.Op == 15) (some (a1.Op == 15)) (cond (a1.Op == 16) (some (a1.Op == 16)) (some (a1.Op == 17))))).bind fun q14 =>
  cond q14 ((zgm N a0 a1).bind fun r15 => some ((w6 (r15.zA.At + 1)), r15)) (cond (a1.Op == 20)
  ((zeb N a0 a1).bind fun r16 => some ((w6 (r16.zA.At + 1)), r16)) (cond (a1.Op == 21)
  ((zaa a0 a1.R (⟨a0.zA.Exception, 0⟩ : Number)).bind fun r17 => some ((w6 (r17.zA.At + 1)), r17)) ((cond (a1.Op == 22)
  (some (a1.Op == 22)) (cond (a1.Op == 23) (some (a1.Op == 23)) (some (a1.Op == 24)))).bind fun q18 => cond q18 ((zhq N a0 a1).bind fun r19 =>
  some ((w6 (r19.zA.At + 1)), r19)) (cond (a1.Op == 25) ((ze1 a0).bind fun r20 => some ((w6 (r20.zA.At + 1)), r20))
  (cond (a1.Op == 26)
  (some ((w6 (a0.zA.At + 1)), (⟨(⟨a0.zA.Registers, a0.zA.Condition, a0.zA.Storage, a0.zA.At, a0.zA.Stack, a0.zA.Lines, 1, a0.zA.Exception, a0.zA.Marks, a0.zA.Steps⟩ : zA), a0.code, a0.raised⟩ : zC)))
  ((zh1 N a0 a1).bind fun r21 => some (r21.1, r21.2))))))))))))))))
def zd.k (N : Nat) : Kq := ⟨104, (ctv [.ptr Ty.zC true [], .val Ty.zB] [T6] [Ty.zC] [] [Ty.zC, Ty.zB] (zd N)), go [zbf.k N, zaa.k, zeu.k N, zgc.k N, zat.k N, zgb.k N, ze4.k N, zch.k, zgm.k N, zeb.k N, zhq.k N, ze1.k, zh1.k N] {pk := [1000000], bj := [71, 77, 94, 119]} [] Proofs.Tryz.func104⟩
def zfz (a0 : zT) (a1 : Int) (a2 : Int) : Option Bool :=
 (zae a1 a0.From (w6 (a0.To - 1))).bind fun r1 => (cond r1 ((cond (a0.Exception == 0) (some true) (some (a0.Exception == a2))).bind fun g2 => some g2)
  (some false)).bind fun g3 => some g3
def zfz.k : Kq := ⟨226, (ctv [.val Ty.zT, .ptr T6 false [], .ptr T6 false []] [Ty.bool] [] [] [Ty.zT, T6, T6] zfz), go [zae.k] {ro := [1000000, 1000001], pk := [1000000, 1000001]} [] Proofs.Tryz.func226⟩
def zo.b0 (N : Nat) (s0 : List zT) (s7 : Int) (s8 : Int) (b1000000 : Int) (b1000001 : Int) : Option (Round Int ((List zT) × Int × Int × Int × Int)) :=
 cond (decide (s8 < s7)) ((idx s0 s8).bind fun x1001 => (zfz x1001 b1000000 b1000001).bind fun r1002 => cond r1002 (some (.result s8))
  (some (.again (s0, s7, (w6 (s8 + 1)), b1000000, b1000001)))) (some (.leave (s0, s7, s8, b1000000, b1000001)))
def zo.r0 (N : Nat) (x : (List zT) × Int × Int × Int × Int) := zo.b0 N x.1 x.2.1 x.2.2.1 x.2.2.2.1 x.2.2.2.2
def zo (N : Nat) (a0 : List zT) (a1 : Int) (a2 : Int) : Option Int :=
 (zt (zo.r0 N) N (a0, (a0.length : Int), 0, a1, a2)).bind fun z2 => zb2 z2 (fun z => some z) (fun y1 => some (-1))
def zo.k (N : Nat) : Kq := ⟨225, (ctv [.val (Ty.sl Ty.zT), .clo 226 2, .ptr T6 false [], .ptr T6 false []] [T6] [] [] [(Ty.sl Ty.zT), T6, T6] (zo N)), go [zfz.k] {ro := [1000000, 1000001], pk := [1000000, 1000001]} [(0, .rets { slots := [(0, .val (Ty.sl Ty.zT)), (1, .fn 226 [1000000, 1000001]), (7, .val T6), (8, .val T6)], boxes := [(1000000, T6, []), (1000001, T6, [])] } [(Ty.sl Ty.zT), T6, T6, T6, T6] (zt (zo.r0 N) N))] Proofs.Tryz.func225 (hL := ⟨⟨_, _, rfl, by kernel_rfl⟩, trivial⟩)⟩
def zhk (N : Nat) (a0 : zG) (a1 : Int) (a2 : Int) : Option Int :=
 (zo N a0.zN a1 a2).bind fun r1 => cond (decide (r1 < 0)) (some (-1)) ((idx a0.zN r1).bind fun x2 => some x2.Handler)
def zhk.k (N : Nat) : Kq := ⟨159, (cvv [T6] [Ty.zG, T6, T6] (zhk N)), go [zo.k N] {} [] Proofs.Tryz.func159⟩
def zaq.b0 (N : Nat) (b1000000 : zC) : Option (Round zC zC) :=
 (zhk N b1000000.code b1000000.zA.At b1000000.raised).bind fun r1001 => cond (decide (r1001 ≥ 0))
  (some (.result (⟨(⟨b1000000.zA.Registers, b1000000.zA.Condition, b1000000.zA.Storage, r1001, b1000000.zA.Stack, b1000000.zA.Lines, b1000000.zA.Status, b1000000.zA.Exception, b1000000.zA.Marks, b1000000.zA.Steps⟩ : zA), b1000000.code, b1000000.raised⟩ : zC)))
  (cond (decide ((w6 ((b1000000.zA.Stack.length : Int) - 1)) < 0))
  (some (.result (⟨(⟨b1000000.zA.Registers, b1000000.zA.Condition, b1000000.zA.Storage, b1000000.zA.At, b1000000.zA.Stack, b1000000.zA.Lines, 2, b1000000.zA.Exception, b1000000.zA.Marks, b1000000.zA.Steps⟩ : zA), b1000000.code, b1000000.raised⟩ : zC)))
  ((idx b1000000.zA.Stack (w6 ((b1000000.zA.Stack.length : Int) - 1))).bind fun x1002 =>
  if 0 ≤ (w6 ((b1000000.zA.Stack.length : Int) - 1)) ∧ (w6 ((b1000000.zA.Stack.length : Int) - 1)) ≤ (b1000000.zA.Stack.length : Int) then (if 0 ≤ (0 : Int) ∧ (0 : Int) ≤ (w6 ((b1000000.zA.Stack.length : Int) - 1)) then ((zda 8 ((b1000000.zA.Stack.take (w6 ((b1000000.zA.Stack.length : Int) - 1)).toNat).drop (0 : Int).toNat)).bind fun r1003 =>
  some (.again (⟨(⟨b1000000.zA.Registers, b1000000.zA.Condition, b1000000.zA.Storage, x1002, r1003, b1000000.zA.Lines, b1000000.zA.Status, b1000000.zA.Exception, b1000000.zA.Marks, b1000000.zA.Steps⟩ : zA), b1000000.code, b1000000.raised⟩ : zC))) else none) else none))
def zaq.r0 (N : Nat) (x : zC) := zaq.b0 N x
def zaq (N : Nat) (a0 : zC) : Option zC :=
 (zt (zaq.r0 N) N (⟨(⟨a0.zA.Registers, a0.zA.Condition, a0.zA.Storage, a0.zA.At, a0.zA.Stack, a0.zA.Lines, a0.zA.Status, a0.raised, a0.zA.Marks, a0.zA.Steps⟩ : zA), a0.code, a0.raised⟩ : zC)).bind fun z2 =>
  zb2 z2 (fun z => some z) (fun y1 => some y1)
def zaq.k (N : Nat) : Kq := ⟨105, (ctv [.ptr Ty.zC true []] [] [Ty.zC] [] [Ty.zC] (zaq N)), go [zhk.k N, zu6.k] {pk := [1000000]} [(0, .rets { slots := [(0, .ptr 1000000 0)], boxes := [(1000000, Ty.zC, [])] } [Ty.zC] (zt (zaq.r0 N) N))] Proofs.Tryz.func105 (hL := ⟨⟨_, _, rfl, by kernel_rfl⟩, trivial⟩)⟩
def zh7 (N : Nat) (a0 : zG) (a1 : zA) : Option zA :=
 (idx a0.zD a1.At).bind fun x1 =>
  (zd N (⟨{ a1 with Steps := (w6 (a1.Steps + 1)) }, a0, 0⟩ : zC) x1).bind fun r2 =>
  cond (r2.2.raised != 0) ((zaq N r2.2).bind fun r3 => (cond (r3.zA.Status == 0) (some (r3.zA.Steps == 3000)) (some false)).bind fun g4 =>
  cond g4 (some (⟨r3.zA.Registers, r3.zA.Condition, r3.zA.Storage, r3.zA.At, r3.zA.Stack, r3.zA.Lines, 3, r3.zA.Exception, r3.zA.Marks, r3.zA.Steps⟩ : zA))
  (some r3.zA)) (cond (r2.2.zA.Status != 0) ((cond (r2.2.zA.Status == 0) (some (r2.2.zA.Steps == 3000)) (some false)).bind fun g5 =>
  cond g5 (some (⟨r2.2.zA.Registers, r2.2.zA.Condition, r2.2.zA.Storage, r2.2.zA.At, r2.2.zA.Stack, r2.2.zA.Lines, 3, r2.2.zA.Exception, r2.2.zA.Marks, r2.2.zA.Steps⟩ : zA))
  (some r2.2.zA)) (cond (r2.1 == (a0.zD.length : Int))
  (some (⟨r2.2.zA.Registers, r2.2.zA.Condition, r2.2.zA.Storage, r2.2.zA.At, r2.2.zA.Stack, r2.2.zA.Lines, 1, r2.2.zA.Exception, r2.2.zA.Marks, r2.2.zA.Steps⟩ : zA))
  ((cond (r2.2.zA.Status == 0) (some (r2.2.zA.Steps == 3000)) (some false)).bind fun g6 =>
  cond g6 (some (⟨r2.2.zA.Registers, r2.2.zA.Condition, r2.2.zA.Storage, r2.1, r2.2.zA.Stack, r2.2.zA.Lines, 3, r2.2.zA.Exception, r2.2.zA.Marks, r2.2.zA.Steps⟩ : zA))
  (some (⟨r2.2.zA.Registers, r2.2.zA.Condition, r2.2.zA.Storage, r2.1, r2.2.zA.Stack, r2.2.zA.Lines, r2.2.zA.Status, r2.2.zA.Exception, r2.2.zA.Marks, r2.2.zA.Steps⟩ : zA)))))
def zh7.k (N : Nat) : Kq := ⟨59, (cvv [Ty.zA] [Ty.zG, Ty.zA] (zh7 N)), go [zd.k N, zaq.k N] {} [] Proofs.Tryz.func59⟩
def zb5.b0 (N : Nat) (b3 : zG) (b4 : zR) (b6 : zA) : Option (Stp (zG × zR × zA)) :=
 cond (b6.Status == 0) ((zh7 N b3 b6).bind fun r1001 => some (.again (b3, b4, r1001))) (some (.leave (b3, b4, b6)))
def zb5.r0 (N : Nat) (x : zG × zR × zA) := zb5.b0 N x.1 x.2.1 x.2.2
def zb5 (N : Nat) (a0 : zH) (a1 : zG) : Option (zR × Int) :=
 (zhl N a0 a1).bind fun r1 => cond (r1.2 != 0) (some ((⟨[], 0, 0, 0, 0, (⟨(⟨#[]⟩ : ByteArray), []⟩ : Storage)⟩ : zR), r1.2))
  ((zr (zb5.r0 N) N (a1, (⟨[], 0, 0, 0, 0, (⟨(⟨#[]⟩ : ByteArray), []⟩ : Storage)⟩ : zR), r1.1)).bind fun y2 =>
  some ((⟨y2.2.2.Lines, y2.2.2.Status, y2.2.2.Exception, y2.2.2.Marks, y2.2.2.Steps, y2.2.2.Storage⟩ : zR), 0))
def zb5.k (N : Nat) : Kq := ⟨19, (cvv [Ty.zR, T6] [Ty.zH, Ty.zG] (zb5 N)), go [zhl.k N, zh7.k N] {} [(0, .plain { slots := [(3, .ptr 3 0), (4, .ptr 4 0), (6, .ptr 6 0)], boxes := [(3, Ty.zG, []), (4, Ty.zR, [0, 6]), (6, Ty.zA, [])] } [Ty.zG, Ty.zR, Ty.zA] (zr (zb5.r0 N) N))] Proofs.Tryz.func19 (hL := ⟨⟨_, _, rfl, by kernel_rfl⟩, trivial⟩)⟩
def zbs.b0 (N : Nat) (s0 : List ByteArray) (s1 : List ByteArray) (s5 : Int) : Option (Round Bool ((List ByteArray) × (List ByteArray) × Int)) :=
 cond (decide (s5 < (s0.length : Int))) ((idx s0 s5).bind fun x1001 => (idx s1 s5).bind fun x1002 => cond (!(x1001.toList == x1002.toList)) (some (.result false))
  (some (.again (s0, s1, (w6 (s5 + 1)))))) (some (.leave (s0, s1, s5)))
def zbs.r0 (N : Nat) (x : (List ByteArray) × (List ByteArray) × Int) := zbs.b0 N x.1 x.2.1 x.2.2
def zbs (N : Nat) (a0 : List ByteArray) (a1 : List ByteArray) : Option Bool :=
 cond ((a0.length : Int) != (a1.length : Int)) (some false) ((zt (zbs.r0 N) N (a0, a1, 0)).bind fun z2 => zb2 z2 (fun z => some z) (fun y1 => some true))
def zbs.k (N : Nat) : Kq := ⟨44, (cvv [Ty.bool] [(Ty.sl Ty.str), (Ty.sl Ty.str)] (zbs N)), go [] {} [(0, .rets { slots := [(0, .val (Ty.sl Ty.str)), (1, .val (Ty.sl Ty.str)), (5, .val T6)], boxes := [] } [(Ty.sl Ty.str), (Ty.sl Ty.str), T6] (zt (zbs.r0 N) N))] Proofs.Tryz.func44 (hL := ⟨⟨_, _, rfl, by kernel_rfl⟩, trivial⟩)⟩
def zj1 (N : Nat)  : Option Bool :=
 (zrz N).bind fun r1 => (zb5 N (⟨2, false, false⟩ : zH) r1).bind fun r2 => (cond (r2.2 == 0)
  ((zbs N r2.1.Lines ([(⟨#[50]⟩ : ByteArray)] : List ByteArray)).bind fun r3 => some r3) (some false)).bind fun g4 => (cond g4 (some (r2.1.Status == 1))
  (some false)).bind fun g5 => (cond g5 (some (r2.1.Steps == 4)) (some false)).bind fun g6 => some g6
def zj1.k (N : Nat) : Kq := ⟨12, (cvv [Ty.bool] [] (zj1 N)), go [zb5.k N, zbs.k N, zrz.k N] {lits := [5, 14]} [] Proofs.Tryz.func12⟩
def zgg (a0 : Storage) : Option Bool :=
 (cond (decide ((a0.Bytes.size : Int) ≤ 1072)) (some (decide ((a0.Tags.length : Int) ≤ 67))) (some false)).bind fun g1 => some g1
def zgg.k : Kq := ⟨46, (cvv [Ty.bool] [Ty.Storage] zgg), go [] {} [] Proofs.Tryz.func46⟩
def zdy.b0 (N : Nat) (s3 : Int) (b1 : zG) : Option (Round Bool (Int × zG)) :=
 (cond (decide (s3 < (b1.zD.length : Int))) (some (decide (s3 < 244))) (some false)).bind fun g1001 => cond g1001 ((idx b1.zD s3).bind fun x1002 =>
  (cond (decide ((x1002.Text.size : Int) > 300)) (some true) ((idx b1.zD s3).bind fun x1003 => some (decide ((x1003.Other.size : Int) > 300)))).bind fun g1004 =>
  cond g1004 (some (.result false)) (some (.again ((w6 (s3 + 1)), b1)))) (some (.leave (s3, b1)))
def zdy.r0 (N : Nat) (x : Int × zG) := zdy.b0 N x.1 x.2
def zdy (N : Nat) (a0 : zG) : Option Bool :=
 (zt (zdy.r0 N) N (0, a0)).bind fun z2 => zb2 z2 (fun z => some z) (fun y1 => (zgg y1.2.Storage).bind fun r3 =>
  (cond r3 (some (decide ((y1.2.zD.length : Int) < 244))) (some false)).bind fun g4 => (cond g4 (some (decide ((y1.2.zN.length : Int) < 44)))
  (some false)).bind fun g5 => some g5)
def zdy.k (N : Nat) : Kq := ⟨13, (cvv [Ty.bool] [Ty.zG] (zdy N)), go [zgg.k] {} [(0, .rets { slots := [(1, .ptr 1 0), (3, .val T6)], boxes := [(1, Ty.zG, [])] } [T6, Ty.zG] (zt (zdy.r0 N) N))] Proofs.Tryz.func13 (hL := ⟨⟨_, _, rfl, by kernel_rfl⟩, trivial⟩)⟩
def zg (a0 : Int) (a1 : Int) (a2 : Int) : Option Bool :=
 (cond (decide (a1 ≤ a0)) (some (decide (a0 ≤ a2))) (some false)).bind fun g1 => some g1
def zg.k : Kq := ⟨57, (cvv [Ty.bool] [T6, T6, T6] zg), go [] {} [] Proofs.Tryz.func57⟩
def zfn (a0 : zH) : Option Int :=
 (zg a0.Registers 2 8).bind fun r1 => cond (!r1) (some 3) (some 0)
def zfn.k : Kq := ⟨18, (cvv [T6] [Ty.zH] zfn), go [zg.k] {} [] Proofs.Tryz.func18⟩
def zkv (a0 : Storage) (a1 : Int) : Option ByteArray :=
 if 0 ≤ (w6 ((w6 (a1 * 16)) + 16)) ∧ (w6 ((w6 (a1 * 16)) + 16)) ≤ (a0.Bytes.size : Int) then (if 0 ≤ (w6 (a1 * 16)) ∧ (w6 (a1 * 16)) ≤ (w6 ((w6 (a1 * 16)) + 16)) then (some (a0.Bytes.extract (w6 (a1 * 16)).toNat (w6 ((w6 (a1 * 16)) + 16)).toNat)) else none) else none
def zkv.k : Kq := ⟨126, (cvv [Ty.str] [Ty.Storage, T6] zkv), go [] {} [] Proofs.Tryz.func126⟩
def zc4.b0 (N : Nat) (s0 : ByteArray) (s1 : Int) (s2 : Int) (s7 : Int) (s8 : Int) : Option (Stp (ByteArray × Int × Int × Int × Int)) :=
 cond (decide (s8 < s2)) ((zgs s0 (w6 (s1 + s8))).bind fun x1001 =>
  some (.again (s0, s1, s2, (w6 ((w6 (s7 * 256)) + (w6 (x1001.toNat : Int)))), (w6 (s8 + 1)))))
  (some (.leave (s0, s1, s2, s7, s8)))
def zc4.r0 (N : Nat) (x : ByteArray × Int × Int × Int × Int) := zc4.b0 N x.1 x.2.1 x.2.2.1 x.2.2.2.1 x.2.2.2.2
def zc4 (N : Nat) (a0 : ByteArray) (a1 : Int) (a2 : Int) : Option Int :=
 (zr (zc4.r0 N) N (a0, a1, a2, 0, 0)).bind fun y1 => some y1.2.2.2.1
def zc4.k (N : Nat) : Kq := ⟨187, (cvv [T6] [Ty.str, T6, T6] (zc4 N)), go [] {} [(0, .plain { slots := [(0, .val Ty.str), (1, .val T6), (2, .val T6), (7, .val T6), (8, .val T6)], boxes := [] } [Ty.str, T6, T6, T6, T6] (zr (zc4.r0 N) N))] Proofs.Tryz.func187 (hL := ⟨⟨_, _, rfl, by kernel_rfl⟩, trivial⟩)⟩
def zhd (a0 : Pointer) : Option Int :=
 (zg a0.Kind 0 2).bind fun r1 => cond (!r1) (some 4) ((zg a0.Address.zZ 0 1099511627775).bind fun r2 => (cond (!r2) (some true)
  ((zg a0.Address.Offset 0 16777215).bind fun r3 => some (!r3))).bind fun g4 => (cond g4 (some true) ((zg a0.Authority 0 1023).bind fun r5 =>
  some (!r5))).bind fun g6 => cond g6 (some 3) ((cond (a0.Kind != 1) (some (a0.Authority != 0)) (some false)).bind fun g7 => cond g7 (some 5) (some 0)))
def zhd.k : Kq := ⟨188, (cvv [T6] [Ty.Pointer] zhd), go [zg.k] {} [] Proofs.Tryz.func188⟩
def zmx (N : Nat) (a0 : ByteArray) : Option (Pointer × Int) :=
 cond ((a0.size : Int) != 16) (some ((⟨0, (⟨0, 0⟩ : Address), 0⟩ : Pointer), 18)) ((zgs a0 1).bind fun x1 => cond ((x1.toNat : Int) != 0)
  (some ((⟨0, (⟨0, 0⟩ : Address), 0⟩ : Pointer), 5)) ((zgs a0 0).bind fun x2 => (zc4 N a0 2 2).bind fun r3 => (zc4 N a0 4 6).bind fun r4 =>
  (zc4 N a0 10 6).bind fun r5 => (zhd (⟨(w6 (x2.toNat : Int)), (⟨r4, r5⟩ : Address), r3⟩ : Pointer)).bind fun r6 => cond (r6 != 0)
  (some ((⟨0, (⟨0, 0⟩ : Address), 0⟩ : Pointer), r6)) (some ((⟨(w6 (x2.toNat : Int)), (⟨r4, r5⟩ : Address), r3⟩ : Pointer), 0))))
def zmx.k (N : Nat) : Kq := ⟨125, (cvv [Ty.Pointer, T6] [Ty.str] (zmx N)), go [zc4.k N, zhd.k] {} [] Proofs.Tryz.func125⟩
def zc9.b0 (N : Nat) (s4 : Int) (s5 : Int) (b1 : Storage) : Option (Round (Int × Int) (Int × Int × Storage)) :=
 cond (decide (s5 < s4)) ((idx b1.Tags s5).bind fun x1001 => cond x1001 ((zkv b1 s5).bind fun r1002 => (zmx N r1002).bind fun r1003 => cond (r1003.2 != 0)
  (some (.result (s5, 22))) (some (.again (s4, (w6 (s5 + 1)), b1)))) (some (.again (s4, (w6 (s5 + 1)), b1)))) (some (.leave (s4, s5, b1)))
def zc9.r0 (N : Nat) (x : Int × Int × Storage) := zc9.b0 N x.1 x.2.1 x.2.2
def zc9 (N : Nat) (a0 : Storage) : Option (Int × Int) :=
 cond (decide ((a0.Bytes.size : Int) > 1024)) (some (0, 2)) (cond (((a0.Bytes.size : Int).tmod 16) != 0) (some (0, 18))
  (cond ((a0.Tags.length : Int) != (w6 ((a0.Bytes.size : Int).tdiv 16))) (some (0, 6))
  ((zt (zc9.r0 N) N ((w6 ((a0.Bytes.size : Int).tdiv 16)), 0, a0)).bind fun z2 => zb2 z2 (fun z => some z) (fun y1 => some (y1.1, 0)))))
def zc9.k (N : Nat) : Kq := ⟨97, (cvv [T6, T6] [Ty.Storage] (zc9 N)), go [zmx.k N, zkv.k] {lits := [39]} [(0, .rets { slots := [(1, .ptr 1 0), (4, .val T6), (5, .val T6)], boxes := [(1, Ty.Storage, [])] } [T6, T6, Ty.Storage] (zt (zc9.r0 N) N))] Proofs.Tryz.func97 (hL := ⟨⟨_, _, rfl, by kernel_rfl⟩, trivial⟩)⟩
def zkm (N : Nat) (a0 : Storage) : Option Int :=
 (zc9 N a0).bind fun r1 => some r1.2
def zkm.k (N : Nat) : Kq := ⟨54, (cvv [T6] [Ty.Storage] (zkm N)), go [zc9.k N] {} [] Proofs.Tryz.func54⟩
def zbq.b0 (N : Nat) (s3 : List Int) (s4 : Int) (b1 : Storage) : Option (Stp ((List Int) × Int × Storage)) :=
 cond (decide (s4 < (b1.Tags.length : Int))) ((idx b1.Tags s4).bind fun x1001 =>
  cond x1001 (cond (Nat.ble ((s3.length + ([(w6 (s4 * 16))] : List Int).length) * 8) zac)
  (some (.again ((s3 ++ ([(w6 (s4 * 16))] : List Int)), (w6 (s4 + 1)), b1))) none) (some (.again (s3, (w6 (s4 + 1)), b1))))
  (some (.leave (s3, s4, b1)))
def zbq.r0 (N : Nat) (x : (List Int) × Int × Storage) := zbq.b0 N x.1 x.2.1 x.2.2
def zbq (N : Nat) (a0 : Storage) : Option ((List Int)) :=
 (zr (zbq.r0 N) N ([], 0, a0)).bind fun y1 => some y1.1
def zbq.k (N : Nat) : Kq := ⟨55, (cvv [(Ty.sl T6)] [Ty.Storage] (zbq N)), go [] {lits := [20]} [(0, .plain { slots := [(1, .ptr 1 0), (3, .own 5000003 T6), (4, .val T6)], boxes := [(1, Ty.Storage, [])] } [(Ty.sl T6), T6, Ty.Storage] (zr (zbq.r0 N) N))] Proofs.Tryz.func55 (hL := ⟨⟨_, _, rfl, by kernel_rfl⟩, trivial⟩)⟩
def zec (a0 : zB) : Option zM :=
 cond (a0.Op == 0) (some (⟨true, false, false, true, false, false, false, false, false, false, false, false, false, false, 1, 0⟩ : zM)) (cond (a0.Op == 1)
  (some (⟨true, false, false, true, false, true, false, false, false, false, false, false, false, false, 1, 0⟩ : zM)) (cond (a0.Op == 2)
  (some (⟨true, false, false, false, false, false, true, false, false, false, false, false, false, false, 0, 0⟩ : zM)) (cond (a0.Op == 3)
  (some (⟨true, true, false, false, false, false, false, false, false, false, false, false, false, false, 0, 0⟩ : zM)) (cond (a0.Op == 4)
  (cond a0.zL (some (⟨true, true, false, true, false, false, false, true, false, false, false, false, false, false, 1, 1⟩ : zM))
  (some (⟨true, true, true, false, false, false, false, true, false, false, false, false, false, false, 1, 0⟩ : zM))) (cond (a0.Op == 5)
  (some (⟨false, true, true, false, false, false, false, false, false, false, false, false, false, false, 0, 0⟩ : zM)) (cond (a0.Op == 6)
  (some (⟨false, false, false, false, false, false, false, false, true, true, false, false, false, false, 0, 0⟩ : zM)) (cond (a0.Op == 7)
  (some (⟨false, true, true, false, false, false, false, false, true, true, false, false, false, false, 0, 0⟩ : zM)) ((cond (a0.Op == 8) (some (a0.Op == 8))
  (some (a0.Op == 18))).bind fun q1 => cond q1 (some (⟨false, false, false, false, false, false, false, false, false, true, false, false, false, false, 0, 0⟩ : zM))
  ((cond (a0.Op == 9) (some (a0.Op == 9)) (some (a0.Op == 11))).bind fun q2 =>
  cond q2 (some (⟨false, false, false, true, true, false, false, false, false, false, false, false, false, false, 2, 2⟩ : zM)) ((cond (a0.Op == 10) (some (a0.Op == 10))
  (some (a0.Op == 12))).bind fun q3 => cond q3 (some (⟨false, false, false, true, false, false, false, false, false, false, true, false, false, false, 2, 0⟩ : zM))
  (cond (a0.Op == 13) (some (⟨false, false, false, false, false, false, false, false, false, false, true, true, false, false, 0, 0⟩ : zM)) (cond (a0.Op == 14)
  (some (⟨false, false, false, true, false, false, false, false, false, false, false, false, true, false, 3, 0⟩ : zM)) (cond (a0.Op == 15)
  (some (⟨false, false, false, false, false, false, false, false, false, false, false, false, true, true, 0, 0⟩ : zM)) (cond (a0.Op == 16)
  (some (⟨true, false, false, false, false, false, false, false, false, false, false, false, true, false, 0, 0⟩ : zM)) (cond (a0.Op == 17)
  (some (⟨false, false, false, false, false, false, false, false, false, false, false, false, true, false, 0, 0⟩ : zM)) ((cond (a0.Op == 20) (some (a0.Op == 20))
  (cond (a0.Op == 21) (some (a0.Op == 21)) (some (a0.Op == 22)))).bind fun q4 =>
  cond q4 (some (⟨true, false, false, false, false, false, false, false, false, false, false, false, false, false, 0, 0⟩ : zM)) (cond (a0.Op == 23)
  (some (⟨false, false, false, true, false, false, false, false, false, false, false, false, false, false, 2, 0⟩ : zM)) (cond (a0.Op == 24)
  (some (⟨false, false, false, false, false, false, false, false, false, false, true, false, false, false, 0, 0⟩ : zM))
  (some (⟨false, false, false, false, false, false, false, false, false, false, false, false, false, false, 0, 0⟩ : zM))))))))))))))))))))
def zec.k : Kq := ⟨98, (cvv [Ty.zM] [Ty.zB] zec), go [] {bj := [32, 36, 40, 59]} [] Proofs.Tryz.func98⟩
def zit (a0 : zB) (a1 : zM) : Option Bool :=
 (cond (!a1.R) (some (a0.R != 0)) (some false)).bind fun g1 => (cond g1 (some true) ((cond (!a1.A) (some (a0.A != 0)) (some false)).bind fun g2 => some g2)).bind fun g3 =>
  (cond g3 (some true) ((cond (!a1.B) (some (a0.B != 0)) (some false)).bind fun g4 => some g4)).bind fun g5 => (cond g5 (some true) ((cond (!a1.zJ)
  (some (a0.zJ != 0)) (some false)).bind fun g6 => some g6)).bind fun g7 => (cond g7 (some true) ((cond (!a1.Place)
  (some (!(zfw [(a0.Place.Based == false), (a0.Place.Pointer == 0), (a0.Place.Offset == 0)]))) (some false)).bind fun g8 => some g8)).bind fun g9 => (cond g9 (some true)
  ((cond (!a1.From) (some (!(zfw [(a0.From.Based == false), (a0.From.Pointer == 0), (a0.From.Offset == 0)]))) (some false)).bind fun g10 => some g10)).bind fun g11 =>
  (cond g11 (some true) ((cond (a1.zF == 0) (some (!(zfw [(a0.zF.Kind == 0), (a0.zF.Length == 0), (a0.zF.Scale == 0)]))) (some false)).bind fun g12 =>
  some g12)).bind fun g13 => (cond g13 (some true) ((cond (a1.Second == 0) (some (!(zfw [(a0.Second.Kind == 0), (a0.Second.Length == 0), (a0.Second.Scale == 0)])))
  (some false)).bind fun g14 => some g14)).bind fun g15 => (cond g15 (some true) ((cond (!a1.Half) (some a0.Half) (some false)).bind fun g16 => some g16)).bind fun g17 =>
  (cond g17 (some true) ((cond (a0.Op != 4) (some a0.zL) (some false)).bind fun g18 => some g18)).bind fun g19 => (cond g19 (some true) ((cond (!a1.Number)
  (some (!(zfw [(a0.Number.N == 0), (a0.Number.Scale == 0)]))) (some false)).bind fun g20 => some g20)).bind fun g21 => (cond g21 (some true) ((cond (!a1.Text)
  (some (!(a0.Text.toList == (⟨#[]⟩ : ByteArray).toList))) (some false)).bind fun g22 => some g22)).bind fun g23 => (cond g23 (some true) ((cond (!a1.Other)
  (some (!(a0.Other.toList == (⟨#[]⟩ : ByteArray).toList))) (some false)).bind fun g24 => some g24)).bind fun g25 => (cond g25 (some true) ((cond (!a1.Mask) (some (a0.Mask != 0))
  (some false)).bind fun g26 => some g26)).bind fun g27 => (cond g27 (some true) ((cond (!a1.Target) (some (a0.Target != 0)) (some false)).bind fun g28 => some g28)).bind fun g29 =>
  (cond g29 (some true) ((cond (!a1.Pointer) (some (a0.Pointer != 0)) (some false)).bind fun g30 => some g30)).bind fun g31 => (cond g31 (some true) ((cond (!a1.Source)
  (some (a0.Source != 0)) (some false)).bind fun g32 => some g32)).bind fun g33 => (cond g33 (some true) ((cond (!a0.Place.Based) (some (a0.Place.Pointer != 0))
  (some false)).bind fun g34 => some g34)).bind fun g35 => (cond g35 (some true) ((cond (!a0.From.Based) (some (a0.From.Pointer != 0)) (some false)).bind fun g36 =>
  some g36)).bind fun g37 => some g37
def zit.k : Kq := ⟨99, (cvv [Ty.bool] [Ty.zB, Ty.zM] zit), go [] {} [] Proofs.Tryz.func99⟩
def zin (a0 : zH) (a1 : zB) : Option Bool :=
 (cond (a1.Op == 7) (some (!a0.yC)) (some false)).bind fun g1 => (cond g1 (some true) ((cond a1.zL (some (!a0.zY)) (some false)).bind fun g2 =>
  some g2)).bind fun g3 => some g3
def zin.k : Kq := ⟨67, (cvv [Ty.bool] [Ty.zH, Ty.zB] zin), go [] {} [] Proofs.Tryz.func67⟩
def zcv (a0 : Int) : Option Bool :=
 (zg a0 1 3).bind fun r1 => some r1
def zcv.k : Kq := ⟨144, (cvv [Ty.bool] [T6] zcv), go [zg.k] {} [] Proofs.Tryz.func144⟩
def zbk (a0 : Bool) : Option Int :=
 cond a0 (some 1) (some 0)
def zbk.k : Kq := ⟨124, (cvv [T6] [Ty.bool] zbk), go [] {} [] Proofs.Tryz.func124⟩
def zg1 (a0 : DataType) : Option Int :=
 (zg a0.Kind 0 4).bind fun r1 => cond (!r1) (some 4) (cond (a0.Kind == 0) ((zg a0.Length 1 256).bind fun r2 => cond (!r2) (some 18)
  ((zcv a0.Kind).bind fun r3 => cond r3 ((zg a0.Scale 0 a0.Length).bind fun r4 => (zbk (!r4)).bind fun r5 => some (w6 (3 * r5)))
  ((zg a0.Scale 0 0).bind fun r6 => (zbk (!r6)).bind fun r7 => some (w6 (3 * r7))))) ((cond (a0.Kind == 1) (some (a0.Kind == 1))
  (some (a0.Kind == 2))).bind fun q8 => cond q8 ((zg a0.Length 1 15).bind fun r9 => cond (!r9) (some 18) ((zcv a0.Kind).bind fun r10 =>
  cond r10 ((zg a0.Scale 0 a0.Length).bind fun r11 => (zbk (!r11)).bind fun r12 => some (w6 (3 * r12))) ((zg a0.Scale 0 0).bind fun r13 =>
  (zbk (!r13)).bind fun r14 => some (w6 (3 * r14))))) (cond (a0.Kind == 3) ((cond (a0.Length == 4) (some true) (some (a0.Length == 9))).bind fun g15 =>
  cond (!g15) (some 18) ((zcv a0.Kind).bind fun r16 => cond r16 ((zg a0.Scale 0 a0.Length).bind fun r17 => (zbk (!r17)).bind fun r18 =>
  some (w6 (3 * r18))) ((zg a0.Scale 0 0).bind fun r19 => (zbk (!r19)).bind fun r20 => some (w6 (3 * r20))))) (cond (!(a0.Length == 0))
  (some 18) ((zcv a0.Kind).bind fun r21 => cond r21 ((zg a0.Scale 0 a0.Length).bind fun r22 => (zbk (!r22)).bind fun r23 =>
  some (w6 (3 * r23))) ((zg a0.Scale 0 0).bind fun r24 => (zbk (!r24)).bind fun r25 => some (w6 (3 * r25))))))))
def zg1.k : Kq := ⟨143, (cvv [T6] [Ty.DataType] zg1), go [zg.k, zbk.k, zcv.k] {bj := [19]} [] Proofs.Tryz.func143⟩
def zh3 (a0 : DataType) (a1 : Int) : Option Int :=
 cond (a1 == 0) (some 0) ((zg1 a0).bind fun r1 => cond (r1 != 0) (some r1) ((cond (a1 == 1) ((zcv a0.Kind).bind fun r2 => some (!r2))
  (some false)).bind fun g3 => (cond g3 (some true) ((cond (a1 == 2) (some (a0.Kind != 0)) (some false)).bind fun g4 => some g4)).bind fun g5 => (cond g5 (some true)
  ((cond (a1 == 3) (some (a0.Kind == 4)) (some false)).bind fun g6 => some g6)).bind fun g7 => cond g7 (some 17) (some 0)))
def zh3.k : Kq := ⟨100, (cvv [T6] [Ty.DataType, T6] zh3), go [zg1.k, zcv.k] {} [] Proofs.Tryz.func100⟩
def zfb (a0 : zH) (a1 : Int) : Option Bool :=
 (zg a1 0 (w6 (a0.Registers - 1))).bind fun r1 => some r1
def zfb.k : Kq := ⟨107, (cvv [Ty.bool] [Ty.zH, T6] zfb), go [zg.k] {} [] Proofs.Tryz.func107⟩
def zdm (a0 : zH) (a1 : zB) : Option Bool :=
 (zec a1).bind fun r1 => (cond (!r1.R) (some true) ((zfb a0 a1.R).bind fun r2 => some r2)).bind fun g3 => (cond g3 ((cond (!r1.A) (some true)
  ((zfb a0 a1.A).bind fun r4 => some r4)).bind fun g5 => some g5) (some false)).bind fun g6 => (cond g6 ((cond (!r1.B) (some true)
  ((zfb a0 a1.B).bind fun r7 => some r7)).bind fun g8 => some g8) (some false)).bind fun g9 => some g9
def zdm.k : Kq := ⟨68, (cvv [Ty.bool] [Ty.zH, Ty.zB] zdm), go [zec.k, zfb.k] {} [] Proofs.Tryz.func68⟩
def zel (a0 : Storage) (a1 : Int) : Option Bool :=
 (zg a1 0 (w6 ((a0.Bytes.size : Int) - 16))).bind fun r1 => (cond r1 (some ((a1.tmod 16) == 0)) (some false)).bind fun g2 => some g2
def zel.k : Kq := ⟨101, (cvv [Ty.bool] [Ty.Storage, T6] zel), go [zg.k] {} [] Proofs.Tryz.func101⟩
def zbe (a0 : DataType) : Option Int :=
 cond (a0.Kind == 1) (some (w6 ((w6 (a0.Length.tdiv 2)) + 1))) (cond (a0.Kind == 3) ((zbk (a0.Length == 9)).bind fun r1 =>
  some (w6 (2 + (w6 (2 * r1))))) (cond (a0.Kind == 4) (some 16) (some a0.Length)))
def zbe.k : Kq := ⟨103, (cvv [T6] [Ty.DataType] zbe), go [zbk.k] {} [] Proofs.Tryz.func103⟩
def zh4 (a0 : Storage) (a1 : Int) (a2 : Int) : Option Bool :=
 (zg a1 0 (a0.Bytes.size : Int)).bind fun r1 => (cond r1 ((zg a2 0 (w6 ((a0.Bytes.size : Int) - a1))).bind fun r2 => some r2)
  (some false)).bind fun g3 => some g3
def zh4.k : Kq := ⟨145, (cvv [Ty.bool] [Ty.Storage, T6, T6] zh4), go [zg.k] {lits := [10]} [] Proofs.Tryz.func145⟩
def zek (a0 : zG) (a1 : zO) (a2 : Int) : Option Bool :=
 cond a1.Based ((zel a0.Storage a1.Pointer).bind fun r1 => (cond r1 ((zg a1.Offset 0 256).bind fun r2 => some r2) (some false)).bind fun g3 => some g3)
  ((zh4 a0.Storage a1.Offset a2).bind fun r4 => some r4)
def zek.k : Kq := ⟨102, (cvv [Ty.bool] [Ty.zG, Ty.zO, T6] zek), go [zg.k, zel.k, zh4.k] {} [] Proofs.Tryz.func102⟩
def zcf (a0 : Number) : Option Int :=
 (zg a0.N (-999999999999999) 999999999999999).bind fun r1 => (cond r1 ((zg a0.Scale 0 15).bind fun r2 => some r2) (some false)).bind fun g3 =>
  (zbk (!g3)).bind fun r4 => some (w6 (3 * r4))
def zcf.k : Kq := ⟨84, (cvv [T6] [Ty.Number] zcf), go [zg.k, zbk.k] {} [] Proofs.Tryz.func84⟩
def zdl (a0 : zH) (a1 : zG) (a2 : zB) : Option Int :=
 (zg a2.Op 0 26).bind fun r1 => cond (!r1) (some 4) ((zec a2).bind fun r2 => (zit a2 r2).bind fun r3 => cond r3 (some 5)
  ((zin a0 a2).bind fun r4 => cond r4 (some 39) ((zh3 a2.zF r2.zF).bind fun r5 => cond (r5 != 0) (some r5)
  ((zh3 a2.Second r2.Second).bind fun r6 => cond (r6 != 0) (some r6) (cond (a2.Op == 4) (((zdm a0 a2).bind fun r7 => cond (!r7) (some (!r7))
  ((cond r2.Target ((zg a2.Target 0 (w6 ((a1.zD.length : Int) - 1))).bind fun r8 => some (!r8)) (some false)).bind fun g9 => cond g9 (some g9)
  ((cond r2.Mask ((zg a2.Mask 1 7).bind fun r10 => some (!r10)) (some false)).bind fun g11 => some g11))).bind fun q12 => cond q12 (some 3)
  (((cond r2.Pointer ((zel a1.Storage a2.Pointer).bind fun r13 => some (!r13)) (some false)).bind fun g14 => cond g14 (some g14)
  ((cond r2.Source ((zel a1.Storage a2.Source).bind fun r15 => some (!r15)) (some false)).bind fun g16 => some g16)).bind fun q17 => cond q17 (some 3)
  ((cond r2.Place ((zbe a2.Second).bind fun r18 => (zek a1 a2.Place r18).bind fun r19 => some (!r19)) (some false)).bind fun g20 => cond g20 (cond g20 (some 3)
  ((cond r2.zJ ((zg a2.zJ 0 4).bind fun r21 => some (!r21)) (some false)).bind fun g22 => cond g22 (some 3) ((zcf a2.Number).bind fun r23 =>
  (cond r2.Number (some (r23 != 0)) (some false)).bind fun g24 => cond g24 (some r23) ((cond (decide ((a2.Text.size : Int) > 256)) (some true)
  (some (decide ((a2.Other.size : Int) > 256)))).bind fun g25 => cond g25 (some 2) (some 0))))) ((cond r2.From ((zbe a2.Second).bind fun r26 =>
  (zek a1 a2.From r26).bind fun r27 => some (!r27)) (some false)).bind fun g28 => cond g28 (some 3) ((cond r2.zJ ((zg a2.zJ 0 4).bind fun r29 =>
  some (!r29)) (some false)).bind fun g30 => cond g30 (some 3) ((zcf a2.Number).bind fun r31 => (cond r2.Number (some (r31 != 0)) (some false)).bind fun g32 =>
  cond g32 (some r31) ((cond (decide ((a2.Text.size : Int) > 256)) (some true) (some (decide ((a2.Other.size : Int) > 256)))).bind fun g33 => cond g33 (some 2) (some 0))))))))
  (((zdm a0 a2).bind fun r34 => cond (!r34) (some (!r34))
  ((cond r2.Target ((zg a2.Target 0 (w6 ((a1.zD.length : Int) - 1))).bind fun r35 => some (!r35)) (some false)).bind fun g36 => cond g36 (some g36)
  ((cond r2.Mask ((zg a2.Mask 1 7).bind fun r37 => some (!r37)) (some false)).bind fun g38 => some g38))).bind fun q39 => cond q39 (some 3)
  (((cond r2.Pointer ((zel a1.Storage a2.Pointer).bind fun r40 => some (!r40)) (some false)).bind fun g41 => cond g41 (some g41)
  ((cond r2.Source ((zel a1.Storage a2.Source).bind fun r42 => some (!r42)) (some false)).bind fun g43 => some g43)).bind fun q44 => cond q44 (some 3)
  ((cond r2.Place ((zbe a2.zF).bind fun r45 => (zek a1 a2.Place r45).bind fun r46 => some (!r46)) (some false)).bind fun g47 => cond g47 (cond g47 (some 3)
  ((cond r2.zJ ((zg a2.zJ 0 4).bind fun r48 => some (!r48)) (some false)).bind fun g49 => cond g49 (some 3) ((zcf a2.Number).bind fun r50 =>
  (cond r2.Number (some (r50 != 0)) (some false)).bind fun g51 => cond g51 (some r50) ((cond (decide ((a2.Text.size : Int) > 256)) (some true)
  (some (decide ((a2.Other.size : Int) > 256)))).bind fun g52 => cond g52 (some 2) (some 0))))) ((cond r2.From ((zbe a2.Second).bind fun r53 =>
  (zek a1 a2.From r53).bind fun r54 => some (!r54)) (some false)).bind fun g55 => cond g55 (some 3) ((cond r2.zJ ((zg a2.zJ 0 4).bind fun r56 =>
  some (!r56)) (some false)).bind fun g57 => cond g57 (some 3) ((zcf a2.Number).bind fun r58 => (cond r2.Number (some (r58 != 0)) (some false)).bind fun g59 =>
  cond g59 (some r58) ((cond (decide ((a2.Text.size : Int) > 256)) (some true) (some (decide ((a2.Other.size : Int) > 256)))).bind fun g60 => cond g60 (some 2) (some 0)))))))))))))
def zdl.k : Kq := ⟨56, (cvv [T6] [Ty.zH, Ty.zG, Ty.zB] zdl), go [zg.k, zin.k, zdm.k, zcf.k, zec.k, zit.k, zh3.k, zel.k, zek.k, zbe.k] {lits := [101, 113], bj := [47, 72]} [] Proofs.Tryz.func56⟩
def zn.b1 (N : Nat) (s8 : Int) (b2 : zH) (b3 : zG) : Option (Round (Int × Int) (Int × zH × zG)) :=
 cond (decide (s8 < (b3.zD.length : Int))) ((idx b3.zD s8).bind fun x2001 => (zdl b2 b3 x2001).bind fun r2002 => cond (r2002 != 0)
  (some (.result (s8, r2002))) (some (.again ((w6 (s8 + 1)), b2, b3)))) (some (.leave (s8, b2, b3)))
def zn.r1 (N : Nat) (x : Int × zH × zG) := zn.b1 N x.1 x.2.1 x.2.2
def zn.b3 (N : Nat) (s10 : Int) (b3 : zG) : Option (Round (Int × Int) (Int × zG)) :=
 cond (decide (s10 < (b3.zN.length : Int))) ((idx b3.zN s10).bind fun x4001 => (cond (decide (x4001.From < 0)) (some true)
  (some (decide (x4001.From > x4001.To)))).bind fun g4002 => (cond g4002 (some true) (some (decide (x4001.To > (b3.zD.length : Int))))).bind fun g4003 =>
  (cond g4003 (some true) ((zg x4001.Exception 0 999).bind fun r4004 => some (!r4004))).bind fun g4005 => (cond g4005 (some true)
  ((zg x4001.Handler 0 (w6 ((b3.zD.length : Int) - 1))).bind fun r4006 => some (!r4006))).bind fun g4007 => cond g4007 (some (.result (s10, 3)))
  (some (.again ((w6 (s10 + 1)), b3)))) (some (.leave (s10, b3)))
def zn.r3 (N : Nat) (x : Int × zG) := zn.b3 N x.1 x.2
def zn (N : Nat) (a0 : zH) (a1 : zG) : Option (Int × Int) :=
 (zfn a0).bind fun r1 => cond (r1 != 0) (some (0, r1)) ((zkm N a1.Storage).bind fun r2 => cond (r2 != 0) (some (0, r2))
  ((zbq N a1.Storage).bind fun r3 => cond (decide ((r3.length : Int) > 0)) (some (0, 22)) (cond ((a1.zD.length : Int) == 0) (some (0, 1))
  ((cond (decide ((a1.zD.length : Int) > 240)) (some true) (some (decide ((a1.zN.length : Int) > 40)))).bind fun g4 => cond g4 (some (0, 2))
  ((zt (zn.r1 N) N (0, a0, a1)).bind fun z6 => zb2 z6 (fun z => some z) (fun y5 => (zt (zn.r3 N) N (0, y5.2.2)).bind fun z8 => zb2 z8 (fun z =>
  some z) (fun y7 => some ((y7.2.zD.length : Int), 0))))))))
def zn.k (N : Nat) : Kq := ⟨16, (cvv [T6, T6] [Ty.zH, Ty.zG] (zn N)), go [zfn.k, zkm.k N, zbq.k N, zdl.k, zg.k] {lits := [26]} [(1, .rets { slots := [(2, .ptr 2 0), (3, .ptr 3 0), (8, .val T6)], boxes := [(2, Ty.zH, []), (3, Ty.zG, [])] } [T6, Ty.zH, Ty.zG] (zt (zn.r1 N) N)), (3, .rets { slots := [(3, .ptr 3 0), (10, .val T6)], boxes := [(3, Ty.zG, [])] } [T6, Ty.zG] (zt (zn.r3 N) N))] Proofs.Tryz.func16 (hL := ⟨⟨_, _, rfl, by kernel_rfl⟩, ⟨_, _, rfl, by kernel_rfl⟩, trivial⟩)⟩
def zg0 (N : Nat) (a0 : zH) (a1 : zG) : Option Int :=
 (zn N a0 a1).bind fun r1 => some r1.2
def zg0.k (N : Nat) : Kq := ⟨20, (cvv [T6] [Ty.zH, Ty.zG] (zg0 N)), go [zn.k N] {} [] Proofs.Tryz.func20⟩
def zi0 (a0 : List Bool) : Option ((List Bool)) :=
 cond (Nat.ble (a0.length * 1) zac) (some a0) none
def zi0.k : Kq := ⟨96, (ctv [.val (Ty.sl Ty.bool)] [(Ty.sl Ty.bool)] [] [0] [(Ty.sl Ty.bool)] zi0), go [] {} [] Proofs.Tryz.func96⟩
def zd6 (a0 : Storage) : Option Storage :=
 (zi0 a0.Tags).bind fun r1 => some (⟨a0.Bytes, r1⟩ : Storage)
def zd6.k : Kq := ⟨53, (ctv [.val Ty.Storage] [Ty.Storage] [] [1] [Ty.Storage] zd6), go [zi0.k] {} [] Proofs.Tryz.func53⟩
def zdg (a0 : zG) : Option zG :=
 (zd6 a0.Storage).bind fun r1 => cond (Nat.ble (a0.zD.length * 224) zac) (cond (Nat.ble (a0.zN.length * 32) zac)
  (some (⟨r1, a0.zD, a0.zN⟩ : zG)) none) none
def zdg.k : Kq := ⟨15, (cvv [Ty.zG] [Ty.zG] zdg), go [zd6.k] {} [] Proofs.Tryz.func15⟩
def zgi (a0 : Int) (a1 : zH) : Option Bool :=
 some (decide (a0 ≥ a1.Registers))
def zgi.k : Kq := ⟨66, (ctv [.val T6, .ptr Ty.zH false []] [Ty.bool] [] [] [T6, Ty.zH] zgi), go [] {ro := [1000000], pk := [1000000]} [] Proofs.Tryz.func66⟩
def zai.b0 (N : Nat) (s0 : List Int) (s7 : Int) (s8 : Int) (b1000000 : zH) : Option (Round Int ((List Int) × Int × Int × zH)) :=
 cond (decide (s8 < s7)) ((idx s0 s8).bind fun x1001 => (zgi x1001 b1000000).bind fun r1002 => cond r1002 (some (.result s8))
  (some (.again (s0, s7, (w6 (s8 + 1)), b1000000)))) (some (.leave (s0, s7, s8, b1000000)))
def zai.r0 (N : Nat) (x : (List Int) × Int × Int × zH) := zai.b0 N x.1 x.2.1 x.2.2.1 x.2.2.2
def zai (N : Nat) (a0 : List Int) (a1 : zH) : Option Int :=
 (zt (zai.r0 N) N (a0, (a0.length : Int), 0, a1)).bind fun z2 => zb2 z2 (fun z => some z) (fun y1 => some (-1))
def zai.k (N : Nat) : Kq := ⟨106, (ctv [.val (Ty.sl T6), .clo 66 1, .ptr Ty.zH false []] [T6] [] [] [(Ty.sl T6), Ty.zH] (zai N)), go [zgi.k] {ro := [1000000], pk := [1000000]} [(0, .rets { slots := [(0, .val (Ty.sl T6)), (1, .fn 66 [1000000]), (7, .val T6), (8, .val T6)], boxes := [(1000000, Ty.zH, [])] } [(Ty.sl T6), T6, T6, Ty.zH] (zt (zai.r0 N) N))] Proofs.Tryz.func106 (hL := ⟨⟨_, _, rfl, by kernel_rfl⟩, trivial⟩)⟩
def zc6 (N : Nat) (a0 : List Int) (a1 : zH) : Option Bool :=
 (zai N a0 a1).bind fun r1 => some (decide (r1 ≥ 0))
def zc6.k (N : Nat) : Kq := ⟨64, (ctv [.val (Ty.sl T6), .clo 66 1, .ptr Ty.zH false []] [Ty.bool] [] [] [(Ty.sl T6), Ty.zH] (zc6 N)), go [zai.k N] {ro := [1000000], pk := [1000000]} [] Proofs.Tryz.func64⟩
def zgj (N : Nat) (a0 : zB) (a1 : zH) : Option Bool :=
 (zf6 a1 a0).bind fun r1 => (cond (!r1) (some true) ((zq N a0).bind fun r2 => (zc6 N r2 a1).bind fun r3 => some r3)).bind fun g4 =>
  some g4
def zgj.k (N : Nat) : Kq := ⟨62, (ctv [.val Ty.zB, .ptr Ty.zH false []] [Ty.bool] [] [] [Ty.zB, Ty.zH] (zgj N)), go [zf6.k, zc6.k N, zq.k N] {lits := [10], ro := [1000000], pk := [1000000]} [] Proofs.Tryz.func62⟩
def zj.b0 (N : Nat) (s0 : List zB) (s7 : Int) (s8 : Int) (b1000000 : zH) : Option (Round Int ((List zB) × Int × Int × zH)) :=
 cond (decide (s8 < s7)) ((idx s0 s8).bind fun x1001 => (zgj N x1001 b1000000).bind fun r1002 => cond r1002 (some (.result s8))
  (some (.again (s0, s7, (w6 (s8 + 1)), b1000000)))) (some (.leave (s0, s7, s8, b1000000)))
def zj.r0 (N : Nat) (x : (List zB) × Int × Int × zH) := zj.b0 N x.1 x.2.1 x.2.2.1 x.2.2.2
def zj (N : Nat) (a0 : List zB) (a1 : zH) : Option Int :=
 (zt (zj.r0 N) N (a0, (a0.length : Int), 0, a1)).bind fun z2 => zb2 z2 (fun z => some z) (fun y1 => some (-1))
def zj.k (N : Nat) : Kq := ⟨61, (ctv [.val (Ty.sl Ty.zB), .clo 62 1, .ptr Ty.zH false []] [T6] [] [] [(Ty.sl Ty.zB), Ty.zH] (zj N)), go [zgj.k N] {ro := [1000000], pk := [1000000]} [(0, .rets { slots := [(0, .val (Ty.sl Ty.zB)), (1, .fn 62 [1000000]), (7, .val T6), (8, .val T6)], boxes := [(1000000, Ty.zH, [])] } [(Ty.sl Ty.zB), T6, T6, Ty.zH] (zt (zj.r0 N) N))] Proofs.Tryz.func61 (hL := ⟨⟨_, _, rfl, by kernel_rfl⟩, trivial⟩)⟩
def zh2 (N : Nat) (a0 : zH) (a1 : zG) : Option (Bool × Int × Int) :=
 (zc5 a0).bind fun r1 => (zci N (⟨8, true, true⟩ : zH) a1).bind fun r2 => (z7 N ([r1, r2] : List Int)).bind fun r3 => cond (r3 != 0)
  (some (false, 0, r3)) ((zj N a1.zD a0).bind fun r4 => cond (decide (r4 < 0)) (some (true, (a1.zD.length : Int), 0))
  (some (false, r4, 0)))
def zh2.k (N : Nat) : Kq := ⟨23, (cvv [Ty.bool, T6, T6] [Ty.zH, Ty.zG] (zh2 N)), go [zc5.k, z7.k N, zci.k N, zj.k N] {lits := [12, 15, 16]} [] Proofs.Tryz.func23⟩
def zd1.b0 (N : Nat) (s0 : List Bool) (s1 : List Bool) (s5 : Int) : Option (Round Bool ((List Bool) × (List Bool) × Int)) :=
 cond (decide (s5 < (s0.length : Int))) ((idx s0 s5).bind fun x1001 => (idx s1 s5).bind fun x1002 => cond (!(x1001 == x1002)) (some (.result false))
  (some (.again (s0, s1, (w6 (s5 + 1)))))) (some (.leave (s0, s1, s5)))
def zd1.r0 (N : Nat) (x : (List Bool) × (List Bool) × Int) := zd1.b0 N x.1 x.2.1 x.2.2
def zd1 (N : Nat) (a0 : List Bool) (a1 : List Bool) : Option Bool :=
 cond ((a0.length : Int) != (a1.length : Int)) (some false) ((zt (zd1.r0 N) N (a0, a1, 0)).bind fun z2 => zb2 z2 (fun z => some z) (fun y1 => some true))
def zd1.k (N : Nat) : Kq := ⟨88, (cvv [Ty.bool] [(Ty.sl Ty.bool), (Ty.sl Ty.bool)] (zd1 N)), go [] {} [(0, .rets { slots := [(0, .val (Ty.sl Ty.bool)), (1, .val (Ty.sl Ty.bool)), (5, .val T6)], boxes := [] } [(Ty.sl Ty.bool), (Ty.sl Ty.bool), T6] (zt (zd1.r0 N) N))] Proofs.Tryz.func88 (hL := ⟨⟨_, _, rfl, by kernel_rfl⟩, trivial⟩)⟩
def zfi (N : Nat) (a0 : Storage) (a1 : Storage) : Option Bool :=
 (cond (a0.Bytes.toList == a1.Bytes.toList) ((zd1 N a0.Tags a1.Tags).bind fun r1 => some r1) (some false)).bind fun g2 => some g2
def zfi.k (N : Nat) : Kq := ⟨43, (cvv [Ty.bool] [Ty.Storage, Ty.Storage] (zfi N)), go [zd1.k N] {} [] Proofs.Tryz.func43⟩
def zfc (N : Nat) (a0 : zR) (a1 : zR) : Option Bool :=
 (zbs N a0.Lines a1.Lines).bind fun r1 => (cond r1 (some (a0.Status == a1.Status)) (some false)).bind fun g2 => (cond g2 (some (a0.Exception == a1.Exception))
  (some false)).bind fun g3 => (cond g3 (some (a0.Marks == a1.Marks)) (some false)).bind fun g4 => (cond g4 (some (a0.Steps == a1.Steps)) (some false)).bind fun g5 =>
  (cond g5 ((zfi N a0.Storage a1.Storage).bind fun r6 => some r6) (some false)).bind fun g7 => some g7
def zfc.k (N : Nat) : Kq := ⟨21, (cvv [Ty.bool] [Ty.zR, Ty.zR] (zfc N)), go [zfi.k N, zbs.k N] {} [] Proofs.Tryz.func21⟩
def zfp (N : Nat) (a0 : zH) (a1 : zH) (a2 : zG) : Option Bool :=
 (zj1 N).bind fun r1 => cond (!r1) (some false) ((zdy N a2).bind fun r2 => (cond (!r2) (some true) ((zg0 N a0 a2).bind fun r3 =>
  some (r3 != 0))).bind fun g4 => (cond g4 (some true) ((zfn a1).bind fun r5 => some (r5 != 0))).bind fun g6 => (cond g6 (some true)
  (some (decide (a1.Registers < a0.Registers)))).bind fun g7 => (cond g7 (some true) ((cond a0.yC (some (!a1.yC)) (some false)).bind fun g8 => some g8)).bind fun g9 =>
  (cond g9 (some true) ((cond a0.zY (some (!a1.zY)) (some false)).bind fun g10 => some g10)).bind fun g11 => cond g11 (some true) ((zdg a2).bind fun r12 =>
  (zh2 N a1 r12).bind fun r13 => (zdg a2).bind fun r14 => (zb5 N a0 r14).bind fun r15 => (zdg a2).bind fun r16 =>
  (zb5 N a1 r16).bind fun r17 => (cond (r13.2.2 == 0) (some r13.1) (some false)).bind fun g18 => (cond g18 (some (r13.2.1 == (a2.zD.length : Int)))
  (some false)).bind fun g19 => (cond g19 (some (r15.2 == 0)) (some false)).bind fun g20 => (cond g20 (some (r17.2 == 0)) (some false)).bind fun g21 =>
  (cond g21 ((zfc N r15.1 r17.1).bind fun r22 => some r22) (some false)).bind fun g23 => some g23))
def zfp.k (N : Nat) : Kq := ⟨6, (cvv [Ty.bool] [Ty.zH, Ty.zH, Ty.zG] (zfp N)), go [zj1.k N, zdy.k N, zdg.k, zfn.k, zb5.k N, zg0.k N, zfc.k N, zh2.k N] {lits := [58, 66, 73]} [] Proofs.Tryz.func6⟩
end
end Go.Proofs.YtppbpnknfigboaaGreatDoor.M
