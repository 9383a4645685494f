/- What the program's functions compute, each tied to its code: part 1. -/
import Derived.Test.YtppbpnknfigboaaGreatDoorF0
namespace Go.Proofs.YtppbpnknfigboaaGreatDoor.M
open Go Go.Amx
set_option linter.unusedVariables false
set_option maxRecDepth 100000
noncomputable section
def ze6 (a0 : zC) : Option (Int × zC) :=
 cond (decide ((w6 ((a0.zA.Stack.length : Int) - 1)) < 0))
  (some (a0.zA.At, (⟨(⟨a0.zA.Registers, a0.zA.Condition, a0.zA.Storage, a0.zA.At, a0.zA.Stack, a0.zA.Lines, 1, a0.zA.Exception, a0.zA.Marks, a0.zA.Steps⟩ : zA), a0.code, a0.raised⟩ : zC)))
  ((idx a0.zA.Stack (w6 ((a0.zA.Stack.length : Int) - 1))).bind fun x1 =>
  if 0 ≤ (w6 ((a0.zA.Stack.length : Int) - 1)) ∧ (w6 ((a0.zA.Stack.length : Int) - 1)) ≤ (a0.zA.Stack.length : Int) then (if 0 ≤ (0 : Int) ∧ (0 : Int) ≤ (w6 ((a0.zA.Stack.length : Int) - 1)) then ((zdi 8 ((a0.zA.Stack.take (w6 ((a0.zA.Stack.length : Int) - 1)).toNat).drop (0 : Int).toNat)).bind fun r2 =>
  some ((w6 (x1 + 1)), (⟨(⟨a0.zA.Registers, a0.zA.Condition, a0.zA.Storage, a0.zA.At, r2, a0.zA.Lines, a0.zA.Status, a0.zA.Exception, a0.zA.Marks, a0.zA.Steps⟩ : zA), a0.code, a0.raised⟩ : zC))) else none) else none)
def ze6.k : Kq := ⟨224, (ctv [.ptr Ty.zC true []] [T6] [Ty.zC] [] [Ty.zC] ze6), go [zus.k] {pk := [1000000]} [] Proofs.Tryz.func224⟩
def zh3 (N : Nat) (a0 : zC) (a1 : zB) : Option (Int × zC) :=
 cond (a1.Op == 8) (some (a1.Target, a0)) (cond (a1.Op == 18) ((ze5 a0 a1.Target).bind fun r1 => some (r1.1, r1.2)) (cond (a1.Op == 19)
  ((ze6 a0).bind fun r2 => some (r2.1, r2.2)) (cond (a1.Op == 6) (cond ((zh .i64 a0.zA.Condition a1.Mask) != 0) (some (a1.Target, a0))
  (some ((w6 (a0.zA.At + 1)), a0))) (cond (a1.Op == 7) ((zav N a0 a1).bind fun r3 => cond ((zh .i64 r3 a1.Mask) != 0)
  (some (a1.Target, a0)) (some ((w6 (a0.zA.At + 1)), a0))) (some ((w6 (a0.zA.At + 1)), a0))))))
def zh3.k (N : Nat) : Kq := ⟨158, (ctv [.ptr Ty.zC true [], .val Ty.zB] [T6] [Ty.zC] [] [Ty.zC, Ty.zB] (zh3 N)), go [zav.k N, ze5.k, ze6.k] {pk := [1000000]} [] Proofs.Tryz.func158⟩
def zd (N : Nat) (a0 : zC) (a1 : zB) : Option (Int × zC) :=
 cond (a1.Op == 0) ((zbj N a0 a1.Place a1.zG).bind fun r1 => cond r1.2.1 ((zab r1.2.2 a1.R r1.1).bind fun r2 =>
  some ((w6 (r2.zA.At + 1)), r2)) (some ((w6 (r1.2.2.zA.At + 1)), r1.2.2))) (cond (a1.Op == 1)
  ((zex N a0 a1).bind fun r3 => some ((w6 (r3.zA.At + 1)), r3)) (cond (a1.Op == 2) ((zab a0 a1.R a1.Number).bind fun r4 =>
  some ((w6 (r4.zA.At + 1)), r4)) (cond (a1.Op == 3) ((idx a0.zA.Registers a1.A).bind fun x5 => (zab a0 a1.R x5).bind fun r6 =>
  some ((w6 (r6.zA.At + 1)), r6)) (cond (a1.Op == 4) ((zgg N a0 a1).bind fun r7 => some ((w6 (r7.zA.At + 1)), r7))
  (cond (a1.Op == 5) ((zav N a0 a1).bind fun r8 =>
  some ((w6 (a0.zA.At + 1)), (⟨(⟨a0.zA.Registers, r8, a0.zA.Storage, a0.zA.At, a0.zA.Stack, a0.zA.Lines, a0.zA.Status, a0.zA.Exception, a0.zA.Marks, a0.zA.Steps⟩ : zA), a0.code, a0.raised⟩ : zC)))
  ((cond (a1.Op == 9) (some (a1.Op == 9)) (some (a1.Op == 10))).bind fun q9 => cond q9 ((zgf N a0 a1).bind fun r10 =>
  some ((w6 (r10.zA.At + 1)), r10)) ((cond (a1.Op == 11) (some (a1.Op == 11)) (some (a1.Op == 12))).bind fun q11 =>
  cond q11 ((ze7 N a0 a1).bind fun r12 => some ((w6 (r12.zA.At + 1)), r12)) (cond (a1.Op == 13)
  ((zcn a1.Text a1.Other).bind fun r13 =>
  some ((w6 (a0.zA.At + 1)), (⟨(⟨a0.zA.Registers, r13, a0.zA.Storage, a0.zA.At, a0.zA.Stack, a0.zA.Lines, a0.zA.Status, a0.zA.Exception, a0.zA.Marks, a0.zA.Steps⟩ : zA), a0.code, a0.raised⟩ : zC)))
  ((cond (a1.Op == 14) (some (a1.Op == 14)) (cond (a1.Op == 15) (some (a1.Op == 15)) (cond (a1.Op == 16) (some (a1.Op == 16)) (some (a1.Op == 17))))).bind fun q14 =>
  cond q14 ((zgp N a0 a1).bind fun r15 => some ((w6 (r15.zA.At + 1)), r15)) (cond (a1.Op == 20)
  ((zef N a0 a1).bind fun r16 => some ((w6 (r16.zA.At + 1)), r16)) (cond (a1.Op == 21)
  ((zab a0 a1.R (⟨a0.zA.Exception, 0⟩ : Number)).bind fun r17 => some ((w6 (r17.zA.At + 1)), r17)) ((cond (a1.Op == 22)
  (some (a1.Op == 22)) (cond (a1.Op == 23) (some (a1.Op == 23)) (some (a1.Op == 24)))).bind fun q18 => cond q18 ((zhs N a0 a1).bind fun r19 =>
  some ((w6 (r19.zA.At + 1)), r19)) (cond (a1.Op == 25) ((ze4 a0).bind fun r20 => some ((w6 (r20.zA.At + 1)), r20))
  (cond (a1.Op == 26)
  (some ((w6 (a0.zA.At + 1)), (⟨(⟨a0.zA.Registers, a0.zA.Condition, a0.zA.Storage, a0.zA.At, a0.zA.Stack, a0.zA.Lines, 1, a0.zA.Exception, a0.zA.Marks, a0.zA.Steps⟩ : zA), a0.code, a0.raised⟩ : zC)))
  ((zh3 N a0 a1).bind fun r21 => some (r21.1, r21.2))))))))))))))))
def zd.k (N : Nat) : Kq := ⟨104, (ctv [.ptr Ty.zC true [], .val Ty.zB] [T6] [Ty.zC] [] [Ty.zC, Ty.zB] (zd N)), go [zbj.k N, zab.k, zex.k N, zgg.k N, zav.k N, zgf.k N, ze7.k N, zcn.k, zgp.k N, zef.k N, zhs.k N, ze4.k, zh3.k N] {pk := [1000000], bj := [71, 77, 94, 119]} [] Proofs.Tryz.func104⟩
def zfz (a0 : zT) (a1 : Int) (a2 : Int) : Option Bool :=
 (z9 a1 a0.From (w6 (a0.To - 1))).bind fun r1 => (cond r1 ((cond (a0.Exception == 0) (some true) (some (a0.Exception == a2))).bind fun g2 => some g2)
  (some false)).bind fun g3 => some g3
def zfz.k : Kq := ⟨226, (ctv [.val Ty.zT, .ptr T6 false [], .ptr T6 false []] [Ty.bool] [] [] [Ty.zT, T6, T6] zfz), go [z9.k] {ro := [1000000, 1000001], pk := [1000000, 1000001]} [] Proofs.Tryz.func226⟩
def zm.b0 (N : Nat) (s0 : List zT) (s7 : Int) (s8 : Int) (b1000000 : Int) (b1000001 : Int) : Option (Round Int ((List zT) × Int × Int × Int × Int)) :=
 cond (decide (s8 < s7)) ((idx s0 s8).bind fun x1001 => (zfz x1001 b1000000 b1000001).bind fun r1002 => cond r1002 (some (.result s8))
  (some (.again (s0, s7, (w6 (s8 + 1)), b1000000, b1000001)))) (some (.leave (s0, s7, s8, b1000000, b1000001)))
def zm.r0 (N : Nat) (x : (List zT) × Int × Int × Int × Int) := zm.b0 N x.1 x.2.1 x.2.2.1 x.2.2.2.1 x.2.2.2.2
def zm (N : Nat) (a0 : List zT) (a1 : Int) (a2 : Int) : Option Int :=
 (zn (zm.r0 N) N (a0, (a0.length : Int), 0, a1, a2)).bind fun z2 => zb3 z2 (fun z => some z) (fun y1 => some (-1))
def zm.k (N : Nat) : Kq := ⟨225, (ctv [.val (Ty.sl Ty.zT), .clo 226 2, .ptr T6 false [], .ptr T6 false []] [T6] [] [] [(Ty.sl Ty.zT), T6, T6] (zm N)), go [zfz.k] {ro := [1000000, 1000001], pk := [1000000, 1000001]} [(0, .rets { slots := [(0, .val (Ty.sl Ty.zT)), (1, .fn 226 [1000000, 1000001]), (7, .val T6), (8, .val T6)], boxes := [(1000000, T6, []), (1000001, T6, [])] } [(Ty.sl Ty.zT), T6, T6, T6, T6] (zn (zm.r0 N) N))] Proofs.Tryz.func225 (hL := ⟨⟨_, _, rfl, by kernel_rfl⟩, trivial⟩)⟩
def zhm (N : Nat) (a0 : zF) (a1 : Int) (a2 : Int) : Option Int :=
 (zm N a0.zN a1 a2).bind fun r1 => cond (decide (r1 < 0)) (some (-1)) ((idx a0.zN r1).bind fun x2 => some x2.Handler)
def zhm.k (N : Nat) : Kq := ⟨159, (cvv [T6] [Ty.zF, T6, T6] (zhm N)), go [zm.k N] {} [] Proofs.Tryz.func159⟩
def zas.b0 (N : Nat) (b1000000 : zC) : Option (Round zC zC) :=
 (zhm N b1000000.code b1000000.zA.At b1000000.raised).bind fun r1001 => cond (decide (r1001 ≥ 0))
  (some (.result (⟨(⟨b1000000.zA.Registers, b1000000.zA.Condition, b1000000.zA.Storage, r1001, b1000000.zA.Stack, b1000000.zA.Lines, b1000000.zA.Status, b1000000.zA.Exception, b1000000.zA.Marks, b1000000.zA.Steps⟩ : zA), b1000000.code, b1000000.raised⟩ : zC)))
  (cond (decide ((w6 ((b1000000.zA.Stack.length : Int) - 1)) < 0))
  (some (.result (⟨(⟨b1000000.zA.Registers, b1000000.zA.Condition, b1000000.zA.Storage, b1000000.zA.At, b1000000.zA.Stack, b1000000.zA.Lines, 2, b1000000.zA.Exception, b1000000.zA.Marks, b1000000.zA.Steps⟩ : zA), b1000000.code, b1000000.raised⟩ : zC)))
  ((idx b1000000.zA.Stack (w6 ((b1000000.zA.Stack.length : Int) - 1))).bind fun x1002 =>
  if 0 ≤ (w6 ((b1000000.zA.Stack.length : Int) - 1)) ∧ (w6 ((b1000000.zA.Stack.length : Int) - 1)) ≤ (b1000000.zA.Stack.length : Int) then (if 0 ≤ (0 : Int) ∧ (0 : Int) ≤ (w6 ((b1000000.zA.Stack.length : Int) - 1)) then ((zdi 8 ((b1000000.zA.Stack.take (w6 ((b1000000.zA.Stack.length : Int) - 1)).toNat).drop (0 : Int).toNat)).bind fun r1003 =>
  some (.again (⟨(⟨b1000000.zA.Registers, b1000000.zA.Condition, b1000000.zA.Storage, x1002, r1003, b1000000.zA.Lines, b1000000.zA.Status, b1000000.zA.Exception, b1000000.zA.Marks, b1000000.zA.Steps⟩ : zA), b1000000.code, b1000000.raised⟩ : zC))) else none) else none))
def zas.r0 (N : Nat) (x : zC) := zas.b0 N x
def zas (N : Nat) (a0 : zC) : Option zC :=
 (zn (zas.r0 N) N (⟨(⟨a0.zA.Registers, a0.zA.Condition, a0.zA.Storage, a0.zA.At, a0.zA.Stack, a0.zA.Lines, a0.zA.Status, a0.raised, a0.zA.Marks, a0.zA.Steps⟩ : zA), a0.code, a0.raised⟩ : zC)).bind fun z2 =>
  zb3 z2 (fun z => some z) (fun y1 => some y1)
def zas.k (N : Nat) : Kq := ⟨105, (ctv [.ptr Ty.zC true []] [] [Ty.zC] [] [Ty.zC] (zas N)), go [zhm.k N, zus.k] {pk := [1000000]} [(0, .rets { slots := [(0, .ptr 1000000 0)], boxes := [(1000000, Ty.zC, [])] } [Ty.zC] (zn (zas.r0 N) N))] Proofs.Tryz.func105 (hL := ⟨⟨_, _, rfl, by kernel_rfl⟩, trivial⟩)⟩
def zge (N : Nat) (a0 : zF) (a1 : zA) : Option zA :=
 (idx a0.zD a1.At).bind fun x1 =>
  (zd N (⟨{ a1 with Steps := (w6 (a1.Steps + 1)) }, a0, 0⟩ : zC) x1).bind fun r2 =>
  cond (r2.2.raised != 0) ((zas N r2.2).bind fun r3 => (cond (r3.zA.Status == 0) (some (r3.zA.Steps == 3000)) (some false)).bind fun g4 =>
  cond g4 (some (⟨r3.zA.Registers, r3.zA.Condition, r3.zA.Storage, r3.zA.At, r3.zA.Stack, r3.zA.Lines, 3, r3.zA.Exception, r3.zA.Marks, r3.zA.Steps⟩ : zA))
  (some r3.zA)) (cond (r2.2.zA.Status != 0) ((cond (r2.2.zA.Status == 0) (some (r2.2.zA.Steps == 3000)) (some false)).bind fun g5 =>
  cond g5 (some (⟨r2.2.zA.Registers, r2.2.zA.Condition, r2.2.zA.Storage, r2.2.zA.At, r2.2.zA.Stack, r2.2.zA.Lines, 3, r2.2.zA.Exception, r2.2.zA.Marks, r2.2.zA.Steps⟩ : zA))
  (some r2.2.zA)) (cond (r2.1 == (a0.zD.length : Int))
  (some (⟨r2.2.zA.Registers, r2.2.zA.Condition, r2.2.zA.Storage, r2.2.zA.At, r2.2.zA.Stack, r2.2.zA.Lines, 1, r2.2.zA.Exception, r2.2.zA.Marks, r2.2.zA.Steps⟩ : zA))
  ((cond (r2.2.zA.Status == 0) (some (r2.2.zA.Steps == 3000)) (some false)).bind fun g6 =>
  cond g6 (some (⟨r2.2.zA.Registers, r2.2.zA.Condition, r2.2.zA.Storage, r2.1, r2.2.zA.Stack, r2.2.zA.Lines, 3, r2.2.zA.Exception, r2.2.zA.Marks, r2.2.zA.Steps⟩ : zA))
  (some (⟨r2.2.zA.Registers, r2.2.zA.Condition, r2.2.zA.Storage, r2.1, r2.2.zA.Stack, r2.2.zA.Lines, r2.2.zA.Status, r2.2.zA.Exception, r2.2.zA.Marks, r2.2.zA.Steps⟩ : zA)))))
def zge.k (N : Nat) : Kq := ⟨59, (cvv [Ty.zA] [Ty.zF, Ty.zA] (zge N)), go [zd.k N, zas.k N] {} [] Proofs.Tryz.func59⟩
def zcq.b0 (N : Nat) (b3 : zF) (b4 : zR) (b6 : zA) : Option (Stp (zF × zR × zA)) :=
 cond (b6.Status == 0) ((zge N b3 b6).bind fun r1001 => some (.again (b3, b4, r1001))) (some (.leave (b3, b4, b6)))
def zcq.r0 (N : Nat) (x : zF × zR × zA) := zcq.b0 N x.1 x.2.1 x.2.2
def zcq (N : Nat) (a0 : zI) (a1 : zF) : Option (zR × Int) :=
 (zgn N a0 a1).bind fun r1 => cond (r1.2 != 0) (some ((⟨[], 0, 0, 0, 0, (⟨(⟨#[]⟩ : ByteArray), []⟩ : Storage)⟩ : zR), r1.2))
  ((zq (zcq.r0 N) N (a1, (⟨[], 0, 0, 0, 0, (⟨(⟨#[]⟩ : ByteArray), []⟩ : Storage)⟩ : zR), r1.1)).bind fun y2 =>
  some ((⟨y2.2.2.Lines, y2.2.2.Status, y2.2.2.Exception, y2.2.2.Marks, y2.2.2.Steps, y2.2.2.Storage⟩ : zR), 0))
def zcq.k (N : Nat) : Kq := ⟨19, (cvv [Ty.zR, T6] [Ty.zI, Ty.zF] (zcq N)), go [zgn.k N, zge.k N] {} [(0, .plain { slots := [(3, .ptr 3 0), (4, .ptr 4 0), (6, .ptr 6 0)], boxes := [(3, Ty.zF, []), (4, Ty.zR, [0, 6]), (6, Ty.zA, [])] } [Ty.zF, Ty.zR, Ty.zA] (zq (zcq.r0 N) N))] Proofs.Tryz.func19 (hL := ⟨⟨_, _, rfl, by kernel_rfl⟩, trivial⟩)⟩
def zbx.b0 (N : Nat) (s0 : List ByteArray) (s1 : List ByteArray) (s5 : Int) : Option (Round Bool ((List ByteArray) × (List ByteArray) × Int)) :=
 cond (decide (s5 < (s0.length : Int))) ((idx s0 s5).bind fun x1001 => (idx s1 s5).bind fun x1002 => cond (!(x1001.toList == x1002.toList)) (some (.result false))
  (some (.again (s0, s1, (w6 (s5 + 1)))))) (some (.leave (s0, s1, s5)))
def zbx.r0 (N : Nat) (x : (List ByteArray) × (List ByteArray) × Int) := zbx.b0 N x.1 x.2.1 x.2.2
def zbx (N : Nat) (a0 : List ByteArray) (a1 : List ByteArray) : Option Bool :=
 cond ((a0.length : Int) != (a1.length : Int)) (some false) ((zn (zbx.r0 N) N (a0, a1, 0)).bind fun z2 => zb3 z2 (fun z => some z) (fun y1 => some true))
def zbx.k (N : Nat) : Kq := ⟨44, (cvv [Ty.bool] [(Ty.sl Ty.str), (Ty.sl Ty.str)] (zbx N)), go [] {} [(0, .rets { slots := [(0, .val (Ty.sl Ty.str)), (1, .val (Ty.sl Ty.str)), (5, .val T6)], boxes := [] } [(Ty.sl Ty.str), (Ty.sl Ty.str), T6] (zn (zbx.r0 N) N))] Proofs.Tryz.func44 (hL := ⟨⟨_, _, rfl, by kernel_rfl⟩, trivial⟩)⟩
def zk4 (N : Nat)  : Option Bool :=
 (zru N).bind fun r1 => (zcq N (⟨2, false, false⟩ : zI) r1).bind fun r2 => (cond (r2.2 == 0)
  ((zbx N r2.1.Lines ([(⟨#[50]⟩ : ByteArray)] : List ByteArray)).bind fun r3 => some r3) (some false)).bind fun g4 => (cond g4 (some (r2.1.Status == 1))
  (some false)).bind fun g5 => (cond g5 (some (r2.1.Steps == 4)) (some false)).bind fun g6 => some g6
def zk4.k (N : Nat) : Kq := ⟨12, (cvv [Ty.bool] [] (zk4 N)), go [zcq.k N, zbx.k N, zru.k N] {lits := [5, 14]} [] Proofs.Tryz.func12⟩
def zei (a0 : Storage) : Option Bool :=
 (cond (decide ((a0.Bytes.size : Int) ≤ 1072)) (some (decide ((a0.Tags.length : Int) ≤ 67))) (some false)).bind fun g1 => some g1
def zei.k : Kq := ⟨46, (cvv [Ty.bool] [Ty.Storage] zei), go [] {} [] Proofs.Tryz.func46⟩
def zed.b0 (N : Nat) (s3 : Int) (b1 : zF) : Option (Round Bool (Int × zF)) :=
 (cond (decide (s3 < (b1.zD.length : Int))) (some (decide (s3 < 244))) (some false)).bind fun g1001 => cond g1001 ((idx b1.zD s3).bind fun x1002 =>
  (cond (decide ((x1002.Text.size : Int) > 300)) (some true) ((idx b1.zD s3).bind fun x1003 => some (decide ((x1003.Other.size : Int) > 300)))).bind fun g1004 =>
  cond g1004 (some (.result false)) (some (.again ((w6 (s3 + 1)), b1)))) (some (.leave (s3, b1)))
def zed.r0 (N : Nat) (x : Int × zF) := zed.b0 N x.1 x.2
def zed (N : Nat) (a0 : zF) : Option Bool :=
 (zn (zed.r0 N) N (0, a0)).bind fun z2 => zb3 z2 (fun z => some z) (fun y1 => (zei y1.2.Storage).bind fun r3 =>
  (cond r3 (some (decide ((y1.2.zD.length : Int) < 244))) (some false)).bind fun g4 => (cond g4 (some (decide ((y1.2.zN.length : Int) < 44)))
  (some false)).bind fun g5 => some g5)
def zed.k (N : Nat) : Kq := ⟨13, (cvv [Ty.bool] [Ty.zF] (zed N)), go [zei.k] {} [(0, .rets { slots := [(1, .ptr 1 0), (3, .val T6)], boxes := [(1, Ty.zF, [])] } [T6, Ty.zF] (zn (zed.r0 N) N))] Proofs.Tryz.func13 (hL := ⟨⟨_, _, rfl, by kernel_rfl⟩, trivial⟩)⟩
def zg (a0 : Int) (a1 : Int) (a2 : Int) : Option Bool :=
 (cond (decide (a1 ≤ a0)) (some (decide (a0 ≤ a2))) (some false)).bind fun g1 => some g1
def zg.k : Kq := ⟨57, (cvv [Ty.bool] [T6, T6, T6] zg), go [] {} [] Proofs.Tryz.func57⟩
def zit (a0 : zI) : Option Int :=
 (zg a0.Registers 2 8).bind fun r1 => cond (!r1) (some 3) (some 0)
def zit.k : Kq := ⟨18, (cvv [T6] [Ty.zI] zit), go [zg.k] {} [] Proofs.Tryz.func18⟩
def zkq (a0 : Storage) (a1 : Int) : Option ByteArray :=
 if 0 ≤ (w6 ((w6 (a1 * 16)) + 16)) ∧ (w6 ((w6 (a1 * 16)) + 16)) ≤ (a0.Bytes.size : Int) then (if 0 ≤ (w6 (a1 * 16)) ∧ (w6 (a1 * 16)) ≤ (w6 ((w6 (a1 * 16)) + 16)) then (some (a0.Bytes.extract (w6 (a1 * 16)).toNat (w6 ((w6 (a1 * 16)) + 16)).toNat)) else none) else none
def zkq.k : Kq := ⟨126, (cvv [Ty.str] [Ty.Storage, T6] zkq), go [] {} [] Proofs.Tryz.func126⟩
def zdc.b0 (N : Nat) (s0 : ByteArray) (s1 : Int) (s2 : Int) (s7 : Int) (s8 : Int) : Option (Stp (ByteArray × Int × Int × Int × Int)) :=
 cond (decide (s8 < s2)) ((zgw s0 (w6 (s1 + s8))).bind fun x1001 =>
  some (.again (s0, s1, s2, (w6 ((w6 (s7 * 256)) + (w6 (x1001.toNat : Int)))), (w6 (s8 + 1)))))
  (some (.leave (s0, s1, s2, s7, s8)))
def zdc.r0 (N : Nat) (x : ByteArray × Int × Int × Int × Int) := zdc.b0 N x.1 x.2.1 x.2.2.1 x.2.2.2.1 x.2.2.2.2
def zdc (N : Nat) (a0 : ByteArray) (a1 : Int) (a2 : Int) : Option Int :=
 (zq (zdc.r0 N) N (a0, a1, a2, 0, 0)).bind fun y1 => some y1.2.2.2.1
def zdc.k (N : Nat) : Kq := ⟨187, (cvv [T6] [Ty.str, T6, T6] (zdc N)), go [] {} [(0, .plain { slots := [(0, .val Ty.str), (1, .val T6), (2, .val T6), (7, .val T6), (8, .val T6)], boxes := [] } [Ty.str, T6, T6, T6, T6] (zq (zdc.r0 N) N))] Proofs.Tryz.func187 (hL := ⟨⟨_, _, rfl, by kernel_rfl⟩, trivial⟩)⟩
def zhg (a0 : Pointer) : Option Int :=
 (zg a0.Kind 0 2).bind fun r1 => cond (!r1) (some 4) ((zg a0.Address.zY 0 1099511627775).bind fun r2 => (cond (!r2) (some true)
  ((zg a0.Address.Offset 0 16777215).bind fun r3 => some (!r3))).bind fun g4 => (cond g4 (some true) ((zg a0.Authority 0 1023).bind fun r5 =>
  some (!r5))).bind fun g6 => cond g6 (some 3) ((cond (a0.Kind != 1) (some (a0.Authority != 0)) (some false)).bind fun g7 => cond g7 (some 5) (some 0)))
def zhg.k : Kq := ⟨188, (cvv [T6] [Ty.Pointer] zhg), go [zg.k] {} [] Proofs.Tryz.func188⟩
def zmy (N : Nat) (a0 : ByteArray) : Option (Pointer × Int) :=
 cond ((a0.size : Int) != 16) (some ((⟨0, (⟨0, 0⟩ : Address), 0⟩ : Pointer), 18)) ((zgw a0 1).bind fun x1 => cond ((x1.toNat : Int) != 0)
  (some ((⟨0, (⟨0, 0⟩ : Address), 0⟩ : Pointer), 5)) ((zgw a0 0).bind fun x2 => (zdc N a0 2 2).bind fun r3 => (zdc N a0 4 6).bind fun r4 =>
  (zdc N a0 10 6).bind fun r5 => (zhg (⟨(w6 (x2.toNat : Int)), (⟨r4, r5⟩ : Address), r3⟩ : Pointer)).bind fun r6 => cond (r6 != 0)
  (some ((⟨0, (⟨0, 0⟩ : Address), 0⟩ : Pointer), r6)) (some ((⟨(w6 (x2.toNat : Int)), (⟨r4, r5⟩ : Address), r3⟩ : Pointer), 0))))
def zmy.k (N : Nat) : Kq := ⟨125, (cvv [Ty.Pointer, T6] [Ty.str] (zmy N)), go [zdc.k N, zhg.k] {} [] Proofs.Tryz.func125⟩
def zdh.b0 (N : Nat) (s4 : Int) (s5 : Int) (b1 : Storage) : Option (Round (Int × Int) (Int × Int × Storage)) :=
 cond (decide (s5 < s4)) ((idx b1.Tags s5).bind fun x1001 => cond x1001 ((zkq b1 s5).bind fun r1002 => (zmy N r1002).bind fun r1003 => cond (r1003.2 != 0)
  (some (.result (s5, 22))) (some (.again (s4, (w6 (s5 + 1)), b1)))) (some (.again (s4, (w6 (s5 + 1)), b1)))) (some (.leave (s4, s5, b1)))
def zdh.r0 (N : Nat) (x : Int × Int × Storage) := zdh.b0 N x.1 x.2.1 x.2.2
def zdh (N : Nat) (a0 : Storage) : Option (Int × Int) :=
 cond (decide ((a0.Bytes.size : Int) > 1024)) (some (0, 2)) (cond (((a0.Bytes.size : Int).tmod 16) != 0) (some (0, 18))
  (cond ((a0.Tags.length : Int) != (w6 ((a0.Bytes.size : Int).tdiv 16))) (some (0, 6))
  ((zn (zdh.r0 N) N ((w6 ((a0.Bytes.size : Int).tdiv 16)), 0, a0)).bind fun z2 => zb3 z2 (fun z => some z) (fun y1 => some (y1.1, 0)))))
def zdh.k (N : Nat) : Kq := ⟨97, (cvv [T6, T6] [Ty.Storage] (zdh N)), go [zmy.k N, zkq.k] {lits := [39]} [(0, .rets { slots := [(1, .ptr 1 0), (4, .val T6), (5, .val T6)], boxes := [(1, Ty.Storage, [])] } [T6, T6, Ty.Storage] (zn (zdh.r0 N) N))] Proofs.Tryz.func97 (hL := ⟨⟨_, _, rfl, by kernel_rfl⟩, trivial⟩)⟩
def zkh (N : Nat) (a0 : Storage) : Option Int :=
 (zdh N a0).bind fun r1 => some r1.2
def zkh.k (N : Nat) : Kq := ⟨54, (cvv [T6] [Ty.Storage] (zkh N)), go [zdh.k N] {} [] Proofs.Tryz.func54⟩
def zbu.b0 (N : Nat) (s3 : List Int) (s4 : Int) (b1 : Storage) : Option (Stp ((List Int) × Int × Storage)) :=
 cond (decide (s4 < (b1.Tags.length : Int))) ((idx b1.Tags s4).bind fun x1001 =>
  cond x1001 (cond (Nat.ble ((s3.length + ([(w6 (s4 * 16))] : List Int).length) * 8) zac)
  (some (.again ((s3 ++ ([(w6 (s4 * 16))] : List Int)), (w6 (s4 + 1)), b1))) none) (some (.again (s3, (w6 (s4 + 1)), b1))))
  (some (.leave (s3, s4, b1)))
def zbu.r0 (N : Nat) (x : (List Int) × Int × Storage) := zbu.b0 N x.1 x.2.1 x.2.2
def zbu (N : Nat) (a0 : Storage) : Option ((List Int)) :=
 (zq (zbu.r0 N) N ([], 0, a0)).bind fun y1 => some y1.1
def zbu.k (N : Nat) : Kq := ⟨55, (cvv [(Ty.sl T6)] [Ty.Storage] (zbu N)), go [] {lits := [20]} [(0, .plain { slots := [(1, .ptr 1 0), (3, .own 5000003 T6), (4, .val T6)], boxes := [(1, Ty.Storage, [])] } [(Ty.sl T6), T6, Ty.Storage] (zq (zbu.r0 N) N))] Proofs.Tryz.func55 (hL := ⟨⟨_, _, rfl, by kernel_rfl⟩, trivial⟩)⟩
def zfn (a0 : zB) : Option zL :=
 cond (a0.Op == 0) (some (⟨true, false, false, true, false, false, false, false, false, false, false, false, false, false, 1, 0⟩ : zL)) (cond (a0.Op == 1)
  (some (⟨true, false, false, true, false, true, false, false, false, false, false, false, false, false, 1, 0⟩ : zL)) (cond (a0.Op == 2)
  (some (⟨true, false, false, false, false, false, true, false, false, false, false, false, false, false, 0, 0⟩ : zL)) (cond (a0.Op == 3)
  (some (⟨true, true, false, false, false, false, false, false, false, false, false, false, false, false, 0, 0⟩ : zL)) (cond (a0.Op == 4)
  (cond a0.zM (some (⟨true, true, false, true, false, false, false, true, false, false, false, false, false, false, 1, 1⟩ : zL))
  (some (⟨true, true, true, false, false, false, false, true, false, false, false, false, false, false, 1, 0⟩ : zL))) (cond (a0.Op == 5)
  (some (⟨false, true, true, false, false, false, false, false, false, false, false, false, false, false, 0, 0⟩ : zL)) (cond (a0.Op == 6)
  (some (⟨false, false, false, false, false, false, false, false, true, true, false, false, false, false, 0, 0⟩ : zL)) (cond (a0.Op == 7)
  (some (⟨false, true, true, false, false, false, false, false, true, true, false, false, false, false, 0, 0⟩ : zL)) ((cond (a0.Op == 8) (some (a0.Op == 8))
  (some (a0.Op == 18))).bind fun q1 => cond q1 (some (⟨false, false, false, false, false, false, false, false, false, true, false, false, false, false, 0, 0⟩ : zL))
  ((cond (a0.Op == 9) (some (a0.Op == 9)) (some (a0.Op == 11))).bind fun q2 =>
  cond q2 (some (⟨false, false, false, true, true, false, false, false, false, false, false, false, false, false, 2, 2⟩ : zL)) ((cond (a0.Op == 10) (some (a0.Op == 10))
  (some (a0.Op == 12))).bind fun q3 => cond q3 (some (⟨false, false, false, true, false, false, false, false, false, false, true, false, false, false, 2, 0⟩ : zL))
  (cond (a0.Op == 13) (some (⟨false, false, false, false, false, false, false, false, false, false, true, true, false, false, 0, 0⟩ : zL)) (cond (a0.Op == 14)
  (some (⟨false, false, false, true, false, false, false, false, false, false, false, false, true, false, 3, 0⟩ : zL)) (cond (a0.Op == 15)
  (some (⟨false, false, false, false, false, false, false, false, false, false, false, false, true, true, 0, 0⟩ : zL)) (cond (a0.Op == 16)
  (some (⟨true, false, false, false, false, false, false, false, false, false, false, false, true, false, 0, 0⟩ : zL)) (cond (a0.Op == 17)
  (some (⟨false, false, false, false, false, false, false, false, false, false, false, false, true, false, 0, 0⟩ : zL)) ((cond (a0.Op == 20) (some (a0.Op == 20))
  (cond (a0.Op == 21) (some (a0.Op == 21)) (some (a0.Op == 22)))).bind fun q4 =>
  cond q4 (some (⟨true, false, false, false, false, false, false, false, false, false, false, false, false, false, 0, 0⟩ : zL)) (cond (a0.Op == 23)
  (some (⟨false, false, false, true, false, false, false, false, false, false, false, false, false, false, 2, 0⟩ : zL)) (cond (a0.Op == 24)
  (some (⟨false, false, false, false, false, false, false, false, false, false, true, false, false, false, 0, 0⟩ : zL))
  (some (⟨false, false, false, false, false, false, false, false, false, false, false, false, false, false, 0, 0⟩ : zL))))))))))))))))))))
def zfn.k : Kq := ⟨98, (cvv [Ty.zL] [Ty.zB] zfn), go [] {bj := [32, 36, 40, 59]} [] Proofs.Tryz.func98⟩
def zis (a0 : zB) (a1 : zL) : Option Bool :=
 (cond (!a1.R) (some (a0.R != 0)) (some false)).bind fun g1 => (cond g1 (some true) ((cond (!a1.A) (some (a0.A != 0)) (some false)).bind fun g2 => some g2)).bind fun g3 =>
  (cond g3 (some true) ((cond (!a1.B) (some (a0.B != 0)) (some false)).bind fun g4 => some g4)).bind fun g5 => (cond g5 (some true) ((cond (!a1.zK)
  (some (a0.zK != 0)) (some false)).bind fun g6 => some g6)).bind fun g7 => (cond g7 (some true) ((cond (!a1.Place)
  (some (!(zfv [(a0.Place.Based == false), (a0.Place.Pointer == 0), (a0.Place.Offset == 0)]))) (some false)).bind fun g8 => some g8)).bind fun g9 => (cond g9 (some true)
  ((cond (!a1.From) (some (!(zfv [(a0.From.Based == false), (a0.From.Pointer == 0), (a0.From.Offset == 0)]))) (some false)).bind fun g10 => some g10)).bind fun g11 =>
  (cond g11 (some true) ((cond (a1.zG == 0) (some (!(zfv [(a0.zG.Kind == 0), (a0.zG.Length == 0), (a0.zG.Scale == 0)]))) (some false)).bind fun g12 =>
  some g12)).bind fun g13 => (cond g13 (some true) ((cond (a1.Second == 0) (some (!(zfv [(a0.Second.Kind == 0), (a0.Second.Length == 0), (a0.Second.Scale == 0)])))
  (some false)).bind fun g14 => some g14)).bind fun g15 => (cond g15 (some true) ((cond (!a1.Half) (some a0.Half) (some false)).bind fun g16 => some g16)).bind fun g17 =>
  (cond g17 (some true) ((cond (a0.Op != 4) (some a0.zM) (some false)).bind fun g18 => some g18)).bind fun g19 => (cond g19 (some true) ((cond (!a1.Number)
  (some (!(zfv [(a0.Number.N == 0), (a0.Number.Scale == 0)]))) (some false)).bind fun g20 => some g20)).bind fun g21 => (cond g21 (some true) ((cond (!a1.Text)
  (some (!(a0.Text.toList == (⟨#[]⟩ : ByteArray).toList))) (some false)).bind fun g22 => some g22)).bind fun g23 => (cond g23 (some true) ((cond (!a1.Other)
  (some (!(a0.Other.toList == (⟨#[]⟩ : ByteArray).toList))) (some false)).bind fun g24 => some g24)).bind fun g25 => (cond g25 (some true) ((cond (!a1.Mask) (some (a0.Mask != 0))
  (some false)).bind fun g26 => some g26)).bind fun g27 => (cond g27 (some true) ((cond (!a1.Target) (some (a0.Target != 0)) (some false)).bind fun g28 => some g28)).bind fun g29 =>
  (cond g29 (some true) ((cond (!a1.Pointer) (some (a0.Pointer != 0)) (some false)).bind fun g30 => some g30)).bind fun g31 => (cond g31 (some true) ((cond (!a1.Source)
  (some (a0.Source != 0)) (some false)).bind fun g32 => some g32)).bind fun g33 => (cond g33 (some true) ((cond (!a0.Place.Based) (some (a0.Place.Pointer != 0))
  (some false)).bind fun g34 => some g34)).bind fun g35 => (cond g35 (some true) ((cond (!a0.From.Based) (some (a0.From.Pointer != 0)) (some false)).bind fun g36 =>
  some g36)).bind fun g37 => some g37
def zis.k : Kq := ⟨99, (cvv [Ty.bool] [Ty.zB, Ty.zL] zis), go [] {} [] Proofs.Tryz.func99⟩
def zjr (a0 : zI) (a1 : zB) : Option Bool :=
 (cond (a1.Op == 7) (some (!a0.yH)) (some false)).bind fun g1 => (cond g1 (some true) ((cond a1.zM (some (!a0.yF)) (some false)).bind fun g2 =>
  some g2)).bind fun g3 => some g3
def zjr.k : Kq := ⟨67, (cvv [Ty.bool] [Ty.zI, Ty.zB] zjr), go [] {} [] Proofs.Tryz.func67⟩
def zc4 (a0 : Int) : Option Bool :=
 (zg a0 1 3).bind fun r1 => some r1
def zc4.k : Kq := ⟨144, (cvv [Ty.bool] [T6] zc4), go [zg.k] {} [] Proofs.Tryz.func144⟩
def zbo (a0 : Bool) : Option Int :=
 cond a0 (some 1) (some 0)
def zbo.k : Kq := ⟨124, (cvv [T6] [Ty.bool] zbo), go [] {} [] Proofs.Tryz.func124⟩
def zg5 (a0 : DataType) : Option Int :=
 (zg a0.Kind 0 4).bind fun r1 => cond (!r1) (some 4) (cond (a0.Kind == 0) ((zg a0.Length 1 256).bind fun r2 => cond (!r2) (some 18)
  ((zc4 a0.Kind).bind fun r3 => cond r3 ((zg a0.Scale 0 a0.Length).bind fun r4 => (zbo (!r4)).bind fun r5 => some (w6 (3 * r5)))
  ((zg a0.Scale 0 0).bind fun r6 => (zbo (!r6)).bind fun r7 => some (w6 (3 * r7))))) ((cond (a0.Kind == 1) (some (a0.Kind == 1))
  (some (a0.Kind == 2))).bind fun q8 => cond q8 ((zg a0.Length 1 15).bind fun r9 => cond (!r9) (some 18) ((zc4 a0.Kind).bind fun r10 =>
  cond r10 ((zg a0.Scale 0 a0.Length).bind fun r11 => (zbo (!r11)).bind fun r12 => some (w6 (3 * r12))) ((zg a0.Scale 0 0).bind fun r13 =>
  (zbo (!r13)).bind fun r14 => some (w6 (3 * r14))))) (cond (a0.Kind == 3) ((cond (a0.Length == 4) (some true) (some (a0.Length == 9))).bind fun g15 =>
  cond (!g15) (some 18) ((zc4 a0.Kind).bind fun r16 => cond r16 ((zg a0.Scale 0 a0.Length).bind fun r17 => (zbo (!r17)).bind fun r18 =>
  some (w6 (3 * r18))) ((zg a0.Scale 0 0).bind fun r19 => (zbo (!r19)).bind fun r20 => some (w6 (3 * r20))))) (cond (!(a0.Length == 0))
  (some 18) ((zc4 a0.Kind).bind fun r21 => cond r21 ((zg a0.Scale 0 a0.Length).bind fun r22 => (zbo (!r22)).bind fun r23 =>
  some (w6 (3 * r23))) ((zg a0.Scale 0 0).bind fun r24 => (zbo (!r24)).bind fun r25 => some (w6 (3 * r25))))))))
def zg5.k : Kq := ⟨143, (cvv [T6] [Ty.DataType] zg5), go [zg.k, zbo.k, zc4.k] {bj := [19]} [] Proofs.Tryz.func143⟩
def zh4 (a0 : DataType) (a1 : Int) : Option Int :=
 cond (a1 == 0) (some 0) ((zg5 a0).bind fun r1 => cond (r1 != 0) (some r1) ((cond (a1 == 1) ((zc4 a0.Kind).bind fun r2 => some (!r2))
  (some false)).bind fun g3 => (cond g3 (some true) ((cond (a1 == 2) (some (a0.Kind != 0)) (some false)).bind fun g4 => some g4)).bind fun g5 => (cond g5 (some true)
  ((cond (a1 == 3) (some (a0.Kind == 4)) (some false)).bind fun g6 => some g6)).bind fun g7 => cond g7 (some 17) (some 0)))
def zh4.k : Kq := ⟨100, (cvv [T6] [Ty.DataType, T6] zh4), go [zg5.k, zc4.k] {} [] Proofs.Tryz.func100⟩
def zfc (a0 : zI) (a1 : Int) : Option Bool :=
 (zg a1 0 (w6 (a0.Registers - 1))).bind fun r1 => some r1
def zfc.k : Kq := ⟨107, (cvv [Ty.bool] [Ty.zI, T6] zfc), go [zg.k] {} [] Proofs.Tryz.func107⟩
def zeb (a0 : zI) (a1 : zB) : Option Bool :=
 (zfn a1).bind fun r1 => (cond (!r1.R) (some true) ((zfc a0 a1.R).bind fun r2 => some r2)).bind fun g3 => (cond g3 ((cond (!r1.A) (some true)
  ((zfc a0 a1.A).bind fun r4 => some r4)).bind fun g5 => some g5) (some false)).bind fun g6 => (cond g6 ((cond (!r1.B) (some true)
  ((zfc a0 a1.B).bind fun r7 => some r7)).bind fun g8 => some g8) (some false)).bind fun g9 => some g9
def zeb.k : Kq := ⟨68, (cvv [Ty.bool] [Ty.zI, Ty.zB] zeb), go [zfn.k, zfc.k] {} [] Proofs.Tryz.func68⟩
def zen (a0 : Storage) (a1 : Int) : Option Bool :=
 (zg a1 0 (w6 ((a0.Bytes.size : Int) - 16))).bind fun r1 => (cond r1 (some ((a1.tmod 16) == 0)) (some false)).bind fun g2 => some g2
def zen.k : Kq := ⟨101, (cvv [Ty.bool] [Ty.Storage, T6] zen), go [zg.k] {} [] Proofs.Tryz.func101⟩
def zbi (a0 : DataType) : Option Int :=
 cond (a0.Kind == 1) (some (w6 ((w6 (a0.Length.tdiv 2)) + 1))) (cond (a0.Kind == 3) ((zbo (a0.Length == 9)).bind fun r1 =>
  some (w6 (2 + (w6 (2 * r1))))) (cond (a0.Kind == 4) (some 16) (some a0.Length)))
def zbi.k : Kq := ⟨103, (cvv [T6] [Ty.DataType] zbi), go [zbo.k] {} [] Proofs.Tryz.func103⟩
def zh6 (a0 : Storage) (a1 : Int) (a2 : Int) : Option Bool :=
 (zg a1 0 (a0.Bytes.size : Int)).bind fun r1 => (cond r1 ((zg a2 0 (w6 ((a0.Bytes.size : Int) - a1))).bind fun r2 => some r2)
  (some false)).bind fun g3 => some g3
def zh6.k : Kq := ⟨145, (cvv [Ty.bool] [Ty.Storage, T6, T6] zh6), go [zg.k] {lits := [10]} [] Proofs.Tryz.func145⟩
def zem (a0 : zF) (a1 : zO) (a2 : Int) : Option Bool :=
 cond a1.Based ((zen a0.Storage a1.Pointer).bind fun r1 => (cond r1 ((zg a1.Offset 0 256).bind fun r2 => some r2) (some false)).bind fun g3 => some g3)
  ((zh6 a0.Storage a1.Offset a2).bind fun r4 => some r4)
def zem.k : Kq := ⟨102, (cvv [Ty.bool] [Ty.zF, Ty.zO, T6] zem), go [zg.k, zen.k, zh6.k] {} [] Proofs.Tryz.func102⟩
def zcl (a0 : Number) : Option Int :=
 (zg a0.N (-999999999999999) 999999999999999).bind fun r1 => (cond r1 ((zg a0.Scale 0 15).bind fun r2 => some r2) (some false)).bind fun g3 =>
  (zbo (!g3)).bind fun r4 => some (w6 (3 * r4))
def zcl.k : Kq := ⟨84, (cvv [T6] [Ty.Number] zcl), go [zg.k, zbo.k] {} [] Proofs.Tryz.func84⟩
def zdq (a0 : zI) (a1 : zF) (a2 : zB) : Option Int :=
 (zg a2.Op 0 26).bind fun r1 => cond (!r1) (some 4) ((zfn a2).bind fun r2 => (zis a2 r2).bind fun r3 => cond r3 (some 5)
  ((zjr a0 a2).bind fun r4 => cond r4 (some 39) ((zh4 a2.zG r2.zG).bind fun r5 => cond (r5 != 0) (some r5)
  ((zh4 a2.Second r2.Second).bind fun r6 => cond (r6 != 0) (some r6) (cond (a2.Op == 4) (((zeb a0 a2).bind fun r7 => cond (!r7) (some (!r7))
  ((cond r2.Target ((zg a2.Target 0 (w6 ((a1.zD.length : Int) - 1))).bind fun r8 => some (!r8)) (some false)).bind fun g9 => cond g9 (some g9)
  ((cond r2.Mask ((zg a2.Mask 1 7).bind fun r10 => some (!r10)) (some false)).bind fun g11 => some g11))).bind fun q12 => cond q12 (some 3)
  (((cond r2.Pointer ((zen a1.Storage a2.Pointer).bind fun r13 => some (!r13)) (some false)).bind fun g14 => cond g14 (some g14)
  ((cond r2.Source ((zen a1.Storage a2.Source).bind fun r15 => some (!r15)) (some false)).bind fun g16 => some g16)).bind fun q17 => cond q17 (some 3)
  ((cond r2.Place ((zbi a2.Second).bind fun r18 => (zem a1 a2.Place r18).bind fun r19 => some (!r19)) (some false)).bind fun g20 => cond g20 (cond g20 (some 3)
  ((cond r2.zK ((zg a2.zK 0 4).bind fun r21 => some (!r21)) (some false)).bind fun g22 => cond g22 (some 3) ((zcl a2.Number).bind fun r23 =>
  (cond r2.Number (some (r23 != 0)) (some false)).bind fun g24 => cond g24 (some r23) ((cond (decide ((a2.Text.size : Int) > 256)) (some true)
  (some (decide ((a2.Other.size : Int) > 256)))).bind fun g25 => cond g25 (some 2) (some 0))))) ((cond r2.From ((zbi a2.Second).bind fun r26 =>
  (zem a1 a2.From r26).bind fun r27 => some (!r27)) (some false)).bind fun g28 => cond g28 (some 3) ((cond r2.zK ((zg a2.zK 0 4).bind fun r29 =>
  some (!r29)) (some false)).bind fun g30 => cond g30 (some 3) ((zcl a2.Number).bind fun r31 => (cond r2.Number (some (r31 != 0)) (some false)).bind fun g32 =>
  cond g32 (some r31) ((cond (decide ((a2.Text.size : Int) > 256)) (some true) (some (decide ((a2.Other.size : Int) > 256)))).bind fun g33 => cond g33 (some 2) (some 0))))))))
  (((zeb a0 a2).bind fun r34 => cond (!r34) (some (!r34))
  ((cond r2.Target ((zg a2.Target 0 (w6 ((a1.zD.length : Int) - 1))).bind fun r35 => some (!r35)) (some false)).bind fun g36 => cond g36 (some g36)
  ((cond r2.Mask ((zg a2.Mask 1 7).bind fun r37 => some (!r37)) (some false)).bind fun g38 => some g38))).bind fun q39 => cond q39 (some 3)
  (((cond r2.Pointer ((zen a1.Storage a2.Pointer).bind fun r40 => some (!r40)) (some false)).bind fun g41 => cond g41 (some g41)
  ((cond r2.Source ((zen a1.Storage a2.Source).bind fun r42 => some (!r42)) (some false)).bind fun g43 => some g43)).bind fun q44 => cond q44 (some 3)
  ((cond r2.Place ((zbi a2.zG).bind fun r45 => (zem a1 a2.Place r45).bind fun r46 => some (!r46)) (some false)).bind fun g47 => cond g47 (cond g47 (some 3)
  ((cond r2.zK ((zg a2.zK 0 4).bind fun r48 => some (!r48)) (some false)).bind fun g49 => cond g49 (some 3) ((zcl a2.Number).bind fun r50 =>
  (cond r2.Number (some (r50 != 0)) (some false)).bind fun g51 => cond g51 (some r50) ((cond (decide ((a2.Text.size : Int) > 256)) (some true)
  (some (decide ((a2.Other.size : Int) > 256)))).bind fun g52 => cond g52 (some 2) (some 0))))) ((cond r2.From ((zbi a2.Second).bind fun r53 =>
  (zem a1 a2.From r53).bind fun r54 => some (!r54)) (some false)).bind fun g55 => cond g55 (some 3) ((cond r2.zK ((zg a2.zK 0 4).bind fun r56 =>
  some (!r56)) (some false)).bind fun g57 => cond g57 (some 3) ((zcl a2.Number).bind fun r58 => (cond r2.Number (some (r58 != 0)) (some false)).bind fun g59 =>
  cond g59 (some r58) ((cond (decide ((a2.Text.size : Int) > 256)) (some true) (some (decide ((a2.Other.size : Int) > 256)))).bind fun g60 => cond g60 (some 2) (some 0)))))))))))))
def zdq.k : Kq := ⟨56, (cvv [T6] [Ty.zI, Ty.zF, Ty.zB] zdq), go [zg.k, zjr.k, zeb.k, zcl.k, zfn.k, zis.k, zh4.k, zen.k, zem.k, zbi.k] {lits := [101, 113], bj := [47, 72]} [] Proofs.Tryz.func56⟩
def zr.b1 (N : Nat) (s8 : Int) (b2 : zI) (b3 : zF) : Option (Round (Int × Int) (Int × zI × zF)) :=
 cond (decide (s8 < (b3.zD.length : Int))) ((idx b3.zD s8).bind fun x2001 => (zdq b2 b3 x2001).bind fun r2002 => cond (r2002 != 0)
  (some (.result (s8, r2002))) (some (.again ((w6 (s8 + 1)), b2, b3)))) (some (.leave (s8, b2, b3)))
def zr.r1 (N : Nat) (x : Int × zI × zF) := zr.b1 N x.1 x.2.1 x.2.2
def zr.b3 (N : Nat) (s10 : Int) (b3 : zF) : Option (Round (Int × Int) (Int × zF)) :=
 cond (decide (s10 < (b3.zN.length : Int))) ((idx b3.zN s10).bind fun x4001 => (cond (decide (x4001.From < 0)) (some true)
  (some (decide (x4001.From > x4001.To)))).bind fun g4002 => (cond g4002 (some true) (some (decide (x4001.To > (b3.zD.length : Int))))).bind fun g4003 =>
  (cond g4003 (some true) ((zg x4001.Exception 0 999).bind fun r4004 => some (!r4004))).bind fun g4005 => (cond g4005 (some true)
  ((zg x4001.Handler 0 (w6 ((b3.zD.length : Int) - 1))).bind fun r4006 => some (!r4006))).bind fun g4007 => cond g4007 (some (.result (s10, 3)))
  (some (.again ((w6 (s10 + 1)), b3)))) (some (.leave (s10, b3)))
def zr.r3 (N : Nat) (x : Int × zF) := zr.b3 N x.1 x.2
def zr (N : Nat) (a0 : zI) (a1 : zF) : Option (Int × Int) :=
 (zit a0).bind fun r1 => cond (r1 != 0) (some (0, r1)) ((zkh N a1.Storage).bind fun r2 => cond (r2 != 0) (some (0, r2))
  ((zbu N a1.Storage).bind fun r3 => cond (decide ((r3.length : Int) > 0)) (some (0, 22)) (cond ((a1.zD.length : Int) == 0) (some (0, 1))
  ((cond (decide ((a1.zD.length : Int) > 240)) (some true) (some (decide ((a1.zN.length : Int) > 40)))).bind fun g4 => cond g4 (some (0, 2))
  ((zn (zr.r1 N) N (0, a0, a1)).bind fun z6 => zb3 z6 (fun z => some z) (fun y5 => (zn (zr.r3 N) N (0, y5.2.2)).bind fun z8 => zb3 z8 (fun z =>
  some z) (fun y7 => some ((y7.2.zD.length : Int), 0))))))))
def zr.k (N : Nat) : Kq := ⟨16, (cvv [T6, T6] [Ty.zI, Ty.zF] (zr N)), go [zit.k, zkh.k N, zbu.k N, zdq.k, zg.k] {lits := [26]} [(1, .rets { slots := [(2, .ptr 2 0), (3, .ptr 3 0), (8, .val T6)], boxes := [(2, Ty.zI, []), (3, Ty.zF, [])] } [T6, Ty.zI, Ty.zF] (zn (zr.r1 N) N)), (3, .rets { slots := [(3, .ptr 3 0), (10, .val T6)], boxes := [(3, Ty.zF, [])] } [T6, Ty.zF] (zn (zr.r3 N) N))] Proofs.Tryz.func16 (hL := ⟨⟨_, _, rfl, by kernel_rfl⟩, ⟨_, _, rfl, by kernel_rfl⟩, trivial⟩)⟩
def zh5 (N : Nat) (a0 : zI) (a1 : zF) : Option Int :=
 (zr N a0 a1).bind fun r1 => some r1.2
def zh5.k (N : Nat) : Kq := ⟨20, (cvv [T6] [Ty.zI, Ty.zF] (zh5 N)), go [zr.k N] {} [] Proofs.Tryz.func20⟩
def ziz (a0 : List Bool) : Option ((List Bool)) :=
 cond (Nat.ble (a0.length * 1) zac) (some a0) none
def ziz.k : Kq := ⟨96, (ctv [.val (Ty.sl Ty.bool)] [(Ty.sl Ty.bool)] [] [0] [(Ty.sl Ty.bool)] ziz), go [] {} [] Proofs.Tryz.func96⟩
def zdw (a0 : Storage) : Option Storage :=
 (ziz a0.Tags).bind fun r1 => some (⟨a0.Bytes, r1⟩ : Storage)
def zdw.k : Kq := ⟨53, (ctv [.val Ty.Storage] [Ty.Storage] [] [1] [Ty.Storage] zdw), go [ziz.k] {} [] Proofs.Tryz.func53⟩
def zfi (a0 : zF) : Option zF :=
 (zdw a0.Storage).bind fun r1 => cond (Nat.ble (a0.zD.length * 224) zac) (cond (Nat.ble (a0.zN.length * 32) zac)
  (some (⟨r1, a0.zD, a0.zN⟩ : zF)) none) none
def zfi.k : Kq := ⟨15, (cvv [Ty.zF] [Ty.zF] zfi), go [zdw.k] {} [] Proofs.Tryz.func15⟩
def zbw.b0 (N : Nat) (s3 : Int) (b1 : zA) : Option (Round Bool (Int × zA)) :=
 (cond (decide (s3 < (b1.Lines.length : Int))) (some (decide (s3 < 44))) (some false)).bind fun g1001 => cond g1001 ((idx b1.Lines s3).bind fun x1002 =>
  cond (decide ((x1002.size : Int) > 300)) (some (.result false)) (some (.again ((w6 (s3 + 1)), b1)))) (some (.leave (s3, b1)))
def zbw.r0 (N : Nat) (x : Int × zA) := zbw.b0 N x.1 x.2
def zbw (N : Nat) (a0 : zA) : Option Bool :=
 (zn (zbw.r0 N) N (0, a0)).bind fun z2 => zb3 z2 (fun z => some z) (fun y1 => (zei y1.2.Storage).bind fun r3 =>
  (cond r3 (some (decide ((y1.2.Registers.length : Int) ≤ 11))) (some false)).bind fun g4 => (cond g4 (some (decide ((y1.2.Stack.length : Int) ≤ 9))) (some false)).bind fun g5 =>
  (cond g5 (some (decide ((y1.2.Lines.length : Int) < 44))) (some false)).bind fun g6 => some g6)
def zbw.k (N : Nat) : Kq := ⟨33, (cvv [Ty.bool] [Ty.zA] (zbw N)), go [zei.k] {} [(0, .rets { slots := [(1, .ptr 1 0), (3, .val T6)], boxes := [(1, Ty.zA, [])] } [T6, Ty.zA] (zn (zbw.r0 N) N))] Proofs.Tryz.func33 (hL := ⟨⟨_, _, rfl, by kernel_rfl⟩, trivial⟩)⟩
def zk0 (a0 : List Int) : Option ((List Int)) :=
 cond (Nat.ble (a0.length * 8) zac) (some a0) none
def zk0.k : Kq := ⟨72, (ctv [.val (Ty.sl T6)] [(Ty.sl T6)] [] [0] [(Ty.sl T6)] zk0), go [] {} [] Proofs.Tryz.func72⟩
def zi8 (a0 : List ByteArray) : Option ((List ByteArray)) :=
 cond (Nat.ble (a0.length * 16) zac) (some a0) none
def zi8.k : Kq := ⟨83, (ctv [.val (Ty.sl Ty.str)] [(Ty.sl Ty.str)] [] [0] [(Ty.sl Ty.str)] zi8), go [] {} [] Proofs.Tryz.func83⟩
def zim (a0 : zA) : Option zA :=
 cond (Nat.ble (a0.Registers.length * 16) zac) ((zdw a0.Storage).bind fun r1 => (zk0 a0.Stack).bind fun r2 => (zi8 a0.Lines).bind fun r3 =>
  some { a0 with Storage := r1, Stack := r2, Lines := r3 }) none
def zim.k : Kq := ⟨39, (ctv [.val Ty.zA] [Ty.zA] [] [0, 5, 6] [Ty.zA] zim), go [zdw.k, zk0.k, zi8.k] {} [] Proofs.Tryz.func39⟩
def zey (a0 : Int) (a1 : Int) (a2 : zF) : Option Bool :=
 (z9 a0 0 (w6 (a1 - 1))).bind fun r1 => (cond (!r1) (some true) ((idx a2.zD a0).bind fun x2 => some (x2.Op != 18))).bind fun g3 => some g3
def zey.k : Kq := ⟨79, (ctv [.val T6, .ptr T6 false [], .ptr Ty.zF false []] [Ty.bool] [] [] [T6, T6, Ty.zF] zey), go [z9.k] {ro := [1000000, 1000001], pk := [1000000, 1000001]} [] Proofs.Tryz.func79⟩
def zal.b0 (N : Nat) (s0 : List Int) (s7 : Int) (s8 : Int) (b1000000 : Int) (b1000001 : zF) : Option (Round Int ((List Int) × Int × Int × Int × zF)) :=
 cond (decide (s8 < s7)) ((idx s0 s8).bind fun x1001 => (zey x1001 b1000000 b1000001).bind fun r1002 => cond r1002 (some (.result s8))
  (some (.again (s0, s7, (w6 (s8 + 1)), b1000000, b1000001)))) (some (.leave (s0, s7, s8, b1000000, b1000001)))
def zal.r0 (N : Nat) (x : (List Int) × Int × Int × Int × zF) := zal.b0 N x.1 x.2.1 x.2.2.1 x.2.2.2.1 x.2.2.2.2
def zal (N : Nat) (a0 : List Int) (a1 : Int) (a2 : zF) : Option Int :=
 (zn (zal.r0 N) N (a0, (a0.length : Int), 0, a1, a2)).bind fun z2 => zb3 z2 (fun z => some z) (fun y1 => some (-1))
def zal.k (N : Nat) : Kq := ⟨106, (ctv [.val (Ty.sl T6), .clo 79 2, .ptr T6 false [], .ptr Ty.zF false []] [T6] [] [] [(Ty.sl T6), T6, Ty.zF] (zal N)), go [zey.k] {ro := [1000000, 1000001], pk := [1000000, 1000001]} [(0, .rets { slots := [(0, .val (Ty.sl T6)), (1, .fn 79 [1000000, 1000001]), (7, .val T6), (8, .val T6)], boxes := [(1000000, T6, []), (1000001, Ty.zF, [])] } [(Ty.sl T6), T6, T6, T6, Ty.zF] (zn (zal.r0 N) N))] Proofs.Tryz.func106 (hL := ⟨⟨_, _, rfl, by kernel_rfl⟩, trivial⟩)⟩
def zde (N : Nat) (a0 : List Int) (a1 : Int) (a2 : zF) : Option Bool :=
 (zal N a0 a1 a2).bind fun r1 => some (decide (r1 ≥ 0))
def zde.k (N : Nat) : Kq := ⟨64, (ctv [.val (Ty.sl T6), .clo 79 2, .ptr T6 false [], .ptr Ty.zF false []] [Ty.bool] [] [] [(Ty.sl T6), T6, Ty.zF] (zde N)), go [zal.k N] {ro := [1000000, 1000001], pk := [1000000, 1000001]} [] Proofs.Tryz.func64⟩
def zf9 (a0 : ByteArray) : Option Bool :=
 some (decide ((a0.size : Int) > 256))
def zf9.k : Kq := ⟨81, (cvv [Ty.bool] [Ty.str] zf9), go [] {} [] Proofs.Tryz.func81⟩
def z7.b0 (N : Nat) (s0 : List ByteArray) (s7 : Int) (s8 : Int) : Option (Round Int ((List ByteArray) × Int × Int)) :=
 cond (decide (s8 < s7)) ((idx s0 s8).bind fun x1001 => (zf9 x1001).bind fun r1002 => cond r1002 (some (.result s8))
  (some (.again (s0, s7, (w6 (s8 + 1)))))) (some (.leave (s0, s7, s8)))
def z7.r0 (N : Nat) (x : (List ByteArray) × Int × Int) := z7.b0 N x.1 x.2.1 x.2.2
def z7 (N : Nat) (a0 : List ByteArray) : Option Int :=
 (zn (z7.r0 N) N (a0, (a0.length : Int), 0)).bind fun z2 => zb3 z2 (fun z => some z) (fun y1 => some (-1))
def z7.k (N : Nat) : Kq := ⟨120, (ctv [.val (Ty.sl Ty.str), .clo 81 0] [T6] [] [] [(Ty.sl Ty.str)] (z7 N)), go [zf9.k] {} [(0, .rets { slots := [(0, .val (Ty.sl Ty.str)), (1, .fn 81 []), (7, .val T6), (8, .val T6)], boxes := [] } [(Ty.sl Ty.str), T6, T6] (zn (z7.r0 N) N))] Proofs.Tryz.func120 (hL := ⟨⟨_, _, rfl, by kernel_rfl⟩, trivial⟩)⟩
def zck (N : Nat) (a0 : List ByteArray) : Option Bool :=
 (z7 N a0).bind fun r1 => some (decide (r1 ≥ 0))
def zck.k (N : Nat) : Kq := ⟨80, (ctv [.val (Ty.sl Ty.str), .clo 81 0] [Ty.bool] [] [] [(Ty.sl Ty.str)] (zck N)), go [z7.k N] {} [] Proofs.Tryz.func80⟩
def za8.b0 (N : Nat) (s6 : List Int) (s18 : List Bool) (s19 : Int) (s20 : Int) : Option (Stp ((List Int) × (List Bool) × Int × Int)) :=
 cond (decide (s20 < s19)) ((idx s18 s20).bind fun x1001 => cond x1001 (cond (Nat.ble ((s6.length + ([(w6 (s20 * 16))] : List Int).length) * 8) zac)
  (some (.again ((s6 ++ ([(w6 (s20 * 16))] : List Int)), s18, s19, (w6 (s20 + 1))))) none)
  (some (.again (s6, s18, s19, (w6 (s20 + 1)))))) (some (.leave (s6, s18, s19, s20)))
def za8.r0 (N : Nat) (x : (List Int) × (List Bool) × Int × Int) := za8.b0 N x.1 x.2.1 x.2.2.1 x.2.2.2
def za8 (N : Nat) (a0 : Storage) : Option ((List Int) × Int) :=
 (zo N a0).bind fun r1 => cond (r1.2 != 0) (some ([], r1.2)) ((zq (za8.r0 N) N ([], a0.Tags, (a0.Tags.length : Int), 0)).bind fun y2 =>
  some (y2.1, 0))
def za8.k (N : Nat) : Kq := ⟨121, (cvv [(Ty.sl T6), T6] [Ty.Storage] (za8 N)), go [zo.k N] {lits := [29]} [(0, .plain { slots := [(6, .own 5000006 T6), (18, .val (Ty.sl Ty.bool)), (19, .val T6), (20, .val T6)], boxes := [] } [(Ty.sl T6), (Ty.sl Ty.bool), T6, T6] (zq (za8.r0 N) N))] Proofs.Tryz.func121 (hL := ⟨⟨_, _, rfl, by kernel_rfl⟩, trivial⟩)⟩
def zf8 (N : Nat) (a0 : Int) (a1 : Storage) : Option Bool :=
 (zcw N a1 a0).bind fun r1 => (cond (r1.1.Kind != 0) (some true) (some (r1.1.Address.zY != 1))).bind fun g2 => some g2
def zf8.k (N : Nat) : Kq := ⟨122, (ctv [.val T6, .ptr Ty.Storage false []] [Ty.bool] [] [] [T6, Ty.Storage] (zf8 N)), go [zcw.k N] {ro := [1000000], pk := [1000000]} [] Proofs.Tryz.func122⟩
def zai.b0 (N : Nat) (s0 : List Int) (s7 : Int) (s8 : Int) (b1000000 : Storage) : Option (Round Int ((List Int) × Int × Int × Storage)) :=
 cond (decide (s8 < s7)) ((idx s0 s8).bind fun x1001 => (zf8 N x1001 b1000000).bind fun r1002 => cond r1002 (some (.result s8))
  (some (.again (s0, s7, (w6 (s8 + 1)), b1000000)))) (some (.leave (s0, s7, s8, b1000000)))
def zai.r0 (N : Nat) (x : (List Int) × Int × Int × Storage) := zai.b0 N x.1 x.2.1 x.2.2.1 x.2.2.2
def zai (N : Nat) (a0 : List Int) (a1 : Storage) : Option Int :=
 (zn (zai.r0 N) N (a0, (a0.length : Int), 0, a1)).bind fun z2 => zb3 z2 (fun z => some z) (fun y1 => some (-1))
def zai.k (N : Nat) : Kq := ⟨106, (ctv [.val (Ty.sl T6), .clo 122 1, .ptr Ty.Storage false []] [T6] [] [] [(Ty.sl T6), Ty.Storage] (zai N)), go [zf8.k N] {ro := [1000000], pk := [1000000]} [(0, .rets { slots := [(0, .val (Ty.sl T6)), (1, .fn 122 [1000000]), (7, .val T6), (8, .val T6)], boxes := [(1000000, Ty.Storage, [])] } [(Ty.sl T6), T6, T6, Ty.Storage] (zn (zai.r0 N) N))] Proofs.Tryz.func106 (hL := ⟨⟨_, _, rfl, by kernel_rfl⟩, trivial⟩)⟩
def zd6 (N : Nat) (a0 : List Int) (a1 : Storage) : Option Bool :=
 (zai N a0 a1).bind fun r1 => some (decide (r1 ≥ 0))
def zd6.k (N : Nat) : Kq := ⟨64, (ctv [.val (Ty.sl T6), .clo 122 1, .ptr Ty.Storage false []] [Ty.bool] [] [] [(Ty.sl T6), Ty.Storage] (zd6 N)), go [zai.k N] {ro := [1000000], pk := [1000000]} [] Proofs.Tryz.func64⟩
def zfx (N : Nat) (a0 : zF) (a1 : Storage) : Option Int :=
 cond ((a1.Bytes.size : Int) != (a0.Storage.Bytes.size : Int)) (some 18) ((zo N a1).bind fun r1 => cond (r1.2 != 0) (some r1.2)
  ((za8 N a1).bind fun r2 => (zd6 N r2.1 a1).bind fun r3 => (zad r3 22).bind fun r4 => some r4))
def zfx.k (N : Nat) : Kq := ⟨82, (cvv [T6] [Ty.zF, Ty.Storage] (zfx N)), go [zo.k N, zad.k, zd6.k N, za8.k N] {lits := [32]} [] Proofs.Tryz.func82⟩
def zaj.b0 (N : Nat) (s32 : List Number) (s33 : Int) (s34 : Int) (b4 : zF) (b5 : zA) : Option (Round Int ((List Number) × Int × Int × zF × zA)) :=
 cond (decide (s34 < s33)) ((idx s32 s34).bind fun x1001 => (zan x1001).bind fun r1002 => cond (r1002 != 0) (some (.result r1002))
  (some (.again (s32, s33, (w6 (s34 + 1)), b4, b5)))) (some (.leave (s32, s33, s34, b4, b5)))
def zaj.r0 (N : Nat) (x : (List Number) × Int × Int × zF × zA) := zaj.b0 N x.1 x.2.1 x.2.2.1 x.2.2.2.1 x.2.2.2.2
def zaj (N : Nat) (a0 : zI) (a1 : zF) (a2 : zA) : Option Int :=
 (zda N a0 a1).bind fun r1 => (zad ((a2.Registers.length : Int) != a0.Registers) 6).bind fun r2 => (zw N ([r1, r2] : List Int)).bind fun r3 =>
  cond (r3 != 0) (some r3) ((zn (zaj.r0 N) N (a2.Registers, (a2.Registers.length : Int), 0, a1, a2)).bind fun z5 => zb3 z5 (fun z => some z) (fun y4 =>
  (cond (y4.2.2.2.2.Condition == 0) (some true) (some (y4.2.2.2.2.Condition == 1))).bind fun g6 => (cond g6 (some true) (some (y4.2.2.2.2.Condition == 2))).bind fun g7 =>
  (cond g7 (some true) (some (y4.2.2.2.2.Condition == 4))).bind fun g8 =>
  (zde N y4.2.2.2.2.Stack (y4.2.2.2.1.zD.length : Int) y4.2.2.2.1).bind fun r9 =>
  (zck N y4.2.2.2.2.Lines).bind fun r10 => (z9 y4.2.2.2.2.Exception 0 999).bind fun r11 =>
  (cond r11 ((z9 y4.2.2.2.2.Marks 0 300).bind fun r12 => some r12) (some false)).bind fun g13 => (cond g13 ((z9 y4.2.2.2.2.Steps 0 3000).bind fun r14 => some r14)
  (some false)).bind fun g15 => (zad (!g8) 3).bind fun r16 => (zfx N y4.2.2.2.1 y4.2.2.2.2.Storage).bind fun r17 =>
  (z9 y4.2.2.2.2.At 0 (w6 ((y4.2.2.2.1.zD.length : Int) - 1))).bind fun r18 => (zad (!r18) 3).bind fun r19 =>
  (cond (decide ((y4.2.2.2.2.Stack.length : Int) > 6)) (some true) (some (decide ((y4.2.2.2.2.Lines.length : Int) > 40)))).bind fun g20 => (zad g20 2).bind fun r21 =>
  (zad (!(!r9)) 3).bind fun r22 => (zad r10 18).bind fun r23 => (z9 y4.2.2.2.2.Status 0 3).bind fun r24 => (zad (!r24) 4).bind fun r25 =>
  (zad (!g15) 3).bind fun r26 => (zw N ([r16, r17, r19, r21, r22, r23, r25, r26] : List Int)).bind fun r27 => some r27))
def zaj.k (N : Nat) : Kq := ⟨38, (cvv [T6] [Ty.zI, Ty.zF, Ty.zA] (zaj N)), go [zw.k N, zad.k, z9.k, zda.k N, zde.k N, zan.k, zck.k N, zfx.k N] {lits := [18, 25, 26, 88, 92, 99, 110, 113, 115, 120, 123, 124]} [(0, .rets { slots := [(4, .ptr 4 0), (5, .ptr 5 0), (32, .val (Ty.sl Ty.Number)), (33, .val T6), (34, .val T6)], boxes := [(4, Ty.zF, []), (5, Ty.zA, [])] } [(Ty.sl Ty.Number), T6, T6, Ty.zF, Ty.zA] (zn (zaj.r0 N) N))] Proofs.Tryz.func38 (hL := ⟨⟨_, _, rfl, by kernel_rfl⟩, trivial⟩)⟩
def zd4.b0 (N : Nat) (s0 : List Bool) (s1 : List Bool) (s5 : Int) : Option (Round Bool ((List Bool) × (List Bool) × Int)) :=
 cond (decide (s5 < (s0.length : Int))) ((idx s0 s5).bind fun x1001 => (idx s1 s5).bind fun x1002 => cond (!(x1001 == x1002)) (some (.result false))
  (some (.again (s0, s1, (w6 (s5 + 1)))))) (some (.leave (s0, s1, s5)))
def zd4.r0 (N : Nat) (x : (List Bool) × (List Bool) × Int) := zd4.b0 N x.1 x.2.1 x.2.2
def zd4 (N : Nat) (a0 : List Bool) (a1 : List Bool) : Option Bool :=
 cond ((a0.length : Int) != (a1.length : Int)) (some false) ((zn (zd4.r0 N) N (a0, a1, 0)).bind fun z2 => zb3 z2 (fun z => some z) (fun y1 => some true))
def zd4.k (N : Nat) : Kq := ⟨88, (cvv [Ty.bool] [(Ty.sl Ty.bool), (Ty.sl Ty.bool)] (zd4 N)), go [] {} [(0, .rets { slots := [(0, .val (Ty.sl Ty.bool)), (1, .val (Ty.sl Ty.bool)), (5, .val T6)], boxes := [] } [(Ty.sl Ty.bool), (Ty.sl Ty.bool), T6] (zn (zd4.r0 N) N))] Proofs.Tryz.func88 (hL := ⟨⟨_, _, rfl, by kernel_rfl⟩, trivial⟩)⟩
def zfh (N : Nat) (a0 : Storage) (a1 : Storage) : Option Bool :=
 (cond (a0.Bytes.toList == a1.Bytes.toList) ((zd4 N a0.Tags a1.Tags).bind fun r1 => some r1) (some false)).bind fun g2 => some g2
def zfh.k (N : Nat) : Kq := ⟨43, (cvv [Ty.bool] [Ty.Storage, Ty.Storage] (zfh N)), go [zd4.k N] {} [] Proofs.Tryz.func43⟩
def zgj (N : Nat) (a0 : zR) (a1 : zR) : Option Bool :=
 (zbx N a0.Lines a1.Lines).bind fun r1 => (cond r1 (some (a0.Status == a1.Status)) (some false)).bind fun g2 => (cond g2 (some (a0.Exception == a1.Exception))
  (some false)).bind fun g3 => (cond g3 (some (a0.Marks == a1.Marks)) (some false)).bind fun g4 => (cond g4 (some (a0.Steps == a1.Steps)) (some false)).bind fun g5 =>
  (cond g5 ((zfh N a0.Storage a1.Storage).bind fun r6 => some r6) (some false)).bind fun g7 => some g7
def zgj.k (N : Nat) : Kq := ⟨21, (cvv [Ty.bool] [Ty.zR, Ty.zR] (zgj N)), go [zfh.k N, zbx.k N] {} [] Proofs.Tryz.func21⟩
def zh9 (N : Nat) (a0 : zI) (a1 : zF) (a2 : zA) : Option (zA × Int) :=
 (zaj N a0 a1 a2).bind fun r1 => (cond (a2.Status != 0) (some true) (some (decide (a2.Steps ≥ 3000)))).bind fun g2 => (zad g2 26).bind fun r3 =>
  (zw N ([r1, r3] : List Int)).bind fun r4 => cond (r4 != 0) (some ((⟨[], 0, (⟨(⟨#[]⟩ : ByteArray), []⟩ : Storage), 0, [], [], 0, 0, 0, 0⟩ : zA), r4))
  ((zge N a1 a2).bind fun r5 => some (r5, 0))
def zh9.k (N : Nat) : Kq := ⟨41, (cvv [Ty.zA, T6] [Ty.zI, Ty.zF, Ty.zA] (zh9 N)), go [zaj.k N, zw.k N, zad.k, zge.k N] {lits := [12, 21, 22]} [] Proofs.Tryz.func41⟩
def za2.b0 (N : Nat) (s6 : Int) (s7 : Int) (b2 : zI) (b3 : zF) (b5 : zA) : Option (Round Bool (Int × Int × zI × zF × zA)) :=
 cond (decide (s7 < 150)) ((cond (s6 != 0) (some true) ((zbw N b5).bind fun r1001 => some (!r1001))).bind fun g1002 => (cond g1002 (some true)
  ((zfi b3).bind fun r1003 => (zim b5).bind fun r1004 => (zaj N b2 r1003 r1004).bind fun r1005 => some (r1005 != 0))).bind fun g1006 =>
  (cond g1006 (some true) (some (b5.Steps != s7))).bind fun g1007 => cond g1007 (some (.result false)) (cond (b5.Status != 0) ((zfi b3).bind fun r1008 =>
  (zcq N b2 r1008).bind fun r1009 => (cond (r1009.2 == 0)
  ((zgj N r1009.1 (⟨b5.Lines, b5.Status, b5.Exception, b5.Marks, b5.Steps, b5.Storage⟩ : zR)).bind fun r1010 => some r1010) (some false)).bind fun g1011 =>
  some (.result g1011)) ((zfi b3).bind fun r1012 => (zim b5).bind fun r1013 => (zh9 N b2 r1012 r1013).bind fun r1014 =>
  some (.again (r1014.2, (w6 (s7 + 1)), b2, b3, r1014.1))))) (some (.leave (s6, s7, b2, b3, b5)))
def za2.r0 (N : Nat) (x : Int × Int × zI × zF × zA) := za2.b0 N x.1 x.2.1 x.2.2.1 x.2.2.2.1 x.2.2.2.2
def za2 (N : Nat) (a0 : zI) (a1 : zF) : Option Bool :=
 (zk4 N).bind fun r1 => cond (!r1) (some false) ((zed N a1).bind fun r2 => (cond (!r2) (some true) ((zh5 N a0 a1).bind fun r3 =>
  some (r3 != 0))).bind fun g4 => cond g4 (some true) ((zfi a1).bind fun r5 => (zgn N a0 r5).bind fun r6 =>
  (zn (za2.r0 N) N (r6.2, 0, a0, a1, r6.1)).bind fun z8 => zb3 z8 (fun z => some z) (fun y7 => some true)))
def za2.k (N : Nat) : Kq := ⟨10, (cvv [Ty.bool] [Ty.zI, Ty.zF] (za2 N)), go [zk4.k N, zed.k N, zfi.k, zcq.k N, zh5.k N, zgj.k N, zbw.k N, zgn.k N, zaj.k N, zim.k, zh9.k N] {lits := [24, 42, 44, 60, 86, 88]} [(0, .rets { slots := [(2, .ptr 2 0), (3, .ptr 3 0), (5, .ptr 5 0), (6, .val T6), (7, .val T6)], boxes := [(2, Ty.zI, []), (3, Ty.zF, []), (5, Ty.zA, [])] } [T6, T6, Ty.zI, Ty.zF, Ty.zA] (zn (za2.r0 N) N))] Proofs.Tryz.func10 (hL := ⟨⟨_, _, rfl, by kernel_rfl⟩, trivial⟩)⟩
end
end Go.Proofs.YtppbpnknfigboaaGreatDoor.M
