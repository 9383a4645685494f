/- What the program's functions compute, each tied to its code: part 2. -/
import Derived.Test.YtppbpnknfigboaaGreatDoorF1
namespace Go.Proofs.YtppbpnknfigboaaGreatDoor.M
open Go Go.Amx
set_option linter.unusedVariables false
set_option maxRecDepth 100000
noncomputable section
def zd (N : Nat) (a0 : HwCode) (a1 : HwState) : Option (Int × Int × HwState) :=
 (idx a0.Instructions a1.At).bind fun x1 => cond (x1.Op == 6) (cond ((zh .i64 x1.Mask a1.Condition) != 0) (some (x1.Target, 0, a1))
  (some ((w6 (a1.At + 1)), 0, a1))) (cond (x1.Op == 7) (if 0 ≤ x1.A then (if x1.A < (a1.Registers.length : Int) then ((a1.Registers[x1.A.toNat]?).bind fun x2 =>
  if 0 ≤ x1.B then (if x1.B < (a1.Registers.length : Int) then ((a1.Registers[x1.B.toNat]?).bind fun x3 => (zgl N x2 x3).bind fun r4 => (zc7 r4).bind fun r5 =>
  cond ((zh .i64 x1.Mask r5) != 0) (some (x1.Target, 0, a1)) (some ((w6 (a1.At + 1)), 0, a1))) else none) else none) else none) else none) (cond (x1.Op == 8)
  (some (x1.Target, 0, a1)) (cond (x1.Op == 18) (cond ((a1.Stack.length : Int) == 6) (some (0, 6, a1)) (cond (Nat.ble ((a1.Stack.length + ([a1.At] : List Int).length) * 8) z9)
  (some (x1.Target, 0, (⟨a1.Registers, a1.Condition, a1.Storage, a1.At, (a1.Stack ++ ([a1.At] : List Int)), a1.Lines, a1.Status, a1.Exception, a1.Marks, a1.Steps⟩ : HwState))) none))
  (cond (x1.Op == 19) (cond ((a1.Stack.length : Int) == 0)
  (some ((w6 (a1.At + 1)), 0, (⟨a1.Registers, a1.Condition, a1.Storage, a1.At, a1.Stack, a1.Lines, 1, a1.Exception, a1.Marks, a1.Steps⟩ : HwState)))
  (if 0 ≤ (w6 ((a1.Stack.length : Int) - 1)) then (if (w6 ((a1.Stack.length : Int) - 1)) < (a1.Stack.length : Int) then ((a1.Stack[(w6 ((a1.Stack.length : Int) - 1)).toNat]?).bind fun x6 =>
  if 0 ≤ (w6 ((a1.Stack.length : Int) - 1)) ∧ (w6 ((a1.Stack.length : Int) - 1)) ≤ (a1.Stack.length : Int) then (if 0 ≤ (0 : Int) ∧ (0 : Int) ≤ (w6 ((a1.Stack.length : Int) - 1)) then (some ((w6 (x6 + 1)), 0, (⟨a1.Registers, a1.Condition, a1.Storage, a1.At, ((a1.Stack.drop ((0 : Int).toNat)).take ((w6 ((a1.Stack.length : Int) - 1)).toNat - (0 : Int).toNat)), a1.Lines, a1.Status, a1.Exception, a1.Marks, a1.Steps⟩ : HwState))) else none) else none) else none) else none))
  (cond (x1.Op == 20) (if 0 ≤ x1.R then (if x1.R < (a1.Registers.length : Int) then ((a1.Registers[x1.R.toNat]?).bind fun x7 => (zfv N x7).bind fun r8 =>
  (zg r8 100 999).bind fun r9 => cond r9 (some (0, r8, a1)) (some (0, 2, a1))) else none) else none) (cond (x1.Op == 25) (cond (a1.Marks == 300)
  (some ((w6 (a1.At + 1)), 0, (⟨a1.Registers, a1.Condition, a1.Storage, a1.At, a1.Stack, a1.Lines, 3, a1.Exception, a1.Marks, a1.Steps⟩ : HwState)))
  (some ((w6 (a1.At + 1)), 0, (⟨a1.Registers, a1.Condition, a1.Storage, a1.At, a1.Stack, a1.Lines, a1.Status, a1.Exception, (w6 (a1.Marks + 1)), a1.Steps⟩ : HwState))))
  (cond (x1.Op == 26)
  (some ((w6 (a1.At + 1)), 0, (⟨a1.Registers, a1.Condition, a1.Storage, a1.At, a1.Stack, a1.Lines, 1, a1.Exception, a1.Marks, a1.Steps⟩ : HwState)))
  ((cond (x1.Op == 22) (some (x1.Op == 22)) (cond (x1.Op == 23) (some (x1.Op == 23)) (some (x1.Op == 24)))).bind fun q10 => cond q10 ((zmc N a1 x1).bind fun r11 =>
  some ((w6 (a1.At + 1)), r11.1, r11.2)) ((cond (x1.Op == 14) (some (x1.Op == 14)) (cond (x1.Op == 15) (some (x1.Op == 15)) (cond (x1.Op == 16) (some (x1.Op == 16))
  (some (x1.Op == 17))))).bind fun q12 => cond q12 ((zmd N a1 x1).bind fun r13 => some ((w6 (a1.At + 1)), r13.1, r13.2)) ((cond (x1.Op == 9)
  (some (x1.Op == 9)) (cond (x1.Op == 10) (some (x1.Op == 10)) (cond (x1.Op == 11) (some (x1.Op == 11)) (cond (x1.Op == 12) (some (x1.Op == 12))
  (some (x1.Op == 13)))))).bind fun q14 => cond q14 ((zlo N a1 x1).bind fun r15 => some ((w6 (a1.At + 1)), r15.1, r15.2))
  ((zln N a1 x1).bind fun r16 => some ((w6 (a1.At + 1)), r16.1, r16.2))))))))))))
def zd.k (N : Nat) : Kq := ⟨86, (ctv [.val Ty.HwCode, .ptr Ty.HwState true [0, 5, 6]] [T6, T6] [Ty.HwState] [] [Ty.HwCode, Ty.HwState] (zd N)), go [zg.k, zc7.k, zgl.k N, zfv.k N, zmc.k N, zmd.k N, zlo.k N, zln.k N] {lits := [60, 87], pk := [1000000], bj := [170, 178, 187]} [] Proofs.Tryz.func86⟩
def zcc.b0 (N : Nat) (s1 : Int) (s2 : Int) (s7 : Int) (b3 : HwCode) : Option (Round Int (Int × Int × Int × HwCode)) :=
 cond (decide (s7 < (b3.Traps.length : Int))) ((idx b3.Traps s7).bind fun x1001 => (cond (decide (x1001.From ≤ s1)) (some (decide (s1 < x1001.To))) (some false)).bind fun g1002 =>
  (cond g1002 ((cond (x1001.Exception == 0) (some true) (some (x1001.Exception == s2))).bind fun g1003 => some g1003) (some false)).bind fun g1004 =>
  cond g1004 (some (.result x1001.Handler)) (some (.again (s1, s2, (w6 (s7 + 1)), b3)))) (some (.leave (s1, s2, s7, b3)))
def zcc.r0 (N : Nat) (x : Int × Int × Int × HwCode) := zcc.b0 N x.1 x.2.1 x.2.2.1 x.2.2.2
def zcc (N : Nat) (a0 : HwCode) (a1 : Int) (a2 : Int) : Option Int :=
 (z5 (zcc.r0 N) N (a1, a2, 0, a0)).bind fun z2 => zd5 z2 (fun z => some z) (fun y1 => some (-1))
def zcc.k (N : Nat) : Kq := ⟨134, (cvv [T6] [Ty.HwCode, T6, T6] (zcc N)), go [] {} [(0, .rets { slots := [(1, .val T6), (2, .val T6), (3, .ptr 3 0), (7, .val T6)], boxes := [(3, Ty.HwCode, [])] } [T6, T6, T6, Ty.HwCode] (z5 (zcc.r0 N) N))] Proofs.Tryz.func134 (hL := ⟨⟨_, _, rfl, by kernel_rfl⟩, trivial⟩)⟩
def zdo.b0 (N : Nat) (s2 : Int) (b3 : HwCode) (b4 : HwState) (b6 : HwState) : Option (Round HwState (Int × HwCode × HwState × HwState)) :=
 (zcc N b3 b4.At s2).bind fun r1001 => cond (r1001 != (-1))
  (some (.result (⟨b4.Registers, b4.Condition, b4.Storage, r1001, b4.Stack, b4.Lines, b4.Status, b4.Exception, b4.Marks, b4.Steps⟩ : HwState))) (cond ((b4.Stack.length : Int) == 0)
  (some (.result (⟨b4.Registers, b4.Condition, b4.Storage, b4.At, b4.Stack, b4.Lines, 2, b4.Exception, b4.Marks, b4.Steps⟩ : HwState)))
  ((idx b4.Stack (w6 ((b4.Stack.length : Int) - 1))).bind fun x1002 =>
  if 0 ≤ (w6 ((b4.Stack.length : Int) - 1)) ∧ (w6 ((b4.Stack.length : Int) - 1)) ≤ (b4.Stack.length : Int) then (if 0 ≤ (0 : Int) ∧ (0 : Int) ≤ (w6 ((b4.Stack.length : Int) - 1)) then (some (.again (s2, b3, (⟨b4.Registers, b4.Condition, b4.Storage, x1002, ((b4.Stack.take (w6 ((b4.Stack.length : Int) - 1)).toNat).drop (0 : Int).toNat), b4.Lines, b4.Status, b4.Exception, b4.Marks, b4.Steps⟩ : HwState), b6))) else none) else none))
def zdo.r0 (N : Nat) (x : Int × HwCode × HwState × HwState) := zdo.b0 N x.1 x.2.1 x.2.2.1 x.2.2.2
def zdo (N : Nat) (a0 : HwCode) (a1 : HwState) (a2 : Int) : Option HwState :=
 (z5 (zdo.r0 N) N (a2, a0, (⟨a1.Registers, a1.Condition, a1.Storage, a1.At, a1.Stack, a1.Lines, a1.Status, a2, a1.Marks, a1.Steps⟩ : HwState), (⟨[], 0, (⟨(⟨#[]⟩ : ByteArray), []⟩ : Storage), 0, [], [], 0, 0, 0, 0⟩ : HwState))).bind fun z2 =>
  zd5 z2 (fun z => some z) (fun y1 => some y1.2.2.2)
def zdo.k (N : Nat) : Kq := ⟨87, (cvv [Ty.HwState] [Ty.HwCode, Ty.HwState, T6] (zdo N)), go [zcc.k N] {} [(0, .rets { slots := [(2, .val T6), (3, .ptr 3 0), (4, .ptr 4 0), (6, .ptr 6 0)], boxes := [(3, Ty.HwCode, []), (4, Ty.HwState, []), (6, Ty.HwState, [0, 3, 5, 6])] } [T6, Ty.HwCode, Ty.HwState, Ty.HwState] (z5 (zdo.r0 N) N))] Proofs.Tryz.func87 (hL := ⟨⟨_, _, rfl, by kernel_rfl⟩, trivial⟩)⟩
def zlp (N : Nat) (a0 : HwCode) (a1 : HwState) : Option HwState :=
 (zk7 a1).bind fun r1 =>
  (zd N a0 (⟨r1.Registers, r1.Condition, (⟨r1.Storage.Bytes, r1.Storage.Tags⟩ : Storage), r1.At, r1.Stack, r1.Lines, r1.Status, r1.Exception, r1.Marks, (w6 (r1.Steps + 1))⟩ : HwState)).bind fun r2 =>
  cond (r2.2.1 != 0) ((zk7 a1).bind fun r3 =>
  (zdo N a0 (⟨r3.Registers, r3.Condition, r3.Storage, r3.At, r3.Stack, r3.Lines, r3.Status, r3.Exception, r3.Marks, (w6 (r3.Steps + 1))⟩ : HwState) r2.2.1).bind fun r4 =>
  (cond (r4.Status == 0) (some (r4.Steps == 3000)) (some false)).bind fun g5 =>
  cond g5 (some (⟨r4.Registers, r4.Condition, r4.Storage, r4.At, r4.Stack, r4.Lines, 3, r4.Exception, r4.Marks, r4.Steps⟩ : HwState)) (some r4)) (cond (r2.2.2.Status == 0)
  (cond (r2.1 == (a0.Instructions.length : Int))
  (some (⟨r2.2.2.Registers, r2.2.2.Condition, r2.2.2.Storage, r2.2.2.At, r2.2.2.Stack, r2.2.2.Lines, 1, r2.2.2.Exception, r2.2.2.Marks, r2.2.2.Steps⟩ : HwState))
  ((cond (r2.2.2.Status == 0) (some (r2.2.2.Steps == 3000)) (some false)).bind fun g6 =>
  cond g6 (some (⟨r2.2.2.Registers, r2.2.2.Condition, r2.2.2.Storage, r2.1, r2.2.2.Stack, r2.2.2.Lines, 3, r2.2.2.Exception, r2.2.2.Marks, r2.2.2.Steps⟩ : HwState))
  (some (⟨r2.2.2.Registers, r2.2.2.Condition, r2.2.2.Storage, r2.1, r2.2.2.Stack, r2.2.2.Lines, r2.2.2.Status, r2.2.2.Exception, r2.2.2.Marks, r2.2.2.Steps⟩ : HwState))))
  ((cond (r2.2.2.Status == 0) (some (r2.2.2.Steps == 3000)) (some false)).bind fun g7 =>
  cond g7 (some (⟨r2.2.2.Registers, r2.2.2.Condition, r2.2.2.Storage, r2.2.2.At, r2.2.2.Stack, r2.2.2.Lines, 3, r2.2.2.Exception, r2.2.2.Marks, r2.2.2.Steps⟩ : HwState))
  (some r2.2.2)))
def zlp.k (N : Nat) : Kq := ⟨42, (cvv [Ty.HwState] [Ty.HwCode, Ty.HwState] (zlp N)), go [zk7.k, zd.k N, zdo.k N] {} [] Proofs.Tryz.func42⟩
def zfm.b0 (N : Nat) (b3 : HwCode) (b4 : HwResult) (b5 : HwState) : Option (Stp (HwCode × HwResult × HwState)) :=
 cond (b5.Status == 0) ((zlp N (⟨(⟨b3.Storage.Bytes, b3.Storage.Tags⟩ : Storage), b3.Instructions, b3.Traps⟩ : HwCode) b5).bind fun r1001 =>
  some (.again ((⟨(⟨b3.Storage.Bytes, b3.Storage.Tags⟩ : Storage), b3.Instructions, b3.Traps⟩ : HwCode), (⟨b4.Lines, b4.Status, b4.Exception, b4.Marks, b4.Steps, (⟨b4.Storage.Bytes, b4.Storage.Tags⟩ : Storage)⟩ : HwResult), r1001)))
  (some (.leave ((⟨(⟨b3.Storage.Bytes, b3.Storage.Tags⟩ : Storage), b3.Instructions, b3.Traps⟩ : HwCode), (⟨b4.Lines, b4.Status, b4.Exception, b4.Marks, b4.Steps, (⟨b4.Storage.Bytes, b4.Storage.Tags⟩ : Storage)⟩ : HwResult), b5)))
def zfm.r0 (N : Nat) (x : HwCode × HwResult × HwState) := zfm.b0 N x.1 x.2.1 x.2.2
def zfm (N : Nat) (a0 : HwModel) (a1 : HwCode) : Option HwResult :=
 (zkn a0 a1).bind fun r1 => (zl (zfm.r0 N) N (a1, (⟨[], 0, 0, 0, 0, (⟨(⟨#[]⟩ : ByteArray), []⟩ : Storage)⟩ : HwResult), r1)).bind fun y2 =>
  some (⟨y2.2.2.Lines, y2.2.2.Status, y2.2.2.Exception, y2.2.2.Marks, y2.2.2.Steps, y2.2.2.Storage⟩ : HwResult)
def zfm.k (N : Nat) : Kq := ⟨22, (cvv [Ty.HwResult] [Ty.HwModel, Ty.HwCode] (zfm N)), go [zkn.k, zlp.k N] {} [(0, .plain { slots := [(3, .ptr 3 0), (4, .ptr 4 0), (5, .ptr 5 0)], boxes := [(3, Ty.HwCode, []), (4, Ty.HwResult, [0, 6]), (5, Ty.HwState, [])] } [Ty.HwCode, Ty.HwResult, Ty.HwState] (zl (zfm.r0 N) N))] Proofs.Tryz.func22 (hL := ⟨⟨_, _, rfl, by kernel_rfl⟩, trivial⟩)⟩
def zgg (N : Nat) (a0 : HwModel) (a1 : HwCode) : Option Bool :=
 (zl5 N).bind fun r1 => cond (!r1) (some false) ((zet N (⟨(⟨a1.Storage.Bytes, a1.Storage.Tags⟩ : Storage), a1.Instructions, a1.Traps⟩ : HwCode)).bind fun r2 =>
  cond (!r2) (some true) ((zi4 (⟨(⟨a1.Storage.Bytes, a1.Storage.Tags⟩ : Storage), a1.Instructions, a1.Traps⟩ : HwCode)).bind fun r3 =>
  (zb5 N (⟨a0.Registers, a0.Fused, a0.Memory⟩ : HwModel) r3).bind fun r4 => (zi5 N (⟨a0.Registers, a0.Fused, a0.Memory⟩ : HwModel)
  (⟨(⟨a1.Storage.Bytes, a1.Storage.Tags⟩ : Storage), a1.Instructions, a1.Traps⟩ : HwCode)).bind fun r5 => cond (r5 != 0) ((cond (r4.2 == r5)
  ((ze5 N (⟨r4.1.Lines, r4.1.Status, r4.1.Exception, r4.1.Marks, r4.1.Steps, (⟨r4.1.Storage.Bytes, r4.1.Storage.Tags⟩ : Storage)⟩ : HwResult)
  (⟨[], 0, 0, 0, 0, (⟨(⟨#[]⟩ : ByteArray), []⟩ : Storage)⟩ : HwResult)).bind fun r6 => some r6) (some false)).bind fun g7 => some g7) ((cond (r4.2 == 0)
  ((zfm N (⟨a0.Registers, a0.Fused, a0.Memory⟩ : HwModel) (⟨(⟨a1.Storage.Bytes, a1.Storage.Tags⟩ : Storage), a1.Instructions, a1.Traps⟩ : HwCode)).bind fun r8 =>
  (ze5 N (⟨r4.1.Lines, r4.1.Status, r4.1.Exception, r4.1.Marks, r4.1.Steps, (⟨r4.1.Storage.Bytes, r4.1.Storage.Tags⟩ : Storage)⟩ : HwResult) r8).bind fun r9 => some r9)
  (some false)).bind fun g10 => some g10)))
def zgg.k (N : Nat) : Kq := ⟨4, (cvv [Ty.bool] [Ty.HwModel, Ty.HwCode] (zgg N)), go [zl5.k N, zet.k N, zi4.k, zb5.k N, zi5.k N, ze5.k N, zfm.k N] {lits := [16, 39]} [] Proofs.Tryz.func4⟩
end
end Go.Proofs.YtppbpnknfigboaaGreatDoor.M
