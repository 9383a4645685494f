/- What the program's functions compute, each tied to its code: part 2. -/
import Derived.Test.YtmifhmfokbigiaaGreatDoorF1
namespace Go.Proofs.YtmifhmfokbigiaaGreatDoor.M
open Go Go.Amx
set_option linter.unusedVariables false
set_option maxRecDepth 100000
noncomputable section
def zql (N : Nat) (a0 : zB) (a1 : zC) : Option zC :=
 (zkl a1).bind fun r1 => (zab N a0 (⟨r1.Storage, r1.At, r1.Stack, r1.Lines, r1.Status, r1.Exception, (w6 (r1.Steps + 1))⟩ : zC)).bind fun r2 =>
  cond (r2.2.1 != 0) ((zkl a1).bind fun r3 =>
  (zen N a0 (⟨r3.Storage, r3.At, r3.Stack, r3.Lines, r3.Status, r3.Exception, (w6 (r3.Steps + 1))⟩ : zC) r2.2.1).bind fun r4 => (cond (r4.Status == 0)
  (some (r4.Steps == 300)) (some false)).bind fun g5 => cond g5 (some (⟨r4.Storage, r4.At, r4.Stack, r4.Lines, 3, r4.Exception, r4.Steps⟩ : zC)) (some r4))
  (cond (r2.2.2.Status == 0) (cond (r2.1 == (a0.zF.length : Int))
  (some (⟨r2.2.2.Storage, r2.2.2.At, r2.2.2.Stack, r2.2.2.Lines, 1, r2.2.2.Exception, r2.2.2.Steps⟩ : zC)) ((cond (r2.2.2.Status == 0) (some (r2.2.2.Steps == 300))
  (some false)).bind fun g6 => cond g6 (some (⟨r2.2.2.Storage, r2.1, r2.2.2.Stack, r2.2.2.Lines, 3, r2.2.2.Exception, r2.2.2.Steps⟩ : zC))
  (some (⟨r2.2.2.Storage, r2.1, r2.2.2.Stack, r2.2.2.Lines, r2.2.2.Status, r2.2.2.Exception, r2.2.2.Steps⟩ : zC)))) ((cond (r2.2.2.Status == 0) (some (r2.2.2.Steps == 300))
  (some false)).bind fun g7 => cond g7 (some (⟨r2.2.2.Storage, r2.2.2.At, r2.2.2.Stack, r2.2.2.Lines, 3, r2.2.2.Exception, r2.2.2.Steps⟩ : zC)) (some r2.2.2)))
def zql.k (N : Nat) : Kq := ⟨29, (cvv [Ty.zC] [Ty.zB, Ty.zC] (zql N)), go [zkl.k, zab.k N, zen.k N] {} [] Proofs.Tryz.func29⟩
def zfb.b0 (N : Nat) (s0 : List Bool) (s1 : List Bool) (s5 : Int) : Option (Round Bool ((List Bool) × (List Bool) × Int)) :=
 cond (decide (s5 < (s0.length : Int))) ((idx s0 s5).bind fun x1001 => (idx s1 s5).bind fun x1002 => cond (!(x1001 == x1002)) (some (.result false))
  (some (.again (s0, s1, (w6 (s5 + 1)))))) (some (.leave (s0, s1, s5)))
def zfb.r0 (N : Nat) (x : (List Bool) × (List Bool) × Int) := zfb.b0 N x.1 x.2.1 x.2.2
def zfb (N : Nat) (a0 : List Bool) (a1 : List Bool) : Option Bool :=
 cond ((a0.length : Int) != (a1.length : Int)) (some false) ((zj (zfb.r0 N) N (a0, a1, 0)).bind fun z2 => zb5 z2 (fun z => some z) (fun y1 => some true))
def zfb.k (N : Nat) : Kq := ⟨68, (cvv [Ty.bool] [(Ty.sl Ty.bool), (Ty.sl Ty.bool)] (zfb N)), go [] {} [(0, .rets { slots := [(0, .val (Ty.sl Ty.bool)), (1, .val (Ty.sl Ty.bool)), (5, .val T6)], boxes := [] } [(Ty.sl Ty.bool), (Ty.sl Ty.bool), T6] (zj (zfb.r0 N) N))] Proofs.Tryz.func68 (hL := ⟨⟨_, _, rfl, by kernel_rfl⟩, trivial⟩)⟩
def zke (N : Nat) (a0 : Storage) (a1 : Storage) : Option Bool :=
 (cond (a0.Bytes.toList == a1.Bytes.toList) ((zfb N a0.Tags a1.Tags).bind fun r1 => some r1) (some false)).bind fun g2 => some g2
def zke.k (N : Nat) : Kq := ⟨30, (cvv [Ty.bool] [Ty.Storage, Ty.Storage] (zke N)), go [zfb.k N] {} [] Proofs.Tryz.func30⟩
def zgn.b0 (N : Nat) (s0 : List Int) (s1 : List Int) (s5 : Int) : Option (Round Bool ((List Int) × (List Int) × Int)) :=
 cond (decide (s5 < (s0.length : Int))) ((idx s0 s5).bind fun x1001 => (idx s1 s5).bind fun x1002 => cond (x1001 != x1002) (some (.result false))
  (some (.again (s0, s1, (w6 (s5 + 1)))))) (some (.leave (s0, s1, s5)))
def zgn.r0 (N : Nat) (x : (List Int) × (List Int) × Int) := zgn.b0 N x.1 x.2.1 x.2.2
def zgn (N : Nat) (a0 : List Int) (a1 : List Int) : Option Bool :=
 cond ((a0.length : Int) != (a1.length : Int)) (some false) ((zj (zgn.r0 N) N (a0, a1, 0)).bind fun z2 => zb5 z2 (fun z => some z) (fun y1 => some true))
def zgn.k (N : Nat) : Kq := ⟨48, (cvv [Ty.bool] [(Ty.sl T6), (Ty.sl T6)] (zgn N)), go [] {} [(0, .rets { slots := [(0, .val (Ty.sl T6)), (1, .val (Ty.sl T6)), (5, .val T6)], boxes := [] } [(Ty.sl T6), (Ty.sl T6), T6] (zj (zgn.r0 N) N))] Proofs.Tryz.func48 (hL := ⟨⟨_, _, rfl, by kernel_rfl⟩, trivial⟩)⟩
def zo2 (N : Nat) (a0 : zC) (a1 : zC) : Option Bool :=
 (zke N a0.Storage a1.Storage).bind fun r1 => (cond r1 (some (a0.At == a1.At)) (some false)).bind fun g2 => (cond g2 ((zgn N a0.Stack a1.Stack).bind fun r3 =>
  some r3) (some false)).bind fun g4 => (cond g4 ((zc2 N a0.Lines a1.Lines).bind fun r5 => some r5) (some false)).bind fun g6 => (cond g6 (some (a0.Status == a1.Status))
  (some false)).bind fun g7 => (cond g7 (some (a0.Exception == a1.Exception)) (some false)).bind fun g8 => (cond g8 (some (a0.Steps == a1.Steps)) (some false)).bind fun g9 => some g9
def zo2.k (N : Nat) : Kq := ⟨18, (cvv [Ty.bool] [Ty.zC, Ty.zC] (zo2 N)), go [zke.k N, zc2.k N, zgn.k N] {} [] Proofs.Tryz.func18⟩
def zhr (N : Nat) (a0 : zB) (a1 : zC) : Option Bool :=
 (zq8 N).bind fun r1 => cond (!r1) (some false) ((zct N a0).bind fun r2 => (cond (!r2) (some true) ((zgm N a1).bind fun r3 => some (!r3))).bind fun g4 =>
  cond g4 (some true) ((zgj N a0).bind fun r5 => (zkl a1).bind fun r6 => (zgd N r5 r6).bind fun r7 => (za0 N a0 a1).bind fun r8 => (cond (r8 == 0)
  ((cond (a1.Status != 0) (some true) (some (a1.Steps == 300))).bind fun g9 => some g9) (some false)).bind fun g10 => cond g10 ((cond (r7.2 == 26) ((zqu r7.1).bind fun r11 =>
  some r11) (some false)).bind fun g12 => some g12) (cond (r8 != 0) ((cond (r7.2 == r8) ((zqu r7.1).bind fun r13 => some r13) (some false)).bind fun g14 => some g14)
  ((cond (r7.2 == 0) ((zql N a0 a1).bind fun r15 => (zo2 N r7.1 r15).bind fun r16 => some r16) (some false)).bind fun g17 => some g17))))
def zhr.k (N : Nat) : Kq := ⟨7, (cvv [Ty.bool] [Ty.zB, Ty.zC] (zhr N)), go [zq8.k N, zct.k N, zgj.k N, zo2.k N, zgm.k N, zqu.k, zkl.k, za0.k N, zgd.k N, zql.k N] {lits := [20, 22, 56]} [] Proofs.Tryz.func7⟩
end
end Go.Proofs.YtmifhmfokbigiaaGreatDoor.M
