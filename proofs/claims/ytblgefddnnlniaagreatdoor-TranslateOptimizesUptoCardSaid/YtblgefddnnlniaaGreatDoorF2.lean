/- What the program's functions compute, each tied to its code: part 2. -/
import Derived.Test.YtblgefddnnlniaaGreatDoorF1
namespace Go.Proofs.YtblgefddnnlniaaGreatDoor.M
open Go Go.Amx
set_option linter.unusedVariables false
set_option maxRecDepth 100000
noncomputable section
def ze.b2 (N : Nat) (s8 : Int) (s9 : List Int) (s11 : Int) (b1 : Optimization) : Option (Round (Int × Int) (Int × (List Int) × Int × Optimization)) :=
 cond (decide (s11 < s8)) ((idx b1.Before.zA s11).bind fun x3001 => (idx b1.Proof.Index s11).bind fun x3002 => cond (x3002 == (-1))
  ((cond (s11 == (w6 (s8 - 1))) (some true) ((zfx x3001).bind fun r3003 => some (!r3003))).bind fun g3004 => (cond g3004 (some true)
  ((idx b1.Proof.Facts s11).bind fun x3005 => (zfh N x3005 x3001 x3001.R).bind fun r3006 => some (!r3006))).bind fun g3007 => cond g3007 (some (.result (s11, 42)))
  (some (.again (s8, s9, (w6 (s11 + 1)), b1)))) (if 0 ≤ s11 then (if s11 < (s9.length : Int) then ((s9[s11.toNat]?).bind fun x3008 => (cond (x3002 != x3008)
  (some true) (some (decide (x3002 ≥ (b1.After.zA.length : Int))))).bind fun g3009 => cond g3009 (some (.result (s11, 42)))
  ((idx b1.After.zA x3002).bind fun x3010 => (zex x3001.Op).bind fun r3011 =>
  cond r3011 (if 0 ≤ x3001.Target then (if x3001.Target < (s9.length : Int) then ((s9[x3001.Target.toNat]?).bind fun x3012 => (zfx x3001).bind fun r3013 =>
  (cond r3013 (some (zbw [(x3010.Op == 3), (x3010.R == x3001.R), (x3010.A == x3010.A), (x3010.B == 0), (x3010.zO == 0), (x3010.Place.Based == false), (x3010.Place.Pointer == 0), (x3010.Place.Offset == 0), (x3010.From.Based == false), (x3010.From.Pointer == 0), (x3010.From.Offset == 0), (x3010.zD.Kind == 0), (x3010.zD.Length == 0), (x3010.zD.Scale == 0), (x3010.Second.Kind == 0), (x3010.Second.Length == 0), (x3010.Second.Scale == 0), (x3010.Half == false), (x3010.zJ == false), (x3010.Number.N == 0), (x3010.Number.Scale == 0), (x3010.Text == (⟨#[]⟩ : ByteArray)), (x3010.Other == (⟨#[]⟩ : ByteArray)), (x3010.Mask == 0), (x3010.Target == 0), (x3010.Pointer == 0), (x3010.Source == 0)]))
  (some false)).bind fun g3014 => (cond g3014 ((idx b1.Proof.Facts s11).bind fun x3015 => (zfh N x3015 x3001 x3010.A).bind fun r3016 => some r3016)
  (some false)).bind fun g3017 =>
  (cond (!(zbw [(x3010.Op == x3001.Op), (x3010.R == x3001.R), (x3010.A == x3001.A), (x3010.B == x3001.B), (x3010.zO == x3001.zO), (x3010.Place.Based == x3001.Place.Based), (x3010.Place.Pointer == x3001.Place.Pointer), (x3010.Place.Offset == x3001.Place.Offset), (x3010.From.Based == x3001.From.Based), (x3010.From.Pointer == x3001.From.Pointer), (x3010.From.Offset == x3001.From.Offset), (x3010.zD.Kind == x3001.zD.Kind), (x3010.zD.Length == x3001.zD.Length), (x3010.zD.Scale == x3001.zD.Scale), (x3010.Second.Kind == x3001.Second.Kind), (x3010.Second.Length == x3001.Second.Length), (x3010.Second.Scale == x3001.Second.Scale), (x3010.Half == x3001.Half), (x3010.zJ == x3001.zJ), (x3010.Number.N == x3001.Number.N), (x3010.Number.Scale == x3001.Number.Scale), (x3010.Text == x3001.Text), (x3010.Other == x3001.Other), (x3010.Mask == x3001.Mask), (x3010.Target == x3012), (x3010.Pointer == x3001.Pointer), (x3010.Source == x3001.Source)]))
  (some (!g3017)) (some false)).bind fun g3018 => cond g3018 (some (.result (s11, 42))) (some (.again (s8, s9, (w6 (s11 + 1)), b1)))) else none) else none)
  ((zfx x3001).bind fun r3019 =>
  (cond r3019 (some (zbw [(x3010.Op == 3), (x3010.R == x3001.R), (x3010.A == x3010.A), (x3010.B == 0), (x3010.zO == 0), (x3010.Place.Based == false), (x3010.Place.Pointer == 0), (x3010.Place.Offset == 0), (x3010.From.Based == false), (x3010.From.Pointer == 0), (x3010.From.Offset == 0), (x3010.zD.Kind == 0), (x3010.zD.Length == 0), (x3010.zD.Scale == 0), (x3010.Second.Kind == 0), (x3010.Second.Length == 0), (x3010.Second.Scale == 0), (x3010.Half == false), (x3010.zJ == false), (x3010.Number.N == 0), (x3010.Number.Scale == 0), (x3010.Text == (⟨#[]⟩ : ByteArray)), (x3010.Other == (⟨#[]⟩ : ByteArray)), (x3010.Mask == 0), (x3010.Target == 0), (x3010.Pointer == 0), (x3010.Source == 0)]))
  (some false)).bind fun g3020 => (cond g3020 ((idx b1.Proof.Facts s11).bind fun x3021 => (zfh N x3021 x3001 x3010.A).bind fun r3022 => some r3022)
  (some false)).bind fun g3023 =>
  (cond (!(zbw [(x3010.Op == x3001.Op), (x3010.R == x3001.R), (x3010.A == x3001.A), (x3010.B == x3001.B), (x3010.zO == x3001.zO), (x3010.Place.Based == x3001.Place.Based), (x3010.Place.Pointer == x3001.Place.Pointer), (x3010.Place.Offset == x3001.Place.Offset), (x3010.From.Based == x3001.From.Based), (x3010.From.Pointer == x3001.From.Pointer), (x3010.From.Offset == x3001.From.Offset), (x3010.zD.Kind == x3001.zD.Kind), (x3010.zD.Length == x3001.zD.Length), (x3010.zD.Scale == x3001.zD.Scale), (x3010.Second.Kind == x3001.Second.Kind), (x3010.Second.Length == x3001.Second.Length), (x3010.Second.Scale == x3001.Second.Scale), (x3010.Half == x3001.Half), (x3010.zJ == x3001.zJ), (x3010.Number.N == x3001.Number.N), (x3010.Number.Scale == x3001.Number.Scale), (x3010.Text == x3001.Text), (x3010.Other == x3001.Other), (x3010.Mask == x3001.Mask), (x3010.Target == x3001.Target), (x3010.Pointer == x3001.Pointer), (x3010.Source == x3001.Source)]))
  (some (!g3023)) (some false)).bind fun g3024 => cond g3024 (some (.result (s11, 42))) (some (.again (s8, s9, (w6 (s11 + 1)), b1)))))) else none) else none))
  (some (.leave (s8, s9, s11, b1)))
def ze.r2 (N : Nat) (x : Int × (List Int) × Int × Optimization) := ze.b2 N x.1 x.2.1 x.2.2.1 x.2.2.2
def ze.b4 (N : Nat) (s8 : Int) (s9 : List Int) (s17 : Int) (b1 : Optimization) : Option (Round (Int × Int) (Int × (List Int) × Int × Optimization)) :=
 cond (decide (s17 < (b1.Before.zP.length : Int))) ((idx b1.Before.zP s17).bind fun x5001 => (idx b1.After.zP s17).bind fun x5002 =>
  if 0 ≤ x5001.From then (if x5001.From < (s9.length : Int) then ((s9[x5001.From.toNat]?).bind fun x5003 =>
  if 0 ≤ x5001.To then (if x5001.To < (s9.length : Int) then ((s9[x5001.To.toNat]?).bind fun x5004 =>
  if 0 ≤ x5001.Handler then (if x5001.Handler < (s9.length : Int) then ((s9[x5001.Handler.toNat]?).bind fun x5005 =>
  cond (!(zbw [(x5002.From == x5003), (x5002.To == x5004), (x5002.Exception == x5001.Exception), (x5002.Handler == x5005)])) (some (.result (0, 42)))
  (some (.again (s8, s9, (w6 (s17 + 1)), b1)))) else none) else none) else none) else none) else none) else none) (some (.leave (s8, s9, s17, b1)))
def ze.r4 (N : Nat) (x : Int × (List Int) × Int × Optimization) := ze.b4 N x.1 x.2.1 x.2.2.1 x.2.2.2
def ze (N : Nat) (a0 : Optimization) : Option (Int × Int) :=
 (zcx N a0.Model a0.Before).bind fun r1 => cond (r1 != 0) (some (0, r1)) ((zcx N a0.Model a0.After).bind fun r2 => cond (r2 != 0) (some (0, r2))
  ((zd N a0.Model a0.Before a0.Proof.Facts).bind fun r3 => cond (r3.2 != 0) (some (r3.1, r3.2))
  ((cond ((a0.Proof.Index.length : Int) != (a0.Before.zA.length : Int)) (some true) ((zd5 N a0.Before.Storage a0.After.Storage).bind fun r4 =>
  some (!r4))).bind fun g5 => cond g5 (some (0, 6))
  (if 0 ≤ (w6 ((a0.Before.zA.length : Int) + 1)) then (if (w6 ((a0.Before.zA.length : Int) + 1)) ≤ (w6 ((a0.Before.zA.length : Int) + 1)) then (cond (Nat.ble ((w6 ((a0.Before.zA.length : Int) + 1)).toNat * 8) zar)
  ((zf (ze.r0 N) N ((a0.Before.zA.length : Int), (List.replicate (w6 ((a0.Before.zA.length : Int) + 1)).toNat (0 : Int)), 0, a0)).bind fun y6 =>
  (zj (ze.r2 N) N (y6.1, y6.2.1, 0, y6.2.2.2)).bind fun z8 => zax z8 (fun z => some z) (fun y7 =>
  if 0 ≤ y7.1 then (if y7.1 < (y7.2.1.length : Int) then ((y7.2.1[y7.1.toNat]?).bind fun x9 => (cond ((y7.2.2.2.After.zA.length : Int) != x9) (some true)
  (some ((y7.2.2.2.After.zP.length : Int) != (y7.2.2.2.Before.zP.length : Int)))).bind fun g10 => cond g10 (some (0, 42))
  ((zj (ze.r4 N) N (y7.1, y7.2.1, 0, y7.2.2.2)).bind fun z12 => zax z12 (fun z => some z) (fun y11 =>
  some (y11.1, 0)))) else none) else none)) none) else none) else none))))
def ze.k (N : Nat) : Kq := ⟨18, (cvv [T6, T6] [Ty.Optimization] (ze N)), go [zcx.k N, zd.k N, zd5.k N, zc4.k, zfx.k, zfh.k N, zex.k] {} [(0, .plain { slots := [(1, .ptr 1 0), (8, .val T6), (9, .own 5000009 T6), (10, .val T6)], boxes := [(1, Ty.Optimization, [])] } [T6, (Ty.sl T6), T6, Ty.Optimization] (zf (ze.r0 N) N)), (2, .rets { slots := [(1, .ptr 1 0), (8, .val T6), (9, .own 5000009 T6), (11, .val T6)], boxes := [(1, Ty.Optimization, [])] } [T6, (Ty.sl T6), T6, Ty.Optimization] (zj (ze.r2 N) N)), (4, .rets { slots := [(1, .ptr 1 0), (8, .val T6), (9, .own 5000009 T6), (17, .val T6)], boxes := [(1, Ty.Optimization, [])] } [T6, (Ty.sl T6), T6, Ty.Optimization] (zj (ze.r4 N) N))] Proofs.Tryz.func18 (hL := ⟨⟨_, _, rfl, by kernel_rfl⟩, ⟨_, _, rfl, by kernel_rfl⟩, ⟨_, _, rfl, by kernel_rfl⟩, trivial⟩)⟩
def zag.b2 (N : Nat) (s3 : List (List zB)) (s5 : Int) (s7 : Int) (s8 : Int) (b1 : Optimization) (b6 : zC) : Option (Round Bool ((List (List zB)) × Int × Int × Int × Optimization × zC)) :=
 cond (decide (s8 < b1.Model.Registers)) ((cond (s8 != b6.R) ((idx s3 s5).bind fun x3001 => (zfh N x3001 b6 s8).bind fun r3002 => some r3002)
  (some false)).bind fun g3003 => (cond g3003 ((cond (s7 == (-1)) (some true) ((idx b1.After.zA s7).bind fun x3004 => some (x3004.Op != 3))).bind fun g3005 => some g3005)
  (some false)).bind fun g3006 => cond g3006 (some (.result false)) (some (.again (s3, s5, s7, (w6 (s8 + 1)), b1, b6)))) (some (.leave (s3, s5, s7, s8, b1, b6)))
def zag.r2 (N : Nat) (x : (List (List zB)) × Int × Int × Int × Optimization × zC) := zag.b2 N x.1 x.2.1 x.2.2.1 x.2.2.2.1 x.2.2.2.2.1 x.2.2.2.2.2
def zag.b0 (N : Nat) (s3 : List (List zB)) (s5 : Int) (b1 : Optimization) : Option (Round Bool ((List (List zB)) × Int × Optimization)) :=
 cond (decide (s5 < (b1.Before.zA.length : Int))) ((idx b1.Before.zA s5).bind fun x1001 => (idx b1.Proof.Index s5).bind fun x1002 =>
  (zfx x1001).bind fun r1003 => cond (!r1003) (some (.again (s3, (w6 (s5 + 1)), b1))) ((idx s3 s5).bind fun x1004 =>
  (zfh N x1004 x1001 x1001.R).bind fun r1005 => (cond r1005 (some (decide (s5 < (w6 ((b1.Before.zA.length : Int) - 1)))))
  (some false)).bind fun g1006 => cond g1006 (cond (x1002 != (-1)) (some (.result false)) (some (.again (s3, (w6 (s5 + 1)), b1))))
  ((zj (zag.r2 N) N (s3, s5, x1002, 0, b1, x1001)).bind fun z1008 => zax z1008 (fun z => some (.result z)) (fun y1007 =>
  some (.again (y1007.1, (w6 (y1007.2.1 + 1)), y1007.2.2.2.2.1)))))) (some (.leave (s3, s5, b1)))
def zag.r0 (N : Nat) (x : (List (List zB)) × Int × Optimization) := zag.b0 N x.1 x.2.1 x.2.2
def zag (N : Nat) (a0 : Optimization) : Option Bool :=
 (zg N a0.Before).bind fun r1 => (zj (zag.r0 N) N (r1.1, 0, a0)).bind fun z3 => zax z3 (fun z => some z) (fun y2 => some true)
def zag.k (N : Nat) : Kq := ⟨19, (cvv [Ty.bool] [Ty.Optimization] (zag N)), go [zg.k N, zfx.k, zfh.k N] {} [(2, .rets { slots := [(1, .ptr 1 0), (3, .val (Ty.sl (Ty.sl Ty.zB))), (5, .val T6), (6, .ptr 6 0), (7, .val T6), (8, .val T6)], boxes := [(1, Ty.Optimization, []), (6, Ty.zC, [])] } [(Ty.sl (Ty.sl Ty.zB)), T6, T6, T6, Ty.Optimization, Ty.zC] (zj (zag.r2 N) N)), (0, .rets { slots := [(1, .ptr 1 0), (3, .val (Ty.sl (Ty.sl Ty.zB))), (5, .val T6)], boxes := [(1, Ty.Optimization, [])] } [(Ty.sl (Ty.sl Ty.zB)), T6, Ty.Optimization] (zj (zag.r0 N) N))] Proofs.Tryz.func19 (hL := ⟨⟨_, _, rfl, by kernel_rfl⟩, ⟨_, _, rfl, by kernel_rfl⟩, trivial⟩)⟩
def zdw (N : Nat) (a0 : zI) (a1 : zF) : Option Bool :=
 (zk1 N).bind fun r1 => cond (!r1) (some false) ((zb9 N a1).bind fun r2 => cond (!r2) (some true) ((zh8 a1).bind fun r3 =>
  (zi N a0 r3).bind fun r4 => (zcx N a0 a1).bind fun r5 => (zl8 N a0 a1).bind fun r6 => (zg N r6).bind fun r7 => (cond (r5 == 0)
  (some (!r7.2)) (some false)).bind fun g8 => cond g8 ((cond (r4.2.2 == 2) ((zkq N r4.1).bind fun r9 => some r9) (some false)).bind fun g10 =>
  (cond g10 (some ((r4.2.1.Facts.length : Int) == 0)) (some false)).bind fun g11 => (cond g11 (some ((r4.2.1.Index.length : Int) == 0)) (some false)).bind fun g12 => some g12)
  (cond (r5 != 0) ((cond (r4.2.2 == r5) ((zkq N r4.1).bind fun r13 => some r13) (some false)).bind fun g14 => (cond g14 (some ((r4.2.1.Facts.length : Int) == 0))
  (some false)).bind fun g15 => (cond g15 (some ((r4.2.1.Index.length : Int) == 0)) (some false)).bind fun g16 => some g16) ((cond (r4.2.2 != 0) (some true)
  ((zb9 N r4.1).bind fun r17 => some (!r17))).bind fun g18 => (cond g18 (some true) ((zb2 N r4.2.1.Facts).bind fun r19 => some (!r19))).bind fun g20 =>
  (cond g20 (some true) (some (decide ((r4.2.1.Index.length : Int) > 250)))).bind fun g21 => cond g21 (some false)
  ((ze N (⟨a0, a1, r4.1, r4.2.1⟩ : Optimization)).bind fun r22 => (cond (r22.2 == 0) (some (r22.1 == (a1.zA.length : Int))) (some false)).bind fun g23 =>
  (cond g23 ((zag N (⟨a0, a1, r4.1, r4.2.1⟩ : Optimization)).bind fun r24 => some r24) (some false)).bind fun g25 => some g25)))))
def zdw.k (N : Nat) : Kq := ⟨4, (cvv [Ty.bool] [Ty.zI, Ty.zF] (zdw N)), go [zk1.k N, zb9.k N, zh8.k, zcx.k N, zg.k N, zi.k N, zl8.k N, zkq.k N, zb2.k N, ze.k N, zag.k N] {lits := [22, 33]} [] Proofs.Tryz.func4⟩
end
end Go.Proofs.YtblgefddnnlniaaGreatDoor.M
