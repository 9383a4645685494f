/- What the program's functions compute, each tied to its code: part 2. -/
import Derived.Test.YtnpfkhdbmlhfhaaGreatDoorF1
namespace Go.Proofs.YtnpfkhdbmlhfhaaGreatDoor.M
open Go Go.Amx
set_option linter.unusedVariables false
set_option maxRecDepth 100000
noncomputable section
def ze.b2 (N : Nat) (s8 : Int) (s9 : List Int) (s11 : Int) (b1 : Optimization) : Option (Round (Int × Int) (Int × (List Int) × Int × Optimization)) :=
 cond (decide (s11 < s8)) ((idx b1.Before.zB s11).bind fun x3001 => (idx b1.Proof.Index s11).bind fun x3002 => cond (x3002 == (-1))
  ((cond (s11 == (w6 (s8 - 1))) (some true) ((zha x3001).bind fun r3003 => some (!r3003))).bind fun g3004 => (cond g3004 (some true)
  ((idx b1.Proof.Facts s11).bind fun x3005 => (zgl N x3005 x3001 x3001.R).bind fun r3006 => some (!r3006))).bind fun g3007 => cond g3007 (some (.result (s11, 42)))
  (some (.again (s8, s9, (w6 (s11 + 1)), b1)))) (if 0 ≤ s11 then (if s11 < (s9.length : Int) then ((s9[s11.toNat]?).bind fun x3008 => (cond (x3002 != x3008)
  (some true) (some (decide (x3002 ≥ (b1.After.zB.length : Int))))).bind fun g3009 => cond g3009 (some (.result (s11, 42)))
  ((idx b1.After.zB x3002).bind fun x3010 => (zev x3001.Op).bind fun r3011 =>
  cond r3011 (if 0 ≤ x3001.Target then (if x3001.Target < (s9.length : Int) then ((s9[x3001.Target.toNat]?).bind fun x3012 => (zha x3001).bind fun r3013 =>
  (cond r3013 (some (zbx [(x3010.Op == 3), (x3010.R == x3001.R), (x3010.A == x3010.A), (x3010.B == 0), (x3010.zM == 0), (x3010.Place.Based == false), (x3010.Place.Pointer == 0), (x3010.Place.Offset == 0), (x3010.From.Based == false), (x3010.From.Pointer == 0), (x3010.From.Offset == 0), (x3010.zD.Kind == 0), (x3010.zD.Length == 0), (x3010.zD.Scale == 0), (x3010.Second.Kind == 0), (x3010.Second.Length == 0), (x3010.Second.Scale == 0), (x3010.Half == false), (x3010.zK == false), (x3010.Number.N == 0), (x3010.Number.Scale == 0), (x3010.Text == (⟨#[]⟩ : ByteArray)), (x3010.Other == (⟨#[]⟩ : ByteArray)), (x3010.Mask == 0), (x3010.Target == 0), (x3010.Pointer == 0), (x3010.Source == 0)]))
  (some false)).bind fun g3014 => (cond g3014 ((idx b1.Proof.Facts s11).bind fun x3015 => (zgl N x3015 x3001 x3010.A).bind fun r3016 => some r3016)
  (some false)).bind fun g3017 =>
  (cond (!(zbx [(x3010.Op == x3001.Op), (x3010.R == x3001.R), (x3010.A == x3001.A), (x3010.B == x3001.B), (x3010.zM == x3001.zM), (x3010.Place.Based == x3001.Place.Based), (x3010.Place.Pointer == x3001.Place.Pointer), (x3010.Place.Offset == x3001.Place.Offset), (x3010.From.Based == x3001.From.Based), (x3010.From.Pointer == x3001.From.Pointer), (x3010.From.Offset == x3001.From.Offset), (x3010.zD.Kind == x3001.zD.Kind), (x3010.zD.Length == x3001.zD.Length), (x3010.zD.Scale == x3001.zD.Scale), (x3010.Second.Kind == x3001.Second.Kind), (x3010.Second.Length == x3001.Second.Length), (x3010.Second.Scale == x3001.Second.Scale), (x3010.Half == x3001.Half), (x3010.zK == x3001.zK), (x3010.Number.N == x3001.Number.N), (x3010.Number.Scale == x3001.Number.Scale), (x3010.Text == x3001.Text), (x3010.Other == x3001.Other), (x3010.Mask == x3001.Mask), (x3010.Target == x3012), (x3010.Pointer == x3001.Pointer), (x3010.Source == x3001.Source)]))
  (some (!g3017)) (some false)).bind fun g3018 => cond g3018 (some (.result (s11, 42))) (some (.again (s8, s9, (w6 (s11 + 1)), b1)))) else none) else none)
  ((zha x3001).bind fun r3019 =>
  (cond r3019 (some (zbx [(x3010.Op == 3), (x3010.R == x3001.R), (x3010.A == x3010.A), (x3010.B == 0), (x3010.zM == 0), (x3010.Place.Based == false), (x3010.Place.Pointer == 0), (x3010.Place.Offset == 0), (x3010.From.Based == false), (x3010.From.Pointer == 0), (x3010.From.Offset == 0), (x3010.zD.Kind == 0), (x3010.zD.Length == 0), (x3010.zD.Scale == 0), (x3010.Second.Kind == 0), (x3010.Second.Length == 0), (x3010.Second.Scale == 0), (x3010.Half == false), (x3010.zK == false), (x3010.Number.N == 0), (x3010.Number.Scale == 0), (x3010.Text == (⟨#[]⟩ : ByteArray)), (x3010.Other == (⟨#[]⟩ : ByteArray)), (x3010.Mask == 0), (x3010.Target == 0), (x3010.Pointer == 0), (x3010.Source == 0)]))
  (some false)).bind fun g3020 => (cond g3020 ((idx b1.Proof.Facts s11).bind fun x3021 => (zgl N x3021 x3001 x3010.A).bind fun r3022 => some r3022)
  (some false)).bind fun g3023 =>
  (cond (!(zbx [(x3010.Op == x3001.Op), (x3010.R == x3001.R), (x3010.A == x3001.A), (x3010.B == x3001.B), (x3010.zM == x3001.zM), (x3010.Place.Based == x3001.Place.Based), (x3010.Place.Pointer == x3001.Place.Pointer), (x3010.Place.Offset == x3001.Place.Offset), (x3010.From.Based == x3001.From.Based), (x3010.From.Pointer == x3001.From.Pointer), (x3010.From.Offset == x3001.From.Offset), (x3010.zD.Kind == x3001.zD.Kind), (x3010.zD.Length == x3001.zD.Length), (x3010.zD.Scale == x3001.zD.Scale), (x3010.Second.Kind == x3001.Second.Kind), (x3010.Second.Length == x3001.Second.Length), (x3010.Second.Scale == x3001.Second.Scale), (x3010.Half == x3001.Half), (x3010.zK == x3001.zK), (x3010.Number.N == x3001.Number.N), (x3010.Number.Scale == x3001.Number.Scale), (x3010.Text == x3001.Text), (x3010.Other == x3001.Other), (x3010.Mask == x3001.Mask), (x3010.Target == x3001.Target), (x3010.Pointer == x3001.Pointer), (x3010.Source == x3001.Source)]))
  (some (!g3023)) (some false)).bind fun g3024 => cond g3024 (some (.result (s11, 42))) (some (.again (s8, s9, (w6 (s11 + 1)), b1)))))) else none) else none))
  (some (.leave (s8, s9, s11, b1)))
def ze.r2 (N : Nat) (x : Int × (List Int) × Int × Optimization) := ze.b2 N x.1 x.2.1 x.2.2.1 x.2.2.2
def ze.b4 (N : Nat) (s8 : Int) (s9 : List Int) (s17 : Int) (b1 : Optimization) : Option (Round (Int × Int) (Int × (List Int) × Int × Optimization)) :=
 cond (decide (s17 < (b1.Before.zP.length : Int))) ((idx b1.Before.zP s17).bind fun x5001 => (idx b1.After.zP s17).bind fun x5002 =>
  if 0 ≤ x5001.From then (if x5001.From < (s9.length : Int) then ((s9[x5001.From.toNat]?).bind fun x5003 =>
  if 0 ≤ x5001.To then (if x5001.To < (s9.length : Int) then ((s9[x5001.To.toNat]?).bind fun x5004 =>
  if 0 ≤ x5001.Handler then (if x5001.Handler < (s9.length : Int) then ((s9[x5001.Handler.toNat]?).bind fun x5005 =>
  cond (!(zbx [(x5002.From == x5003), (x5002.To == x5004), (x5002.Exception == x5001.Exception), (x5002.Handler == x5005)])) (some (.result (0, 42)))
  (some (.again (s8, s9, (w6 (s17 + 1)), b1)))) else none) else none) else none) else none) else none) else none) (some (.leave (s8, s9, s17, b1)))
def ze.r4 (N : Nat) (x : Int × (List Int) × Int × Optimization) := ze.b4 N x.1 x.2.1 x.2.2.1 x.2.2.2
def ze (N : Nat) (a0 : Optimization) : Option (Int × Int) :=
 (zfi N a0.Model a0.Before).bind fun r1 => cond (r1 != 0) (some (0, r1)) ((zfi N a0.Model a0.After).bind fun r2 => cond (r2 != 0) (some (0, r2))
  ((zd N a0.Model a0.Before a0.Proof.Facts).bind fun r3 => cond (r3.2 != 0) (some (r3.1, r3.2))
  ((cond ((a0.Proof.Index.length : Int) != (a0.Before.zB.length : Int)) (some true) ((zh0 N a0.Before.Storage a0.After.Storage).bind fun r4 =>
  some (!r4))).bind fun g5 => cond g5 (some (0, 6))
  (if 0 ≤ (w6 ((a0.Before.zB.length : Int) + 1)) then (if (w6 ((a0.Before.zB.length : Int) + 1)) ≤ (w6 ((a0.Before.zB.length : Int) + 1)) then (cond (Nat.ble ((w6 ((a0.Before.zB.length : Int) + 1)).toNat * 8) zak)
  ((zh (ze.r0 N) N ((a0.Before.zB.length : Int), (List.replicate (w6 ((a0.Before.zB.length : Int) + 1)).toNat (0 : Int)), 0, a0)).bind fun y6 =>
  (zg (ze.r2 N) N (y6.1, y6.2.1, 0, y6.2.2.2)).bind fun z8 => zat z8 (fun z => some z) (fun y7 =>
  if 0 ≤ y7.1 then (if y7.1 < (y7.2.1.length : Int) then ((y7.2.1[y7.1.toNat]?).bind fun x9 => (cond ((y7.2.2.2.After.zB.length : Int) != x9) (some true)
  (some ((y7.2.2.2.After.zP.length : Int) != (y7.2.2.2.Before.zP.length : Int)))).bind fun g10 => cond g10 (some (0, 42))
  ((zg (ze.r4 N) N (y7.1, y7.2.1, 0, y7.2.2.2)).bind fun z12 => zat z12 (fun z => some z) (fun y11 =>
  some (y11.1, 0)))) else none) else none)) none) else none) else none))))
def ze.k (N : Nat) : Kq := ⟨25, (cvv [T6, T6] [Ty.Optimization] (ze N)), go [zfi.k N, zh0.k N, zev.k, zd.k N, zc4.k, zha.k, zgl.k N] {} [(0, .plain { slots := [(1, .ptr 1 0), (8, .val T6), (9, .own 5000009 T6), (10, .val T6)], boxes := [(1, Ty.Optimization, [])] } [T6, (Ty.sl T6), T6, Ty.Optimization] (zh (ze.r0 N) N)), (2, .rets { slots := [(1, .ptr 1 0), (8, .val T6), (9, .own 5000009 T6), (11, .val T6)], boxes := [(1, Ty.Optimization, [])] } [T6, (Ty.sl T6), T6, Ty.Optimization] (zg (ze.r2 N) N)), (4, .rets { slots := [(1, .ptr 1 0), (8, .val T6), (9, .own 5000009 T6), (17, .val T6)], boxes := [(1, Ty.Optimization, [])] } [T6, (Ty.sl T6), T6, Ty.Optimization] (zg (ze.r4 N) N))] Proofs.Tryz.func25 (hL := ⟨⟨_, _, rfl, by kernel_rfl⟩, ⟨_, _, rfl, by kernel_rfl⟩, ⟨_, _, rfl, by kernel_rfl⟩, trivial⟩)⟩
def zd9 (N : Nat) (a0 : Optimization) : Option Bool :=
 (zk0 N).bind fun r1 => cond (!r1) (some false) ((zef N a0).bind fun r2 => cond (!r2) (some true) ((zee N a0).bind fun r3 =>
  (zy N r3).bind fun r4 => (ze N a0).bind fun r5 => (cond (r4.2 == r5.2) (some (r4.1 == r5.1)) (some false)).bind fun g6 => some g6))
def zd9.k (N : Nat) : Kq := ⟨6, (cvv [Ty.bool] [Ty.Optimization] (zd9 N)), go [zk0.k N, zef.k N, zy.k N, zee.k N, ze.k N] {lits := [14]} [] Proofs.Tryz.func6⟩
end
end Go.Proofs.YtnpfkhdbmlhfhaaGreatDoor.M
