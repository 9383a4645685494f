/- What the program's functions compute, each tied to its code: part 2. -/
import Derived.Test.YtnpfkhdbmlhfhaaGreatDoorF1
namespace Go.Proofs.YtnpfkhdbmlhfhaaGreatDoor.M
open Go Go.Amx
set_option linter.unusedVariables false
set_option maxRecDepth 100000
noncomputable section
def zg.b2 (N : Nat) (s8 : Int) (s9 : List Int) (s12 : Int) (b2 : zD) (b3 : Translation) : Option (Round (Int × Int) (Int × (List Int) × Int × zD × Translation)) :=
 cond (decide (s12 < (b3.Code.zA.length : Int))) ((idx b3.Code.zA s12).bind fun x3001 => (cond (x3001.Op == 25)
  (if 0 ≤ s8 ∧ s8 ≤ (s9.length : Int) then (if 0 ≤ (0 : Int) ∧ (0 : Int) ≤ s8 then ((zco N ((s9.take s8.toNat).drop (0 : Int).toNat) s12).bind fun r3002 =>
  some (r3002 == (-1))) else none) else none) (some false)).bind fun g3003 => (cond g3003 (some true) ((zhn x3001.Op).bind fun r3004 =>
  (cond r3004 (if 0 ≤ s8 ∧ s8 ≤ (s9.length : Int) then (if 0 ≤ (0 : Int) ∧ (0 : Int) ≤ s8 then ((zco N ((s9.take s8.toNat).drop (0 : Int).toNat) x3001.Target).bind fun r3005 =>
  some (r3005 == (-1))) else none) else none) (some false)).bind fun g3006 => some g3006)).bind fun g3007 => cond g3007 (some (.result (0, 42)))
  (some (.again (s8, s9, (w6 (s12 + 1)), b2, b3)))) (some (.leave (s8, s9, s12, b2, b3)))
def zg.r2 (N : Nat) (x : Int × (List Int) × Int × zD × Translation) := zg.b2 N x.1 x.2.1 x.2.2.1 x.2.2.2.1 x.2.2.2.2
def zg.b4 (N : Nat) (s8 : Int) (s9 : List Int) (s14 : Int) (b2 : zD) (b3 : Translation) : Option (Round (Int × Int) (Int × (List Int) × Int × zD × Translation)) :=
 cond (decide (s14 < (b2.zP.length : Int))) ((idx b2.zP s14).bind fun x5001 => (idx b3.Code.zV s14).bind fun x5002 => (idx s9 x5001.From).bind fun x5003 =>
  (idx s9 x5001.To).bind fun x5004 => (idx s9 x5001.Handler).bind fun x5005 =>
  cond (!(zcp [(x5002.From == x5003), (x5002.To == x5004), (x5002.Exception == x5001.Exception), (x5002.Handler == x5005)])) (some (.result (0, 42)))
  (some (.again (s8, s9, (w6 (s14 + 1)), b2, b3)))) (some (.leave (s8, s9, s14, b2, b3)))
def zg.r4 (N : Nat) (x : Int × (List Int) × Int × zD × Translation) := zg.b4 N x.1 x.2.1 x.2.2.1 x.2.2.2.1 x.2.2.2.2
def zg (N : Nat) (a0 : zD) (a1 : Translation) : Option (Int × Int) :=
 (zl2 N a0).bind fun r1 => cond (r1 != 0) (some (0, r1)) ((zjw N a1.Model a1.Code).bind fun r2 => cond (r2 != 0) (some (0, r2)) ((zci N a0).bind fun r3 =>
  (zh5 N a1.Code.Storage r3).bind fun r4 => (cond (!r4) (some true)
  (some ((a1.Map.Starts.length : Int) != (w6 ((a0.zA.length : Int) + 1))))).bind fun g5 => cond g5 (some (0, 42))
  ((zf (zg.r0 N) N ((a0.zA.length : Int), a1.Map.Starts, 0, a0, a1)).bind fun z7 => zbc z7 (fun z => some z) (fun y6 =>
  (zf (zg.r2 N) N (y6.1, y6.2.1, 0, y6.2.2.2.1, y6.2.2.2.2)).bind fun z9 => zbc z9 (fun z => some z) (fun y8 =>
  cond ((y8.2.2.2.2.Code.zV.length : Int) != (y8.2.2.2.1.zP.length : Int)) (some (0, 42))
  ((zf (zg.r4 N) N (y8.1, y8.2.1, 0, y8.2.2.2.1, y8.2.2.2.2)).bind fun z11 => zbc z11 (fun z => some z) (fun y10 => some (y10.1, 0))))))))
def zg.k (N : Nat) : Kq := ⟨21, (cvv [T6, T6] [Ty.zD, Ty.Translation] (zg N)), go [zjw.k N, zl2.k N, zh5.k N, zci.k N, zco.k N, zhn.k] {lits := [39]} [(0, .rets { slots := [(2, .ptr 2 0), (3, .ptr 3 0), (8, .val T6), (9, .val (Ty.sl T6)), (10, .val T6)], boxes := [(2, Ty.zD, []), (3, Ty.Translation, [])] } [T6, (Ty.sl T6), T6, Ty.zD, Ty.Translation] (zf (zg.r0 N) N)), (2, .rets { slots := [(2, .ptr 2 0), (3, .ptr 3 0), (8, .val T6), (9, .val (Ty.sl T6)), (12, .val T6)], boxes := [(2, Ty.zD, []), (3, Ty.Translation, [])] } [T6, (Ty.sl T6), T6, Ty.zD, Ty.Translation] (zf (zg.r2 N) N)), (4, .rets { slots := [(2, .ptr 2 0), (3, .ptr 3 0), (8, .val T6), (9, .val (Ty.sl T6)), (14, .val T6)], boxes := [(2, Ty.zD, []), (3, Ty.Translation, [])] } [T6, (Ty.sl T6), T6, Ty.zD, Ty.Translation] (zf (zg.r4 N) N))] Proofs.Tryz.func21 (hL := ⟨⟨_, _, rfl, by kernel_rfl⟩, ⟨_, _, rfl, by kernel_rfl⟩, ⟨_, _, rfl, by kernel_rfl⟩, trivial⟩)⟩
def zfg (N : Nat) (a0 : zD) (a1 : Translation) : Option Bool :=
 (zlb N).bind fun r1 => cond (!r1) (some false) ((zb2 N a0).bind fun r2 => (cond (!r2) (some true) ((zd9 N a1.Code).bind fun r3 => some (!r3))).bind fun g4 =>
  (cond g4 (some true) ((zik a1.Map).bind fun r5 => some (!r5))).bind fun g6 => cond g6 (some true) ((zd8 N a0).bind fun r7 =>
  (ze3 a1).bind fun r8 => (zay N r7 r8).bind fun r9 => (zg N a0 a1).bind fun r10 => (cond (r9.2 == r10.2) (some (r9.1 == r10.1))
  (some false)).bind fun g11 => some g11))
def zfg.k (N : Nat) : Kq := ⟨5, (cvv [Ty.bool] [Ty.zD, Ty.Translation] (zfg N)), go [zlb.k N, zd9.k N, zb2.k N, zik.k, zay.k N, zd8.k N, ze3.k, zg.k N] {lits := [28, 30]} [] Proofs.Tryz.func5⟩
end
end Go.Proofs.YtnpfkhdbmlhfhaaGreatDoor.M
