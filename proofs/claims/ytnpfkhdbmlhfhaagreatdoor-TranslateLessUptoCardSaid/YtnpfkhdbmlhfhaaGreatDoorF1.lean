/- What the program's functions compute, each tied to its code: part 1. -/
import Derived.Test.YtnpfkhdbmlhfhaaGreatDoorF0
namespace Go.Proofs.YtnpfkhdbmlhfhaaGreatDoor.M
open Go Go.Amx
set_option linter.unusedVariables false
set_option maxRecDepth 100000
noncomputable section
def zad.r2 (N : Nat) (x : (List zM) × Int × Int × zJ × zU) := zad.b2 N x.1 x.2.1 x.2.2.1 x.2.2.2.1 x.2.2.2.2
def zad.b4 (N : Nat) (s87 : List zT) (s88 : Int) (s89 : Int) (b1 : zJ) (b2 : zU) : Option (Round (zU × Int) ((List zT) × Int × Int × zJ × zU)) :=
 cond (decide (s89 < s88)) ((idx s87 s89).bind fun x5001 => (zht b1 x5001).bind fun r5002 => cond (r5002 != 0) (some (.result ((⟨3, s89⟩ : zU), r5002)))
  (some (.again (s87, s88, (w6 (s89 + 1)), b1, b2)))) (some (.leave (s87, s88, s89, b1, b2)))
def zad.r4 (N : Nat) (x : (List zT) × Int × Int × zJ × zU) := zad.b4 N x.1 x.2.1 x.2.2.1 x.2.2.2.1 x.2.2.2.2
def zad (N : Nat) (a0 : zJ) : Option (zU × Int) :=
 (cond (decide ((a0.zS.length : Int) > 24)) (some true) (some (decide ((a0.zA.length : Int) > 40)))).bind fun g1 => (cond g1 (some true)
  (some (decide ((a0.yA.length : Int) > 6)))).bind fun g2 => (zbs g2 2).bind fun r3 => (zbs ((a0.zA.length : Int) == 0) 1).bind fun r4 =>
  (zcj N ([r3, r4] : List Int)).bind fun r5 => cond (r5 != 0) (some ((⟨0, 0⟩ : zU), r5))
  ((zx (zad.r0 N) N ((a0.zS.length : Int), 0, a0, (⟨0, 0⟩ : zU))).bind fun z7 => za9 z7 (fun z => some z) (fun y6 =>
  (zau N y6.2.2.1.zS).bind fun r8 => cond (decide (r8.2 > 24)) (some ((⟨0, 0⟩ : zU), 30))
  ((zx (zad.r2 N) N (y6.2.2.1.zA, (y6.2.2.1.zA.length : Int), 0, y6.2.2.1, y6.2.2.2)).bind fun z10 => za9 z10 (fun z => some z) (fun y9 =>
  (zx (zad.r4 N) N (y9.2.2.2.1.yA, (y9.2.2.2.1.yA.length : Int), 0, y9.2.2.2.1, y9.2.2.2.2)).bind fun z12 => za9 z12 (fun z => some z) (fun y11 =>
  some ((⟨0, 0⟩ : zU), 0))))))
def zad.k (N : Nat) : Kq := ⟨97, (cvv [Ty.zU, T6] [Ty.zJ] (zad N)), go [zau.k N, zcj.k N, zbs.k, zhs.k N, zb2.k N, zht.k] {lits := [33, 38, 39]} [(0, .rets { slots := [(1, .ptr 1 0), (2, .ptr 2 0), (47, .val T6), (48, .val T6)], boxes := [(1, Ty.zJ, []), (2, Ty.zU, [])] } [T6, T6, Ty.zJ, Ty.zU] (zx (zad.r0 N) N)), (2, .rets { slots := [(1, .ptr 1 0), (2, .ptr 2 0), (70, .val (Ty.sl Ty.zM)), (71, .val T6), (72, .val T6)], boxes := [(1, Ty.zJ, []), (2, Ty.zU, [])] } [(Ty.sl Ty.zM), T6, T6, Ty.zJ, Ty.zU] (zx (zad.r2 N) N)), (4, .rets { slots := [(1, .ptr 1 0), (2, .ptr 2 0), (87, .val (Ty.sl Ty.zT)), (88, .val T6), (89, .val T6)], boxes := [(1, Ty.zJ, []), (2, Ty.zU, [])] } [(Ty.sl Ty.zT), T6, T6, Ty.zJ, Ty.zU] (zx (zad.r4 N) N))] Proofs.Tryz.func97 (hL := ⟨⟨_, _, rfl, by kernel_rfl⟩, ⟨_, _, rfl, by kernel_rfl⟩, ⟨_, _, rfl, by kernel_rfl⟩, trivial⟩)⟩
def zgq (N : Nat) (a0 : zJ) : Option Int :=
 (zad N a0).bind fun r1 => some r1.2
def zgq.k (N : Nat) : Kq := ⟨50, (cvv [T6] [Ty.zJ] (zgq N)), go [zad.k N] {} [] Proofs.Tryz.func50⟩
def zdx.b0 (N : Nat) (s5 : List Int) (s6 : Int) (s7 : Int) : Option (Round Int ((List Int) × Int × Int)) :=
 cond (decide (s7 < s6)) ((idx s5 s7).bind fun x1001 => cond (x1001 != 0) (some (.result x1001)) (some (.again (s5, s6, (w6 (s7 + 1)))))) (some (.leave (s5, s6, s7)))
def zdx.r0 (N : Nat) (x : (List Int) × Int × Int) := zdx.b0 N x.1 x.2.1 x.2.2
def zdx (N : Nat) (a0 : List Int) : Option Int :=
 (zx (zdx.r0 N) N (a0, (a0.length : Int), 0)).bind fun z2 => za9 z2 (fun z => some z) (fun y1 => some 0)
def zdx.k (N : Nat) : Kq := ⟨49, (cvv [T6] [(Ty.sl T6)] (zdx N)), go [] {} [(0, .rets { slots := [(5, .val (Ty.sl T6)), (6, .val T6), (7, .val T6)], boxes := [] } [(Ty.sl T6), T6, T6] (zx (zdx.r0 N) N))] Proofs.Tryz.func49 (hL := ⟨⟨_, _, rfl, by kernel_rfl⟩, trivial⟩)⟩
def ze8 (N : Nat) (a0 : zJ) : Option Int :=
 (zad N a0).bind fun r1 => some r1.2
def ze8.k (N : Nat) : Kq := ⟨100, (cvv [T6] [Ty.zJ] (ze8 N)), go [zad.k N] {} [] Proofs.Tryz.func100⟩
def zj9 (N : Nat) (a0 : zJ) : Option ((List Int) × Int × Int) :=
 (ze8 N a0).bind fun r1 => cond (r1 != 0) (some ([], 0, r1)) ((zau N a0.zS).bind fun r2 => some (r2.1, r2.2, 0))
def zj9.k (N : Nat) : Kq := ⟨74, (cvv [(Ty.sl T6), T6, T6] [Ty.zJ] (zj9 N)), go [ze8.k N, zau.k N] {} [] Proofs.Tryz.func74⟩
def zvl : Ct U := { params := [.val Ty.str, .val T6], results := [Ty.str], outs := [], fresh := [], fn := app U [Ty.str, T6] (R := PT U [Ty.str]) (zvk) }
theorem zvl.meets : zhl (zpd [] [] [] [] [] [] [] []) 163 zvl :=
 zzn ⟨_, Proofs.Tryz.func163, rfl, by kernel_rfl⟩ (t := Ty.str) rfl rfl rfl rfl fun ds y hy E0 h0 ha μ H w us hA hm hG => by
  obtain ⟨s, n, rfl, hx⟩ := z9r hy; unfold zvk at hx; split at hx
  · rename_i hn; cases hx; have hE : some ([.sc (.string s), .sc (.int .i64 n)], []) = some (E0, h0) := ha; cases hE; cases hA with
    | cons h1 h2 =>
     cases h2 with
     | cons h2 h3 =>
      cases h3; have hu := h1.int; have hu2 := h2.int; subst hu hu2; refine ⟨_, rfl, ?_⟩; have hc := Proofs.Tryz.strings_Repeat s n.toNat w (by omega) hn.2.2; have he : ((n.toNat : Nat) : Int) = n := by omega
      rw [he] at hc; exact hc.mono fun e w' hh => ⟨_, hh.1, zza hh.2, .sc _⟩
  · cases hx
def zvl.k : Kq := ⟨163, zvl, zvl.meets⟩
def zic (a0 : Int) : Option (Storage × Int) :=
 (zdn a0 0 64).bind fun r1 => cond (!r1) (some ((⟨(⟨#[]⟩ : ByteArray), []⟩ : Storage), 3)) ((zvk (⟨#[0]⟩ : ByteArray) (w6 (a0 * 16))).bind fun r2 =>
  if 0 ≤ a0 then (if a0 ≤ a0 then (cond (Nat.ble (a0.toNat * 1) zal) (some ((⟨r2, (List.replicate a0.toNat (false : Bool))⟩ : Storage), 0)) none) else none) else none)
def zic.k : Kq := ⟨102, (cvv [Ty.Storage, T6] [T6] zic), go [zdn.k, zvl.k] {} [] Proofs.Tryz.func102⟩
def zeg.b0 (N : Nat) (s0 : Int) (s5 : List Int) (s6 : Int) : Option (Stp (Int × (List Int) × Int)) :=
 cond (decide (s6 ≥ 0)) (if 0 ≤ s6 then (if s6 < (s5.length : Int) then ((s5[s6.toNat]?).bind fun x1001 =>
  some (.again ((w6 (s0.tdiv 10)), (s5.set s6.toNat (IntKind.wrap .u8 (s0.tmod 10))), (w6 (s6 - 1))))) else none) else none)
  (some (.leave (s0, s5, s6)))
def zeg.r0 (N : Nat) (x : Int × (List Int) × Int) := zeg.b0 N x.1 x.2.1 x.2.2
def zeg (N : Nat) (a0 : Int) (a1 : Int) : Option ((List Int)) :=
 if 0 ≤ a1 then (if a1 ≤ a1 then (cond (Nat.ble (a1.toNat * 1) zal)
  ((ze (zeg.r0 N) N (a0, (List.replicate a1.toNat (0 : Int)), (w6 (a1 - 1)))).bind fun y1 => some y1.2.1) none) else none) else none
def zeg.k (N : Nat) : Kq := ⟨218, (ctv [.val T6, .val T6] [(Ty.sl (Ty.int .u8))] [] [0] [T6, T6] (zeg N)), go [] {} [(0, .plain { slots := [(0, .val T6), (5, .own 5000005 (Ty.int .u8)), (6, .val T6)], boxes := [] } [T6, (Ty.sl (Ty.int .u8)), T6] (ze (zeg.r0 N) N))] Proofs.Tryz.func218 (hL := ⟨⟨_, _, rfl, by kernel_rfl⟩, trivial⟩)⟩
def zcv.b0 (N : Nat) (s0 : List Int) (s3 : List Int) (s4 : Int) : Option (Stp ((List Int) × (List Int) × Int)) :=
 cond (decide (s4 < (s0.length : Int))) ((idx s0 s4).bind fun x1001 => (idx s0 (w6 (s4 + 1))).bind fun x1002 =>
  cond (Nat.ble ((s3.length + ([(orI .u8 (IntKind.wrap .u8 (x1001 * 2 ^ (min (4 : Int).toNat 8))) x1002)] : List Int).length) * 1) zal)
  (some (.again (s0, (s3 ++ ([(orI .u8 (IntKind.wrap .u8 (x1001 * 2 ^ (min (4 : Int).toNat 8))) x1002)] : List Int)), (w6 (s4 + 2))))) none)
  (some (.leave (s0, s3, s4)))
def zcv.r0 (N : Nat) (x : (List Int) × (List Int) × Int) := zcv.b0 N x.1 x.2.1 x.2.2
def zcv (N : Nat) (a0 : List Int) : Option ByteArray :=
 (ze (zcv.r0 N) N (a0, [], 0)).bind fun y1 => some (zjd y1.2.1)
def zcv.k (N : Nat) : Kq := ⟨219, (cvv [Ty.str] [(Ty.sl (Ty.int .u8))] (zcv N)), go [] {lits := [23]} [(0, .plain { slots := [(0, .val (Ty.sl (Ty.int .u8))), (3, .own 5000003 (Ty.int .u8)), (4, .val T6)], boxes := [] } [(Ty.sl (Ty.int .u8)), (Ty.sl (Ty.int .u8)), T6] (ze (zcv.r0 N) N))] Proofs.Tryz.func219 (hL := ⟨⟨_, _, rfl, by kernel_rfl⟩, trivial⟩)⟩
def zby.b1 (N : Nat) (s5 : List Int) (s25 : Int) (s26 : Int) (b3 : Value) : Option (Stp ((List Int) × Int × Int × Value)) :=
 cond (decide (s26 < s25)) (if 0 ≤ s26 then (if s26 < (s5.length : Int) then ((s5[s26.toNat]?).bind fun x2001 =>
  if 0 ≤ s26 then (if s26 < (s5.length : Int) then ((s5[s26.toNat]?).bind fun x2002 =>
  some (.again ((s5.set s26.toNat (IntKind.wrap .u8 (x2001 + 240))), s25, (w6 (s26 + 1)), b3))) else none) else none) else none) else none)
  (some (.leave (s5, s25, s26, b3)))
def zby.r1 (N : Nat) (x : (List Int) × Int × Int × Value) := zby.b1 N x.1 x.2.1 x.2.2.1 x.2.2.2
def zby.b3 (N : Nat) (s8 : List Int) (s9 : Int) (s10 : Int) : Option (Stp ((List Int) × Int × Int)) :=
 cond (decide (s9 ≥ 0)) (if 0 ≤ s9 then (if s9 < (s8.length : Int) then ((s8[s9.toNat]?).bind fun x4001 =>
  some (.again ((s8.set s9.toNat (IntKind.wrap .u8 s10)), (w6 (s9 - 1)), (s10.fdiv (2 ^ (min (8 : Int).toNat 64)))))) else none) else none)
  (some (.leave (s8, s9, s10)))
def zby.r3 (N : Nat) (x : (List Int) × Int × Int) := zby.b3 N x.1 x.2.1 x.2.2
def zby (N : Nat) (a0 : DataType) (a1 : Value) : Option ByteArray :=
 (zeg N (if (w6 (0 - a1.N)) > a1.N then (w6 (0 - a1.N)) else a1.N) a0.Length).bind fun r1 => cond (a0.Kind == 2)
  ((ze (zby.r1 N) N (r1, (r1.length : Int), 0, a1)).bind fun y2 => cond (decide (y2.2.2.2.N < 0))
  (if 0 ≤ (w6 ((y2.1.length : Int) - 1)) then (if (w6 ((y2.1.length : Int) - 1)) < (y2.1.length : Int) then ((y2.1[(w6 ((y2.1.length : Int) - 1)).toNat]?).bind fun x3 =>
  if 0 ≤ (w6 ((y2.1.length : Int) - 1)) then (if (w6 ((y2.1.length : Int) - 1)) < (y2.1.length : Int) then ((y2.1[(w6 ((y2.1.length : Int) - 1)).toNat]?).bind fun x4 =>
  some (zjd (y2.1.set ((w6 ((y2.1.length : Int) - 1)).toNat) (IntKind.wrap .u8 (x3 - 32))))) else none) else none) else none) else none) (some (zjd y2.1)))
  (cond (a0.Kind == 1) (cond (decide (a1.N < 0)) (cond (((r1.length : Int).tmod 2) == 0) (cond (Nat.ble ((([0] : List Int).length + r1.length) * 1) zal)
  (cond (Nat.ble (((([0] : List Int) ++ r1).length + ([13] : List Int).length) * 1) zal) ((zcv N ((([0] : List Int) ++ r1) ++ ([13] : List Int))).bind fun r5 =>
  some r5) none) none) (cond (Nat.ble ((r1.length + ([13] : List Int).length) * 1) zal) ((zcv N (r1 ++ ([13] : List Int))).bind fun r6 => some r6) none))
  (cond (((r1.length : Int).tmod 2) == 0) (cond (Nat.ble ((([0] : List Int).length + r1.length) * 1) zal)
  (cond (Nat.ble (((([0] : List Int) ++ r1).length + ([15] : List Int).length) * 1) zal) ((zcv N ((([0] : List Int) ++ r1) ++ ([15] : List Int))).bind fun r7 =>
  some r7) none) none) (cond (Nat.ble ((r1.length + ([15] : List Int).length) * 1) zal) ((zcv N (r1 ++ ([15] : List Int))).bind fun r8 => some r8) none)))
  (cond (a0.Kind == 3) ((zge a0).bind fun r9 => if 0 ≤ r9 then (if r9 ≤ r9 then (cond (Nat.ble (r9.toNat * 1) zal)
  ((ze (zby.r3 N) N ((List.replicate r9.toNat (0 : Int)), (w6 (((List.replicate r9.toNat (0 : Int)).length : Int) - 1)), a1.N)).bind fun y10 =>
  some (zjd y10.1)) none) else none) else none) (some a1.S)))
def zby.k (N : Nat) : Kq := ⟨165, (cvv [Ty.str] [Ty.DataType, Ty.Value] (zby N)), go [zeg.k N, zcv.k N, zge.k] {lits := [16, 63, 64]} [(1, .plain { slots := [(3, .ptr 3 0), (5, .own 5000005 (Ty.int .u8)), (25, .val T6), (26, .val T6)], boxes := [(3, Ty.Value, [])] } [(Ty.sl (Ty.int .u8)), T6, T6, Ty.Value] (ze (zby.r1 N) N)), (3, .plain { slots := [(8, .own 5000008 (Ty.int .u8)), (9, .val T6), (10, .val T6)], boxes := [] } [(Ty.sl (Ty.int .u8)), T6, T6] (ze (zby.r3 N) N))] Proofs.Tryz.func165 (hL := ⟨⟨_, _, rfl, by kernel_rfl⟩, ⟨_, _, rfl, by kernel_rfl⟩, trivial⟩)⟩
def zkb (N : Nat) (a0 : DataType) (a1 : Value) : Option (ByteArray × Int) :=
 (zd6 N a0 a1).bind fun r1 => cond (r1 != 0) (some ((⟨#[]⟩ : ByteArray), r1)) ((zby N a0 a1).bind fun r2 => some (r2, 0))
def zkb.k (N : Nat) : Kq := ⟨103, (cvv [Ty.str, T6] [Ty.DataType, Ty.Value] (zkb N)), go [zd6.k N, zby.k N] {} [] Proofs.Tryz.func103⟩
def zks (N : Nat) (a0 : Storage) (a1 : Int) (a2 : Int) : Option Int :=
 (zaj N a0).bind fun r1 => cond (r1.2 != 0) (some r1.2) ((cond (decide (a1 < 0)) (some true) (some (decide (a2 < 0)))).bind fun g2 => (cond g2 (some true)
  (some (decide (a1 > (a0.Bytes.size : Int))))).bind fun g3 => (cond g3 (some true) (some (decide (a2 > (w6 ((a0.Bytes.size : Int) - a1)))))).bind fun g4 =>
  cond g4 (some 3) (some 0))
def zks.k (N : Nat) : Kq := ⟨166, (cvv [T6] [Ty.Storage, T6, T6] (zks N)), go [zaj.k N] {} [] Proofs.Tryz.func166⟩
def znd (a0 : Storage) (a1 : Int) (a2 : ByteArray) : Option Storage :=
 if 0 ≤ a1 ∧ a1 ≤ (a0.Bytes.size : Int) then (if 0 ≤ (0 : Int) ∧ (0 : Int) ≤ a1 then (if (((a0.Bytes.extract (0 : Int).toNat a1.toNat).size + a2.size : Nat) : Int) > IntKind.i64.max then none else if 0 ≤ (w6 (a1 + (a2.size : Int))) ∧ (w6 (a1 + (a2.size : Int))) ≤ (a0.Bytes.size : Int) then (if ((((a0.Bytes.extract (0 : Int).toNat a1.toNat) ++ a2).size + (a0.Bytes.extract (w6 (a1 + (a2.size : Int))).toNat a0.Bytes.size).size : Nat) : Int) > IntKind.i64.max then none else (zi2 1 a0.Tags).bind fun r1 =>
  cond (!(a2.toList == (⟨#[]⟩ : ByteArray).toList))
  (if 0 ≤ (w6 ((w6 ((w6 ((w6 (a1 + (a2.size : Int))) - 1)).tdiv 16)) + 1)) ∧ (w6 ((w6 ((w6 ((w6 (a1 + (a2.size : Int))) - 1)).tdiv 16)) + 1)) ≤ (r1.length : Int) then (if 0 ≤ (w6 (a1.tdiv 16)) ∧ (w6 (a1.tdiv 16)) ≤ (w6 ((w6 ((w6 ((w6 (a1 + (a2.size : Int))) - 1)).tdiv 16)) + 1)) then (some (⟨(((a0.Bytes.extract (0 : Int).toNat a1.toNat) ++ a2) ++ (a0.Bytes.extract (w6 (a1 + (a2.size : Int))).toNat a0.Bytes.size)), (r1.take ((w6 (a1.tdiv 16)).toNat) ++ List.replicate ((w6 ((w6 ((w6 ((w6 (a1 + (a2.size : Int))) - 1)).tdiv 16)) + 1)).toNat - (w6 (a1.tdiv 16)).toNat)
  (false : Bool) ++ r1.drop ((w6 (a1.tdiv 16)).toNat + ((w6 ((w6 ((w6 ((w6 (a1 + (a2.size : Int))) - 1)).tdiv 16)) + 1)).toNat - (w6 (a1.tdiv 16)).toNat)))⟩ : Storage)) else none) else none)
  (some (⟨(((a0.Bytes.extract (0 : Int).toNat a1.toNat) ++ a2) ++ (a0.Bytes.extract (w6 (a1 + (a2.size : Int))).toNat a0.Bytes.size)), r1⟩ : Storage))) else none) else none) else none
def znd.k : Kq := ⟨167, (ctv [.val Ty.Storage, .val T6, .val Ty.str] [Ty.Storage] [] [1] [Ty.Storage, T6, Ty.str] znd), go [x44.k] {} [] Proofs.Tryz.func167⟩
def zib (N : Nat) (a0 : Storage) (a1 : Int) (a2 : ByteArray) : Option (Storage × Int) :=
 (zks N a0 a1 (a2.size : Int)).bind fun r1 => cond (r1 != 0) (some ((⟨(⟨#[]⟩ : ByteArray), []⟩ : Storage), r1)) ((znd a0 a1 a2).bind fun r2 => some (r2, 0))
def zib.k (N : Nat) : Kq := ⟨104, (cvv [Ty.Storage, T6] [Ty.Storage, T6, Ty.str] (zib N)), go [zks.k N, znd.k] {lits := [12]} [] Proofs.Tryz.func104⟩
def zb3.b0 (N : Nat) (s5 : List Int) (s8 : Int) (s31 : List zH) (s32 : Int) (s33 : Int) (b2 : Storage) (b7 : Storage) : Option (Round (Storage × Int) ((List Int) × Int × (List zH) × Int × Int × Storage × Storage)) :=
 cond (decide (s33 < s32)) ((idx s31 s33).bind fun x1001 => (cond (x1001.Kind != 0) (some true) (some (s8 != 0))).bind fun g1002 =>
  cond g1002 (some (.again (s5, s8, s31, s32, (w6 (s33 + 1)), b2, b7))) ((zkb N x1001.zD x1001.Value).bind fun r1003 => cond (r1003.2 != 0)
  (some (.result ((⟨(⟨#[]⟩ : ByteArray), []⟩ : Storage), r1003.2))) ((idx s5 s33).bind fun x1004 => (zib N b7 x1004 r1003.1).bind fun r1005 =>
  some (.again (s5, r1005.2, s31, s32, (w6 (s33 + 1)), b2, r1005.1))))) (some (.leave (s5, s8, s31, s32, s33, b2, b7)))
def zb3.r0 (N : Nat) (x : (List Int) × Int × (List zH) × Int × Int × Storage × Storage) := zb3.b0 N x.1 x.2.1 x.2.2.1 x.2.2.2.1 x.2.2.2.2.1 x.2.2.2.2.2.1 x.2.2.2.2.2.2
def zb3 (N : Nat) (a0 : zJ) : Option (Storage × Int) :=
 (ze8 N a0).bind fun r1 => cond (r1 != 0) (some ((⟨(⟨#[]⟩ : ByteArray), []⟩ : Storage), r1)) ((zau N a0.zS).bind fun r2 =>
  (zic r2.2).bind fun r3 =>
  (zx (zb3.r0 N) N (r2.1, r3.2, a0.zS, (a0.zS.length : Int), 0, (⟨(⟨#[]⟩ : ByteArray), []⟩ : Storage), r3.1)).bind fun z5 => za9 z5 (fun z =>
  some z) (fun y4 => some (y4.2.2.2.2.2.2, y4.2.1)))
def zb3.k (N : Nat) : Kq := ⟨52, (cvv [Ty.Storage, T6] [Ty.zJ] (zb3 N)), go [ze8.k N, zau.k N, zic.k, zkb.k N, zib.k N] {} [(0, .rets { slots := [(2, .ptr 2 0), (5, .val (Ty.sl T6)), (7, .ptr 7 0), (8, .val T6), (31, .val (Ty.sl Ty.zH)), (32, .val T6), (33, .val T6)], boxes := [(2, Ty.Storage, [1]), (7, Ty.Storage, [])] } [(Ty.sl T6), T6, (Ty.sl Ty.zH), T6, T6, Ty.Storage, Ty.Storage] (zx (zb3.r0 N) N))] Proofs.Tryz.func52 (hL := ⟨⟨_, _, rfl, by kernel_rfl⟩, trivial⟩)⟩
def zb (a0 : zG) (a1 : zC) : Option zG :=
 cond (Nat.ble ((a0.code.length + ([a1] : List zC).length) * 224) zal)
  (some (⟨a0.zJ, a0.layout, (a0.code ++ ([a1] : List zC))⟩ : zG)) none
def zb.k : Kq := ⟨76, (ctv [.ptr Ty.zG true [4], .val Ty.zC] [] [Ty.zG] [] [Ty.zG, Ty.zC] zb), go [] {lits := [10], pk := [1000000]} [] Proofs.Tryz.func76⟩
def zc4 (a0 : zH) : Option Bool :=
 some (a0.zD.Kind != 0)
def zc4.k : Kq := ⟨178, (cvv [Ty.bool] [Ty.zH] zc4), go [] {} [] Proofs.Tryz.func178⟩
def za7 (a0 : zH) : Option Bool :=
 some (a0.Kind == 4)
def za7.k : Kq := ⟨179, (cvv [Ty.bool] [Ty.zH] za7), go [] {} [] Proofs.Tryz.func179⟩
def zd2 (a0 : zH) (a1 : zH) : Option Bool :=
 some (a0.Name.toList == a1.Base.toList)
def zd2.k : Kq := ⟨228, (ctv [.val Ty.zH, .ptr Ty.zH false []] [Ty.bool] [] [] [Ty.zH, Ty.zH] zd2), go [] {ro := [1000000], pk := [1000000]} [] Proofs.Tryz.func228⟩
def zaq.b0 (N : Nat) (s0 : List zH) (s7 : Int) (s8 : Int) (b1000000 : zH) : Option (Round Int ((List zH) × Int × Int × zH)) :=
 cond (decide (s8 < s7)) ((idx s0 s8).bind fun x1001 => (zd2 x1001 b1000000).bind fun r1002 => cond r1002 (some (.result s8))
  (some (.again (s0, s7, (w6 (s8 + 1)), b1000000)))) (some (.leave (s0, s7, s8, b1000000)))
def zaq.r0 (N : Nat) (x : (List zH) × Int × Int × zH) := zaq.b0 N x.1 x.2.1 x.2.2.1 x.2.2.2
def zaq (N : Nat) (a0 : List zH) (a1 : zH) : Option Int :=
 (zx (zaq.r0 N) N (a0, (a0.length : Int), 0, a1)).bind fun z2 => za9 z2 (fun z => some z) (fun y1 => some (-1))
def zaq.k (N : Nat) : Kq := ⟨207, (ctv [.val (Ty.sl Ty.zH), .clo 228 1, .ptr Ty.zH false []] [T6] [] [] [(Ty.sl Ty.zH), Ty.zH] (zaq N)), go [zd2.k] {ro := [1000000], pk := [1000000]} [(0, .rets { slots := [(0, .val (Ty.sl Ty.zH)), (1, .fn 228 [1000000]), (7, .val T6), (8, .val T6)], boxes := [(1000000, Ty.zH, [])] } [(Ty.sl Ty.zH), T6, T6, Ty.zH] (zx (zaq.r0 N) N))] Proofs.Tryz.func207 (hL := ⟨⟨_, _, rfl, by kernel_rfl⟩, trivial⟩)⟩
def zn (N : Nat) (a0 : zG) (a1 : Int) : Option zL :=
 (idx a0.zJ.zS a1).bind fun x1 => cond (x1.Kind != 2) ((idx a0.layout a1).bind fun x2 => some (⟨false, 0, x2⟩ : zL))
  ((zaq N a0.zJ.zS x1).bind fun r3 => (idx a0.layout r3).bind fun x4 => some (⟨true, x4, x1.Offset⟩ : zL))
def zn.k (N : Nat) : Kq := ⟨180, (ctv [.ptr Ty.zG false [], .val T6] [Ty.zL] [] [] [Ty.zG, T6] (zn N)), go [zaq.k N] {ro := [1000000], pk := [1000000]} [] Proofs.Tryz.func180⟩
def zae (N : Nat) (a0 : zG) (a1 : Int) (a2 : Int) : Option zG :=
 (idx a0.zJ.zS a2).bind fun x1 => (za7 x1).bind fun r2 =>
  cond r2 ((zb a0 (⟨2, a1, 0, 0, 0, (⟨false, 0, 0⟩ : zL), (⟨false, 0, 0⟩ : zL), (⟨0, 0, 0⟩ : DataType), (⟨0, 0, 0⟩ : DataType), false, false, (⟨x1.Value.N, x1.zD.Scale⟩ : Number), (⟨#[]⟩ : ByteArray), (⟨#[]⟩ : ByteArray), 0, 0, 0, 0⟩ : zC)).bind fun r3 =>
  some r3) ((zn N a0 a2).bind fun r4 =>
  (zb a0 (⟨0, a1, 0, 0, 0, r4, (⟨false, 0, 0⟩ : zL), x1.zD, (⟨0, 0, 0⟩ : DataType), false, false, (⟨0, 0⟩ : Number), (⟨#[]⟩ : ByteArray), (⟨#[]⟩ : ByteArray), 0, 0, 0, 0⟩ : zC)).bind fun r5 =>
  some r5)
def zae.k (N : Nat) : Kq := ⟨125, (ctv [.ptr Ty.zG true [4], .val T6, .val T6] [] [Ty.zG] [] [Ty.zG, T6, T6] (zae N)), go [zb.k, za7.k, zn.k N] {lits := [32], pk := [1000000]} [] Proofs.Tryz.func125⟩
def zbx (N : Nat) (a0 : zG) (a1 : Int) (a2 : Bool) : Option zG :=
 (zn N a0 a1).bind fun r1 => (idx a0.zJ.zS a1).bind fun x2 =>
  (zb a0 (⟨1, 0, 0, 0, 0, r1, (⟨false, 0, 0⟩ : zL), x2.zD, (⟨0, 0, 0⟩ : DataType), a2, false, (⟨0, 0⟩ : Number), (⟨#[]⟩ : ByteArray), (⟨#[]⟩ : ByteArray), 0, 0, 0, 0⟩ : zC)).bind fun r3 =>
  some r3
def zbx.k (N : Nat) : Kq := ⟨126, (ctv [.ptr Ty.zG true [4], .val T6, .val Ty.bool] [] [Ty.zG] [] [Ty.zG, T6, Ty.bool] (zbx N)), go [zb.k, zn.k N] {lits := [9], pk := [1000000]} [] Proofs.Tryz.func126⟩
def zfa (N : Nat) (a0 : zG) (a1 : zM) : Option zG :=
 (idx a1.Args 0).bind fun x1 => (idx a1.Args 1).bind fun x2 => (idx a0.zJ.zS x1).bind fun x3 => (idx a0.zJ.zS x2).bind fun x4 =>
  (zc4 x3).bind fun r5 => cond r5 ((zae N a0 0 x2).bind fun r6 => (zbx N r6 x1 (a1.Op == 1)).bind fun r7 => some r7)
  ((za7 x4).bind fun r8 => cond r8 ((zn N a0 x1).bind fun r9 =>
  (zb a0 (⟨10, 0, 0, 0, 0, r9, (⟨false, 0, 0⟩ : zL), x3.zD, (⟨0, 0, 0⟩ : DataType), false, false, (⟨0, 0⟩ : Number), x4.Value.S, (⟨#[]⟩ : ByteArray), 0, 0, 0, 0⟩ : zC)).bind fun r10 =>
  some r10) ((zn N a0 x1).bind fun r11 => (zn N a0 x2).bind fun r12 =>
  (zb a0 (⟨9, 0, 0, 0, 0, r11, r12, x3.zD, x4.zD, false, false, (⟨0, 0⟩ : Number), (⟨#[]⟩ : ByteArray), (⟨#[]⟩ : ByteArray), 0, 0, 0, 0⟩ : zC)).bind fun r13 =>
  some r13))
def zfa.k (N : Nat) : Kq := ⟨121, (ctv [.ptr Ty.zG true [4], .val Ty.zM] [] [Ty.zG] [] [Ty.zG, Ty.zM] (zfa N)), go [zb.k, zae.k N, zbx.k N, zc4.k, za7.k, zn.k N] {lits := [35, 40, 63], pk := [1000000]} [] Proofs.Tryz.func121⟩
def zdw (N : Nat) (a0 : zG) (a1 : zM) : Option zG :=
 (idx a1.Args 1).bind fun x1 => (zae N a0 0 x1).bind fun r2 => (idx a1.Args 2).bind fun x3 => (zae N r2 1 x3).bind fun r4 =>
  (idx a1.Args 0).bind fun x5 => (idx r4.zJ.zS x5).bind fun x6 =>
  (zb r4 (⟨4, 0, 0, 1, (w6 ((w6 (a1.Op - 2)) + 0)), (⟨false, 0, 0⟩ : zL), (⟨false, 0, 0⟩ : zL), x6.zD, (⟨0, 0, 0⟩ : DataType), false, false, (⟨0, 0⟩ : Number), (⟨#[]⟩ : ByteArray), (⟨#[]⟩ : ByteArray), 0, 0, 0, 0⟩ : zC)).bind fun r7 =>
  (idx a1.Args 0).bind fun x8 => (zbx N r7 x8 false).bind fun r9 => some r9
def zdw.k (N : Nat) : Kq := ⟨122, (ctv [.ptr Ty.zG true [4], .val Ty.zM] [] [Ty.zG] [] [Ty.zG, Ty.zM] (zdw N)), go [zb.k, zae.k N, zbx.k N] {pk := [1000000]} [] Proofs.Tryz.func122⟩
def ze0 (N : Nat) (a0 : zG) (a1 : Int) (a2 : Int) : Option (Bool × zG) :=
 (idx a0.zJ.zS a1).bind fun x1 => (idx a0.zJ.zS a2).bind fun x2 => (za7 x1).bind fun r3 =>
  (cond r3 ((za7 x2).bind fun r4 => some r4) (some false)).bind fun g5 =>
  cond g5 ((zb a0 (⟨13, 0, 0, 0, 0, (⟨false, 0, 0⟩ : zL), (⟨false, 0, 0⟩ : zL), (⟨0, 0, 0⟩ : DataType), (⟨0, 0, 0⟩ : DataType), false, false, (⟨0, 0⟩ : Number), x1.Value.S, x2.Value.S, 0, 0, 0, 0⟩ : zC)).bind fun r6 =>
  some (false, r6)) ((za7 x2).bind fun r7 => cond r7 ((zn N a0 a1).bind fun r8 =>
  (zb a0 (⟨12, 0, 0, 0, 0, r8, (⟨false, 0, 0⟩ : zL), x1.zD, (⟨0, 0, 0⟩ : DataType), false, false, (⟨0, 0⟩ : Number), x2.Value.S, (⟨#[]⟩ : ByteArray), 0, 0, 0, 0⟩ : zC)).bind fun r9 =>
  some (false, r9)) ((za7 x1).bind fun r10 => cond r10 ((zn N a0 a2).bind fun r11 =>
  (zb a0 (⟨12, 0, 0, 0, 0, r11, (⟨false, 0, 0⟩ : zL), x2.zD, (⟨0, 0, 0⟩ : DataType), false, false, (⟨0, 0⟩ : Number), x1.Value.S, (⟨#[]⟩ : ByteArray), 0, 0, 0, 0⟩ : zC)).bind fun r12 =>
  some (true, r12)) ((zn N a0 a1).bind fun r13 => (zn N a0 a2).bind fun r14 =>
  (zb a0 (⟨11, 0, 0, 0, 0, r13, r14, x1.zD, x2.zD, false, false, (⟨0, 0⟩ : Number), (⟨#[]⟩ : ByteArray), (⟨#[]⟩ : ByteArray), 0, 0, 0, 0⟩ : zC)).bind fun r15 =>
  some (false, r15))))
def ze0.k (N : Nat) : Kq := ⟨181, (ctv [.ptr Ty.zG true [4], .val T6, .val T6] [Ty.bool] [Ty.zG] [] [Ty.zG, T6, T6] (ze0 N)), go [zb.k, za7.k, zn.k N] {lits := [28, 33, 60, 74], pk := [1000000]} [] Proofs.Tryz.func181⟩
def zen (N : Nat) (a0 : zG) (a1 : zM) : Option zG :=
 (idx a1.Args 0).bind fun x1 => (idx a0.zJ.zS x1).bind fun x2 => (zc4 x2).bind fun r3 => cond r3 ((idx a1.Args 0).bind fun x4 =>
  (zae N a0 0 x4).bind fun r5 => (idx a1.Args 1).bind fun x6 => (zae N r5 1 x6).bind fun r7 =>
  (zb r7 (⟨5, 0, 0, 1, 0, (⟨false, 0, 0⟩ : zL), (⟨false, 0, 0⟩ : zL), (⟨0, 0, 0⟩ : DataType), (⟨0, 0, 0⟩ : DataType), false, false, (⟨0, 0⟩ : Number), (⟨#[]⟩ : ByteArray), (⟨#[]⟩ : ByteArray), 0, 0, 0, 0⟩ : zC)).bind fun r8 =>
  (cond (a1.Op == 8) (some false) (some false)).bind fun g9 => cond g9 ((idx a1.Args 2).bind fun x10 => (idx r8.zJ.zS x10).bind fun x11 =>
  (zb r8 (⟨6, 0, 0, 0, 0, (⟨false, 0, 0⟩ : zL), (⟨false, 0, 0⟩ : zL), (⟨0, 0, 0⟩ : DataType), (⟨0, 0, 0⟩ : DataType), false, false, (⟨0, 0⟩ : Number), (⟨#[]⟩ : ByteArray), (⟨#[]⟩ : ByteArray), 4, x11.Target, 0, 0⟩ : zC)).bind fun r12 =>
  some r12) (cond (a1.Op == 8) ((idx a1.Args 2).bind fun x13 => (idx r8.zJ.zS x13).bind fun x14 =>
  (zb r8 (⟨6, 0, 0, 0, 0, (⟨false, 0, 0⟩ : zL), (⟨false, 0, 0⟩ : zL), (⟨0, 0, 0⟩ : DataType), (⟨0, 0, 0⟩ : DataType), false, false, (⟨0, 0⟩ : Number), (⟨#[]⟩ : ByteArray), (⟨#[]⟩ : ByteArray), 1, x14.Target, 0, 0⟩ : zC)).bind fun r15 =>
  some r15) ((idx a1.Args 2).bind fun x16 => (idx r8.zJ.zS x16).bind fun x17 =>
  (zb r8 (⟨6, 0, 0, 0, 0, (⟨false, 0, 0⟩ : zL), (⟨false, 0, 0⟩ : zL), (⟨0, 0, 0⟩ : DataType), (⟨0, 0, 0⟩ : DataType), false, false, (⟨0, 0⟩ : Number), (⟨#[]⟩ : ByteArray), (⟨#[]⟩ : ByteArray), 2, x17.Target, 0, 0⟩ : zC)).bind fun r18 =>
  some r18))) ((idx a1.Args 0).bind fun x19 => (idx a1.Args 1).bind fun x20 => (ze0 N a0 x19 x20).bind fun r21 => (cond (a1.Op == 8) (some r21.1)
  (some false)).bind fun g22 => cond g22 ((idx a1.Args 2).bind fun x23 => (idx r21.2.zJ.zS x23).bind fun x24 =>
  (zb r21.2 (⟨6, 0, 0, 0, 0, (⟨false, 0, 0⟩ : zL), (⟨false, 0, 0⟩ : zL), (⟨0, 0, 0⟩ : DataType), (⟨0, 0, 0⟩ : DataType), false, false, (⟨0, 0⟩ : Number), (⟨#[]⟩ : ByteArray), (⟨#[]⟩ : ByteArray), 4, x24.Target, 0, 0⟩ : zC)).bind fun r25 =>
  some r25) (cond (a1.Op == 8) ((idx a1.Args 2).bind fun x26 => (idx r21.2.zJ.zS x26).bind fun x27 =>
  (zb r21.2 (⟨6, 0, 0, 0, 0, (⟨false, 0, 0⟩ : zL), (⟨false, 0, 0⟩ : zL), (⟨0, 0, 0⟩ : DataType), (⟨0, 0, 0⟩ : DataType), false, false, (⟨0, 0⟩ : Number), (⟨#[]⟩ : ByteArray), (⟨#[]⟩ : ByteArray), 1, x27.Target, 0, 0⟩ : zC)).bind fun r28 =>
  some r28) ((idx a1.Args 2).bind fun x29 => (idx r21.2.zJ.zS x29).bind fun x30 =>
  (zb r21.2 (⟨6, 0, 0, 0, 0, (⟨false, 0, 0⟩ : zL), (⟨false, 0, 0⟩ : zL), (⟨0, 0, 0⟩ : DataType), (⟨0, 0, 0⟩ : DataType), false, false, (⟨0, 0⟩ : Number), (⟨#[]⟩ : ByteArray), (⟨#[]⟩ : ByteArray), 2, x30.Target, 0, 0⟩ : zC)).bind fun r31 =>
  some r31)))
def zen.k (N : Nat) : Kq := ⟨123, (ctv [.ptr Ty.zG true [4], .val Ty.zM] [] [Ty.zG] [] [Ty.zG, Ty.zM] (zen N)), go [zb.k, zae.k N, zc4.k, ze0.k N] {pk := [1000000]} [] Proofs.Tryz.func123⟩
def zd1 (N : Nat) (a0 : zG) (a1 : zM) : Option zG :=
 (idx a1.Args 0).bind fun x1 => (idx a0.layout x1).bind fun x2 => cond (a1.Op == 10) ((idx a1.Args 1).bind fun x3 => (zn N a0 x3).bind fun r4 =>
  (idx a1.Args 1).bind fun x5 => (idx a0.zJ.zS x5).bind fun x6 =>
  (zb a0 (⟨14, 0, 0, 0, 0, r4, (⟨false, 0, 0⟩ : zL), x6.zD, (⟨0, 0, 0⟩ : DataType), false, false, (⟨0, 0⟩ : Number), (⟨#[]⟩ : ByteArray), (⟨#[]⟩ : ByteArray), 0, 0, x2, 0⟩ : zC)).bind fun r7 =>
  some r7) (cond (a1.Op == 11) ((idx a1.Args 1).bind fun x8 => (idx a0.layout x8).bind fun x9 =>
  (zb a0 (⟨15, 0, 0, 0, 0, (⟨false, 0, 0⟩ : zL), (⟨false, 0, 0⟩ : zL), (⟨0, 0, 0⟩ : DataType), (⟨0, 0, 0⟩ : DataType), false, false, (⟨0, 0⟩ : Number), (⟨#[]⟩ : ByteArray), (⟨#[]⟩ : ByteArray), 0, 0, x2, x9⟩ : zC)).bind fun r10 =>
  some r10) (cond (a1.Op == 12)
  ((zb a0 (⟨17, 0, 0, 0, 0, (⟨false, 0, 0⟩ : zL), (⟨false, 0, 0⟩ : zL), (⟨0, 0, 0⟩ : DataType), (⟨0, 0, 0⟩ : DataType), false, false, (⟨0, 0⟩ : Number), (⟨#[]⟩ : ByteArray), (⟨#[]⟩ : ByteArray), 0, 0, x2, 0⟩ : zC)).bind fun r11 =>
  (idx a1.Args 1).bind fun x12 => (zae N r11 0 x12).bind fun r13 =>
  (zb r13 (⟨16, 0, 0, 0, 0, (⟨false, 0, 0⟩ : zL), (⟨false, 0, 0⟩ : zL), (⟨0, 0, 0⟩ : DataType), (⟨0, 0, 0⟩ : DataType), false, false, (⟨0, 0⟩ : Number), (⟨#[]⟩ : ByteArray), (⟨#[]⟩ : ByteArray), 0, 0, x2, 0⟩ : zC)).bind fun r14 =>
  some r14) (some a0)))
def zd1.k (N : Nat) : Kq := ⟨124, (ctv [.ptr Ty.zG true [4], .val Ty.zM] [] [Ty.zG] [] [Ty.zG, Ty.zM] (zd1 N)), go [zb.k, zae.k N, zn.k N] {lits := [26], pk := [1000000]} [] Proofs.Tryz.func124⟩
def ze1 (N : Nat) (a0 : zG) (a1 : Int) : Option zG :=
 (idx a0.zJ.zS a1).bind fun x1 => (zc4 x1).bind fun r2 => cond r2 ((zae N a0 0 a1).bind fun r3 =>
  (zb r3 (⟨22, 0, 0, 0, 0, (⟨false, 0, 0⟩ : zL), (⟨false, 0, 0⟩ : zL), (⟨0, 0, 0⟩ : DataType), (⟨0, 0, 0⟩ : DataType), false, false, (⟨0, 0⟩ : Number), (⟨#[]⟩ : ByteArray), (⟨#[]⟩ : ByteArray), 0, 0, 0, 0⟩ : zC)).bind fun r4 =>
  some r4) ((za7 x1).bind fun r5 =>
  cond r5 ((zb a0 (⟨24, 0, 0, 0, 0, (⟨false, 0, 0⟩ : zL), (⟨false, 0, 0⟩ : zL), (⟨0, 0, 0⟩ : DataType), (⟨0, 0, 0⟩ : DataType), false, false, (⟨0, 0⟩ : Number), x1.Value.S, (⟨#[]⟩ : ByteArray), 0, 0, 0, 0⟩ : zC)).bind fun r6 =>
  some r6) ((zn N a0 a1).bind fun r7 =>
  (zb a0 (⟨23, 0, 0, 0, 0, r7, (⟨false, 0, 0⟩ : zL), x1.zD, (⟨0, 0, 0⟩ : DataType), false, false, (⟨0, 0⟩ : Number), (⟨#[]⟩ : ByteArray), (⟨#[]⟩ : ByteArray), 0, 0, 0, 0⟩ : zC)).bind fun r8 =>
  some r8))
def ze1.k (N : Nat) : Kq := ⟨127, (ctv [.ptr Ty.zG true [4], .val T6] [] [Ty.zG] [] [Ty.zG, T6] (ze1 N)), go [zb.k, zae.k N, zc4.k, za7.k, zn.k N] {lits := [16], pk := [1000000]} [] Proofs.Tryz.func127⟩
def zdl (N : Nat) (a0 : zG) (a1 : zM) : Option zG :=
 (zb a0 (⟨25, 0, 0, 0, 0, (⟨false, 0, 0⟩ : zL), (⟨false, 0, 0⟩ : zL), (⟨0, 0, 0⟩ : DataType), (⟨0, 0, 0⟩ : DataType), false, false, (⟨0, 0⟩ : Number), (⟨#[]⟩ : ByteArray), (⟨#[]⟩ : ByteArray), 0, 0, 0, 0⟩ : zC)).bind fun r1 =>
  (cond (a1.Op == 0) (some (a1.Op == 0)) (some (a1.Op == 1))).bind fun q2 => cond q2 ((zfa N r1 a1).bind fun r3 => some r3) ((cond (a1.Op == 2)
  (some (a1.Op == 2)) (cond (a1.Op == 3) (some (a1.Op == 3)) (cond (a1.Op == 4) (some (a1.Op == 4)) (cond (a1.Op == 5) (some (a1.Op == 5)) (some (a1.Op == 6)))))).bind fun q4 =>
  cond q4 ((zdw N r1 a1).bind fun r5 => some r5) ((cond (a1.Op == 7) (some (a1.Op == 7)) (some (a1.Op == 8))).bind fun q6 =>
  cond q6 ((zen N r1 a1).bind fun r7 => some r7) (cond (a1.Op == 9) ((idx a1.Args 0).bind fun x8 => (idx r1.zJ.zS x8).bind fun x9 =>
  (zb r1 (⟨8, 0, 0, 0, 0, (⟨false, 0, 0⟩ : zL), (⟨false, 0, 0⟩ : zL), (⟨0, 0, 0⟩ : DataType), (⟨0, 0, 0⟩ : DataType), false, false, (⟨0, 0⟩ : Number), (⟨#[]⟩ : ByteArray), (⟨#[]⟩ : ByteArray), 0, x9.Target, 0, 0⟩ : zC)).bind fun r10 =>
  some r10) (cond (a1.Op == 13) ((idx a1.Args 0).bind fun x11 => (idx r1.zJ.zS x11).bind fun x12 =>
  (zb r1 (⟨18, 0, 0, 0, 0, (⟨false, 0, 0⟩ : zL), (⟨false, 0, 0⟩ : zL), (⟨0, 0, 0⟩ : DataType), (⟨0, 0, 0⟩ : DataType), false, false, (⟨0, 0⟩ : Number), (⟨#[]⟩ : ByteArray), (⟨#[]⟩ : ByteArray), 0, x12.Target, 0, 0⟩ : zC)).bind fun r13 =>
  some r13) ((cond (a1.Op == 10) (some (a1.Op == 10)) (cond (a1.Op == 11) (some (a1.Op == 11)) (some (a1.Op == 12)))).bind fun q14 =>
  cond q14 ((zd1 N r1 a1).bind fun r15 => some r15) (cond (a1.Op == 14)
  ((zb r1 (⟨19, 0, 0, 0, 0, (⟨false, 0, 0⟩ : zL), (⟨false, 0, 0⟩ : zL), (⟨0, 0, 0⟩ : DataType), (⟨0, 0, 0⟩ : DataType), false, false, (⟨0, 0⟩ : Number), (⟨#[]⟩ : ByteArray), (⟨#[]⟩ : ByteArray), 0, 0, 0, 0⟩ : zC)).bind fun r16 =>
  some r16) (cond (a1.Op == 15) ((idx a1.Args 0).bind fun x17 => (zae N r1 0 x17).bind fun r18 =>
  (zb r18 (⟨20, 0, 0, 0, 0, (⟨false, 0, 0⟩ : zL), (⟨false, 0, 0⟩ : zL), (⟨0, 0, 0⟩ : DataType), (⟨0, 0, 0⟩ : DataType), false, false, (⟨0, 0⟩ : Number), (⟨#[]⟩ : ByteArray), (⟨#[]⟩ : ByteArray), 0, 0, 0, 0⟩ : zC)).bind fun r19 =>
  some r19) (cond (a1.Op == 16)
  ((zb r1 (⟨21, 0, 0, 0, 0, (⟨false, 0, 0⟩ : zL), (⟨false, 0, 0⟩ : zL), (⟨0, 0, 0⟩ : DataType), (⟨0, 0, 0⟩ : DataType), false, false, (⟨0, 0⟩ : Number), (⟨#[]⟩ : ByteArray), (⟨#[]⟩ : ByteArray), 0, 0, 0, 0⟩ : zC)).bind fun r20 =>
  (idx a1.Args 0).bind fun x21 => (zbx N r20 x21 false).bind fun r22 => some r22) (cond (a1.Op == 17) ((idx a1.Args 0).bind fun x23 =>
  (ze1 N r1 x23).bind fun r24 => some r24) (cond (a1.Op == 18)
  ((zb r1 (⟨26, 0, 0, 0, 0, (⟨false, 0, 0⟩ : zL), (⟨false, 0, 0⟩ : zL), (⟨0, 0, 0⟩ : DataType), (⟨0, 0, 0⟩ : DataType), false, false, (⟨0, 0⟩ : Number), (⟨#[]⟩ : ByteArray), (⟨#[]⟩ : ByteArray), 0, 0, 0, 0⟩ : zC)).bind fun r25 =>
  some r25) (some r1)))))))))))
def zdl.k (N : Nat) : Kq := ⟨75, (ctv [.ptr Ty.zG true [4], .val Ty.zM] [] [Ty.zG] [] [Ty.zG, Ty.zM] (zdl N)), go [zb.k, zfa.k N, zdw.k N, zen.k N, zd1.k N, zae.k N, zbx.k N, ze1.k N] {pk := [1000000], bj := [9, 15, 24, 64]} [] Proofs.Tryz.func75⟩
def zc7.b0 (N : Nat) (s1 : List Int) (s5 : List zQ) (s8 : List zT) (s9 : Int) (s10 : Int) : Option (Stp ((List Int) × (List zQ) × (List zT) × Int × Int)) :=
 cond (decide (s10 < s9)) ((idx s8 s10).bind fun x1001 => (idx s1 x1001.From).bind fun x1002 => (idx s1 x1001.To).bind fun x1003 => (idx s1 x1001.Handler).bind fun x1004 =>
  cond (Nat.ble ((s5.length + ([(⟨x1002, x1003, x1001.Exception, x1004⟩ : zQ)] : List zQ).length) * 32) zal)
  (some (.again (s1, (s5 ++ ([(⟨x1002, x1003, x1001.Exception, x1004⟩ : zQ)] : List zQ)), s8, s9, (w6 (s10 + 1))))) none) (some (.leave (s1, s5, s8, s9, s10)))
def zc7.r0 (N : Nat) (x : (List Int) × (List zQ) × (List zT) × Int × Int) := zc7.b0 N x.1 x.2.1 x.2.2.1 x.2.2.2.1 x.2.2.2.2
def zc7 (N : Nat) (a0 : List zT) (a1 : List Int) : Option ((List zQ)) :=
 (ze (zc7.r0 N) N (a1, [], a0, (a0.length : Int), 0)).bind fun y1 => some y1.2.1
def zc7.k (N : Nat) : Kq := ⟨58, (cvv [(Ty.sl Ty.zQ)] [(Ty.sl Ty.zT), (Ty.sl T6)] (zc7 N)), go [] {lits := [33]} [(0, .plain { slots := [(1, .val (Ty.sl T6)), (5, .own 5000005 Ty.zQ), (8, .val (Ty.sl Ty.zT)), (9, .val T6), (10, .val T6)], boxes := [] } [(Ty.sl T6), (Ty.sl Ty.zQ), (Ty.sl Ty.zT), T6, T6] (ze (zc7.r0 N) N))] Proofs.Tryz.func58 (hL := ⟨⟨_, _, rfl, by kernel_rfl⟩, trivial⟩)⟩
def za5.b0 (N : Nat) (s13 : List Int) (s55 : List zM) (s56 : Int) (s57 : Int) (b2 : zJ) (b4 : zF) (b5 : zX) (b11 : Storage) (b53 : zG) : Option (Stp ((List Int) × (List zM) × Int × Int × zJ × zF × zX × Storage × zG)) :=
 cond (decide (s57 < s56)) ((idx s55 s57).bind fun x1001 => cond (Nat.ble ((s13.length + ([(b53.code.length : Int)] : List Int).length) * 8) zal)
  ((zdl N b53 x1001).bind fun r1002 =>
  some (.again ((s13 ++ ([(b53.code.length : Int)] : List Int)), s55, s56, (w6 (s57 + 1)), b2, b4, b5, b11, r1002))) none)
  (some (.leave (s13, s55, s56, s57, b2, b4, b5, b11, b53)))
def za5.r0 (N : Nat) (x : (List Int) × (List zM) × Int × Int × zJ × zF × zX × Storage × zG) := za5.b0 N x.1 x.2.1 x.2.2.1 x.2.2.2.1 x.2.2.2.2.1 x.2.2.2.2.2.1 x.2.2.2.2.2.2.1 x.2.2.2.2.2.2.2.1 x.2.2.2.2.2.2.2.2
def za5.b2 (N : Nat) (s13 : List Int) (s88 : Int) (s89 : Int) (b2 : zJ) (b4 : zF) (b5 : zX) (b11 : Storage) (b53 : zG) : Option (Stp ((List Int) × Int × Int × zJ × zF × zX × Storage × zG)) :=
 cond (decide (s89 < s88)) (if 0 ≤ s89 then (if s89 < (b53.code.length : Int) then ((b53.code[s89.toNat]?).bind fun x3001 => (zci x3001.Op).bind fun r3002 =>
  cond r3002 (if 0 ≤ x3001.Target then (if x3001.Target < (s13.length : Int) then ((s13[x3001.Target.toNat]?).bind fun x3003 =>
  if 0 ≤ s89 then (if s89 < (b53.code.length : Int) then ((b53.code[s89.toNat]?).bind fun x3004 =>
  some (.again (s13, s88, (w6 (s89 + 1)), b2, b4, b5, b11, (⟨b53.zJ, b53.layout, (b53.code.set s89.toNat (⟨x3004.Op, x3004.R, x3004.A, x3004.B, x3004.zO, x3004.Place, x3004.From, x3004.zD, x3004.Second, x3004.Half, x3004.zK, x3004.Number, x3004.Text, x3004.Other, x3004.Mask, x3003, x3004.Pointer, x3004.Source⟩ : zC))⟩ : zG)))) else none) else none) else none) else none)
  (some (.again (s13, s88, (w6 (s89 + 1)), b2, b4, b5, b11, b53)))) else none) else none) (some (.leave (s13, s88, s89, b2, b4, b5, b11, b53)))
def za5.r2 (N : Nat) (x : (List Int) × Int × Int × zJ × zF × zX × Storage × zG) := za5.b2 N x.1 x.2.1 x.2.2.1 x.2.2.2.1 x.2.2.2.2.1 x.2.2.2.2.2.1 x.2.2.2.2.2.2.1 x.2.2.2.2.2.2.2
def za5 (N : Nat) (a0 : zJ) (a1 : zI) : Option (zF × zX × Int) :=
 (zgq N a0).bind fun r1 => (zc6 a1).bind fun r2 => (zdx N ([r1, r2] : List Int)).bind fun r3 => cond (r3 != 0)
  (some ((⟨(⟨(⟨#[]⟩ : ByteArray), []⟩ : Storage), [], []⟩ : zF), (⟨[]⟩ : zX), r3)) ((zj9 N a0).bind fun r4 => cond (r4.2.2 != 0)
  (some ((⟨(⟨(⟨#[]⟩ : ByteArray), []⟩ : Storage), [], []⟩ : zF), (⟨[]⟩ : zX), r4.2.2)) ((zb3 N a0).bind fun r5 => cond (r5.2 != 0)
  (some ((⟨(⟨(⟨#[]⟩ : ByteArray), []⟩ : Storage), [], []⟩ : zF), (⟨[]⟩ : zX), r5.2))
  ((ze (za5.r0 N) N ([], a0.zA, (a0.zA.length : Int), 0, a0, (⟨(⟨(⟨#[]⟩ : ByteArray), []⟩ : Storage), [], []⟩ : zF), (⟨[]⟩ : zX), r5.1, (⟨a0, r4.1, []⟩ : zG))).bind fun y6 =>
  cond (Nat.ble ((y6.1.length + ([(y6.2.2.2.2.2.2.2.2.code.length : Int)] : List Int).length) * 8) zal)
  ((zb y6.2.2.2.2.2.2.2.2 (⟨26, 0, 0, 0, 0, (⟨false, 0, 0⟩ : zL), (⟨false, 0, 0⟩ : zL), (⟨0, 0, 0⟩ : DataType), (⟨0, 0, 0⟩ : DataType), false, false, (⟨0, 0⟩ : Number), (⟨#[]⟩ : ByteArray), (⟨#[]⟩ : ByteArray), 0, 0, 0, 0⟩ : zC)).bind fun r7 =>
  (ze (za5.r2 N) N ((y6.1 ++ ([(y6.2.2.2.2.2.2.2.2.code.length : Int)] : List Int)), (r7.code.length : Int), 0, y6.2.2.2.2.1, y6.2.2.2.2.2.1, y6.2.2.2.2.2.2.1, y6.2.2.2.2.2.2.2.1, r7)).bind fun y8 =>
  (zc7 N y8.2.2.2.1.yA y8.1).bind fun r9 => some ((⟨y8.2.2.2.2.2.2.1, y8.2.2.2.2.2.2.2.code, r9⟩ : zF), (⟨y8.1⟩ : zX), 0)) none)))
def za5.k (N : Nat) : Kq := ⟨27, (cvv [Ty.zF, Ty.zX, T6] [Ty.zJ, Ty.zI] (za5 N)), go [zdx.k N, zgq.k N, zc6.k, zb3.k N, zci.k, zc7.k N, zj9.k N, zdl.k N, zb.k] {pre := [(26, [13])], lits := [19, 21, 22, 66, 67, 78, 79]} [(0, .plain { slots := [(2, .ptr 2 0), (4, .ptr 4 0), (5, .ptr 5 0), (11, .ptr 11 0), (12, .ptr 53 0), (13, .own 5000013 T6), (55, .val (Ty.sl Ty.zM)), (56, .val T6), (57, .val T6)], boxes := [(2, Ty.zJ, []), (4, Ty.zF, [1, 2, 3]), (5, Ty.zX, [0]), (11, Ty.Storage, []), (53, Ty.zG, [4])] } [(Ty.sl T6), (Ty.sl Ty.zM), T6, T6, Ty.zJ, Ty.zF, Ty.zX, Ty.Storage, Ty.zG] (ze (za5.r0 N) N)), (2, .plain { slots := [(2, .ptr 2 0), (4, .ptr 4 0), (5, .ptr 5 0), (11, .ptr 11 0), (12, .ptr 53 0), (13, .own 5000013 T6), (87, .ofbox 12 53 4), (88, .val T6), (89, .val T6)], boxes := [(2, Ty.zJ, []), (4, Ty.zF, [1, 2, 3]), (5, Ty.zX, [0]), (11, Ty.Storage, []), (53, Ty.zG, [4])] } [(Ty.sl T6), T6, T6, Ty.zJ, Ty.zF, Ty.zX, Ty.Storage, Ty.zG] (ze (za5.r2 N) N))] Proofs.Tryz.func27 (hL := ⟨⟨_, _, rfl, by kernel_rfl⟩, ⟨_, _, rfl, by kernel_rfl⟩, trivial⟩)⟩
def zkn (N : Nat)  : Option Bool :=
 (zmo N).bind fun r1 => (zf N (⟨2, false, false⟩ : zI) r1).bind fun r2 => (zmp).bind fun r3 =>
  (za5 N r3 (⟨2, false, false⟩ : zI)).bind fun r4 => (cond (r2.2.2 == 0) (some ((r2.1.zA.length : Int) == 3)) (some false)).bind fun g5 =>
  (cond g5 ((idx r2.1.zA 1).bind fun x6 =>
  some (zco [(x6.Op == 3), (x6.R == 1), (x6.A == 0), (x6.B == 0), (x6.zO == 0), (x6.Place.Based == false), (x6.Place.Pointer == 0), (x6.Place.Offset == 0), (x6.From.Based == false), (x6.From.Pointer == 0), (x6.From.Offset == 0), (x6.zD.Kind == 0), (x6.zD.Length == 0), (x6.zD.Scale == 0), (x6.Second.Kind == 0), (x6.Second.Length == 0), (x6.Second.Scale == 0), (x6.Half == false), (x6.zK == false), (x6.Number.N == 0), (x6.Number.Scale == 0), (x6.Text == (⟨#[]⟩ : ByteArray)), (x6.Other == (⟨#[]⟩ : ByteArray)), (x6.Mask == 0), (x6.Target == 0), (x6.Pointer == 0), (x6.Source == 0)]))
  (some false)).bind fun g7 => (cond g7 (some (r4.2.2 == 0)) (some false)).bind fun g8 => (cond g8 (some ((r4.2.1.Starts.length : Int) == 4)) (some false)).bind fun g9 => some g9
def zkn.k (N : Nat) : Kq := ⟨7, (cvv [Ty.bool] [] (zkn N)), go [zf.k N, zmo.k N, za5.k N, zmp.k] {lits := [9, 15]} [] Proofs.Tryz.func7⟩
def zd7 (a0 : Storage) : Option Bool :=
 (cond (decide ((a0.Bytes.size : Int) ≤ 1072)) (some (decide ((a0.Tags.length : Int) ≤ 67))) (some false)).bind fun g1 => some g1
def zd7.k : Kq := ⟨29, (cvv [Ty.bool] [Ty.Storage] zd7), go [] {} [] Proofs.Tryz.func29⟩
def zbz.b0 (N : Nat) (s3 : Int) (b1 : zF) : Option (Round Bool (Int × zF)) :=
 (cond (decide (s3 < (b1.zA.length : Int))) (some (decide (s3 < 244))) (some false)).bind fun g1001 => cond g1001 ((idx b1.zA s3).bind fun x1002 =>
  (cond (decide ((x1002.Text.size : Int) > 300)) (some true) ((idx b1.zA s3).bind fun x1003 => some (decide ((x1003.Other.size : Int) > 300)))).bind fun g1004 =>
  cond g1004 (some (.result false)) (some (.again ((w6 (s3 + 1)), b1)))) (some (.leave (s3, b1)))
def zbz.r0 (N : Nat) (x : Int × zF) := zbz.b0 N x.1 x.2
def zbz (N : Nat) (a0 : zF) : Option Bool :=
 (zx (zbz.r0 N) N (0, a0)).bind fun z2 => za9 z2 (fun z => some z) (fun y1 => (zd7 y1.2.Storage).bind fun r3 =>
  (cond r3 (some (decide ((y1.2.zA.length : Int) < 244))) (some false)).bind fun g4 => (cond g4 (some (decide ((y1.2.zP.length : Int) < 44)))
  (some false)).bind fun g5 => some g5)
def zbz.k (N : Nat) : Kq := ⟨8, (cvv [Ty.bool] [Ty.zF] (zbz N)), go [zd7.k] {} [(0, .rets { slots := [(1, .ptr 1 0), (3, .val T6)], boxes := [(1, Ty.zF, [])] } [T6, Ty.zF] (zx (zbz.r0 N) N))] Proofs.Tryz.func8 (hL := ⟨⟨_, _, rfl, by kernel_rfl⟩, trivial⟩)⟩
def zil (a0 : List Bool) : Option ((List Bool)) :=
 cond (Nat.ble (a0.length * 1) zal) (some a0) none
def zil.k : Kq := ⟨84, (ctv [.val (Ty.sl Ty.bool)] [(Ty.sl Ty.bool)] [] [0] [(Ty.sl Ty.bool)] zil), go [] {} [] Proofs.Tryz.func84⟩
def zhy (a0 : Storage) : Option Storage :=
 (zil a0.Tags).bind fun r1 => some (⟨a0.Bytes, r1⟩ : Storage)
def zhy.k : Kq := ⟨34, (ctv [.val Ty.Storage] [Ty.Storage] [] [1] [Ty.Storage] zhy), go [zil.k] {} [] Proofs.Tryz.func34⟩
def zgn (a0 : zF) : Option zF :=
 (zhy a0.Storage).bind fun r1 => cond (Nat.ble (a0.zA.length * 224) zal) (cond (Nat.ble (a0.zP.length * 32) zal)
  (some (⟨r1, a0.zA, a0.zP⟩ : zF)) none) none
def zgn.k : Kq := ⟨10, (cvv [Ty.zF] [Ty.zF] zgn), go [zhy.k] {} [] Proofs.Tryz.func10⟩
def zgt.b0 (N : Nat) (s0 : List Bool) (s1 : List Bool) (s5 : Int) : Option (Round Bool ((List Bool) × (List Bool) × Int)) :=
 cond (decide (s5 < (s0.length : Int))) ((idx s0 s5).bind fun x1001 => (idx s1 s5).bind fun x1002 => cond (!(x1001 == x1002)) (some (.result false))
  (some (.again (s0, s1, (w6 (s5 + 1)))))) (some (.leave (s0, s1, s5)))
def zgt.r0 (N : Nat) (x : (List Bool) × (List Bool) × Int) := zgt.b0 N x.1 x.2.1 x.2.2
def zgt (N : Nat) (a0 : List Bool) (a1 : List Bool) : Option Bool :=
 cond ((a0.length : Int) != (a1.length : Int)) (some false) ((zx (zgt.r0 N) N (a0, a1, 0)).bind fun z2 => za9 z2 (fun z => some z) (fun y1 => some true))
def zgt.k (N : Nat) : Kq := ⟨107, (cvv [Ty.bool] [(Ty.sl Ty.bool), (Ty.sl Ty.bool)] (zgt N)), go [] {} [(0, .rets { slots := [(0, .val (Ty.sl Ty.bool)), (1, .val (Ty.sl Ty.bool)), (5, .val T6)], boxes := [] } [(Ty.sl Ty.bool), (Ty.sl Ty.bool), T6] (zx (zgt.r0 N) N))] Proofs.Tryz.func107 (hL := ⟨⟨_, _, rfl, by kernel_rfl⟩, trivial⟩)⟩
def zi0 (N : Nat) (a0 : Storage) (a1 : Storage) : Option Bool :=
 (cond (a0.Bytes.toList == a1.Bytes.toList) ((zgt N a0.Tags a1.Tags).bind fun r1 => some r1) (some false)).bind fun g2 => some g2
def zi0.k (N : Nat) : Kq := ⟨61, (cvv [Ty.bool] [Ty.Storage, Ty.Storage] (zi0 N)), go [zgt.k N] {} [] Proofs.Tryz.func61⟩
def zb5.b0 (N : Nat) (s5 : Int) (b2 : zF) (b3 : zF) : Option (Round Bool (Int × zF × zF)) :=
 cond (decide (s5 < (b2.zA.length : Int))) ((idx b2.zA s5).bind fun x1001 => (idx b3.zA s5).bind fun x1002 =>
  cond (!(zco [(x1001.Op == x1002.Op), (x1001.R == x1002.R), (x1001.A == x1002.A), (x1001.B == x1002.B), (x1001.zO == x1002.zO), (x1001.Place.Based == x1002.Place.Based), (x1001.Place.Pointer == x1002.Place.Pointer), (x1001.Place.Offset == x1002.Place.Offset), (x1001.From.Based == x1002.From.Based), (x1001.From.Pointer == x1002.From.Pointer), (x1001.From.Offset == x1002.From.Offset), (x1001.zD.Kind == x1002.zD.Kind), (x1001.zD.Length == x1002.zD.Length), (x1001.zD.Scale == x1002.zD.Scale), (x1001.Second.Kind == x1002.Second.Kind), (x1001.Second.Length == x1002.Second.Length), (x1001.Second.Scale == x1002.Second.Scale), (x1001.Half == x1002.Half), (x1001.zK == x1002.zK), (x1001.Number.N == x1002.Number.N), (x1001.Number.Scale == x1002.Number.Scale), (x1001.Text == x1002.Text), (x1001.Other == x1002.Other), (x1001.Mask == x1002.Mask), (x1001.Target == x1002.Target), (x1001.Pointer == x1002.Pointer), (x1001.Source == x1002.Source)]))
  (some (.result false)) (some (.again ((w6 (s5 + 1)), b2, b3)))) (some (.leave (s5, b2, b3)))
def zb5.r0 (N : Nat) (x : Int × zF × zF) := zb5.b0 N x.1 x.2.1 x.2.2
def zb5.b2 (N : Nat) (s6 : Int) (b2 : zF) (b3 : zF) : Option (Round Bool (Int × zF × zF)) :=
 cond (decide (s6 < (b2.zP.length : Int))) ((idx b2.zP s6).bind fun x3001 => (idx b3.zP s6).bind fun x3002 =>
  cond (!(zco [(x3001.From == x3002.From), (x3001.To == x3002.To), (x3001.Exception == x3002.Exception), (x3001.Handler == x3002.Handler)])) (some (.result false))
  (some (.again ((w6 (s6 + 1)), b2, b3)))) (some (.leave (s6, b2, b3)))
def zb5.r2 (N : Nat) (x : Int × zF × zF) := zb5.b2 N x.1 x.2.1 x.2.2
def zb5 (N : Nat) (a0 : zF) (a1 : zF) : Option Bool :=
 (zi0 N a0.Storage a1.Storage).bind fun r1 => (cond (!r1) (some true) (some ((a0.zA.length : Int) != (a1.zA.length : Int)))).bind fun g2 =>
  (cond g2 (some true) (some ((a0.zP.length : Int) != (a1.zP.length : Int)))).bind fun g3 => cond g3 (some false) ((zx (zb5.r0 N) N (0, a0, a1)).bind fun z5 =>
  za9 z5 (fun z => some z) (fun y4 => (zx (zb5.r2 N) N (0, y4.2.1, y4.2.2)).bind fun z7 => za9 z7 (fun z => some z) (fun y6 => some true)))
def zb5.k (N : Nat) : Kq := ⟨48, (cvv [Ty.bool] [Ty.zF, Ty.zF] (zb5 N)), go [zi0.k N] {} [(0, .rets { slots := [(2, .ptr 2 0), (3, .ptr 3 0), (5, .val T6)], boxes := [(2, Ty.zF, []), (3, Ty.zF, [])] } [T6, Ty.zF, Ty.zF] (zx (zb5.r0 N) N)), (2, .rets { slots := [(2, .ptr 2 0), (3, .ptr 3 0), (6, .val T6)], boxes := [(2, Ty.zF, []), (3, Ty.zF, [])] } [T6, Ty.zF, Ty.zF] (zx (zb5.r2 N) N))] Proofs.Tryz.func48 (hL := ⟨⟨_, _, rfl, by kernel_rfl⟩, ⟨_, _, rfl, by kernel_rfl⟩, trivial⟩)⟩
def zlt (N : Nat) (a0 : zF) : Option Bool :=
 (zb5 N a0 (⟨(⟨(⟨#[]⟩ : ByteArray), []⟩ : Storage), [], []⟩ : zF)).bind fun r1 => some r1
def zlt.k (N : Nat) : Kq := ⟨15, (cvv [Ty.bool] [Ty.zF] (zlt N)), go [zb5.k N] {} [] Proofs.Tryz.func15⟩
def zat.b0 (N : Nat) (s11 : Int) (b5 : zF) (b8 : zF) (b9 : zV) : Option (Round Bool (Int × zF × zF × zV)) :=
 cond (decide (s11 < (b5.zA.length : Int))) ((idx b5.zA s11).bind fun x1001 => (idx b8.zA s11).bind fun x1002 =>
  (cond (!(zco [(x1001.Op == x1002.Op), (x1001.R == x1002.R), (x1001.A == x1002.A), (x1001.B == x1002.B), (x1001.zO == x1002.zO), (x1001.Place.Based == x1002.Place.Based), (x1001.Place.Pointer == x1002.Place.Pointer), (x1001.Place.Offset == x1002.Place.Offset), (x1001.From.Based == x1002.From.Based), (x1001.From.Pointer == x1002.From.Pointer), (x1001.From.Offset == x1002.From.Offset), (x1001.zD.Kind == x1002.zD.Kind), (x1001.zD.Length == x1002.zD.Length), (x1001.zD.Scale == x1002.zD.Scale), (x1001.Second.Kind == x1002.Second.Kind), (x1001.Second.Length == x1002.Second.Length), (x1001.Second.Scale == x1002.Second.Scale), (x1001.Half == x1002.Half), (x1001.zK == x1002.zK), (x1001.Number.N == x1002.Number.N), (x1001.Number.Scale == x1002.Number.Scale), (x1001.Text == x1002.Text), (x1001.Other == x1002.Other), (x1001.Mask == x1002.Mask), (x1001.Target == x1002.Target), (x1001.Pointer == x1002.Pointer), (x1001.Source == x1002.Source)]))
  (some true) ((idx b9.Index s11).bind fun x1003 => some (x1003 != s11))).bind fun g1004 => cond g1004 (some (.result false))
  (some (.again ((w6 (s11 + 1)), b5, b8, b9)))) (some (.leave (s11, b5, b8, b9)))
def zat.r0 (N : Nat) (x : Int × zF × zF × zV) := zat.b0 N x.1 x.2.1 x.2.2.1 x.2.2.2
def zat (N : Nat) (a0 : zI) (a1 : zF) : Option Bool :=
 (zkn N).bind fun r1 => cond (!r1) (some false) ((zbz N a1).bind fun r2 => cond (!r2) (some true) ((zgn a1).bind fun r3 =>
  (zf N a0 r3).bind fun r4 => cond (r4.2.2 != 0) ((zlt N r4.1).bind fun r5 => some r5) ((zbz N r4.1).bind fun r6 => cond (!r6) (some false)
  ((zgn r4.1).bind fun r7 => (zf N a0 r7).bind fun r8 => (cond (r8.2.2 != 0) (some true)
  (some ((r8.1.zA.length : Int) != (r4.1.zA.length : Int)))).bind fun g9 => (cond g9 (some true)
  (some ((r8.2.1.Index.length : Int) != (r4.1.zA.length : Int)))).bind fun g10 => cond g10 (some false)
  ((zx (zat.r0 N) N (0, r4.1, r8.1, r8.2.1)).bind fun z12 => za9 z12 (fun z => some z) (fun y11 => some true))))))
def zat.k (N : Nat) : Kq := ⟨4, (cvv [Ty.bool] [Ty.zI, Ty.zF] (zat N)), go [zkn.k N, zbz.k N, zgn.k, zf.k N, zlt.k N] {lits := [20, 35]} [(0, .rets { slots := [(5, .ptr 5 0), (8, .ptr 8 0), (9, .ptr 9 0), (11, .val T6)], boxes := [(5, Ty.zF, []), (8, Ty.zF, []), (9, Ty.zV, [])] } [T6, Ty.zF, Ty.zF, Ty.zV] (zx (zat.r0 N) N))] Proofs.Tryz.func4 (hL := ⟨⟨_, _, rfl, by kernel_rfl⟩, trivial⟩)⟩
end
end Go.Proofs.YtnpfkhdbmlhfhaaGreatDoor.M
