/- What the program's functions compute, each tied to its code: part 1. -/
import Derived.Test.YtblgefddnnlniaaGreatDoorF0
namespace Go.Proofs.YtblgefddnnlniaaGreatDoor.M
open Go Go.Amx
set_option linter.unusedVariables false
set_option maxRecDepth 100000
noncomputable section
def zai.r2 (N : Nat) (x : (List zN) × Int × Int × zK × zU) := zai.b2 N x.1 x.2.1 x.2.2.1 x.2.2.2.1 x.2.2.2.2
def zai.b4 (N : Nat) (s87 : List zT) (s88 : Int) (s89 : Int) (b1 : zK) (b2 : zU) : Option (Round (zU × Int) ((List zT) × Int × Int × zK × zU)) :=
 cond (decide (s89 < s88)) ((idx s87 s89).bind fun x5001 => (zid b1 x5001).bind fun r5002 => cond (r5002 != 0) (some (.result ((⟨3, s89⟩ : zU), r5002)))
  (some (.again (s87, s88, (w6 (s89 + 1)), b1, b2)))) (some (.leave (s87, s88, s89, b1, b2)))
def zai.r4 (N : Nat) (x : (List zT) × Int × Int × zK × zU) := zai.b4 N x.1 x.2.1 x.2.2.1 x.2.2.2.1 x.2.2.2.2
def zai (N : Nat) (a0 : zK) : Option (zU × Int) :=
 (cond (decide ((a0.zS.length : Int) > 24)) (some true) (some (decide ((a0.zA.length : Int) > 40)))).bind fun g1 => (cond g1 (some true)
  (some (decide ((a0.yA.length : Int) > 6)))).bind fun g2 => (zbz g2 2).bind fun r3 => (zbz ((a0.zA.length : Int) == 0) 1).bind fun r4 =>
  (zcy N ([r3, r4] : List Int)).bind fun r5 => cond (r5 != 0) (some ((⟨0, 0⟩ : zU), r5))
  ((zj (zai.r0 N) N ((a0.zS.length : Int), 0, a0, (⟨0, 0⟩ : zU))).bind fun z7 => zax z7 (fun z => some z) (fun y6 =>
  (zaz N y6.2.2.1.zS).bind fun r8 => cond (decide (r8.2 > 24)) (some ((⟨0, 0⟩ : zU), 30))
  ((zj (zai.r2 N) N (y6.2.2.1.zA, (y6.2.2.1.zA.length : Int), 0, y6.2.2.1, y6.2.2.2)).bind fun z10 => zax z10 (fun z => some z) (fun y9 =>
  (zj (zai.r4 N) N (y9.2.2.2.1.yA, (y9.2.2.2.1.yA.length : Int), 0, y9.2.2.2.1, y9.2.2.2.2)).bind fun z12 => zax z12 (fun z => some z) (fun y11 =>
  some ((⟨0, 0⟩ : zU), 0))))))
def zai.k (N : Nat) : Kq := ⟨110, (cvv [Ty.zU, T6] [Ty.zK] (zai N)), go [zaz.k N, zcy.k N, zbz.k, zic.k N, zce.k N, zid.k] {lits := [33, 38, 39]} [(0, .rets { slots := [(1, .ptr 1 0), (2, .ptr 2 0), (47, .val T6), (48, .val T6)], boxes := [(1, Ty.zK, []), (2, Ty.zU, [])] } [T6, T6, Ty.zK, Ty.zU] (zj (zai.r0 N) N)), (2, .rets { slots := [(1, .ptr 1 0), (2, .ptr 2 0), (70, .val (Ty.sl Ty.zN)), (71, .val T6), (72, .val T6)], boxes := [(1, Ty.zK, []), (2, Ty.zU, [])] } [(Ty.sl Ty.zN), T6, T6, Ty.zK, Ty.zU] (zj (zai.r2 N) N)), (4, .rets { slots := [(1, .ptr 1 0), (2, .ptr 2 0), (87, .val (Ty.sl Ty.zT)), (88, .val T6), (89, .val T6)], boxes := [(1, Ty.zK, []), (2, Ty.zU, [])] } [(Ty.sl Ty.zT), T6, T6, Ty.zK, Ty.zU] (zj (zai.r4 N) N))] Proofs.Tryz.func110 (hL := ⟨⟨_, _, rfl, by kernel_rfl⟩, ⟨_, _, rfl, by kernel_rfl⟩, ⟨_, _, rfl, by kernel_rfl⟩, trivial⟩)⟩
def zg9 (N : Nat) (a0 : zK) : Option Int :=
 (zai N a0).bind fun r1 => some r1.2
def zg9.k (N : Nat) : Kq := ⟨78, (cvv [T6] [Ty.zK] (zg9 N)), go [zai.k N] {} [] Proofs.Tryz.func78⟩
def zeg.b0 (N : Nat) (s5 : List Int) (s6 : Int) (s7 : Int) : Option (Round Int ((List Int) × Int × Int)) :=
 cond (decide (s7 < s6)) ((idx s5 s7).bind fun x1001 => cond (x1001 != 0) (some (.result x1001)) (some (.again (s5, s6, (w6 (s7 + 1)))))) (some (.leave (s5, s6, s7)))
def zeg.r0 (N : Nat) (x : (List Int) × Int × Int) := zeg.b0 N x.1 x.2.1 x.2.2
def zeg (N : Nat) (a0 : List Int) : Option Int :=
 (zj (zeg.r0 N) N (a0, (a0.length : Int), 0)).bind fun z2 => zax z2 (fun z => some z) (fun y1 => some 0)
def zeg.k (N : Nat) : Kq := ⟨54, (cvv [T6] [(Ty.sl T6)] (zeg N)), go [] {} [(0, .rets { slots := [(5, .val (Ty.sl T6)), (6, .val T6), (7, .val T6)], boxes := [] } [(Ty.sl T6), T6, T6] (zj (zeg.r0 N) N))] Proofs.Tryz.func54 (hL := ⟨⟨_, _, rfl, by kernel_rfl⟩, trivial⟩)⟩
def zft (N : Nat) (a0 : zK) : Option Int :=
 (zai N a0).bind fun r1 => some r1.2
def zft.k (N : Nat) : Kq := ⟨113, (cvv [T6] [Ty.zK] (zft N)), go [zai.k N] {} [] Proofs.Tryz.func113⟩
def zkn (N : Nat) (a0 : zK) : Option ((List Int) × Int × Int) :=
 (zft N a0).bind fun r1 => cond (r1 != 0) (some ([], 0, r1)) ((zaz N a0.zS).bind fun r2 => some (r2.1, r2.2, 0))
def zkn.k (N : Nat) : Kq := ⟨80, (cvv [(Ty.sl T6), T6, T6] [Ty.zK] (zkn N)), go [zft.k N, zaz.k N] {} [] Proofs.Tryz.func80⟩
def zvx : Ct U := { params := [.val Ty.str, .val T6], results := [Ty.str], outs := [], fresh := [], fn := app U [Ty.str, T6] (R := PT U [Ty.str]) (zvw) }
theorem zvx.meets : zh5 (zps [] [] [] [] [] [] [] []) 163 zvx :=
 zzt ⟨_, Proofs.Tryz.func163, rfl, by kernel_rfl⟩ (t := Ty.str) rfl rfl rfl rfl fun ds y hy E0 h0 ha μ H w us hA hm hG => by
  obtain ⟨s, n, rfl, hx⟩ := z93 hy; unfold zvw at hx; split at hx
  · rename_i hn; cases hx; have hE : some ([.sc (.string s), .sc (.int .i64 n)], []) = some (E0, h0) := ha; cases hE; cases hA with
    | cons h1 h2 =>
     cases h2 with
     | cons h2 h3 =>
      cases h3; have hu := h1.int; have hu2 := h2.int; subst hu hu2; refine ⟨_, rfl, ?_⟩; have hc := Proofs.Tryz.strings_Repeat s n.toNat w (by omega) hn.2.2; have he : ((n.toNat : Nat) : Int) = n := by omega
      rw [he] at hc; exact hc.mono fun e w' hh => ⟨_, hh.1, zzh hh.2, .sc _⟩
  · cases hx
def zvx.k : Kq := ⟨163, zvx, zvx.meets⟩
def ziw (a0 : Int) : Option (Storage × Int) :=
 (zd6 a0 0 64).bind fun r1 => cond (!r1) (some ((⟨(⟨#[]⟩ : ByteArray), []⟩ : Storage), 3)) ((zvw (⟨#[0]⟩ : ByteArray) (w6 (a0 * 16))).bind fun r2 =>
  if 0 ≤ a0 then (if a0 ≤ a0 then (cond (Nat.ble (a0.toNat * 1) zar) (some ((⟨r2, (List.replicate a0.toNat (false : Bool))⟩ : Storage), 0)) none) else none) else none)
def ziw.k : Kq := ⟨115, (cvv [Ty.Storage, T6] [T6] ziw), go [zd6.k, zvx.k] {} [] Proofs.Tryz.func115⟩
def zez.b0 (N : Nat) (s0 : Int) (s5 : List Int) (s6 : Int) : Option (Stp (Int × (List Int) × Int)) :=
 cond (decide (s6 ≥ 0)) (if 0 ≤ s6 then (if s6 < (s5.length : Int) then ((s5[s6.toNat]?).bind fun x1001 =>
  some (.again ((w6 (s0.tdiv 10)), (s5.set s6.toNat (IntKind.wrap .u8 (s0.tmod 10))), (w6 (s6 - 1))))) else none) else none)
  (some (.leave (s0, s5, s6)))
def zez.r0 (N : Nat) (x : Int × (List Int) × Int) := zez.b0 N x.1 x.2.1 x.2.2
def zez (N : Nat) (a0 : Int) (a1 : Int) : Option ((List Int)) :=
 if 0 ≤ a1 then (if a1 ≤ a1 then (cond (Nat.ble (a1.toNat * 1) zar)
  ((zf (zez.r0 N) N (a0, (List.replicate a1.toNat (0 : Int)), (w6 (a1 - 1)))).bind fun y1 => some y1.2.1) none) else none) else none
def zez.k (N : Nat) : Kq := ⟨204, (ctv [.val T6, .val T6] [(Ty.sl (Ty.int .u8))] [] [0] [T6, T6] (zez N)), go [] {} [(0, .plain { slots := [(0, .val T6), (5, .own 5000005 (Ty.int .u8)), (6, .val T6)], boxes := [] } [T6, (Ty.sl (Ty.int .u8)), T6] (zf (zez.r0 N) N))] Proofs.Tryz.func204 (hL := ⟨⟨_, _, rfl, by kernel_rfl⟩, trivial⟩)⟩
def zda.b0 (N : Nat) (s0 : List Int) (s3 : List Int) (s4 : Int) : Option (Stp ((List Int) × (List Int) × Int)) :=
 cond (decide (s4 < (s0.length : Int))) ((idx s0 s4).bind fun x1001 => (idx s0 (w6 (s4 + 1))).bind fun x1002 =>
  cond (Nat.ble ((s3.length + ([(orI .u8 (IntKind.wrap .u8 (x1001 * 2 ^ (min (4 : Int).toNat 8))) x1002)] : List Int).length) * 1) zar)
  (some (.again (s0, (s3 ++ ([(orI .u8 (IntKind.wrap .u8 (x1001 * 2 ^ (min (4 : Int).toNat 8))) x1002)] : List Int)), (w6 (s4 + 2))))) none)
  (some (.leave (s0, s3, s4)))
def zda.r0 (N : Nat) (x : (List Int) × (List Int) × Int) := zda.b0 N x.1 x.2.1 x.2.2
def zda (N : Nat) (a0 : List Int) : Option ByteArray :=
 (zf (zda.r0 N) N (a0, [], 0)).bind fun y1 => some (zjv y1.2.1)
def zda.k (N : Nat) : Kq := ⟨205, (cvv [Ty.str] [(Ty.sl (Ty.int .u8))] (zda N)), go [] {lits := [23]} [(0, .plain { slots := [(0, .val (Ty.sl (Ty.int .u8))), (3, .own 5000003 (Ty.int .u8)), (4, .val T6)], boxes := [] } [(Ty.sl (Ty.int .u8)), (Ty.sl (Ty.int .u8)), T6] (zf (zda.r0 N) N))] Proofs.Tryz.func205 (hL := ⟨⟨_, _, rfl, by kernel_rfl⟩, trivial⟩)⟩
def zb8.b1 (N : Nat) (s5 : List Int) (s25 : Int) (s26 : Int) (b3 : Value) : Option (Stp ((List Int) × Int × Int × Value)) :=
 cond (decide (s26 < s25)) (if 0 ≤ s26 then (if s26 < (s5.length : Int) then ((s5[s26.toNat]?).bind fun x2001 =>
  if 0 ≤ s26 then (if s26 < (s5.length : Int) then ((s5[s26.toNat]?).bind fun x2002 =>
  some (.again ((s5.set s26.toNat (IntKind.wrap .u8 (x2001 + 240))), s25, (w6 (s26 + 1)), b3))) else none) else none) else none) else none)
  (some (.leave (s5, s25, s26, b3)))
def zb8.r1 (N : Nat) (x : (List Int) × Int × Int × Value) := zb8.b1 N x.1 x.2.1 x.2.2.1 x.2.2.2
def zb8.b3 (N : Nat) (s8 : List Int) (s9 : Int) (s10 : Int) : Option (Stp ((List Int) × Int × Int)) :=
 cond (decide (s9 ≥ 0)) (if 0 ≤ s9 then (if s9 < (s8.length : Int) then ((s8[s9.toNat]?).bind fun x4001 =>
  some (.again ((s8.set s9.toNat (IntKind.wrap .u8 s10)), (w6 (s9 - 1)), (s10.fdiv (2 ^ (min (8 : Int).toNat 64)))))) else none) else none)
  (some (.leave (s8, s9, s10)))
def zb8.r3 (N : Nat) (x : (List Int) × Int × Int) := zb8.b3 N x.1 x.2.1 x.2.2
def zb8 (N : Nat) (a0 : DataType) (a1 : Value) : Option ByteArray :=
 (zez N (if (w6 (0 - a1.N)) > a1.N then (w6 (0 - a1.N)) else a1.N) a0.Length).bind fun r1 => cond (a0.Kind == 2)
  ((zf (zb8.r1 N) N (r1, (r1.length : Int), 0, a1)).bind fun y2 => cond (decide (y2.2.2.2.N < 0))
  (if 0 ≤ (w6 ((y2.1.length : Int) - 1)) then (if (w6 ((y2.1.length : Int) - 1)) < (y2.1.length : Int) then ((y2.1[(w6 ((y2.1.length : Int) - 1)).toNat]?).bind fun x3 =>
  if 0 ≤ (w6 ((y2.1.length : Int) - 1)) then (if (w6 ((y2.1.length : Int) - 1)) < (y2.1.length : Int) then ((y2.1[(w6 ((y2.1.length : Int) - 1)).toNat]?).bind fun x4 =>
  some (zjv (y2.1.set ((w6 ((y2.1.length : Int) - 1)).toNat) (IntKind.wrap .u8 (x3 - 32))))) else none) else none) else none) else none) (some (zjv y2.1)))
  (cond (a0.Kind == 1) (cond (decide (a1.N < 0)) (cond (((r1.length : Int).tmod 2) == 0) (cond (Nat.ble ((([0] : List Int).length + r1.length) * 1) zar)
  (cond (Nat.ble (((([0] : List Int) ++ r1).length + ([13] : List Int).length) * 1) zar) ((zda N ((([0] : List Int) ++ r1) ++ ([13] : List Int))).bind fun r5 =>
  some r5) none) none) (cond (Nat.ble ((r1.length + ([13] : List Int).length) * 1) zar) ((zda N (r1 ++ ([13] : List Int))).bind fun r6 => some r6) none))
  (cond (((r1.length : Int).tmod 2) == 0) (cond (Nat.ble ((([0] : List Int).length + r1.length) * 1) zar)
  (cond (Nat.ble (((([0] : List Int) ++ r1).length + ([15] : List Int).length) * 1) zar) ((zda N ((([0] : List Int) ++ r1) ++ ([15] : List Int))).bind fun r7 =>
  some r7) none) none) (cond (Nat.ble ((r1.length + ([15] : List Int).length) * 1) zar) ((zda N (r1 ++ ([15] : List Int))).bind fun r8 => some r8) none)))
  (cond (a0.Kind == 3) ((zg1 a0).bind fun r9 => if 0 ≤ r9 then (if r9 ≤ r9 then (cond (Nat.ble (r9.toNat * 1) zar)
  ((zf (zb8.r3 N) N ((List.replicate r9.toNat (0 : Int)), (w6 (((List.replicate r9.toNat (0 : Int)).length : Int) - 1)), a1.N)).bind fun y10 =>
  some (zjv y10.1)) none) else none) else none) (some a1.S)))
def zb8.k (N : Nat) : Kq := ⟨165, (cvv [Ty.str] [Ty.DataType, Ty.Value] (zb8 N)), go [zg1.k, zez.k N, zda.k N] {lits := [16, 63, 64]} [(1, .plain { slots := [(3, .ptr 3 0), (5, .own 5000005 (Ty.int .u8)), (25, .val T6), (26, .val T6)], boxes := [(3, Ty.Value, [])] } [(Ty.sl (Ty.int .u8)), T6, T6, Ty.Value] (zf (zb8.r1 N) N)), (3, .plain { slots := [(8, .own 5000008 (Ty.int .u8)), (9, .val T6), (10, .val T6)], boxes := [] } [(Ty.sl (Ty.int .u8)), T6, T6] (zf (zb8.r3 N) N))] Proofs.Tryz.func165 (hL := ⟨⟨_, _, rfl, by kernel_rfl⟩, ⟨_, _, rfl, by kernel_rfl⟩, trivial⟩)⟩
def zkp (N : Nat) (a0 : DataType) (a1 : Value) : Option (ByteArray × Int) :=
 (zeq N a0 a1).bind fun r1 => cond (r1 != 0) (some ((⟨#[]⟩ : ByteArray), r1)) ((zb8 N a0 a1).bind fun r2 => some (r2, 0))
def zkp.k (N : Nat) : Kq := ⟨116, (cvv [Ty.str, T6] [Ty.DataType, Ty.Value] (zkp N)), go [zeq.k N, zb8.k N] {} [] Proofs.Tryz.func116⟩
def zk6 (N : Nat) (a0 : Storage) (a1 : Int) (a2 : Int) : Option Int :=
 (zao N a0).bind fun r1 => cond (r1.2 != 0) (some r1.2) ((cond (decide (a1 < 0)) (some true) (some (decide (a2 < 0)))).bind fun g2 => (cond g2 (some true)
  (some (decide (a1 > (a0.Bytes.size : Int))))).bind fun g3 => (cond g3 (some true) (some (decide (a2 > (w6 ((a0.Bytes.size : Int) - a1)))))).bind fun g4 =>
  cond g4 (some 3) (some 0))
def zk6.k (N : Nat) : Kq := ⟨166, (cvv [T6] [Ty.Storage, T6, T6] (zk6 N)), go [zao.k N] {} [] Proofs.Tryz.func166⟩
def znp (a0 : Storage) (a1 : Int) (a2 : ByteArray) : Option Storage :=
 if 0 ≤ a1 ∧ a1 ≤ (a0.Bytes.size : Int) then (if 0 ≤ (0 : Int) ∧ (0 : Int) ≤ a1 then (if (((a0.Bytes.extract (0 : Int).toNat a1.toNat).size + a2.size : Nat) : Int) > IntKind.i64.max then none else if 0 ≤ (w6 (a1 + (a2.size : Int))) ∧ (w6 (a1 + (a2.size : Int))) ≤ (a0.Bytes.size : Int) then (if ((((a0.Bytes.extract (0 : Int).toNat a1.toNat) ++ a2).size + (a0.Bytes.extract (w6 (a1 + (a2.size : Int))).toNat a0.Bytes.size).size : Nat) : Int) > IntKind.i64.max then none else (zjk 1 a0.Tags).bind fun r1 =>
  cond (!(a2.toList == (⟨#[]⟩ : ByteArray).toList))
  (if 0 ≤ (w6 ((w6 ((w6 ((w6 (a1 + (a2.size : Int))) - 1)).tdiv 16)) + 1)) ∧ (w6 ((w6 ((w6 ((w6 (a1 + (a2.size : Int))) - 1)).tdiv 16)) + 1)) ≤ (r1.length : Int) then (if 0 ≤ (w6 (a1.tdiv 16)) ∧ (w6 (a1.tdiv 16)) ≤ (w6 ((w6 ((w6 ((w6 (a1 + (a2.size : Int))) - 1)).tdiv 16)) + 1)) then (some (⟨(((a0.Bytes.extract (0 : Int).toNat a1.toNat) ++ a2) ++ (a0.Bytes.extract (w6 (a1 + (a2.size : Int))).toNat a0.Bytes.size)), (r1.take ((w6 (a1.tdiv 16)).toNat) ++ List.replicate ((w6 ((w6 ((w6 ((w6 (a1 + (a2.size : Int))) - 1)).tdiv 16)) + 1)).toNat - (w6 (a1.tdiv 16)).toNat)
  (false : Bool) ++ r1.drop ((w6 (a1.tdiv 16)).toNat + ((w6 ((w6 ((w6 ((w6 (a1 + (a2.size : Int))) - 1)).tdiv 16)) + 1)).toNat - (w6 (a1.tdiv 16)).toNat)))⟩ : Storage)) else none) else none)
  (some (⟨(((a0.Bytes.extract (0 : Int).toNat a1.toNat) ++ a2) ++ (a0.Bytes.extract (w6 (a1 + (a2.size : Int))).toNat a0.Bytes.size)), r1⟩ : Storage))) else none) else none) else none
def znp.k : Kq := ⟨167, (ctv [.val Ty.Storage, .val T6, .val Ty.str] [Ty.Storage] [] [1] [Ty.Storage, T6, Ty.str] znp), go [x44.k] {} [] Proofs.Tryz.func167⟩
def ziv (N : Nat) (a0 : Storage) (a1 : Int) (a2 : ByteArray) : Option (Storage × Int) :=
 (zk6 N a0 a1 (a2.size : Int)).bind fun r1 => cond (r1 != 0) (some ((⟨(⟨#[]⟩ : ByteArray), []⟩ : Storage), r1)) ((znp a0 a1 a2).bind fun r2 => some (r2, 0))
def ziv.k (N : Nat) : Kq := ⟨117, (cvv [Ty.Storage, T6] [Ty.Storage, T6, Ty.str] (ziv N)), go [zk6.k N, znp.k] {lits := [12]} [] Proofs.Tryz.func117⟩
def zcf.b0 (N : Nat) (s5 : List Int) (s8 : Int) (s31 : List zH) (s32 : Int) (s33 : Int) (b2 : Storage) (b7 : Storage) : Option (Round (Storage × Int) ((List Int) × Int × (List zH) × Int × Int × Storage × Storage)) :=
 cond (decide (s33 < s32)) ((idx s31 s33).bind fun x1001 => (cond (x1001.Kind != 0) (some true) (some (s8 != 0))).bind fun g1002 =>
  cond g1002 (some (.again (s5, s8, s31, s32, (w6 (s33 + 1)), b2, b7))) ((zkp N x1001.zD x1001.Value).bind fun r1003 => cond (r1003.2 != 0)
  (some (.result ((⟨(⟨#[]⟩ : ByteArray), []⟩ : Storage), r1003.2))) ((idx s5 s33).bind fun x1004 => (ziv N b7 x1004 r1003.1).bind fun r1005 =>
  some (.again (s5, r1005.2, s31, s32, (w6 (s33 + 1)), b2, r1005.1))))) (some (.leave (s5, s8, s31, s32, s33, b2, b7)))
def zcf.r0 (N : Nat) (x : (List Int) × Int × (List zH) × Int × Int × Storage × Storage) := zcf.b0 N x.1 x.2.1 x.2.2.1 x.2.2.2.1 x.2.2.2.2.1 x.2.2.2.2.2.1 x.2.2.2.2.2.2
def zcf (N : Nat) (a0 : zK) : Option (Storage × Int) :=
 (zft N a0).bind fun r1 => cond (r1 != 0) (some ((⟨(⟨#[]⟩ : ByteArray), []⟩ : Storage), r1)) ((zaz N a0.zS).bind fun r2 =>
  (ziw r2.2).bind fun r3 =>
  (zj (zcf.r0 N) N (r2.1, r3.2, a0.zS, (a0.zS.length : Int), 0, (⟨(⟨#[]⟩ : ByteArray), []⟩ : Storage), r3.1)).bind fun z5 => zax z5 (fun z =>
  some z) (fun y4 => some (y4.2.2.2.2.2.2, y4.2.1)))
def zcf.k (N : Nat) : Kq := ⟨81, (cvv [Ty.Storage, T6] [Ty.zK] (zcf N)), go [zft.k N, zaz.k N, ziw.k, zkp.k N, ziv.k N] {} [(0, .rets { slots := [(2, .ptr 2 0), (5, .val (Ty.sl T6)), (7, .ptr 7 0), (8, .val T6), (31, .val (Ty.sl Ty.zH)), (32, .val T6), (33, .val T6)], boxes := [(2, Ty.Storage, [1]), (7, Ty.Storage, [])] } [(Ty.sl T6), T6, (Ty.sl Ty.zH), T6, T6, Ty.Storage, Ty.Storage] (zj (zcf.r0 N) N))] Proofs.Tryz.func81 (hL := ⟨⟨_, _, rfl, by kernel_rfl⟩, trivial⟩)⟩
def zb (a0 : zG) (a1 : zC) : Option zG :=
 cond (Nat.ble ((a0.code.length + ([a1] : List zC).length) * 224) zar)
  (some (⟨a0.zK, a0.layout, (a0.code ++ ([a1] : List zC))⟩ : zG)) none
def zb.k : Kq := ⟨83, (ctv [.ptr Ty.zG true [4], .val Ty.zC] [] [Ty.zG] [] [Ty.zG, Ty.zC] zb), go [] {lits := [10], pk := [1000000]} [] Proofs.Tryz.func83⟩
def zdm (a0 : zH) : Option Bool :=
 some (a0.zD.Kind != 0)
def zdm.k : Kq := ⟨168, (cvv [Ty.bool] [Ty.zH] zdm), go [] {} [] Proofs.Tryz.func168⟩
def zba (a0 : zH) : Option Bool :=
 some (a0.Kind == 4)
def zba.k : Kq := ⟨169, (cvv [Ty.bool] [Ty.zH] zba), go [] {} [] Proofs.Tryz.func169⟩
def zek (a0 : zH) (a1 : zH) : Option Bool :=
 some (a0.Name.toList == a1.Base.toList)
def zek.k : Kq := ⟨206, (ctv [.val Ty.zH, .ptr Ty.zH false []] [Ty.bool] [] [] [Ty.zH, Ty.zH] zek), go [] {ro := [1000000], pk := [1000000]} [] Proofs.Tryz.func206⟩
def zau.b0 (N : Nat) (s0 : List zH) (s7 : Int) (s8 : Int) (b1000000 : zH) : Option (Round Int ((List zH) × Int × Int × zH)) :=
 cond (decide (s8 < s7)) ((idx s0 s8).bind fun x1001 => (zek x1001 b1000000).bind fun r1002 => cond r1002 (some (.result s8))
  (some (.again (s0, s7, (w6 (s8 + 1)), b1000000)))) (some (.leave (s0, s7, s8, b1000000)))
def zau.r0 (N : Nat) (x : (List zH) × Int × Int × zH) := zau.b0 N x.1 x.2.1 x.2.2.1 x.2.2.2
def zau (N : Nat) (a0 : List zH) (a1 : zH) : Option Int :=
 (zj (zau.r0 N) N (a0, (a0.length : Int), 0, a1)).bind fun z2 => zax z2 (fun z => some z) (fun y1 => some (-1))
def zau.k (N : Nat) : Kq := ⟨196, (ctv [.val (Ty.sl Ty.zH), .clo 206 1, .ptr Ty.zH false []] [T6] [] [] [(Ty.sl Ty.zH), Ty.zH] (zau N)), go [zek.k] {ro := [1000000], pk := [1000000]} [(0, .rets { slots := [(0, .val (Ty.sl Ty.zH)), (1, .fn 206 [1000000]), (7, .val T6), (8, .val T6)], boxes := [(1000000, Ty.zH, [])] } [(Ty.sl Ty.zH), T6, T6, Ty.zH] (zj (zau.r0 N) N))] Proofs.Tryz.func196 (hL := ⟨⟨_, _, rfl, by kernel_rfl⟩, trivial⟩)⟩
def zu (N : Nat) (a0 : zG) (a1 : Int) : Option zL :=
 (idx a0.zK.zS a1).bind fun x1 => cond (x1.Kind != 2) ((idx a0.layout a1).bind fun x2 => some (⟨false, 0, x2⟩ : zL))
  ((zau N a0.zK.zS x1).bind fun r3 => (idx a0.layout r3).bind fun x4 => some (⟨true, x4, x1.Offset⟩ : zL))
def zu.k (N : Nat) : Kq := ⟨170, (ctv [.ptr Ty.zG false [], .val T6] [Ty.zL] [] [] [Ty.zG, T6] (zu N)), go [zau.k N] {ro := [1000000], pk := [1000000]} [] Proofs.Tryz.func170⟩
def zaj (N : Nat) (a0 : zG) (a1 : Int) (a2 : Int) : Option zG :=
 (idx a0.zK.zS a2).bind fun x1 => (zba x1).bind fun r2 =>
  cond r2 ((zb a0 (⟨2, a1, 0, 0, 0, (⟨false, 0, 0⟩ : zL), (⟨false, 0, 0⟩ : zL), (⟨0, 0, 0⟩ : DataType), (⟨0, 0, 0⟩ : DataType), false, false, (⟨x1.Value.N, x1.zD.Scale⟩ : Number), (⟨#[]⟩ : ByteArray), (⟨#[]⟩ : ByteArray), 0, 0, 0, 0⟩ : zC)).bind fun r3 =>
  some r3) ((zu N a0 a2).bind fun r4 =>
  (zb a0 (⟨0, a1, 0, 0, 0, r4, (⟨false, 0, 0⟩ : zL), x1.zD, (⟨0, 0, 0⟩ : DataType), false, false, (⟨0, 0⟩ : Number), (⟨#[]⟩ : ByteArray), (⟨#[]⟩ : ByteArray), 0, 0, 0, 0⟩ : zC)).bind fun r5 =>
  some r5)
def zaj.k (N : Nat) : Kq := ⟨122, (ctv [.ptr Ty.zG true [4], .val T6, .val T6] [] [Ty.zG] [] [Ty.zG, T6, T6] (zaj N)), go [zb.k, zba.k, zu.k N] {lits := [32], pk := [1000000]} [] Proofs.Tryz.func122⟩
def zb6 (N : Nat) (a0 : zG) (a1 : Int) (a2 : Bool) : Option zG :=
 (zu N a0 a1).bind fun r1 => (idx a0.zK.zS a1).bind fun x2 =>
  (zb a0 (⟨1, 0, 0, 0, 0, r1, (⟨false, 0, 0⟩ : zL), x2.zD, (⟨0, 0, 0⟩ : DataType), a2, false, (⟨0, 0⟩ : Number), (⟨#[]⟩ : ByteArray), (⟨#[]⟩ : ByteArray), 0, 0, 0, 0⟩ : zC)).bind fun r3 =>
  some r3
def zb6.k (N : Nat) : Kq := ⟨123, (ctv [.ptr Ty.zG true [4], .val T6, .val Ty.bool] [] [Ty.zG] [] [Ty.zG, T6, Ty.bool] (zb6 N)), go [zb.k, zu.k N] {lits := [9], pk := [1000000]} [] Proofs.Tryz.func123⟩
def zfv (N : Nat) (a0 : zG) (a1 : zN) : Option zG :=
 (idx a1.Args 0).bind fun x1 => (idx a1.Args 1).bind fun x2 => (idx a0.zK.zS x1).bind fun x3 => (idx a0.zK.zS x2).bind fun x4 =>
  (zdm x3).bind fun r5 => cond r5 ((zaj N a0 0 x2).bind fun r6 => (zb6 N r6 x1 (a1.Op == 1)).bind fun r7 => some r7)
  ((zba x4).bind fun r8 => cond r8 ((zu N a0 x1).bind fun r9 =>
  (zb a0 (⟨10, 0, 0, 0, 0, r9, (⟨false, 0, 0⟩ : zL), x3.zD, (⟨0, 0, 0⟩ : DataType), false, false, (⟨0, 0⟩ : Number), x4.Value.S, (⟨#[]⟩ : ByteArray), 0, 0, 0, 0⟩ : zC)).bind fun r10 =>
  some r10) ((zu N a0 x1).bind fun r11 => (zu N a0 x2).bind fun r12 =>
  (zb a0 (⟨9, 0, 0, 0, 0, r11, r12, x3.zD, x4.zD, false, false, (⟨0, 0⟩ : Number), (⟨#[]⟩ : ByteArray), (⟨#[]⟩ : ByteArray), 0, 0, 0, 0⟩ : zC)).bind fun r13 =>
  some r13))
def zfv.k (N : Nat) : Kq := ⟨118, (ctv [.ptr Ty.zG true [4], .val Ty.zN] [] [Ty.zG] [] [Ty.zG, Ty.zN] (zfv N)), go [zb.k, zaj.k N, zb6.k N, zdm.k, zba.k, zu.k N] {lits := [35, 40, 63], pk := [1000000]} [] Proofs.Tryz.func118⟩
def zef (N : Nat) (a0 : zG) (a1 : zN) : Option zG :=
 (idx a1.Args 1).bind fun x1 => (zaj N a0 0 x1).bind fun r2 => (idx a1.Args 2).bind fun x3 => (zaj N r2 1 x3).bind fun r4 =>
  (idx a1.Args 0).bind fun x5 => (idx r4.zK.zS x5).bind fun x6 =>
  (zb r4 (⟨4, 0, 0, 1, (w6 ((w6 (a1.Op - 2)) + 0)), (⟨false, 0, 0⟩ : zL), (⟨false, 0, 0⟩ : zL), x6.zD, (⟨0, 0, 0⟩ : DataType), false, false, (⟨0, 0⟩ : Number), (⟨#[]⟩ : ByteArray), (⟨#[]⟩ : ByteArray), 0, 0, 0, 0⟩ : zC)).bind fun r7 =>
  (idx a1.Args 0).bind fun x8 => (zb6 N r7 x8 false).bind fun r9 => some r9
def zef.k (N : Nat) : Kq := ⟨119, (ctv [.ptr Ty.zG true [4], .val Ty.zN] [] [Ty.zG] [] [Ty.zG, Ty.zN] (zef N)), go [zb.k, zaj.k N, zb6.k N] {pk := [1000000]} [] Proofs.Tryz.func119⟩
def zfl (N : Nat) (a0 : zG) (a1 : Int) (a2 : Int) : Option (Bool × zG) :=
 (idx a0.zK.zS a1).bind fun x1 => (idx a0.zK.zS a2).bind fun x2 => (zba x1).bind fun r3 =>
  (cond r3 ((zba x2).bind fun r4 => some r4) (some false)).bind fun g5 =>
  cond g5 ((zb a0 (⟨13, 0, 0, 0, 0, (⟨false, 0, 0⟩ : zL), (⟨false, 0, 0⟩ : zL), (⟨0, 0, 0⟩ : DataType), (⟨0, 0, 0⟩ : DataType), false, false, (⟨0, 0⟩ : Number), x1.Value.S, x2.Value.S, 0, 0, 0, 0⟩ : zC)).bind fun r6 =>
  some (false, r6)) ((zba x2).bind fun r7 => cond r7 ((zu N a0 a1).bind fun r8 =>
  (zb a0 (⟨12, 0, 0, 0, 0, r8, (⟨false, 0, 0⟩ : zL), x1.zD, (⟨0, 0, 0⟩ : DataType), false, false, (⟨0, 0⟩ : Number), x2.Value.S, (⟨#[]⟩ : ByteArray), 0, 0, 0, 0⟩ : zC)).bind fun r9 =>
  some (false, r9)) ((zba x1).bind fun r10 => cond r10 ((zu N a0 a2).bind fun r11 =>
  (zb a0 (⟨12, 0, 0, 0, 0, r11, (⟨false, 0, 0⟩ : zL), x2.zD, (⟨0, 0, 0⟩ : DataType), false, false, (⟨0, 0⟩ : Number), x1.Value.S, (⟨#[]⟩ : ByteArray), 0, 0, 0, 0⟩ : zC)).bind fun r12 =>
  some (true, r12)) ((zu N a0 a1).bind fun r13 => (zu N a0 a2).bind fun r14 =>
  (zb a0 (⟨11, 0, 0, 0, 0, r13, r14, x1.zD, x2.zD, false, false, (⟨0, 0⟩ : Number), (⟨#[]⟩ : ByteArray), (⟨#[]⟩ : ByteArray), 0, 0, 0, 0⟩ : zC)).bind fun r15 =>
  some (false, r15))))
def zfl.k (N : Nat) : Kq := ⟨171, (ctv [.ptr Ty.zG true [4], .val T6, .val T6] [Ty.bool] [Ty.zG] [] [Ty.zG, T6, T6] (zfl N)), go [zb.k, zba.k, zu.k N] {lits := [28, 33, 60, 74], pk := [1000000]} [] Proofs.Tryz.func171⟩
def ze8 (N : Nat) (a0 : zG) (a1 : zN) : Option zG :=
 (idx a1.Args 0).bind fun x1 => (idx a0.zK.zS x1).bind fun x2 => (zdm x2).bind fun r3 => cond r3 ((idx a1.Args 0).bind fun x4 =>
  (zaj N a0 0 x4).bind fun r5 => (idx a1.Args 1).bind fun x6 => (zaj N r5 1 x6).bind fun r7 =>
  (zb r7 (⟨5, 0, 0, 1, 0, (⟨false, 0, 0⟩ : zL), (⟨false, 0, 0⟩ : zL), (⟨0, 0, 0⟩ : DataType), (⟨0, 0, 0⟩ : DataType), false, false, (⟨0, 0⟩ : Number), (⟨#[]⟩ : ByteArray), (⟨#[]⟩ : ByteArray), 0, 0, 0, 0⟩ : zC)).bind fun r8 =>
  (cond (a1.Op == 8) (some false) (some false)).bind fun g9 => cond g9 ((idx a1.Args 2).bind fun x10 => (idx r8.zK.zS x10).bind fun x11 =>
  (zb r8 (⟨6, 0, 0, 0, 0, (⟨false, 0, 0⟩ : zL), (⟨false, 0, 0⟩ : zL), (⟨0, 0, 0⟩ : DataType), (⟨0, 0, 0⟩ : DataType), false, false, (⟨0, 0⟩ : Number), (⟨#[]⟩ : ByteArray), (⟨#[]⟩ : ByteArray), 4, x11.Target, 0, 0⟩ : zC)).bind fun r12 =>
  some r12) (cond (a1.Op == 8) ((idx a1.Args 2).bind fun x13 => (idx r8.zK.zS x13).bind fun x14 =>
  (zb r8 (⟨6, 0, 0, 0, 0, (⟨false, 0, 0⟩ : zL), (⟨false, 0, 0⟩ : zL), (⟨0, 0, 0⟩ : DataType), (⟨0, 0, 0⟩ : DataType), false, false, (⟨0, 0⟩ : Number), (⟨#[]⟩ : ByteArray), (⟨#[]⟩ : ByteArray), 1, x14.Target, 0, 0⟩ : zC)).bind fun r15 =>
  some r15) ((idx a1.Args 2).bind fun x16 => (idx r8.zK.zS x16).bind fun x17 =>
  (zb r8 (⟨6, 0, 0, 0, 0, (⟨false, 0, 0⟩ : zL), (⟨false, 0, 0⟩ : zL), (⟨0, 0, 0⟩ : DataType), (⟨0, 0, 0⟩ : DataType), false, false, (⟨0, 0⟩ : Number), (⟨#[]⟩ : ByteArray), (⟨#[]⟩ : ByteArray), 2, x17.Target, 0, 0⟩ : zC)).bind fun r18 =>
  some r18))) ((idx a1.Args 0).bind fun x19 => (idx a1.Args 1).bind fun x20 => (zfl N a0 x19 x20).bind fun r21 => (cond (a1.Op == 8) (some r21.1)
  (some false)).bind fun g22 => cond g22 ((idx a1.Args 2).bind fun x23 => (idx r21.2.zK.zS x23).bind fun x24 =>
  (zb r21.2 (⟨6, 0, 0, 0, 0, (⟨false, 0, 0⟩ : zL), (⟨false, 0, 0⟩ : zL), (⟨0, 0, 0⟩ : DataType), (⟨0, 0, 0⟩ : DataType), false, false, (⟨0, 0⟩ : Number), (⟨#[]⟩ : ByteArray), (⟨#[]⟩ : ByteArray), 4, x24.Target, 0, 0⟩ : zC)).bind fun r25 =>
  some r25) (cond (a1.Op == 8) ((idx a1.Args 2).bind fun x26 => (idx r21.2.zK.zS x26).bind fun x27 =>
  (zb r21.2 (⟨6, 0, 0, 0, 0, (⟨false, 0, 0⟩ : zL), (⟨false, 0, 0⟩ : zL), (⟨0, 0, 0⟩ : DataType), (⟨0, 0, 0⟩ : DataType), false, false, (⟨0, 0⟩ : Number), (⟨#[]⟩ : ByteArray), (⟨#[]⟩ : ByteArray), 1, x27.Target, 0, 0⟩ : zC)).bind fun r28 =>
  some r28) ((idx a1.Args 2).bind fun x29 => (idx r21.2.zK.zS x29).bind fun x30 =>
  (zb r21.2 (⟨6, 0, 0, 0, 0, (⟨false, 0, 0⟩ : zL), (⟨false, 0, 0⟩ : zL), (⟨0, 0, 0⟩ : DataType), (⟨0, 0, 0⟩ : DataType), false, false, (⟨0, 0⟩ : Number), (⟨#[]⟩ : ByteArray), (⟨#[]⟩ : ByteArray), 2, x30.Target, 0, 0⟩ : zC)).bind fun r31 =>
  some r31)))
def ze8.k (N : Nat) : Kq := ⟨120, (ctv [.ptr Ty.zG true [4], .val Ty.zN] [] [Ty.zG] [] [Ty.zG, Ty.zN] (ze8 N)), go [zb.k, zaj.k N, zdm.k, zfl.k N] {pk := [1000000]} [] Proofs.Tryz.func120⟩
def zej (N : Nat) (a0 : zG) (a1 : zN) : Option zG :=
 (idx a1.Args 0).bind fun x1 => (idx a0.layout x1).bind fun x2 => cond (a1.Op == 10) ((idx a1.Args 1).bind fun x3 => (zu N a0 x3).bind fun r4 =>
  (idx a1.Args 1).bind fun x5 => (idx a0.zK.zS x5).bind fun x6 =>
  (zb a0 (⟨14, 0, 0, 0, 0, r4, (⟨false, 0, 0⟩ : zL), x6.zD, (⟨0, 0, 0⟩ : DataType), false, false, (⟨0, 0⟩ : Number), (⟨#[]⟩ : ByteArray), (⟨#[]⟩ : ByteArray), 0, 0, x2, 0⟩ : zC)).bind fun r7 =>
  some r7) (cond (a1.Op == 11) ((idx a1.Args 1).bind fun x8 => (idx a0.layout x8).bind fun x9 =>
  (zb a0 (⟨15, 0, 0, 0, 0, (⟨false, 0, 0⟩ : zL), (⟨false, 0, 0⟩ : zL), (⟨0, 0, 0⟩ : DataType), (⟨0, 0, 0⟩ : DataType), false, false, (⟨0, 0⟩ : Number), (⟨#[]⟩ : ByteArray), (⟨#[]⟩ : ByteArray), 0, 0, x2, x9⟩ : zC)).bind fun r10 =>
  some r10) (cond (a1.Op == 12)
  ((zb a0 (⟨17, 0, 0, 0, 0, (⟨false, 0, 0⟩ : zL), (⟨false, 0, 0⟩ : zL), (⟨0, 0, 0⟩ : DataType), (⟨0, 0, 0⟩ : DataType), false, false, (⟨0, 0⟩ : Number), (⟨#[]⟩ : ByteArray), (⟨#[]⟩ : ByteArray), 0, 0, x2, 0⟩ : zC)).bind fun r11 =>
  (idx a1.Args 1).bind fun x12 => (zaj N r11 0 x12).bind fun r13 =>
  (zb r13 (⟨16, 0, 0, 0, 0, (⟨false, 0, 0⟩ : zL), (⟨false, 0, 0⟩ : zL), (⟨0, 0, 0⟩ : DataType), (⟨0, 0, 0⟩ : DataType), false, false, (⟨0, 0⟩ : Number), (⟨#[]⟩ : ByteArray), (⟨#[]⟩ : ByteArray), 0, 0, x2, 0⟩ : zC)).bind fun r14 =>
  some r14) (some a0)))
def zej.k (N : Nat) : Kq := ⟨121, (ctv [.ptr Ty.zG true [4], .val Ty.zN] [] [Ty.zG] [] [Ty.zG, Ty.zN] (zej N)), go [zb.k, zaj.k N, zu.k N] {lits := [26], pk := [1000000]} [] Proofs.Tryz.func121⟩
def zfm (N : Nat) (a0 : zG) (a1 : Int) : Option zG :=
 (idx a0.zK.zS a1).bind fun x1 => (zdm x1).bind fun r2 => cond r2 ((zaj N a0 0 a1).bind fun r3 =>
  (zb r3 (⟨22, 0, 0, 0, 0, (⟨false, 0, 0⟩ : zL), (⟨false, 0, 0⟩ : zL), (⟨0, 0, 0⟩ : DataType), (⟨0, 0, 0⟩ : DataType), false, false, (⟨0, 0⟩ : Number), (⟨#[]⟩ : ByteArray), (⟨#[]⟩ : ByteArray), 0, 0, 0, 0⟩ : zC)).bind fun r4 =>
  some r4) ((zba x1).bind fun r5 =>
  cond r5 ((zb a0 (⟨24, 0, 0, 0, 0, (⟨false, 0, 0⟩ : zL), (⟨false, 0, 0⟩ : zL), (⟨0, 0, 0⟩ : DataType), (⟨0, 0, 0⟩ : DataType), false, false, (⟨0, 0⟩ : Number), x1.Value.S, (⟨#[]⟩ : ByteArray), 0, 0, 0, 0⟩ : zC)).bind fun r6 =>
  some r6) ((zu N a0 a1).bind fun r7 =>
  (zb a0 (⟨23, 0, 0, 0, 0, r7, (⟨false, 0, 0⟩ : zL), x1.zD, (⟨0, 0, 0⟩ : DataType), false, false, (⟨0, 0⟩ : Number), (⟨#[]⟩ : ByteArray), (⟨#[]⟩ : ByteArray), 0, 0, 0, 0⟩ : zC)).bind fun r8 =>
  some r8))
def zfm.k (N : Nat) : Kq := ⟨124, (ctv [.ptr Ty.zG true [4], .val T6] [] [Ty.zG] [] [Ty.zG, T6] (zfm N)), go [zb.k, zaj.k N, zdm.k, zba.k, zu.k N] {lits := [16], pk := [1000000]} [] Proofs.Tryz.func124⟩
def zd3 (N : Nat) (a0 : zG) (a1 : zN) : Option zG :=
 (zb a0 (⟨25, 0, 0, 0, 0, (⟨false, 0, 0⟩ : zL), (⟨false, 0, 0⟩ : zL), (⟨0, 0, 0⟩ : DataType), (⟨0, 0, 0⟩ : DataType), false, false, (⟨0, 0⟩ : Number), (⟨#[]⟩ : ByteArray), (⟨#[]⟩ : ByteArray), 0, 0, 0, 0⟩ : zC)).bind fun r1 =>
  (cond (a1.Op == 0) (some (a1.Op == 0)) (some (a1.Op == 1))).bind fun q2 => cond q2 ((zfv N r1 a1).bind fun r3 => some r3) ((cond (a1.Op == 2)
  (some (a1.Op == 2)) (cond (a1.Op == 3) (some (a1.Op == 3)) (cond (a1.Op == 4) (some (a1.Op == 4)) (cond (a1.Op == 5) (some (a1.Op == 5)) (some (a1.Op == 6)))))).bind fun q4 =>
  cond q4 ((zef N r1 a1).bind fun r5 => some r5) ((cond (a1.Op == 7) (some (a1.Op == 7)) (some (a1.Op == 8))).bind fun q6 =>
  cond q6 ((ze8 N r1 a1).bind fun r7 => some r7) (cond (a1.Op == 9) ((idx a1.Args 0).bind fun x8 => (idx r1.zK.zS x8).bind fun x9 =>
  (zb r1 (⟨8, 0, 0, 0, 0, (⟨false, 0, 0⟩ : zL), (⟨false, 0, 0⟩ : zL), (⟨0, 0, 0⟩ : DataType), (⟨0, 0, 0⟩ : DataType), false, false, (⟨0, 0⟩ : Number), (⟨#[]⟩ : ByteArray), (⟨#[]⟩ : ByteArray), 0, x9.Target, 0, 0⟩ : zC)).bind fun r10 =>
  some r10) (cond (a1.Op == 13) ((idx a1.Args 0).bind fun x11 => (idx r1.zK.zS x11).bind fun x12 =>
  (zb r1 (⟨18, 0, 0, 0, 0, (⟨false, 0, 0⟩ : zL), (⟨false, 0, 0⟩ : zL), (⟨0, 0, 0⟩ : DataType), (⟨0, 0, 0⟩ : DataType), false, false, (⟨0, 0⟩ : Number), (⟨#[]⟩ : ByteArray), (⟨#[]⟩ : ByteArray), 0, x12.Target, 0, 0⟩ : zC)).bind fun r13 =>
  some r13) ((cond (a1.Op == 10) (some (a1.Op == 10)) (cond (a1.Op == 11) (some (a1.Op == 11)) (some (a1.Op == 12)))).bind fun q14 =>
  cond q14 ((zej N r1 a1).bind fun r15 => some r15) (cond (a1.Op == 14)
  ((zb r1 (⟨19, 0, 0, 0, 0, (⟨false, 0, 0⟩ : zL), (⟨false, 0, 0⟩ : zL), (⟨0, 0, 0⟩ : DataType), (⟨0, 0, 0⟩ : DataType), false, false, (⟨0, 0⟩ : Number), (⟨#[]⟩ : ByteArray), (⟨#[]⟩ : ByteArray), 0, 0, 0, 0⟩ : zC)).bind fun r16 =>
  some r16) (cond (a1.Op == 15) ((idx a1.Args 0).bind fun x17 => (zaj N r1 0 x17).bind fun r18 =>
  (zb r18 (⟨20, 0, 0, 0, 0, (⟨false, 0, 0⟩ : zL), (⟨false, 0, 0⟩ : zL), (⟨0, 0, 0⟩ : DataType), (⟨0, 0, 0⟩ : DataType), false, false, (⟨0, 0⟩ : Number), (⟨#[]⟩ : ByteArray), (⟨#[]⟩ : ByteArray), 0, 0, 0, 0⟩ : zC)).bind fun r19 =>
  some r19) (cond (a1.Op == 16)
  ((zb r1 (⟨21, 0, 0, 0, 0, (⟨false, 0, 0⟩ : zL), (⟨false, 0, 0⟩ : zL), (⟨0, 0, 0⟩ : DataType), (⟨0, 0, 0⟩ : DataType), false, false, (⟨0, 0⟩ : Number), (⟨#[]⟩ : ByteArray), (⟨#[]⟩ : ByteArray), 0, 0, 0, 0⟩ : zC)).bind fun r20 =>
  (idx a1.Args 0).bind fun x21 => (zb6 N r20 x21 false).bind fun r22 => some r22) (cond (a1.Op == 17) ((idx a1.Args 0).bind fun x23 =>
  (zfm N r1 x23).bind fun r24 => some r24) (cond (a1.Op == 18)
  ((zb r1 (⟨26, 0, 0, 0, 0, (⟨false, 0, 0⟩ : zL), (⟨false, 0, 0⟩ : zL), (⟨0, 0, 0⟩ : DataType), (⟨0, 0, 0⟩ : DataType), false, false, (⟨0, 0⟩ : Number), (⟨#[]⟩ : ByteArray), (⟨#[]⟩ : ByteArray), 0, 0, 0, 0⟩ : zC)).bind fun r25 =>
  some r25) (some r1)))))))))))
def zd3.k (N : Nat) : Kq := ⟨82, (ctv [.ptr Ty.zG true [4], .val Ty.zN] [] [Ty.zG] [] [Ty.zG, Ty.zN] (zd3 N)), go [zb.k, zfv.k N, zef.k N, ze8.k N, zej.k N, zaj.k N, zb6.k N, zfm.k N] {pk := [1000000], bj := [9, 15, 24, 64]} [] Proofs.Tryz.func82⟩
def zdq.b0 (N : Nat) (s1 : List Int) (s5 : List zQ) (s8 : List zT) (s9 : Int) (s10 : Int) : Option (Stp ((List Int) × (List zQ) × (List zT) × Int × Int)) :=
 cond (decide (s10 < s9)) ((idx s8 s10).bind fun x1001 => (idx s1 x1001.From).bind fun x1002 => (idx s1 x1001.To).bind fun x1003 => (idx s1 x1001.Handler).bind fun x1004 =>
  cond (Nat.ble ((s5.length + ([(⟨x1002, x1003, x1001.Exception, x1004⟩ : zQ)] : List zQ).length) * 32) zar)
  (some (.again (s1, (s5 ++ ([(⟨x1002, x1003, x1001.Exception, x1004⟩ : zQ)] : List zQ)), s8, s9, (w6 (s10 + 1))))) none) (some (.leave (s1, s5, s8, s9, s10)))
def zdq.r0 (N : Nat) (x : (List Int) × (List zQ) × (List zT) × Int × Int) := zdq.b0 N x.1 x.2.1 x.2.2.1 x.2.2.2.1 x.2.2.2.2
def zdq (N : Nat) (a0 : List zT) (a1 : List Int) : Option ((List zQ)) :=
 (zf (zdq.r0 N) N (a1, [], a0, (a0.length : Int), 0)).bind fun y1 => some y1.2.1
def zdq.k (N : Nat) : Kq := ⟨85, (cvv [(Ty.sl Ty.zQ)] [(Ty.sl Ty.zT), (Ty.sl T6)] (zdq N)), go [] {lits := [33]} [(0, .plain { slots := [(1, .val (Ty.sl T6)), (5, .own 5000005 Ty.zQ), (8, .val (Ty.sl Ty.zT)), (9, .val T6), (10, .val T6)], boxes := [] } [(Ty.sl T6), (Ty.sl Ty.zQ), (Ty.sl Ty.zT), T6, T6] (zf (zdq.r0 N) N))] Proofs.Tryz.func85 (hL := ⟨⟨_, _, rfl, by kernel_rfl⟩, trivial⟩)⟩
def za8.b0 (N : Nat) (s13 : List Int) (s55 : List zN) (s56 : Int) (s57 : Int) (b2 : zK) (b4 : zF) (b5 : zX) (b11 : Storage) (b53 : zG) : Option (Stp ((List Int) × (List zN) × Int × Int × zK × zF × zX × Storage × zG)) :=
 cond (decide (s57 < s56)) ((idx s55 s57).bind fun x1001 => cond (Nat.ble ((s13.length + ([(b53.code.length : Int)] : List Int).length) * 8) zar)
  ((zd3 N b53 x1001).bind fun r1002 =>
  some (.again ((s13 ++ ([(b53.code.length : Int)] : List Int)), s55, s56, (w6 (s57 + 1)), b2, b4, b5, b11, r1002))) none)
  (some (.leave (s13, s55, s56, s57, b2, b4, b5, b11, b53)))
def za8.r0 (N : Nat) (x : (List Int) × (List zN) × Int × Int × zK × zF × zX × Storage × zG) := za8.b0 N x.1 x.2.1 x.2.2.1 x.2.2.2.1 x.2.2.2.2.1 x.2.2.2.2.2.1 x.2.2.2.2.2.2.1 x.2.2.2.2.2.2.2.1 x.2.2.2.2.2.2.2.2
def za8.b2 (N : Nat) (s13 : List Int) (s88 : Int) (s89 : Int) (b2 : zK) (b4 : zF) (b5 : zX) (b11 : Storage) (b53 : zG) : Option (Stp ((List Int) × Int × Int × zK × zF × zX × Storage × zG)) :=
 cond (decide (s89 < s88)) (if 0 ≤ s89 then (if s89 < (b53.code.length : Int) then ((b53.code[s89.toNat]?).bind fun x3001 => (zcw x3001.Op).bind fun r3002 =>
  cond r3002 (if 0 ≤ x3001.Target then (if x3001.Target < (s13.length : Int) then ((s13[x3001.Target.toNat]?).bind fun x3003 =>
  if 0 ≤ s89 then (if s89 < (b53.code.length : Int) then ((b53.code[s89.toNat]?).bind fun x3004 =>
  some (.again (s13, s88, (w6 (s89 + 1)), b2, b4, b5, b11, (⟨b53.zK, b53.layout, (b53.code.set s89.toNat (⟨x3004.Op, x3004.R, x3004.A, x3004.B, x3004.zO, x3004.Place, x3004.From, x3004.zD, x3004.Second, x3004.Half, x3004.zJ, x3004.Number, x3004.Text, x3004.Other, x3004.Mask, x3003, x3004.Pointer, x3004.Source⟩ : zC))⟩ : zG)))) else none) else none) else none) else none)
  (some (.again (s13, s88, (w6 (s89 + 1)), b2, b4, b5, b11, b53)))) else none) else none) (some (.leave (s13, s88, s89, b2, b4, b5, b11, b53)))
def za8.r2 (N : Nat) (x : (List Int) × Int × Int × zK × zF × zX × Storage × zG) := za8.b2 N x.1 x.2.1 x.2.2.1 x.2.2.2.1 x.2.2.2.2.1 x.2.2.2.2.2.1 x.2.2.2.2.2.2.1 x.2.2.2.2.2.2.2
def za8 (N : Nat) (a0 : zK) (a1 : zI) : Option (zF × zX × Int) :=
 (zg9 N a0).bind fun r1 => (zdo a1).bind fun r2 => (zeg N ([r1, r2] : List Int)).bind fun r3 => cond (r3 != 0)
  (some ((⟨(⟨(⟨#[]⟩ : ByteArray), []⟩ : Storage), [], []⟩ : zF), (⟨[]⟩ : zX), r3)) ((zkn N a0).bind fun r4 => cond (r4.2.2 != 0)
  (some ((⟨(⟨(⟨#[]⟩ : ByteArray), []⟩ : Storage), [], []⟩ : zF), (⟨[]⟩ : zX), r4.2.2)) ((zcf N a0).bind fun r5 => cond (r5.2 != 0)
  (some ((⟨(⟨(⟨#[]⟩ : ByteArray), []⟩ : Storage), [], []⟩ : zF), (⟨[]⟩ : zX), r5.2))
  ((zf (za8.r0 N) N ([], a0.zA, (a0.zA.length : Int), 0, a0, (⟨(⟨(⟨#[]⟩ : ByteArray), []⟩ : Storage), [], []⟩ : zF), (⟨[]⟩ : zX), r5.1, (⟨a0, r4.1, []⟩ : zG))).bind fun y6 =>
  cond (Nat.ble ((y6.1.length + ([(y6.2.2.2.2.2.2.2.2.code.length : Int)] : List Int).length) * 8) zar)
  ((zb y6.2.2.2.2.2.2.2.2 (⟨26, 0, 0, 0, 0, (⟨false, 0, 0⟩ : zL), (⟨false, 0, 0⟩ : zL), (⟨0, 0, 0⟩ : DataType), (⟨0, 0, 0⟩ : DataType), false, false, (⟨0, 0⟩ : Number), (⟨#[]⟩ : ByteArray), (⟨#[]⟩ : ByteArray), 0, 0, 0, 0⟩ : zC)).bind fun r7 =>
  (zf (za8.r2 N) N ((y6.1 ++ ([(y6.2.2.2.2.2.2.2.2.code.length : Int)] : List Int)), (r7.code.length : Int), 0, y6.2.2.2.2.1, y6.2.2.2.2.2.1, y6.2.2.2.2.2.2.1, y6.2.2.2.2.2.2.2.1, r7)).bind fun y8 =>
  (zdq N y8.2.2.2.1.yA y8.1).bind fun r9 => some ((⟨y8.2.2.2.2.2.2.1, y8.2.2.2.2.2.2.2.code, r9⟩ : zF), (⟨y8.1⟩ : zX), 0)) none)))
def za8.k (N : Nat) : Kq := ⟨27, (cvv [Ty.zF, Ty.zX, T6] [Ty.zK, Ty.zI] (za8 N)), go [zeg.k N, zg9.k N, zdo.k, zkn.k N, zcf.k N, zd3.k N, zb.k, zcw.k, zdq.k N] {pre := [(26, [13])], lits := [19, 21, 22, 66, 67, 78, 79]} [(0, .plain { slots := [(2, .ptr 2 0), (4, .ptr 4 0), (5, .ptr 5 0), (11, .ptr 11 0), (12, .ptr 53 0), (13, .own 5000013 T6), (55, .val (Ty.sl Ty.zN)), (56, .val T6), (57, .val T6)], boxes := [(2, Ty.zK, []), (4, Ty.zF, [1, 2, 3]), (5, Ty.zX, [0]), (11, Ty.Storage, []), (53, Ty.zG, [4])] } [(Ty.sl T6), (Ty.sl Ty.zN), T6, T6, Ty.zK, Ty.zF, Ty.zX, Ty.Storage, Ty.zG] (zf (za8.r0 N) N)), (2, .plain { slots := [(2, .ptr 2 0), (4, .ptr 4 0), (5, .ptr 5 0), (11, .ptr 11 0), (12, .ptr 53 0), (13, .own 5000013 T6), (87, .ofbox 12 53 4), (88, .val T6), (89, .val T6)], boxes := [(2, Ty.zK, []), (4, Ty.zF, [1, 2, 3]), (5, Ty.zX, [0]), (11, Ty.Storage, []), (53, Ty.zG, [4])] } [(Ty.sl T6), T6, T6, Ty.zK, Ty.zF, Ty.zX, Ty.Storage, Ty.zG] (zf (za8.r2 N) N))] Proofs.Tryz.func27 (hL := ⟨⟨_, _, rfl, by kernel_rfl⟩, ⟨_, _, rfl, by kernel_rfl⟩, trivial⟩)⟩
def zk1 (N : Nat)  : Option Bool :=
 (zit N).bind fun r1 => (zi N (⟨2, false, false⟩ : zI) r1).bind fun r2 => (zm2).bind fun r3 =>
  (za8 N r3 (⟨2, false, false⟩ : zI)).bind fun r4 => (cond (r2.2.2 == 0) (some ((r2.1.zA.length : Int) == 3)) (some false)).bind fun g5 =>
  (cond g5 ((idx r2.1.zA 1).bind fun x6 =>
  some (zbw [(x6.Op == 3), (x6.R == 1), (x6.A == 0), (x6.B == 0), (x6.zO == 0), (x6.Place.Based == false), (x6.Place.Pointer == 0), (x6.Place.Offset == 0), (x6.From.Based == false), (x6.From.Pointer == 0), (x6.From.Offset == 0), (x6.zD.Kind == 0), (x6.zD.Length == 0), (x6.zD.Scale == 0), (x6.Second.Kind == 0), (x6.Second.Length == 0), (x6.Second.Scale == 0), (x6.Half == false), (x6.zJ == false), (x6.Number.N == 0), (x6.Number.Scale == 0), (x6.Text == (⟨#[]⟩ : ByteArray)), (x6.Other == (⟨#[]⟩ : ByteArray)), (x6.Mask == 0), (x6.Target == 0), (x6.Pointer == 0), (x6.Source == 0)]))
  (some false)).bind fun g7 => (cond g7 (some (r4.2.2 == 0)) (some false)).bind fun g8 => (cond g8 (some ((r4.2.1.Starts.length : Int) == 4)) (some false)).bind fun g9 => some g9
def zk1.k (N : Nat) : Kq := ⟨7, (cvv [Ty.bool] [] (zk1 N)), go [zi.k N, zit.k N, za8.k N, zm2.k] {lits := [9, 15]} [] Proofs.Tryz.func7⟩
def zer (a0 : Storage) : Option Bool :=
 (cond (decide ((a0.Bytes.size : Int) ≤ 1072)) (some (decide ((a0.Tags.length : Int) ≤ 67))) (some false)).bind fun g1 => some g1
def zer.k : Kq := ⟨29, (cvv [Ty.bool] [Ty.Storage] zer), go [] {} [] Proofs.Tryz.func29⟩
def zb9.b0 (N : Nat) (s3 : Int) (b1 : zF) : Option (Round Bool (Int × zF)) :=
 (cond (decide (s3 < (b1.zA.length : Int))) (some (decide (s3 < 244))) (some false)).bind fun g1001 => cond g1001 ((idx b1.zA s3).bind fun x1002 =>
  (cond (decide ((x1002.Text.size : Int) > 300)) (some true) ((idx b1.zA s3).bind fun x1003 => some (decide ((x1003.Other.size : Int) > 300)))).bind fun g1004 =>
  cond g1004 (some (.result false)) (some (.again ((w6 (s3 + 1)), b1)))) (some (.leave (s3, b1)))
def zb9.r0 (N : Nat) (x : Int × zF) := zb9.b0 N x.1 x.2
def zb9 (N : Nat) (a0 : zF) : Option Bool :=
 (zj (zb9.r0 N) N (0, a0)).bind fun z2 => zax z2 (fun z => some z) (fun y1 => (zer y1.2.Storage).bind fun r3 =>
  (cond r3 (some (decide ((y1.2.zA.length : Int) < 244))) (some false)).bind fun g4 => (cond g4 (some (decide ((y1.2.zP.length : Int) < 44)))
  (some false)).bind fun g5 => some g5)
def zb9.k (N : Nat) : Kq := ⟨8, (cvv [Ty.bool] [Ty.zF] (zb9 N)), go [zer.k] {} [(0, .rets { slots := [(1, .ptr 1 0), (3, .val T6)], boxes := [(1, Ty.zF, [])] } [T6, Ty.zF] (zj (zb9.r0 N) N))] Proofs.Tryz.func8 (hL := ⟨⟨_, _, rfl, by kernel_rfl⟩, trivial⟩)⟩
def zi6 (a0 : List Bool) : Option ((List Bool)) :=
 cond (Nat.ble (a0.length * 1) zar) (some a0) none
def zi6.k : Kq := ⟨90, (ctv [.val (Ty.sl Ty.bool)] [(Ty.sl Ty.bool)] [] [0] [(Ty.sl Ty.bool)] zi6), go [] {} [] Proofs.Tryz.func90⟩
def zii (a0 : Storage) : Option Storage :=
 (zi6 a0.Tags).bind fun r1 => some (⟨a0.Bytes, r1⟩ : Storage)
def zii.k : Kq := ⟨34, (ctv [.val Ty.Storage] [Ty.Storage] [] [1] [Ty.Storage] zii), go [zi6.k] {} [] Proofs.Tryz.func34⟩
def zh8 (a0 : zF) : Option zF :=
 (zii a0.Storage).bind fun r1 => cond (Nat.ble (a0.zA.length * 224) zar) (cond (Nat.ble (a0.zP.length * 32) zar)
  (some (⟨r1, a0.zA, a0.zP⟩ : zF)) none) none
def zh8.k : Kq := ⟨10, (cvv [Ty.zF] [Ty.zF] zh8), go [zii.k] {} [] Proofs.Tryz.func10⟩
def zp (a0 : Int) (a1 : Int) (a2 : Int) : Option Bool :=
 (cond (decide (a1 ≤ a0)) (some (decide (a0 ≤ a2))) (some false)).bind fun g1 => some g1
def zp.k : Kq := ⟨64, (cvv [Ty.bool] [T6, T6, T6] zp), go [] {} [] Proofs.Tryz.func64⟩
def zgl (a0 : zI) : Option Int :=
 (zp a0.Registers 2 8).bind fun r1 => cond (!r1) (some 3) (some 0)
def zgl.k : Kq := ⟨91, (cvv [T6] [Ty.zI] zgl), go [zp.k] {} [] Proofs.Tryz.func91⟩
def zl1 (a0 : Storage) (a1 : Int) : Option ByteArray :=
 if 0 ≤ (w6 ((w6 (a1 * 16)) + 16)) ∧ (w6 ((w6 (a1 * 16)) + 16)) ≤ (a0.Bytes.size : Int) then (if 0 ≤ (w6 (a1 * 16)) ∧ (w6 (a1 * 16)) ≤ (w6 ((w6 (a1 * 16)) + 16)) then (some (a0.Bytes.extract (w6 (a1 * 16)).toNat (w6 ((w6 (a1 * 16)) + 16)).toNat)) else none) else none
def zl1.k : Kq := ⟨180, (cvv [Ty.str] [Ty.Storage, T6] zl1), go [] {} [] Proofs.Tryz.func180⟩
def zdk.b0 (N : Nat) (s0 : ByteArray) (s1 : Int) (s2 : Int) (s7 : Int) (s8 : Int) : Option (Stp (ByteArray × Int × Int × Int × Int)) :=
 cond (decide (s8 < s2)) ((zon s0 (w6 (s1 + s8))).bind fun x1001 =>
  some (.again (s0, s1, s2, (w6 ((w6 (s7 * 256)) + (w6 (x1001.toNat : Int)))), (w6 (s8 + 1)))))
  (some (.leave (s0, s1, s2, s7, s8)))
def zdk.r0 (N : Nat) (x : ByteArray × Int × Int × Int × Int) := zdk.b0 N x.1 x.2.1 x.2.2.1 x.2.2.2.1 x.2.2.2.2
def zdk (N : Nat) (a0 : ByteArray) (a1 : Int) (a2 : Int) : Option Int :=
 (zf (zdk.r0 N) N (a0, a1, a2, 0, 0)).bind fun y1 => some y1.2.2.2.1
def zdk.k (N : Nat) : Kq := ⟨217, (cvv [T6] [Ty.str, T6, T6] (zdk N)), go [] {} [(0, .plain { slots := [(0, .val Ty.str), (1, .val T6), (2, .val T6), (7, .val T6), (8, .val T6)], boxes := [] } [Ty.str, T6, T6, T6, T6] (zf (zdk.r0 N) N))] Proofs.Tryz.func217 (hL := ⟨⟨_, _, rfl, by kernel_rfl⟩, trivial⟩)⟩
def zgm (a0 : Pointer) : Option Int :=
 (zp a0.Kind 0 2).bind fun r1 => cond (!r1) (some 4) ((zp a0.Address.yC 0 1099511627775).bind fun r2 => (cond (!r2) (some true)
  ((zp a0.Address.Offset 0 16777215).bind fun r3 => some (!r3))).bind fun g4 => (cond g4 (some true) ((zp a0.Authority 0 1023).bind fun r5 =>
  some (!r5))).bind fun g6 => cond g6 (some 3) ((cond (a0.Kind != 1) (some (a0.Authority != 0)) (some false)).bind fun g7 => cond g7 (some 5) (some 0)))
def zgm.k : Kq := ⟨218, (cvv [T6] [Ty.Pointer] zgm), go [zp.k] {} [] Proofs.Tryz.func218⟩
def zmo (N : Nat) (a0 : ByteArray) : Option (Pointer × Int) :=
 cond ((a0.size : Int) != 16) (some ((⟨0, (⟨0, 0⟩ : Address), 0⟩ : Pointer), 18)) ((zon a0 1).bind fun x1 => cond ((x1.toNat : Int) != 0)
  (some ((⟨0, (⟨0, 0⟩ : Address), 0⟩ : Pointer), 5)) ((zon a0 0).bind fun x2 => (zdk N a0 2 2).bind fun r3 => (zdk N a0 4 6).bind fun r4 =>
  (zdk N a0 10 6).bind fun r5 => (zgm (⟨(w6 (x2.toNat : Int)), (⟨r4, r5⟩ : Address), r3⟩ : Pointer)).bind fun r6 => cond (r6 != 0)
  (some ((⟨0, (⟨0, 0⟩ : Address), 0⟩ : Pointer), r6)) (some ((⟨(w6 (x2.toNat : Int)), (⟨r4, r5⟩ : Address), r3⟩ : Pointer), 0))))
def zmo.k (N : Nat) : Kq := ⟨179, (cvv [Ty.Pointer, T6] [Ty.str] (zmo N)), go [zdk.k N, zgm.k] {} [] Proofs.Tryz.func179⟩
def zc8.b0 (N : Nat) (s4 : Int) (s5 : Int) (b1 : Storage) : Option (Round (Int × Int) (Int × Int × Storage)) :=
 cond (decide (s5 < s4)) ((idx b1.Tags s5).bind fun x1001 => cond x1001 ((zl1 b1 s5).bind fun r1002 => (zmo N r1002).bind fun r1003 => cond (r1003.2 != 0)
  (some (.result (s5, 22))) (some (.again (s4, (w6 (s5 + 1)), b1)))) (some (.again (s4, (w6 (s5 + 1)), b1)))) (some (.leave (s4, s5, b1)))
def zc8.r0 (N : Nat) (x : Int × Int × Storage) := zc8.b0 N x.1 x.2.1 x.2.2
def zc8 (N : Nat) (a0 : Storage) : Option (Int × Int) :=
 cond (decide ((a0.Bytes.size : Int) > 1024)) (some (0, 2)) (cond (((a0.Bytes.size : Int).tmod 16) != 0) (some (0, 18))
  (cond ((a0.Tags.length : Int) != (w6 ((a0.Bytes.size : Int).tdiv 16))) (some (0, 6))
  ((zj (zc8.r0 N) N ((w6 ((a0.Bytes.size : Int).tdiv 16)), 0, a0)).bind fun z2 => zax z2 (fun z => some z) (fun y1 => some (y1.1, 0)))))
def zc8.k (N : Nat) : Kq := ⟨133, (cvv [T6, T6] [Ty.Storage] (zc8 N)), go [zmo.k N, zl1.k] {lits := [39]} [(0, .rets { slots := [(1, .ptr 1 0), (4, .val T6), (5, .val T6)], boxes := [(1, Ty.Storage, [])] } [T6, T6, Ty.Storage] (zj (zc8.r0 N) N))] Proofs.Tryz.func133 (hL := ⟨⟨_, _, rfl, by kernel_rfl⟩, trivial⟩)⟩
def zkb (N : Nat) (a0 : Storage) : Option Int :=
 (zc8 N a0).bind fun r1 => some r1.2
def zkb.k (N : Nat) : Kq := ⟨92, (cvv [T6] [Ty.Storage] (zkb N)), go [zc8.k N] {} [] Proofs.Tryz.func92⟩
def zbo.b0 (N : Nat) (s3 : List Int) (s4 : Int) (b1 : Storage) : Option (Stp ((List Int) × Int × Storage)) :=
 cond (decide (s4 < (b1.Tags.length : Int))) ((idx b1.Tags s4).bind fun x1001 =>
  cond x1001 (cond (Nat.ble ((s3.length + ([(w6 (s4 * 16))] : List Int).length) * 8) zar)
  (some (.again ((s3 ++ ([(w6 (s4 * 16))] : List Int)), (w6 (s4 + 1)), b1))) none) (some (.again (s3, (w6 (s4 + 1)), b1))))
  (some (.leave (s3, s4, b1)))
def zbo.r0 (N : Nat) (x : (List Int) × Int × Storage) := zbo.b0 N x.1 x.2.1 x.2.2
def zbo (N : Nat) (a0 : Storage) : Option ((List Int)) :=
 (zf (zbo.r0 N) N ([], 0, a0)).bind fun y1 => some y1.1
def zbo.k (N : Nat) : Kq := ⟨93, (cvv [(Ty.sl T6)] [Ty.Storage] (zbo N)), go [] {lits := [20]} [(0, .plain { slots := [(1, .ptr 1 0), (3, .own 5000003 T6), (4, .val T6)], boxes := [(1, Ty.Storage, [])] } [(Ty.sl T6), T6, Ty.Storage] (zf (zbo.r0 N) N))] Proofs.Tryz.func93 (hL := ⟨⟨_, _, rfl, by kernel_rfl⟩, trivial⟩)⟩
def zc3 (a0 : zC) : Option zM :=
 cond (a0.Op == 0) (some (⟨true, false, false, true, false, false, false, false, false, false, false, false, false, false, 1, 0⟩ : zM)) (cond (a0.Op == 1)
  (some (⟨true, false, false, true, false, true, false, false, false, false, false, false, false, false, 1, 0⟩ : zM)) (cond (a0.Op == 2)
  (some (⟨true, false, false, false, false, false, true, false, false, false, false, false, false, false, 0, 0⟩ : zM)) (cond (a0.Op == 3)
  (some (⟨true, true, false, false, false, false, false, false, false, false, false, false, false, false, 0, 0⟩ : zM)) (cond (a0.Op == 4)
  (cond a0.zJ (some (⟨true, true, false, true, false, false, false, true, false, false, false, false, false, false, 1, 1⟩ : zM))
  (some (⟨true, true, true, false, false, false, false, true, false, false, false, false, false, false, 1, 0⟩ : zM))) (cond (a0.Op == 5)
  (some (⟨false, true, true, false, false, false, false, false, false, false, false, false, false, false, 0, 0⟩ : zM)) (cond (a0.Op == 6)
  (some (⟨false, false, false, false, false, false, false, false, true, true, false, false, false, false, 0, 0⟩ : zM)) (cond (a0.Op == 7)
  (some (⟨false, true, true, false, false, false, false, false, true, true, false, false, false, false, 0, 0⟩ : zM)) ((cond (a0.Op == 8) (some (a0.Op == 8))
  (some (a0.Op == 18))).bind fun q1 => cond q1 (some (⟨false, false, false, false, false, false, false, false, false, true, false, false, false, false, 0, 0⟩ : zM))
  ((cond (a0.Op == 9) (some (a0.Op == 9)) (some (a0.Op == 11))).bind fun q2 =>
  cond q2 (some (⟨false, false, false, true, true, false, false, false, false, false, false, false, false, false, 2, 2⟩ : zM)) ((cond (a0.Op == 10) (some (a0.Op == 10))
  (some (a0.Op == 12))).bind fun q3 => cond q3 (some (⟨false, false, false, true, false, false, false, false, false, false, true, false, false, false, 2, 0⟩ : zM))
  (cond (a0.Op == 13) (some (⟨false, false, false, false, false, false, false, false, false, false, true, true, false, false, 0, 0⟩ : zM)) (cond (a0.Op == 14)
  (some (⟨false, false, false, true, false, false, false, false, false, false, false, false, true, false, 3, 0⟩ : zM)) (cond (a0.Op == 15)
  (some (⟨false, false, false, false, false, false, false, false, false, false, false, false, true, true, 0, 0⟩ : zM)) (cond (a0.Op == 16)
  (some (⟨true, false, false, false, false, false, false, false, false, false, false, false, true, false, 0, 0⟩ : zM)) (cond (a0.Op == 17)
  (some (⟨false, false, false, false, false, false, false, false, false, false, false, false, true, false, 0, 0⟩ : zM)) ((cond (a0.Op == 20) (some (a0.Op == 20))
  (cond (a0.Op == 21) (some (a0.Op == 21)) (some (a0.Op == 22)))).bind fun q4 =>
  cond q4 (some (⟨true, false, false, false, false, false, false, false, false, false, false, false, false, false, 0, 0⟩ : zM)) (cond (a0.Op == 23)
  (some (⟨false, false, false, true, false, false, false, false, false, false, false, false, false, false, 2, 0⟩ : zM)) (cond (a0.Op == 24)
  (some (⟨false, false, false, false, false, false, false, false, false, false, true, false, false, false, 0, 0⟩ : zM))
  (some (⟨false, false, false, false, false, false, false, false, false, false, false, false, false, false, 0, 0⟩ : zM))))))))))))))))))))
def zc3.k : Kq := ⟨134, (cvv [Ty.zM] [Ty.zC] zc3), go [] {bj := [32, 36, 40, 59]} [] Proofs.Tryz.func134⟩
def zhn (a0 : zC) (a1 : zM) : Option Bool :=
 (cond (!a1.R) (some (a0.R != 0)) (some false)).bind fun g1 => (cond g1 (some true) ((cond (!a1.A) (some (a0.A != 0)) (some false)).bind fun g2 => some g2)).bind fun g3 =>
  (cond g3 (some true) ((cond (!a1.B) (some (a0.B != 0)) (some false)).bind fun g4 => some g4)).bind fun g5 => (cond g5 (some true) ((cond (!a1.zO)
  (some (a0.zO != 0)) (some false)).bind fun g6 => some g6)).bind fun g7 => (cond g7 (some true) ((cond (!a1.Place)
  (some (!(zbw [(a0.Place.Based == false), (a0.Place.Pointer == 0), (a0.Place.Offset == 0)]))) (some false)).bind fun g8 => some g8)).bind fun g9 => (cond g9 (some true)
  ((cond (!a1.From) (some (!(zbw [(a0.From.Based == false), (a0.From.Pointer == 0), (a0.From.Offset == 0)]))) (some false)).bind fun g10 => some g10)).bind fun g11 =>
  (cond g11 (some true) ((cond (a1.zD == 0) (some (!(zbw [(a0.zD.Kind == 0), (a0.zD.Length == 0), (a0.zD.Scale == 0)]))) (some false)).bind fun g12 =>
  some g12)).bind fun g13 => (cond g13 (some true) ((cond (a1.Second == 0) (some (!(zbw [(a0.Second.Kind == 0), (a0.Second.Length == 0), (a0.Second.Scale == 0)])))
  (some false)).bind fun g14 => some g14)).bind fun g15 => (cond g15 (some true) ((cond (!a1.Half) (some a0.Half) (some false)).bind fun g16 => some g16)).bind fun g17 =>
  (cond g17 (some true) ((cond (a0.Op != 4) (some a0.zJ) (some false)).bind fun g18 => some g18)).bind fun g19 => (cond g19 (some true) ((cond (!a1.Number)
  (some (!(zbw [(a0.Number.N == 0), (a0.Number.Scale == 0)]))) (some false)).bind fun g20 => some g20)).bind fun g21 => (cond g21 (some true) ((cond (!a1.Text)
  (some (!(a0.Text.toList == (⟨#[]⟩ : ByteArray).toList))) (some false)).bind fun g22 => some g22)).bind fun g23 => (cond g23 (some true) ((cond (!a1.Other)
  (some (!(a0.Other.toList == (⟨#[]⟩ : ByteArray).toList))) (some false)).bind fun g24 => some g24)).bind fun g25 => (cond g25 (some true) ((cond (!a1.Mask) (some (a0.Mask != 0))
  (some false)).bind fun g26 => some g26)).bind fun g27 => (cond g27 (some true) ((cond (!a1.Target) (some (a0.Target != 0)) (some false)).bind fun g28 => some g28)).bind fun g29 =>
  (cond g29 (some true) ((cond (!a1.Pointer) (some (a0.Pointer != 0)) (some false)).bind fun g30 => some g30)).bind fun g31 => (cond g31 (some true) ((cond (!a1.Source)
  (some (a0.Source != 0)) (some false)).bind fun g32 => some g32)).bind fun g33 => (cond g33 (some true) ((cond (!a0.Place.Based) (some (a0.Place.Pointer != 0))
  (some false)).bind fun g34 => some g34)).bind fun g35 => (cond g35 (some true) ((cond (!a0.From.Based) (some (a0.From.Pointer != 0)) (some false)).bind fun g36 =>
  some g36)).bind fun g37 => some g37
def zhn.k : Kq := ⟨135, (cvv [Ty.bool] [Ty.zC, Ty.zM] zhn), go [] {} [] Proofs.Tryz.func135⟩
def zjq (a0 : zI) (a1 : zC) : Option Bool :=
 (cond (a1.Op == 7) (some (!a0.yB)) (some false)).bind fun g1 => (cond g1 (some true) ((cond a1.zJ (some (!a0.zZ)) (some false)).bind fun g2 =>
  some g2)).bind fun g3 => some g3
def zjq.k : Kq := ⟨136, (cvv [Ty.bool] [Ty.zI, Ty.zC] zjq), go [] {} [] Proofs.Tryz.func136⟩
def zck (a0 : Int) : Option Bool :=
 (zp a0 1 3).bind fun r1 => some r1
def zck.k : Kq := ⟨66, (cvv [Ty.bool] [T6] zck), go [zp.k] {} [] Proofs.Tryz.func66⟩
def zc4 (a0 : Bool) : Option Int :=
 cond a0 (some 1) (some 0)
def zc4.k : Kq := ⟨50, (cvv [T6] [Ty.bool] zc4), go [] {} [] Proofs.Tryz.func50⟩
def zf9 (a0 : DataType) : Option Int :=
 (zp a0.Kind 0 4).bind fun r1 => cond (!r1) (some 4) (cond (a0.Kind == 0) ((zp a0.Length 1 256).bind fun r2 => cond (!r2) (some 18)
  ((zck a0.Kind).bind fun r3 => cond r3 ((zp a0.Scale 0 a0.Length).bind fun r4 => (zc4 (!r4)).bind fun r5 => some (w6 (3 * r5)))
  ((zp a0.Scale 0 0).bind fun r6 => (zc4 (!r6)).bind fun r7 => some (w6 (3 * r7))))) ((cond (a0.Kind == 1) (some (a0.Kind == 1))
  (some (a0.Kind == 2))).bind fun q8 => cond q8 ((zp a0.Length 1 15).bind fun r9 => cond (!r9) (some 18) ((zck a0.Kind).bind fun r10 =>
  cond r10 ((zp a0.Scale 0 a0.Length).bind fun r11 => (zc4 (!r11)).bind fun r12 => some (w6 (3 * r12))) ((zp a0.Scale 0 0).bind fun r13 =>
  (zc4 (!r13)).bind fun r14 => some (w6 (3 * r14))))) (cond (a0.Kind == 3) ((cond (a0.Length == 4) (some true) (some (a0.Length == 9))).bind fun g15 =>
  cond (!g15) (some 18) ((zck a0.Kind).bind fun r16 => cond r16 ((zp a0.Scale 0 a0.Length).bind fun r17 => (zc4 (!r17)).bind fun r18 =>
  some (w6 (3 * r18))) ((zp a0.Scale 0 0).bind fun r19 => (zc4 (!r19)).bind fun r20 => some (w6 (3 * r20))))) (cond (!(a0.Length == 0))
  (some 18) ((zck a0.Kind).bind fun r21 => cond r21 ((zp a0.Scale 0 a0.Length).bind fun r22 => (zc4 (!r22)).bind fun r23 =>
  some (w6 (3 * r23))) ((zp a0.Scale 0 0).bind fun r24 => (zc4 (!r24)).bind fun r25 => some (w6 (3 * r25))))))))
def zf9.k : Kq := ⟨65, (cvv [T6] [Ty.DataType] zf9), go [zc4.k, zp.k, zck.k] {bj := [19]} [] Proofs.Tryz.func65⟩
def zg6 (a0 : DataType) (a1 : Int) : Option Int :=
 cond (a1 == 0) (some 0) ((zf9 a0).bind fun r1 => cond (r1 != 0) (some r1) ((cond (a1 == 1) ((zck a0.Kind).bind fun r2 => some (!r2))
  (some false)).bind fun g3 => (cond g3 (some true) ((cond (a1 == 2) (some (a0.Kind != 0)) (some false)).bind fun g4 => some g4)).bind fun g5 => (cond g5 (some true)
  ((cond (a1 == 3) (some (a0.Kind == 4)) (some false)).bind fun g6 => some g6)).bind fun g7 => cond g7 (some 17) (some 0)))
def zg6.k : Kq := ⟨137, (cvv [T6] [Ty.DataType, T6] zg6), go [zf9.k, zck.k] {} [] Proofs.Tryz.func137⟩
def zen (a0 : zI) (a1 : Int) : Option Bool :=
 (zp a1 0 (w6 (a0.Registers - 1))).bind fun r1 => some r1
def zen.k : Kq := ⟨181, (cvv [Ty.bool] [Ty.zI, T6] zen), go [zp.k] {} [] Proofs.Tryz.func181⟩
def zeo (a0 : zI) (a1 : zC) : Option Bool :=
 (zc3 a1).bind fun r1 => (cond (!r1.R) (some true) ((zen a0 a1.R).bind fun r2 => some r2)).bind fun g3 => (cond g3 ((cond (!r1.A) (some true)
  ((zen a0 a1.A).bind fun r4 => some r4)).bind fun g5 => some g5) (some false)).bind fun g6 => (cond g6 ((cond (!r1.B) (some true)
  ((zen a0 a1.B).bind fun r7 => some r7)).bind fun g8 => some g8) (some false)).bind fun g9 => some g9
def zeo.k : Kq := ⟨138, (cvv [Ty.bool] [Ty.zI, Ty.zC] zeo), go [zc3.k, zen.k] {} [] Proofs.Tryz.func138⟩
def zep (a0 : Storage) (a1 : Int) : Option Bool :=
 (zp a1 0 (w6 ((a0.Bytes.size : Int) - 16))).bind fun r1 => (cond r1 (some ((a1.tmod 16) == 0)) (some false)).bind fun g2 => some g2
def zep.k : Kq := ⟨139, (cvv [Ty.bool] [Ty.Storage, T6] zep), go [zp.k] {} [] Proofs.Tryz.func139⟩
def zdp (a0 : DataType) : Option Int :=
 cond (a0.Kind == 1) (some (w6 ((w6 (a0.Length.tdiv 2)) + 1))) (cond (a0.Kind == 3) ((zc4 (a0.Length == 9)).bind fun r1 =>
  some (w6 (2 + (w6 (2 * r1))))) (cond (a0.Kind == 4) (some 16) (some a0.Length)))
def zdp.k : Kq := ⟨68, (cvv [T6] [Ty.DataType] zdp), go [zc4.k] {} [] Proofs.Tryz.func68⟩
def zfn (a0 : Storage) (a1 : Int) (a2 : Int) : Option Bool :=
 (zp a1 0 (a0.Bytes.size : Int)).bind fun r1 => (cond r1 ((zp a2 0 (w6 ((a0.Bytes.size : Int) - a1))).bind fun r2 => some r2)
  (some false)).bind fun g3 => some g3
def zfn.k : Kq := ⟨67, (cvv [Ty.bool] [Ty.Storage, T6, T6] zfn), go [zp.k] {lits := [10]} [] Proofs.Tryz.func67⟩
def zd8 (a0 : zF) (a1 : zL) (a2 : Int) : Option Bool :=
 cond a1.Based ((zep a0.Storage a1.Pointer).bind fun r1 => (cond r1 ((zp a1.Offset 0 256).bind fun r2 => some r2) (some false)).bind fun g3 => some g3)
  ((zfn a0.Storage a1.Offset a2).bind fun r4 => some r4)
def zd8.k : Kq := ⟨140, (cvv [Ty.bool] [Ty.zF, Ty.zL, T6] zd8), go [zp.k, zfn.k, zep.k] {} [] Proofs.Tryz.func140⟩
def zeh (a0 : Number) : Option Int :=
 (zp a0.N (-999999999999999) 999999999999999).bind fun r1 => (cond r1 ((zp a0.Scale 0 15).bind fun r2 => some r2) (some false)).bind fun g3 =>
  (zc4 (!g3)).bind fun r4 => some (w6 (3 * r4))
def zeh.k : Kq := ⟨141, (cvv [T6] [Ty.Number] zeh), go [zc4.k, zp.k] {} [] Proofs.Tryz.func141⟩
def zdf (a0 : zI) (a1 : zF) (a2 : zC) : Option Int :=
 (zp a2.Op 0 26).bind fun r1 => cond (!r1) (some 4) ((zc3 a2).bind fun r2 => (zhn a2 r2).bind fun r3 => cond r3 (some 5)
  ((zjq a0 a2).bind fun r4 => cond r4 (some 39) ((zg6 a2.zD r2.zD).bind fun r5 => cond (r5 != 0) (some r5)
  ((zg6 a2.Second r2.Second).bind fun r6 => cond (r6 != 0) (some r6) (cond (a2.Op == 4) (((zeo a0 a2).bind fun r7 => cond (!r7) (some (!r7))
  ((cond r2.Target ((zp a2.Target 0 (w6 ((a1.zA.length : Int) - 1))).bind fun r8 => some (!r8)) (some false)).bind fun g9 => cond g9 (some g9)
  ((cond r2.Mask ((zp a2.Mask 1 7).bind fun r10 => some (!r10)) (some false)).bind fun g11 => some g11))).bind fun q12 => cond q12 (some 3)
  (((cond r2.Pointer ((zep a1.Storage a2.Pointer).bind fun r13 => some (!r13)) (some false)).bind fun g14 => cond g14 (some g14)
  ((cond r2.Source ((zep a1.Storage a2.Source).bind fun r15 => some (!r15)) (some false)).bind fun g16 => some g16)).bind fun q17 => cond q17 (some 3)
  ((cond r2.Place ((zdp a2.Second).bind fun r18 => (zd8 a1 a2.Place r18).bind fun r19 => some (!r19)) (some false)).bind fun g20 => cond g20 (cond g20 (some 3)
  ((cond r2.zO ((zp a2.zO 0 4).bind fun r21 => some (!r21)) (some false)).bind fun g22 => cond g22 (some 3) ((zeh a2.Number).bind fun r23 =>
  (cond r2.Number (some (r23 != 0)) (some false)).bind fun g24 => cond g24 (some r23) ((cond (decide ((a2.Text.size : Int) > 256)) (some true)
  (some (decide ((a2.Other.size : Int) > 256)))).bind fun g25 => cond g25 (some 2) (some 0))))) ((cond r2.From ((zdp a2.Second).bind fun r26 =>
  (zd8 a1 a2.From r26).bind fun r27 => some (!r27)) (some false)).bind fun g28 => cond g28 (some 3) ((cond r2.zO ((zp a2.zO 0 4).bind fun r29 =>
  some (!r29)) (some false)).bind fun g30 => cond g30 (some 3) ((zeh a2.Number).bind fun r31 => (cond r2.Number (some (r31 != 0)) (some false)).bind fun g32 =>
  cond g32 (some r31) ((cond (decide ((a2.Text.size : Int) > 256)) (some true) (some (decide ((a2.Other.size : Int) > 256)))).bind fun g33 => cond g33 (some 2) (some 0))))))))
  (((zeo a0 a2).bind fun r34 => cond (!r34) (some (!r34))
  ((cond r2.Target ((zp a2.Target 0 (w6 ((a1.zA.length : Int) - 1))).bind fun r35 => some (!r35)) (some false)).bind fun g36 => cond g36 (some g36)
  ((cond r2.Mask ((zp a2.Mask 1 7).bind fun r37 => some (!r37)) (some false)).bind fun g38 => some g38))).bind fun q39 => cond q39 (some 3)
  (((cond r2.Pointer ((zep a1.Storage a2.Pointer).bind fun r40 => some (!r40)) (some false)).bind fun g41 => cond g41 (some g41)
  ((cond r2.Source ((zep a1.Storage a2.Source).bind fun r42 => some (!r42)) (some false)).bind fun g43 => some g43)).bind fun q44 => cond q44 (some 3)
  ((cond r2.Place ((zdp a2.zD).bind fun r45 => (zd8 a1 a2.Place r45).bind fun r46 => some (!r46)) (some false)).bind fun g47 => cond g47 (cond g47 (some 3)
  ((cond r2.zO ((zp a2.zO 0 4).bind fun r48 => some (!r48)) (some false)).bind fun g49 => cond g49 (some 3) ((zeh a2.Number).bind fun r50 =>
  (cond r2.Number (some (r50 != 0)) (some false)).bind fun g51 => cond g51 (some r50) ((cond (decide ((a2.Text.size : Int) > 256)) (some true)
  (some (decide ((a2.Other.size : Int) > 256)))).bind fun g52 => cond g52 (some 2) (some 0))))) ((cond r2.From ((zdp a2.Second).bind fun r53 =>
  (zd8 a1 a2.From r53).bind fun r54 => some (!r54)) (some false)).bind fun g55 => cond g55 (some 3) ((cond r2.zO ((zp a2.zO 0 4).bind fun r56 =>
  some (!r56)) (some false)).bind fun g57 => cond g57 (some 3) ((zeh a2.Number).bind fun r58 => (cond r2.Number (some (r58 != 0)) (some false)).bind fun g59 =>
  cond g59 (some r58) ((cond (decide ((a2.Text.size : Int) > 256)) (some true) (some (decide ((a2.Other.size : Int) > 256)))).bind fun g60 => cond g60 (some 2) (some 0)))))))))))))
def zdf.k : Kq := ⟨94, (cvv [T6] [Ty.zI, Ty.zF, Ty.zC] zdf), go [zp.k, zdp.k, zc3.k, zhn.k, zjq.k, zg6.k, zeo.k, zep.k, zd8.k, zeh.k] {lits := [101, 113], bj := [47, 72]} [] Proofs.Tryz.func94⟩
def zk.b1 (N : Nat) (s8 : Int) (b2 : zI) (b3 : zF) : Option (Round (Int × Int) (Int × zI × zF)) :=
 cond (decide (s8 < (b3.zA.length : Int))) ((idx b3.zA s8).bind fun x2001 => (zdf b2 b3 x2001).bind fun r2002 => cond (r2002 != 0)
  (some (.result (s8, r2002))) (some (.again ((w6 (s8 + 1)), b2, b3)))) (some (.leave (s8, b2, b3)))
def zk.r1 (N : Nat) (x : Int × zI × zF) := zk.b1 N x.1 x.2.1 x.2.2
def zk.b3 (N : Nat) (s10 : Int) (b3 : zF) : Option (Round (Int × Int) (Int × zF)) :=
 cond (decide (s10 < (b3.zP.length : Int))) ((idx b3.zP s10).bind fun x4001 => (cond (decide (x4001.From < 0)) (some true)
  (some (decide (x4001.From > x4001.To)))).bind fun g4002 => (cond g4002 (some true) (some (decide (x4001.To > (b3.zA.length : Int))))).bind fun g4003 =>
  (cond g4003 (some true) ((zp x4001.Exception 0 999).bind fun r4004 => some (!r4004))).bind fun g4005 => (cond g4005 (some true)
  ((zp x4001.Handler 0 (w6 ((b3.zA.length : Int) - 1))).bind fun r4006 => some (!r4006))).bind fun g4007 => cond g4007 (some (.result (s10, 3)))
  (some (.again ((w6 (s10 + 1)), b3)))) (some (.leave (s10, b3)))
def zk.r3 (N : Nat) (x : Int × zF) := zk.b3 N x.1 x.2
def zk (N : Nat) (a0 : zI) (a1 : zF) : Option (Int × Int) :=
 (zgl a0).bind fun r1 => cond (r1 != 0) (some (0, r1)) ((zkb N a1.Storage).bind fun r2 => cond (r2 != 0) (some (0, r2))
  ((zbo N a1.Storage).bind fun r3 => cond (decide ((r3.length : Int) > 0)) (some (0, 22)) (cond ((a1.zA.length : Int) == 0) (some (0, 1))
  ((cond (decide ((a1.zA.length : Int) > 240)) (some true) (some (decide ((a1.zP.length : Int) > 40)))).bind fun g4 => cond g4 (some (0, 2))
  ((zj (zk.r1 N) N (0, a0, a1)).bind fun z6 => zax z6 (fun z => some z) (fun y5 => (zj (zk.r3 N) N (0, y5.2.2)).bind fun z8 => zax z8 (fun z =>
  some z) (fun y7 => some ((y7.2.zA.length : Int), 0))))))))
def zk.k (N : Nat) : Kq := ⟨35, (cvv [T6, T6] [Ty.zI, Ty.zF] (zk N)), go [zp.k, zgl.k, zkb.k N, zbo.k N, zdf.k] {lits := [26]} [(1, .rets { slots := [(2, .ptr 2 0), (3, .ptr 3 0), (8, .val T6)], boxes := [(2, Ty.zI, []), (3, Ty.zF, [])] } [T6, Ty.zI, Ty.zF] (zj (zk.r1 N) N)), (3, .rets { slots := [(3, .ptr 3 0), (10, .val T6)], boxes := [(3, Ty.zF, [])] } [T6, Ty.zF] (zj (zk.r3 N) N))] Proofs.Tryz.func35 (hL := ⟨⟨_, _, rfl, by kernel_rfl⟩, ⟨_, _, rfl, by kernel_rfl⟩, trivial⟩)⟩
def zcx (N : Nat) (a0 : zI) (a1 : zF) : Option Int :=
 (zk N a0 a1).bind fun r1 => some r1.2
def zcx.k (N : Nat) : Kq := ⟨11, (cvv [T6] [Ty.zI, Ty.zF] (zcx N)), go [zk.k N] {} [] Proofs.Tryz.func11⟩
def zl8 (N : Nat) (a0 : zI) (a1 : zF) : Option zF :=
 (zcx N a0 a1).bind fun r1 => cond (r1 != 0) ((zit N).bind fun r2 => some r2) (some a1)
def zl8.k (N : Nat) : Kq := ⟨15, (cvv [Ty.zF] [Ty.zI, Ty.zF] (zl8 N)), go [zcx.k N, zit.k N] {} [] Proofs.Tryz.func15⟩
def zam.b0 (N : Nat) (s3 : List Bool) (s4 : Int) (b1 : zF) : Option (Stp ((List Bool) × Int × zF)) :=
 cond (decide (s4 < (b1.zP.length : Int))) ((idx b1.zP s4).bind fun x1001 =>
  if 0 ≤ x1001.Handler then (if x1001.Handler < (s3.length : Int) then ((s3[x1001.Handler.toNat]?).bind fun x1002 =>
  some (.again ((s3.set x1001.Handler.toNat true), (w6 (s4 + 1)), b1))) else none) else none) (some (.leave (s3, s4, b1)))
def zam.r0 (N : Nat) (x : (List Bool) × Int × zF) := zam.b0 N x.1 x.2.1 x.2.2
def zam.b2 (N : Nat) (s3 : List Bool) (s5 : Int) (b1 : zF) : Option (Stp ((List Bool) × Int × zF)) :=
 cond (decide ((w6 (s5 + 1)) < (s3.length : Int)))
  (if 0 ≤ (w6 (s5 + 1)) then (if (w6 (s5 + 1)) < (s3.length : Int) then ((s3[(w6 (s5 + 1)).toNat]?).bind fun x3001 =>
  (cond x3001 (some true) ((idx b1.zA s5).bind fun x3002 => some (x3002.Op == 18))).bind fun g3003 =>
  if 0 ≤ (w6 (s5 + 1)) then (if (w6 (s5 + 1)) < (s3.length : Int) then ((s3[(w6 (s5 + 1)).toNat]?).bind fun x3004 =>
  some (.again ((s3.set ((w6 (s5 + 1)).toNat) g3003), (w6 (s5 + 1)), b1))) else none) else none) else none) else none) (some (.leave (s3, s5, b1)))
def zam.r2 (N : Nat) (x : (List Bool) × Int × zF) := zam.b2 N x.1 x.2.1 x.2.2
def zam (N : Nat) (a0 : zF) : Option ((List Bool)) :=
 if 0 ≤ (a0.zA.length : Int) then (if (a0.zA.length : Int) ≤ (a0.zA.length : Int) then (cond (Nat.ble ((a0.zA.length : Int).toNat * 1) zar)
  (if 0 ≤ (0 : Int) then (if (0 : Int) < ((List.replicate (a0.zA.length : Int).toNat (false : Bool)).length : Int) then (((List.replicate (a0.zA.length : Int).toNat (false : Bool))[(0 : Int).toNat]?).bind fun x1 =>
  (zf (zam.r0 N) N (((List.replicate (a0.zA.length : Int).toNat (false : Bool)).set ((0 : Int).toNat) true), 0, a0)).bind fun y2 =>
  (zf (zam.r2 N) N (y2.1, 0, y2.2.2)).bind fun y3 => some y3.1) else none) else none) none) else none) else none
def zam.k (N : Nat) : Kq := ⟨36, (ctv [.val Ty.zF] [(Ty.sl Ty.bool)] [] [0] [Ty.zF] (zam N)), go [] {} [(0, .plain { slots := [(1, .ptr 1 0), (3, .own 5000003 Ty.bool), (4, .val T6)], boxes := [(1, Ty.zF, [])] } [(Ty.sl Ty.bool), T6, Ty.zF] (zf (zam.r0 N) N)), (2, .plain { slots := [(1, .ptr 1 0), (3, .own 5000003 Ty.bool), (5, .val T6)], boxes := [(1, Ty.zF, [])] } [(Ty.sl Ty.bool), T6, Ty.zF] (zf (zam.r2 N) N))] Proofs.Tryz.func36 (hL := ⟨⟨_, _, rfl, by kernel_rfl⟩, ⟨_, _, rfl, by kernel_rfl⟩, trivial⟩)⟩
def zex (a0 : Int) : Option Bool :=
 (cond (a0 == 6) (some true) (some (a0 == 7))).bind fun g1 => (cond g1 (some true) (some (a0 == 8))).bind fun g2 => (cond g2 (some true) (some (a0 == 18))).bind fun g3 => some g3
def zex.k : Kq := ⟨53, (cvv [Ty.bool] [T6] zex), go [] {} [] Proofs.Tryz.func53⟩
def zdh (a0 : zF) (a1 : Int) : Option ((List Int)) :=
 (idx a0.zA a1).bind fun x1 => (cond (decide ((w6 (a1 + 1)) < (a0.zA.length : Int))) (some (x1.Op != 8)) (some false)).bind fun g2 =>
  (cond g2 (some (x1.Op != 18)) (some false)).bind fun g3 => (cond g3 (some (x1.Op != 19)) (some false)).bind fun g4 => (cond g4 (some (x1.Op != 20)) (some false)).bind fun g5 =>
  (cond g5 (some (x1.Op != 26)) (some false)).bind fun g6 => cond g6 (cond (Nat.ble (([(w6 (a1 + 1))] : List Int).length * 8) zar)
  ((zex x1.Op).bind fun r7 => cond r7 (cond (Nat.ble ((([(w6 (a1 + 1))] : List Int).length + ([x1.Target] : List Int).length) * 8) zar)
  (some (([(w6 (a1 + 1))] : List Int) ++ ([x1.Target] : List Int))) none) (some ([(w6 (a1 + 1))] : List Int))) none)
  ((zex x1.Op).bind fun r8 => cond r8 (cond (Nat.ble (([x1.Target] : List Int).length * 8) zar) (some ([x1.Target] : List Int)) none) (some []))
def zdh.k : Kq := ⟨39, (ctv [.val Ty.zF, .val T6] [(Ty.sl T6)] [] [0] [Ty.zF, T6] zdh), go [zex.k] {lits := [46, 54]} [] Proofs.Tryz.func39⟩
def zr.b4 (N : Nat) (s3 : List Bool) (s4 : Bool) (s5 : Int) (s6 : List Int) (s7 : Int) (b1 : zF) : Option (Stp ((List Bool) × Bool × Int × (List Int) × Int × zF)) :=
 (cond (decide (s7 < (s6.length : Int))) (if 0 ≤ s5 then (if s5 < (s3.length : Int) then ((s3[s5.toNat]?).bind fun x5001 => some x5001) else none) else none)
  (some false)).bind fun g5002 => cond g5002 ((cond s4 (some true) (if 0 ≤ s7 then (if s7 < (s6.length : Int) then ((s6[s7.toNat]?).bind fun x5003 =>
  if 0 ≤ x5003 then (if x5003 < (s3.length : Int) then ((s3[x5003.toNat]?).bind fun x5004 => some (!x5004)) else none) else none) else none) else none)).bind fun g5005 =>
  if 0 ≤ s7 then (if s7 < (s6.length : Int) then ((s6[s7.toNat]?).bind fun x5006 => if 0 ≤ x5006 then (if x5006 < (s3.length : Int) then ((s3[x5006.toNat]?).bind fun x5007 =>
  some (.again ((s3.set x5006.toNat true), g5005, s5, s6, (w6 (s7 + 1)), b1))) else none) else none) else none) else none) (some (.leave (s3, s4, s5, s6, s7, b1)))
def zr.r4 (N : Nat) (x : (List Bool) × Bool × Int × (List Int) × Int × zF) := zr.b4 N x.1 x.2.1 x.2.2.1 x.2.2.2.1 x.2.2.2.2.1 x.2.2.2.2.2
def zr.b2 (N : Nat) (s3 : List Bool) (s4 : Bool) (s5 : Int) (b1 : zF) : Option (Stp ((List Bool) × Bool × Int × zF)) :=
 cond (decide (s5 < (s3.length : Int))) ((zdh b1 s5).bind fun r3001 => (zf (zr.r4 N) N (s3, s4, s5, r3001, 0, b1)).bind fun y3002 =>
  some (.again (y3002.1, y3002.2.1, (w6 (y3002.2.2.1 + 1)), y3002.2.2.2.2.2))) (some (.leave (s3, s4, s5, b1)))
def zr.r2 (N : Nat) (x : (List Bool) × Bool × Int × zF) := zr.b2 N x.1 x.2.1 x.2.2.1 x.2.2.2
def zr.b0 (N : Nat) (s3 : List Bool) (s4 : Bool) (b1 : zF) : Option (Stp ((List Bool) × Bool × zF)) :=
 cond s4 ((zf (zr.r2 N) N (s3, false, 0, b1)).bind fun y1001 => some (.again (y1001.1, y1001.2.1, y1001.2.2.2))) (some (.leave (s3, s4, b1)))
def zr.r0 (N : Nat) (x : (List Bool) × Bool × zF) := zr.b0 N x.1 x.2.1 x.2.2
def zr (N : Nat) (a0 : zF) : Option ((List Bool)) :=
 (zam N a0).bind fun r1 => (zf (zr.r0 N) N (r1, true, a0)).bind fun y2 => some y2.1
def zr.k (N : Nat) : Kq := ⟨37, (cvv [(Ty.sl Ty.bool)] [Ty.zF] (zr N)), go [zam.k N, zdh.k] {} [(4, .plain { slots := [(1, .ptr 1 0), (3, .own 5000003 Ty.bool), (4, .val Ty.bool), (5, .val T6), (6, .own 5000006 T6), (7, .val T6)], boxes := [(1, Ty.zF, [])] } [(Ty.sl Ty.bool), Ty.bool, T6, (Ty.sl T6), T6, Ty.zF] (zf (zr.r4 N) N)), (2, .plain { slots := [(1, .ptr 1 0), (3, .own 5000003 Ty.bool), (4, .val Ty.bool), (5, .val T6)], boxes := [(1, Ty.zF, [])] } [(Ty.sl Ty.bool), Ty.bool, T6, Ty.zF] (zf (zr.r2 N) N)), (0, .plain { slots := [(1, .ptr 1 0), (3, .own 5000003 Ty.bool), (4, .val Ty.bool)], boxes := [(1, Ty.zF, [])] } [(Ty.sl Ty.bool), Ty.bool, Ty.zF] (zf (zr.r0 N) N))] Proofs.Tryz.func37 (hL := ⟨⟨_, _, rfl, by kernel_rfl⟩, ⟨_, _, rfl, by kernel_rfl⟩, ⟨_, _, rfl, by kernel_rfl⟩, trivial⟩)⟩
def zcb.b0 (N : Nat) (s0 : List zB) (s1 : Int) (s5 : List zB) (s6 : Int) : Option (Stp ((List zB) × Int × (List zB) × Int)) :=
 cond (decide (s6 < (s0.length : Int))) ((idx s0 s6).bind fun x1001 => cond (x1001.Register != s1) ((idx s0 s6).bind fun x1002 =>
  cond (Nat.ble ((s5.length + ([x1002] : List zB).length) * 40) zar) (some (.again (s0, s1, (s5 ++ ([x1002] : List zB)), (w6 (s6 + 1))))) none)
  (some (.again (s0, s1, s5, (w6 (s6 + 1)))))) (some (.leave (s0, s1, s5, s6)))
def zcb.r0 (N : Nat) (x : (List zB) × Int × (List zB) × Int) := zcb.b0 N x.1 x.2.1 x.2.2.1 x.2.2.2
def zcb (N : Nat) (a0 : List zB) (a1 : Int) : Option ((List zB)) :=
 (zf (zcb.r0 N) N (a0, a1, [], 0)).bind fun y1 => some y1.2.2.1
def zcb.k (N : Nat) : Kq := ⟨95, (cvv [(Ty.sl Ty.zB)] [(Ty.sl Ty.zB), T6] (zcb N)), go [] {lits := [25]} [(0, .plain { slots := [(0, .val (Ty.sl Ty.zB)), (1, .val T6), (5, .own 5000005 Ty.zB), (6, .val T6)], boxes := [] } [(Ty.sl Ty.zB), T6, (Ty.sl Ty.zB), T6] (zf (zcb.r0 N) N))] Proofs.Tryz.func95 (hL := ⟨⟨_, _, rfl, by kernel_rfl⟩, trivial⟩)⟩
def zcc.b0 (N : Nat) (s0 : List zB) (s3 : List zB) (s4 : Int) : Option (Stp ((List zB) × (List zB) × Int)) :=
 cond (decide (s4 < (s0.length : Int))) ((idx s0 s4).bind fun x1001 => cond (x1001.Offset == (-1)) ((idx s0 s4).bind fun x1002 =>
  cond (Nat.ble ((s3.length + ([x1002] : List zB).length) * 40) zar) (some (.again (s0, (s3 ++ ([x1002] : List zB)), (w6 (s4 + 1))))) none)
  (some (.again (s0, s3, (w6 (s4 + 1)))))) (some (.leave (s0, s3, s4)))
def zcc.r0 (N : Nat) (x : (List zB) × (List zB) × Int) := zcc.b0 N x.1 x.2.1 x.2.2
def zcc (N : Nat) (a0 : List zB) : Option ((List zB)) :=
 (zf (zcc.r0 N) N (a0, [], 0)).bind fun y1 => some y1.2.1
def zcc.k (N : Nat) : Kq := ⟨96, (cvv [(Ty.sl Ty.zB)] [(Ty.sl Ty.zB)] (zcc N)), go [] {lits := [22]} [(0, .plain { slots := [(0, .val (Ty.sl Ty.zB)), (3, .own 5000003 Ty.zB), (4, .val T6)], boxes := [] } [(Ty.sl Ty.zB), (Ty.sl Ty.zB), T6] (zf (zcc.r0 N) N))] Proofs.Tryz.func96 (hL := ⟨⟨_, _, rfl, by kernel_rfl⟩, trivial⟩)⟩
def zb7.b0 (N : Nat) (s0 : List zB) (s5 : Int) (b3 : zB) : Option (Round Bool ((List zB) × Int × zB)) :=
 cond (decide (s5 < (s0.length : Int))) ((idx s0 s5).bind fun x1001 =>
  cond (zbw [(x1001.Register == b3.Register), (x1001.zD.Kind == b3.zD.Kind), (x1001.zD.Length == b3.zD.Length), (x1001.zD.Scale == b3.zD.Scale), (x1001.Offset == b3.Offset)])
  (some (.result true)) (some (.again (s0, (w6 (s5 + 1)), b3)))) (some (.leave (s0, s5, b3)))
def zb7.r0 (N : Nat) (x : (List zB) × Int × zB) := zb7.b0 N x.1 x.2.1 x.2.2
def zb7 (N : Nat) (a0 : List zB) (a1 : zB) : Option Bool :=
 (zj (zb7.r0 N) N (a0, 0, a1)).bind fun z2 => zax z2 (fun z => some z) (fun y1 => some false)
def zb7.k (N : Nat) : Kq := ⟨70, (cvv [Ty.bool] [(Ty.sl Ty.zB), Ty.zB] (zb7 N)), go [] {} [(0, .rets { slots := [(0, .val (Ty.sl Ty.zB)), (3, .ptr 3 0), (5, .val T6)], boxes := [(3, Ty.zB, [])] } [(Ty.sl Ty.zB), T6, Ty.zB] (zj (zb7.r0 N) N))] Proofs.Tryz.func70 (hL := ⟨⟨_, _, rfl, by kernel_rfl⟩, trivial⟩)⟩
def zb1.b0 (N : Nat) (s5 : List Int) (s6 : List Int) (s7 : Int) : Option (Round Bool ((List Int) × (List Int) × Int)) :=
 cond (decide (s7 < (s5.length : Int))) (if 0 ≤ s7 then (if s7 < (s5.length : Int) then ((s5[s7.toNat]?).bind fun x1001 =>
  if 0 ≤ s7 then (if s7 < (s6.length : Int) then ((s6[s7.toNat]?).bind fun x1002 => cond (x1001 != x1002)
  (if 0 ≤ s7 then (if s7 < (s5.length : Int) then ((s5[s7.toNat]?).bind fun x1003 => if 0 ≤ s7 then (if s7 < (s6.length : Int) then ((s6[s7.toNat]?).bind fun x1004 =>
  some (.result (decide (x1003 < x1004)))) else none) else none) else none) else none)
  (some (.again (s5, s6, (w6 (s7 + 1)))))) else none) else none) else none) else none) (some (.leave (s5, s6, s7)))
def zb1.r0 (N : Nat) (x : (List Int) × (List Int) × Int) := zb1.b0 N x.1 x.2.1 x.2.2
def zb1 (N : Nat) (a0 : zB) (a1 : zB) : Option Bool :=
 (zj (zb1.r0 N) N (([a0.Register, a0.Offset, a0.zD.Kind, a0.zD.Length, a0.zD.Scale] : List Int), ([a1.Register, a1.Offset, a1.zD.Kind, a1.zD.Length, a1.zD.Scale] : List Int), 0)).bind fun z2 =>
  zax z2 (fun z => some z) (fun y1 => some false)
def zb1.k (N : Nat) : Kq := ⟨142, (cvv [Ty.bool] [Ty.zB, Ty.zB] (zb1 N)), go [] {} [(0, .rets { slots := [(5, .own 5000005 T6), (6, .own 5000006 T6), (7, .val T6)], boxes := [] } [(Ty.sl T6), (Ty.sl T6), T6] (zj (zb1.r0 N) N))] Proofs.Tryz.func142 (hL := ⟨⟨_, _, rfl, by kernel_rfl⟩, trivial⟩)⟩
def zcs.b0 (N : Nat) (s0 : List zB) (s5 : List zB) (s6 : Bool) (s7 : Int) (b3 : zB) : Option (Stp ((List zB) × (List zB) × Bool × Int × zB)) :=
 cond (decide (s7 < (s0.length : Int))) ((cond (!s6) ((idx s0 s7).bind fun x1001 => (zb1 N b3 x1001).bind fun r1002 => some r1002) (some false)).bind fun g1003 =>
  cond g1003 (cond (Nat.ble ((s5.length + ([b3] : List zB).length) * 40) zar) ((idx s0 s7).bind fun x1004 =>
  cond (Nat.ble (((s5 ++ ([b3] : List zB)).length + ([x1004] : List zB).length) * 40) zar)
  (some (.again (s0, ((s5 ++ ([b3] : List zB)) ++ ([x1004] : List zB)), true, (w6 (s7 + 1)), b3))) none) none) ((idx s0 s7).bind fun x1005 =>
  cond (Nat.ble ((s5.length + ([x1005] : List zB).length) * 40) zar) (some (.again (s0, (s5 ++ ([x1005] : List zB)), s6, (w6 (s7 + 1)), b3))) none))
  (some (.leave (s0, s5, s6, s7, b3)))
def zcs.r0 (N : Nat) (x : (List zB) × (List zB) × Bool × Int × zB) := zcs.b0 N x.1 x.2.1 x.2.2.1 x.2.2.2.1 x.2.2.2.2
def zcs (N : Nat) (a0 : List zB) (a1 : zB) : Option ((List zB)) :=
 (zb7 N a0 a1).bind fun r1 => cond r1 (some a0) ((zf (zcs.r0 N) N (a0, [], false, 0, a1)).bind fun y2 => cond (!y2.2.2.1)
  (cond (Nat.ble ((y2.2.1.length + ([y2.2.2.2.2] : List zB).length) * 40) zar) (some (y2.2.1 ++ ([y2.2.2.2.2] : List zB))) none) (some y2.2.1))
def zcs.k (N : Nat) : Kq := ⟨97, (cvv [(Ty.sl Ty.zB)] [(Ty.sl Ty.zB), Ty.zB] (zcs N)), go [zb7.k N, zb1.k N] {lits := [30, 37, 43]} [(0, .plain { slots := [(0, .val (Ty.sl Ty.zB)), (3, .ptr 3 0), (5, .own 5000005 Ty.zB), (6, .val Ty.bool), (7, .val T6)], boxes := [(3, Ty.zB, [])] } [(Ty.sl Ty.zB), (Ty.sl Ty.zB), Ty.bool, T6, Ty.zB] (zf (zcs.r0 N) N))] Proofs.Tryz.func97 (hL := ⟨⟨_, _, rfl, by kernel_rfl⟩, trivial⟩)⟩
def zct.b0 (N : Nat) (s0 : List zB) (s1 : Int) (s2 : Int) (s7 : List zB) (s8 : Int) : Option (Stp ((List zB) × Int × Int × (List zB) × Int)) :=
 cond (decide (s8 < (s0.length : Int))) ((idx s0 s8).bind fun x1001 => (cond (x1001.Offset == (-1)) (some true) ((zdp x1001.zD).bind fun r1002 =>
  some (decide ((w6 (x1001.Offset + r1002)) ≤ s1)))).bind fun g1003 => (cond g1003 (some true)
  (some (decide ((w6 (s1 + s2)) ≤ x1001.Offset)))).bind fun g1004 => cond g1004 (cond (Nat.ble ((s7.length + ([x1001] : List zB).length) * 40) zar)
  (some (.again (s0, s1, s2, (s7 ++ ([x1001] : List zB)), (w6 (s8 + 1))))) none) (some (.again (s0, s1, s2, s7, (w6 (s8 + 1))))))
  (some (.leave (s0, s1, s2, s7, s8)))
def zct.r0 (N : Nat) (x : (List zB) × Int × Int × (List zB) × Int) := zct.b0 N x.1 x.2.1 x.2.2.1 x.2.2.2.1 x.2.2.2.2
def zct (N : Nat) (a0 : List zB) (a1 : Int) (a2 : Int) : Option ((List zB)) :=
 (zf (zct.r0 N) N (a0, a1, a2, [], 0)).bind fun y1 => some y1.2.2.2.1
def zct.k (N : Nat) : Kq := ⟨98, (cvv [(Ty.sl Ty.zB)] [(Ty.sl Ty.zB), T6, T6] (zct N)), go [zdp.k] {lits := [43]} [(0, .plain { slots := [(0, .val (Ty.sl Ty.zB)), (1, .val T6), (2, .val T6), (7, .own 5000007 Ty.zB), (8, .val T6)], boxes := [] } [(Ty.sl Ty.zB), T6, T6, (Ty.sl Ty.zB), T6] (zf (zct.r0 N) N))] Proofs.Tryz.func98 (hL := ⟨⟨_, _, rfl, by kernel_rfl⟩, trivial⟩)⟩
def zap.b1 (N : Nat) (s1 : List zB) (s8 : List zB) (s9 : Int) (b2 : zC) : Option (Stp ((List zB) × (List zB) × Int × zC)) :=
 cond (decide (s9 < (s1.length : Int))) ((idx s1 s9).bind fun x2001 => (zb7 N s1 (⟨x2001.Register, b2.zD, b2.Place.Offset⟩ : zB)).bind fun r2002 =>
  cond r2002 ((idx s1 s9).bind fun x2003 => (idx s1 s9).bind fun x2004 => (zcs N s8 (⟨b2.R, x2003.zD, x2004.Offset⟩ : zB)).bind fun r2005 =>
  some (.again (s1, r2005, (w6 (s9 + 1)), b2))) (some (.again (s1, s8, (w6 (s9 + 1)), b2)))) (some (.leave (s1, s8, s9, b2)))
def zap.r1 (N : Nat) (x : (List zB) × (List zB) × Int × zC) := zap.b1 N x.1 x.2.1 x.2.2.1 x.2.2.2
def zap.b3 (N : Nat) (s1 : List zB) (s10 : List zB) (s11 : Int) (b2 : zC) : Option (Stp ((List zB) × (List zB) × Int × zC)) :=
 cond (decide (s11 < (s1.length : Int))) ((idx s1 s11).bind fun x4001 => cond (x4001.Register == b2.A) ((idx s1 s11).bind fun x4002 => (idx s1 s11).bind fun x4003 =>
  (zcs N s10 (⟨b2.R, x4002.zD, x4003.Offset⟩ : zB)).bind fun r4004 => some (.again (s1, r4004, (w6 (s11 + 1)), b2)))
  (some (.again (s1, s10, (w6 (s11 + 1)), b2)))) (some (.leave (s1, s10, s11, b2)))
def zap.r3 (N : Nat) (x : (List zB) × (List zB) × Int × zC) := zap.b3 N x.1 x.2.1 x.2.2.1 x.2.2.2
def zap (N : Nat) (a0 : zC) (a1 : List zB) : Option ((List zB)) :=
 (zcb N a1 a0.R).bind fun r1 => (zcc N a1).bind fun r2 => cond (a0.Op == 0) ((zcs N r1 (⟨a0.R, a0.zD, (-1)⟩ : zB)).bind fun r3 =>
  cond a0.Place.Based (some r3) ((zcs N r3 (⟨a0.R, a0.zD, a0.Place.Offset⟩ : zB)).bind fun r4 => (zf (zap.r1 N) N (a1, r4, 0, a0)).bind fun y5 =>
  some y5.2.1)) (cond (a0.Op == 4) ((zcs N r1 (⟨a0.R, a0.zD, (-1)⟩ : zB)).bind fun r6 => some r6) ((cond (a0.Op == 2) (some (a0.Op == 2))
  (some (a0.Op == 21))).bind fun q7 => cond q7 (some r1) (cond (a0.Op == 3) (cond (a0.A == a0.R) (some a1) ((zf (zap.r3 N) N (a1, r1, 0, a0)).bind fun y8 =>
  some y8.2.1)) ((cond (a0.Op == 1) (some (a0.Op == 1)) (cond (a0.Op == 9) (some (a0.Op == 9)) (some (a0.Op == 10)))).bind fun q9 => cond q9 (cond a0.Place.Based (some r2)
  ((zdp a0.zD).bind fun r10 => (zct N a1 a0.Place.Offset r10).bind fun r11 => (cond (a0.Op == 1) ((zb7 N a1 (⟨a0.R, a0.zD, (-1)⟩ : zB)).bind fun r12 =>
  some r12) (some false)).bind fun g13 => cond g13 ((zcs N r11 (⟨a0.R, a0.zD, a0.Place.Offset⟩ : zB)).bind fun r14 => some r14) (some r11))) ((cond (a0.Op == 14)
  (some (a0.Op == 14)) (cond (a0.Op == 15) (some (a0.Op == 15)) (some (a0.Op == 16)))).bind fun q15 => cond q15 ((zct N a1 a0.Pointer 16).bind fun r16 => some r16)
  (some a1))))))
def zap.k (N : Nat) : Kq := ⟨38, (cvv [(Ty.sl Ty.zB)] [Ty.zC, (Ty.sl Ty.zB)] (zap N)), go [zdp.k, zb7.k N, zcb.k N, zcc.k N, zcs.k N, zct.k N] {lits := [142], bj := [85, 128, 163]} [(1, .plain { slots := [(1, .val (Ty.sl Ty.zB)), (2, .ptr 2 0), (8, .val (Ty.sl Ty.zB)), (9, .val T6)], boxes := [(2, Ty.zC, [])] } [(Ty.sl Ty.zB), (Ty.sl Ty.zB), T6, Ty.zC] (zf (zap.r1 N) N)), (3, .plain { slots := [(1, .val (Ty.sl Ty.zB)), (2, .ptr 2 0), (10, .val (Ty.sl Ty.zB)), (11, .val T6)], boxes := [(2, Ty.zC, [])] } [(Ty.sl Ty.zB), (Ty.sl Ty.zB), T6, Ty.zC] (zf (zap.r3 N) N))] Proofs.Tryz.func38 (hL := ⟨⟨_, _, rfl, by kernel_rfl⟩, ⟨_, _, rfl, by kernel_rfl⟩, trivial⟩)⟩
def zdt.b0 (N : Nat) (s0 : List zB) (s1 : List zB) (s5 : List zB) (s6 : Int) : Option (Stp ((List zB) × (List zB) × (List zB) × Int)) :=
 cond (decide (s6 < (s0.length : Int))) ((idx s0 s6).bind fun x1001 => (zb7 N s1 x1001).bind fun r1002 => cond r1002 ((idx s0 s6).bind fun x1003 =>
  cond (Nat.ble ((s5.length + ([x1003] : List zB).length) * 40) zar) (some (.again (s0, s1, (s5 ++ ([x1003] : List zB)), (w6 (s6 + 1))))) none)
  (some (.again (s0, s1, s5, (w6 (s6 + 1)))))) (some (.leave (s0, s1, s5, s6)))
def zdt.r0 (N : Nat) (x : (List zB) × (List zB) × (List zB) × Int) := zdt.b0 N x.1 x.2.1 x.2.2.1 x.2.2.2
def zdt (N : Nat) (a0 : List zB) (a1 : List zB) : Option ((List zB)) :=
 (zf (zdt.r0 N) N (a0, a1, [], 0)).bind fun y1 => some y1.2.2.1
def zdt.k (N : Nat) : Kq := ⟨40, (cvv [(Ty.sl Ty.zB)] [(Ty.sl Ty.zB), (Ty.sl Ty.zB)] (zdt N)), go [zb7.k N] {lits := [24]} [(0, .plain { slots := [(0, .val (Ty.sl Ty.zB)), (1, .val (Ty.sl Ty.zB)), (5, .own 5000005 Ty.zB), (6, .val T6)], boxes := [] } [(Ty.sl Ty.zB), (Ty.sl Ty.zB), (Ty.sl Ty.zB), T6] (zf (zdt.r0 N) N))] Proofs.Tryz.func40 (hL := ⟨⟨_, _, rfl, by kernel_rfl⟩, trivial⟩)⟩
def zg.b0 (N : Nat) (s4 : Int) (s5 : List Bool) (s6 : List Bool) (s7 : List Bool) (s8 : List (List zB)) (s9 : Int) (b1 : zF) : Option (Stp (Int × (List Bool) × (List Bool) × (List Bool) × (List (List zB)) × Int × zF)) :=
 cond (decide (s9 < s4)) (if 0 ≤ s9 then (if s9 < (s5.length : Int) then ((s5[s9.toNat]?).bind fun x1001 => (cond x1001 (some true) ((idx s6 s9).bind fun x1002 =>
  some (!x1002))).bind fun g1003 => if 0 ≤ s9 then (if s9 < (s7.length : Int) then ((s7[s9.toNat]?).bind fun x1004 =>
  some (.again (s4, s5, s6, (s7.set s9.toNat g1003), s8, (w6 (s9 + 1)), b1))) else none) else none) else none) else none) (some (.leave (s4, s5, s6, s7, s8, s9, b1)))
def zg.r0 (N : Nat) (x : Int × (List Bool) × (List Bool) × (List Bool) × (List (List zB)) × Int × zF) := zg.b0 N x.1 x.2.1 x.2.2.1 x.2.2.2.1 x.2.2.2.2.1 x.2.2.2.2.2.1 x.2.2.2.2.2.2
def zg.b6 (N : Nat) (s4 : Int) (s5 : List Bool) (s6 : List Bool) (s7 : List Bool) (s8 : List (List zB)) (s10 : Bool) (s11 : Int) (s12 : List zB) (s13 : List Int) (s14 : Int) (b1 : zF) : Option (Stp (Int × (List Bool) × (List Bool) × (List Bool) × (List (List zB)) × Bool × Int × (List zB) × (List Int) × Int × zF)) :=
 cond (decide (s14 < (s13.length : Int))) (if 0 ≤ s14 then (if s14 < (s13.length : Int) then ((s13[s14.toNat]?).bind fun x7001 =>
  if 0 ≤ x7001 then (if x7001 < (s5.length : Int) then ((s5[x7001.toNat]?).bind fun x7002 => (cond x7002 (some true) ((idx s6 x7001).bind fun x7003 =>
  some (!x7003))).bind fun g7004 => cond g7004 (some (.again (s4, s5, s6, s7, s8, s10, s11, s12, s13, (w6 (s14 + 1)), b1)))
  (if 0 ≤ x7001 then (if x7001 < (s7.length : Int) then ((s7[x7001.toNat]?).bind fun x7005 =>
  cond x7005 (if 0 ≤ x7001 then (if x7001 < (s8.length : Int) then ((s8[x7001.toNat]?).bind fun x7006 => (zdt N x7006 s12).bind fun r7007 =>
  if 0 ≤ x7001 then (if x7001 < (s7.length : Int) then ((s7[x7001.toNat]?).bind fun x7008 => (cond (!x7008) (some true)
  (if 0 ≤ x7001 then (if x7001 < (s8.length : Int) then ((s8[x7001.toNat]?).bind fun x7009 =>
  some ((r7007.length : Int) != (x7009.length : Int))) else none) else none)).bind fun g7010 =>
  cond g7010 (if 0 ≤ x7001 then (if x7001 < (s8.length : Int) then ((s8[x7001.toNat]?).bind fun x7011 =>
  if 0 ≤ x7001 then (if x7001 < (s7.length : Int) then ((s7[x7001.toNat]?).bind fun x7012 =>
  some (.again (s4, s5, s6, (s7.set x7001.toNat true), (s8.set x7001.toNat r7007), true, s11, s12, s13, (w6 (s14 + 1)), b1))) else none) else none) else none) else none)
  (some (.again (s4, s5, s6, s7, s8, s10, s11, s12, s13, (w6 (s14 + 1)), b1)))) else none) else none) else none) else none)
  (if 0 ≤ x7001 then (if x7001 < (s7.length : Int) then ((s7[x7001.toNat]?).bind fun x7013 => (cond (!x7013) (some true)
  (if 0 ≤ x7001 then (if x7001 < (s8.length : Int) then ((s8[x7001.toNat]?).bind fun x7014 =>
  some ((s12.length : Int) != (x7014.length : Int))) else none) else none)).bind fun g7015 =>
  cond g7015 (if 0 ≤ x7001 then (if x7001 < (s8.length : Int) then ((s8[x7001.toNat]?).bind fun x7016 =>
  if 0 ≤ x7001 then (if x7001 < (s7.length : Int) then ((s7[x7001.toNat]?).bind fun x7017 =>
  some (.again (s4, s5, s6, (s7.set x7001.toNat true), (s8.set x7001.toNat s12), true, s11, s12, s13, (w6 (s14 + 1)), b1))) else none) else none) else none) else none)
  (some (.again (s4, s5, s6, s7, s8, s10, s11, s12, s13, (w6 (s14 + 1)), b1)))) else none) else none)) else none) else none)) else none) else none) else none) else none)
  (some (.leave (s4, s5, s6, s7, s8, s10, s11, s12, s13, s14, b1)))
def zg.r6 (N : Nat) (x : Int × (List Bool) × (List Bool) × (List Bool) × (List (List zB)) × Bool × Int × (List zB) × (List Int) × Int × zF) := zg.b6 N x.1 x.2.1 x.2.2.1 x.2.2.2.1 x.2.2.2.2.1 x.2.2.2.2.2.1 x.2.2.2.2.2.2.1 x.2.2.2.2.2.2.2.1 x.2.2.2.2.2.2.2.2.1 x.2.2.2.2.2.2.2.2.2.1 x.2.2.2.2.2.2.2.2.2.2
def zg.b4 (N : Nat) (s4 : Int) (s5 : List Bool) (s6 : List Bool) (s7 : List Bool) (s8 : List (List zB)) (s10 : Bool) (s11 : Int) (b1 : zF) : Option (Stp (Int × (List Bool) × (List Bool) × (List Bool) × (List (List zB)) × Bool × Int × zF)) :=
 cond (decide (s11 < s4)) (if 0 ≤ s11 then (if s11 < (s7.length : Int) then ((s7[s11.toNat]?).bind fun x5001 => cond (!x5001)
  (some (.again (s4, s5, s6, s7, s8, s10, (w6 (s11 + 1)), b1))) ((idx b1.zA s11).bind fun x5002 =>
  if 0 ≤ s11 then (if s11 < (s8.length : Int) then ((s8[s11.toNat]?).bind fun x5003 => (zap N x5002 x5003).bind fun r5004 => (zdh b1 s11).bind fun r5005 =>
  (zf (zg.r6 N) N (s4, s5, s6, s7, s8, s10, s11, r5004, r5005, 0, b1)).bind fun y5006 =>
  some (.again (y5006.1, y5006.2.1, y5006.2.2.1, y5006.2.2.2.1, y5006.2.2.2.2.1, y5006.2.2.2.2.2.1, (w6 (y5006.2.2.2.2.2.2.1 + 1)), y5006.2.2.2.2.2.2.2.2.2.2))) else none) else none)) else none) else none)
  (some (.leave (s4, s5, s6, s7, s8, s10, s11, b1)))
def zg.r4 (N : Nat) (x : Int × (List Bool) × (List Bool) × (List Bool) × (List (List zB)) × Bool × Int × zF) := zg.b4 N x.1 x.2.1 x.2.2.1 x.2.2.2.1 x.2.2.2.2.1 x.2.2.2.2.2.1 x.2.2.2.2.2.2.1 x.2.2.2.2.2.2.2
def zg.b2 (N : Nat) (s4 : Int) (s5 : List Bool) (s6 : List Bool) (s7 : List Bool) (s8 : List (List zB)) (s10 : Bool) (b1 : zF) : Option (Stp (Int × (List Bool) × (List Bool) × (List Bool) × (List (List zB)) × Bool × zF)) :=
 cond s10 ((zf (zg.r4 N) N (s4, s5, s6, s7, s8, false, 0, b1)).bind fun y3001 =>
  some (.again (y3001.1, y3001.2.1, y3001.2.2.1, y3001.2.2.2.1, y3001.2.2.2.2.1, y3001.2.2.2.2.2.1, y3001.2.2.2.2.2.2.2))) (some (.leave (s4, s5, s6, s7, s8, s10, b1)))
def zg.r2 (N : Nat) (x : Int × (List Bool) × (List Bool) × (List Bool) × (List (List zB)) × Bool × zF) := zg.b2 N x.1 x.2.1 x.2.2.1 x.2.2.2.1 x.2.2.2.2.1 x.2.2.2.2.2.1 x.2.2.2.2.2.2
def zg.b8 (N : Nat) (s4 : Int) (s8 : List (List zB)) (s17 : Bool) (s18 : Int) : Option (Stp (Int × (List (List zB)) × Bool × Int)) :=
 cond (decide (s18 < s4)) ((cond s17 (if 0 ≤ s18 then (if s18 < (s8.length : Int) then ((s8[s18.toNat]?).bind fun x9001 =>
  some (decide ((x9001.length : Int) ≤ 60))) else none) else none) (some false)).bind fun g9002 => some (.again (s4, s8, g9002, (w6 (s18 + 1)))))
  (some (.leave (s4, s8, s17, s18)))
def zg.r8 (N : Nat) (x : Int × (List (List zB)) × Bool × Int) := zg.b8 N x.1 x.2.1 x.2.2.1 x.2.2.2
def zg (N : Nat) (a0 : zF) : Option ((List (List zB)) × Bool) :=
 (zam N a0).bind fun r1 => (zr N a0).bind fun r2 =>
  if 0 ≤ (a0.zA.length : Int) then (if (a0.zA.length : Int) ≤ (a0.zA.length : Int) then (cond (Nat.ble ((a0.zA.length : Int).toNat * 1) zar)
  (if 0 ≤ (a0.zA.length : Int) then (if (a0.zA.length : Int) ≤ (a0.zA.length : Int) then (cond (Nat.ble ((a0.zA.length : Int).toNat * 24) zar)
  ((zf (zg.r0 N) N ((a0.zA.length : Int), r1, r2, (List.replicate (a0.zA.length : Int).toNat (false : Bool)), (List.replicate (a0.zA.length : Int).toNat ([] : List zB)), 0, a0)).bind fun y3 =>
  (zf (zg.r2 N) N (y3.1, y3.2.1, y3.2.2.1, y3.2.2.2.1, y3.2.2.2.2.1, true, y3.2.2.2.2.2.2)).bind fun y4 =>
  (zf (zg.r8 N) N (y4.1, y4.2.2.2.2.1, true, 0)).bind fun y5 => some (y5.2.1, y5.2.2.1)) none) else none) else none) none) else none) else none
def zg.k (N : Nat) : Kq := ⟨12, (cvv [(Ty.sl (Ty.sl Ty.zB)), Ty.bool] [Ty.zF] (zg N)), go [zam.k N, zr.k N, zap.k N, zdh.k, zdt.k N] {} [(0, .plain { slots := [(1, .ptr 1 0), (4, .val T6), (5, .own 5000005 Ty.bool), (6, .val (Ty.sl Ty.bool)), (7, .own 5000007 Ty.bool), (8, .own 5000008 (Ty.sl Ty.zB)), (9, .val T6)], boxes := [(1, Ty.zF, [])] } [T6, (Ty.sl Ty.bool), (Ty.sl Ty.bool), (Ty.sl Ty.bool), (Ty.sl (Ty.sl Ty.zB)), T6, Ty.zF] (zf (zg.r0 N) N)), (6, .plain { slots := [(1, .ptr 1 0), (4, .val T6), (5, .own 5000005 Ty.bool), (6, .val (Ty.sl Ty.bool)), (7, .own 5000007 Ty.bool), (8, .own 5000008 (Ty.sl Ty.zB)), (10, .val Ty.bool), (11, .val T6), (12, .val (Ty.sl Ty.zB)), (13, .own 5000013 T6), (14, .val T6)], boxes := [(1, Ty.zF, [])] } [T6, (Ty.sl Ty.bool), (Ty.sl Ty.bool), (Ty.sl Ty.bool), (Ty.sl (Ty.sl Ty.zB)), Ty.bool, T6, (Ty.sl Ty.zB), (Ty.sl T6), T6, Ty.zF] (zf (zg.r6 N) N)), (4, .plain { slots := [(1, .ptr 1 0), (4, .val T6), (5, .own 5000005 Ty.bool), (6, .val (Ty.sl Ty.bool)), (7, .own 5000007 Ty.bool), (8, .own 5000008 (Ty.sl Ty.zB)), (10, .val Ty.bool), (11, .val T6)], boxes := [(1, Ty.zF, [])] } [T6, (Ty.sl Ty.bool), (Ty.sl Ty.bool), (Ty.sl Ty.bool), (Ty.sl (Ty.sl Ty.zB)), Ty.bool, T6, Ty.zF] (zf (zg.r4 N) N)), (2, .plain { slots := [(1, .ptr 1 0), (4, .val T6), (5, .own 5000005 Ty.bool), (6, .val (Ty.sl Ty.bool)), (7, .own 5000007 Ty.bool), (8, .own 5000008 (Ty.sl Ty.zB)), (10, .val Ty.bool)], boxes := [(1, Ty.zF, [])] } [T6, (Ty.sl Ty.bool), (Ty.sl Ty.bool), (Ty.sl Ty.bool), (Ty.sl (Ty.sl Ty.zB)), Ty.bool, Ty.zF] (zf (zg.r2 N) N)), (8, .plain { slots := [(4, .val T6), (8, .own 5000008 (Ty.sl Ty.zB)), (17, .val Ty.bool), (18, .val T6)], boxes := [] } [T6, (Ty.sl (Ty.sl Ty.zB)), Ty.bool, T6] (zf (zg.r8 N) N))] Proofs.Tryz.func12 (hL := ⟨⟨_, _, rfl, by kernel_rfl⟩, ⟨_, _, rfl, by kernel_rfl⟩, ⟨_, _, rfl, by kernel_rfl⟩, ⟨_, _, rfl, by kernel_rfl⟩, ⟨_, _, rfl, by kernel_rfl⟩, trivial⟩)⟩
def zdu.b0 (N : Nat) (s0 : List Bool) (s1 : List Bool) (s5 : Int) : Option (Round Bool ((List Bool) × (List Bool) × Int)) :=
 cond (decide (s5 < (s0.length : Int))) ((idx s0 s5).bind fun x1001 => (idx s1 s5).bind fun x1002 => cond (!(x1001 == x1002)) (some (.result false))
  (some (.again (s0, s1, (w6 (s5 + 1)))))) (some (.leave (s0, s1, s5)))
def zdu.r0 (N : Nat) (x : (List Bool) × (List Bool) × Int) := zdu.b0 N x.1 x.2.1 x.2.2
def zdu (N : Nat) (a0 : List Bool) (a1 : List Bool) : Option Bool :=
 cond ((a0.length : Int) != (a1.length : Int)) (some false) ((zj (zdu.r0 N) N (a0, a1, 0)).bind fun z2 => zax z2 (fun z => some z) (fun y1 => some true))
def zdu.k (N : Nat) : Kq := ⟨99, (cvv [Ty.bool] [(Ty.sl Ty.bool), (Ty.sl Ty.bool)] (zdu N)), go [] {} [(0, .rets { slots := [(0, .val (Ty.sl Ty.bool)), (1, .val (Ty.sl Ty.bool)), (5, .val T6)], boxes := [] } [(Ty.sl Ty.bool), (Ty.sl Ty.bool), T6] (zj (zdu.r0 N) N))] Proofs.Tryz.func99 (hL := ⟨⟨_, _, rfl, by kernel_rfl⟩, trivial⟩)⟩
def zd5 (N : Nat) (a0 : Storage) (a1 : Storage) : Option Bool :=
 (cond (a0.Bytes.toList == a1.Bytes.toList) ((zdu N a0.Tags a1.Tags).bind fun r1 => some r1) (some false)).bind fun g2 => some g2
def zd5.k (N : Nat) : Kq := ⟨49, (cvv [Ty.bool] [Ty.Storage, Ty.Storage] (zd5 N)), go [zdu.k N] {} [] Proofs.Tryz.func49⟩
def zcj.b0 (N : Nat) (s5 : Int) (b2 : zF) (b3 : zF) : Option (Round Bool (Int × zF × zF)) :=
 cond (decide (s5 < (b2.zA.length : Int))) ((idx b2.zA s5).bind fun x1001 => (idx b3.zA s5).bind fun x1002 =>
  cond (!(zbw [(x1001.Op == x1002.Op), (x1001.R == x1002.R), (x1001.A == x1002.A), (x1001.B == x1002.B), (x1001.zO == x1002.zO), (x1001.Place.Based == x1002.Place.Based), (x1001.Place.Pointer == x1002.Place.Pointer), (x1001.Place.Offset == x1002.Place.Offset), (x1001.From.Based == x1002.From.Based), (x1001.From.Pointer == x1002.From.Pointer), (x1001.From.Offset == x1002.From.Offset), (x1001.zD.Kind == x1002.zD.Kind), (x1001.zD.Length == x1002.zD.Length), (x1001.zD.Scale == x1002.zD.Scale), (x1001.Second.Kind == x1002.Second.Kind), (x1001.Second.Length == x1002.Second.Length), (x1001.Second.Scale == x1002.Second.Scale), (x1001.Half == x1002.Half), (x1001.zJ == x1002.zJ), (x1001.Number.N == x1002.Number.N), (x1001.Number.Scale == x1002.Number.Scale), (x1001.Text == x1002.Text), (x1001.Other == x1002.Other), (x1001.Mask == x1002.Mask), (x1001.Target == x1002.Target), (x1001.Pointer == x1002.Pointer), (x1001.Source == x1002.Source)]))
  (some (.result false)) (some (.again ((w6 (s5 + 1)), b2, b3)))) (some (.leave (s5, b2, b3)))
def zcj.r0 (N : Nat) (x : Int × zF × zF) := zcj.b0 N x.1 x.2.1 x.2.2
def zcj.b2 (N : Nat) (s6 : Int) (b2 : zF) (b3 : zF) : Option (Round Bool (Int × zF × zF)) :=
 cond (decide (s6 < (b2.zP.length : Int))) ((idx b2.zP s6).bind fun x3001 => (idx b3.zP s6).bind fun x3002 =>
  cond (!(zbw [(x3001.From == x3002.From), (x3001.To == x3002.To), (x3001.Exception == x3002.Exception), (x3001.Handler == x3002.Handler)])) (some (.result false))
  (some (.again ((w6 (s6 + 1)), b2, b3)))) (some (.leave (s6, b2, b3)))
def zcj.r2 (N : Nat) (x : Int × zF × zF) := zcj.b2 N x.1 x.2.1 x.2.2
def zcj (N : Nat) (a0 : zF) (a1 : zF) : Option Bool :=
 (zd5 N a0.Storage a1.Storage).bind fun r1 => (cond (!r1) (some true) (some ((a0.zA.length : Int) != (a1.zA.length : Int)))).bind fun g2 =>
  (cond g2 (some true) (some ((a0.zP.length : Int) != (a1.zP.length : Int)))).bind fun g3 => cond g3 (some false) ((zj (zcj.r0 N) N (0, a0, a1)).bind fun z5 =>
  zax z5 (fun z => some z) (fun y4 => (zj (zcj.r2 N) N (0, y4.2.1, y4.2.2)).bind fun z7 => zax z7 (fun z => some z) (fun y6 => some true)))
def zcj.k (N : Nat) : Kq := ⟨48, (cvv [Ty.bool] [Ty.zF, Ty.zF] (zcj N)), go [zd5.k N] {} [(0, .rets { slots := [(2, .ptr 2 0), (3, .ptr 3 0), (5, .val T6)], boxes := [(2, Ty.zF, []), (3, Ty.zF, [])] } [T6, Ty.zF, Ty.zF] (zj (zcj.r0 N) N)), (2, .rets { slots := [(2, .ptr 2 0), (3, .ptr 3 0), (6, .val T6)], boxes := [(2, Ty.zF, []), (3, Ty.zF, [])] } [T6, Ty.zF, Ty.zF] (zj (zcj.r2 N) N))] Proofs.Tryz.func48 (hL := ⟨⟨_, _, rfl, by kernel_rfl⟩, ⟨_, _, rfl, by kernel_rfl⟩, trivial⟩)⟩
def zkq (N : Nat) (a0 : zF) : Option Bool :=
 (zcj N a0 (⟨(⟨(⟨#[]⟩ : ByteArray), []⟩ : Storage), [], []⟩ : zF)).bind fun r1 => some r1
def zkq.k (N : Nat) : Kq := ⟨16, (cvv [Ty.bool] [Ty.zF] (zkq N)), go [zcj.k N] {} [] Proofs.Tryz.func16⟩
def zb2.b0 (N : Nat) (s0 : List (List zB)) (s3 : Int) : Option (Round Bool ((List (List zB)) × Int)) :=
 (cond (decide (s3 < (s0.length : Int))) (some (decide (s3 ≤ 250))) (some false)).bind fun g1001 => cond g1001 ((idx s0 s3).bind fun x1002 =>
  cond (decide ((x1002.length : Int) > 64)) (some (.result false)) (some (.again (s0, (w6 (s3 + 1)))))) (some (.leave (s0, s3)))
def zb2.r0 (N : Nat) (x : (List (List zB)) × Int) := zb2.b0 N x.1 x.2
def zb2 (N : Nat) (a0 : List (List zB)) : Option Bool :=
 (zj (zb2.r0 N) N (a0, 0)).bind fun z2 => zax z2 (fun z => some z) (fun y1 => some (decide ((y1.1.length : Int) ≤ 250)))
def zb2.k (N : Nat) : Kq := ⟨17, (cvv [Ty.bool] [(Ty.sl (Ty.sl Ty.zB))] (zb2 N)), go [] {} [(0, .rets { slots := [(0, .val (Ty.sl (Ty.sl Ty.zB))), (3, .val T6)], boxes := [] } [(Ty.sl (Ty.sl Ty.zB)), T6] (zj (zb2.r0 N) N))] Proofs.Tryz.func17 (hL := ⟨⟨_, _, rfl, by kernel_rfl⟩, trivial⟩)⟩
def zco.b0 (N : Nat) (s0 : List Int) (s1 : Int) (s5 : Int) : Option (Round Int ((List Int) × Int × Int)) :=
 cond (decide (s5 < (s0.length : Int))) ((idx s0 s5).bind fun x1001 => cond (x1001 == s1) (some (.result s5)) (some (.again (s0, s1, (w6 (s5 + 1))))))
  (some (.leave (s0, s1, s5)))
def zco.r0 (N : Nat) (x : (List Int) × Int × Int) := zco.b0 N x.1 x.2.1 x.2.2
def zco (N : Nat) (a0 : List Int) (a1 : Int) : Option Int :=
 (zj (zco.r0 N) N (a0, a1, 0)).bind fun z2 => zax z2 (fun z => some z) (fun y1 => some (-1))
def zco.k (N : Nat) : Kq := ⟨69, (cvv [T6] [(Ty.sl T6), T6] (zco N)), go [] {} [(0, .rets { slots := [(0, .val (Ty.sl T6)), (1, .val T6), (5, .val T6)], boxes := [] } [(Ty.sl T6), T6, T6] (zj (zco.r0 N) N))] Proofs.Tryz.func69 (hL := ⟨⟨_, _, rfl, by kernel_rfl⟩, trivial⟩)⟩
def zd.b2 (N : Nat) (s2 : List (List zB)) (s9 : Int) (s10 : Int) (b3 : zI) (b4 : zF) : Option (Round (Int × Int) ((List (List zB)) × Int × Int × zI × zF)) :=
 (idx s2 s9).bind fun x3001 => cond (decide (s10 < (x3001.length : Int))) ((idx s2 s9).bind fun x3002 => (idx x3002 s10).bind fun x3003 =>
  (zp x3003.Register 0 (w6 (b3.Registers - 1))).bind fun r3004 => cond (!r3004) (some (.result (s9, 3))) ((zf9 x3003.zD).bind fun r3005 =>
  (cond (r3005 != 0) (some true) ((zck x3003.zD.Kind).bind fun r3006 => some (!r3006))).bind fun g3007 => cond g3007 (some (.result (s9, 17)))
  ((cond (x3003.Offset != (-1)) ((zdp x3003.zD).bind fun r3008 => (zfn b4.Storage x3003.Offset r3008).bind fun r3009 => some (!r3009))
  (some false)).bind fun g3010 => cond g3010 (some (.result (s9, 3))) (some (.again (s2, s9, (w6 (s10 + 1)), b3, b4)))))) (some (.leave (s2, s9, s10, b3, b4)))
def zd.r2 (N : Nat) (x : (List (List zB)) × Int × Int × zI × zF) := zd.b2 N x.1 x.2.1 x.2.2.1 x.2.2.2.1 x.2.2.2.2
def zd.b0 (N : Nat) (s2 : List (List zB)) (s9 : Int) (b3 : zI) (b4 : zF) : Option (Round (Int × Int) ((List (List zB)) × Int × zI × zF)) :=
 cond (decide (s9 < (s2.length : Int))) ((idx s2 s9).bind fun x1001 => cond (decide ((x1001.length : Int) > 60)) (some (.result (s9, 2)))
  ((zj (zd.r2 N) N (s2, s9, 0, b3, b4)).bind fun z1003 => zax z1003 (fun z => some (.result z)) (fun y1002 =>
  some (.again (y1002.1, (w6 (y1002.2.1 + 1)), y1002.2.2.2.1, y1002.2.2.2.2))))) (some (.leave (s2, s9, b3, b4)))
def zd.r0 (N : Nat) (x : (List (List zB)) × Int × zI × zF) := zd.b0 N x.1 x.2.1 x.2.2.1 x.2.2.2
def zd.b9 (N : Nat) (s2 : List (List zB)) (s12 : List Bool) (s13 : Int) (s14 : Int) (s15 : List zB) (s16 : Int) (b4 : zF) : Option (Round (Int × Int) ((List (List zB)) × (List Bool) × Int × Int × (List zB) × Int × zF)) :=
 (idx s2 s13).bind fun x10001 => cond (decide (s16 < (x10001.length : Int))) ((idx s2 s13).bind fun x10002 => (idx x10002 s16).bind fun x10003 =>
  (zb7 N s15 x10003).bind fun r10004 => cond (!r10004) (some (.result (s13, 42))) (some (.again (s2, s12, s13, s14, s15, (w6 (s16 + 1)), b4))))
  (some (.leave (s2, s12, s13, s14, s15, s16, b4)))
def zd.r9 (N : Nat) (x : (List (List zB)) × (List Bool) × Int × Int × (List zB) × Int × zF) := zd.b9 N x.1 x.2.1 x.2.2.1 x.2.2.2.1 x.2.2.2.2.1 x.2.2.2.2.2.1 x.2.2.2.2.2.2
def zd.b7 (N : Nat) (s2 : List (List zB)) (s12 : List Bool) (s13 : Int) (s14 : Int) (b4 : zF) : Option (Round (Int × Int) ((List (List zB)) × (List Bool) × Int × Int × zF)) :=
 cond (decide (s14 < (s2.length : Int))) ((zdh b4 s14).bind fun r8001 => (zco N r8001 s13).bind fun r8002 => cond (r8002 == (-1))
  (some (.again (s2, s12, s13, (w6 (s14 + 1)), b4))) ((idx b4.zA s14).bind fun x8003 => (idx s2 s14).bind fun x8004 =>
  (zap N x8003 x8004).bind fun r8005 => (zj (zd.r9 N) N (s2, s12, s13, s14, r8005, 0, b4)).bind fun z8007 => zax z8007 (fun z => some (.result z))
  (fun y8006 => some (.again (y8006.1, y8006.2.1, y8006.2.2.1, (w6 (y8006.2.2.2.1 + 1)), y8006.2.2.2.2.2.2))))) (some (.leave (s2, s12, s13, s14, b4)))
def zd.r7 (N : Nat) (x : (List (List zB)) × (List Bool) × Int × Int × zF) := zd.b7 N x.1 x.2.1 x.2.2.1 x.2.2.2.1 x.2.2.2.2
def zd.b5 (N : Nat) (s2 : List (List zB)) (s12 : List Bool) (s13 : Int) (b4 : zF) : Option (Round (Int × Int) ((List (List zB)) × (List Bool) × Int × zF)) :=
 cond (decide (s13 < (s2.length : Int))) (if 0 ≤ s13 then (if s13 < (s12.length : Int) then ((s12[s13.toNat]?).bind fun x6001 => (cond x6001 ((idx s2 s13).bind fun x6002 =>
  some (decide ((x6002.length : Int) > 0))) (some false)).bind fun g6003 => cond g6003 (some (.result (s13, 42)))
  ((zj (zd.r7 N) N (s2, s12, s13, 0, b4)).bind fun z6005 => zax z6005 (fun z => some (.result z)) (fun y6004 =>
  some (.again (y6004.1, y6004.2.1, (w6 (y6004.2.2.1 + 1)), y6004.2.2.2.2))))) else none) else none) (some (.leave (s2, s12, s13, b4)))
def zd.r5 (N : Nat) (x : (List (List zB)) × (List Bool) × Int × zF) := zd.b5 N x.1 x.2.1 x.2.2.1 x.2.2.2
def zd (N : Nat) (a0 : zI) (a1 : zF) (a2 : List (List zB)) : Option (Int × Int) :=
 (zcx N a0 a1).bind fun r1 => cond (r1 != 0) (some (0, r1)) (cond ((a2.length : Int) != (a1.zA.length : Int)) (some (0, 6))
  ((zj (zd.r0 N) N (a2, 0, a0, a1)).bind fun z3 => zax z3 (fun z => some z) (fun y2 => (zam N y2.2.2.2).bind fun r4 =>
  (zj (zd.r5 N) N (y2.1, r4, 0, y2.2.2.2)).bind fun z6 => zax z6 (fun z => some z) (fun y5 => some ((y5.1.length : Int), 0)))))
def zd.k (N : Nat) : Kq := ⟨22, (cvv [T6, T6] [Ty.zI, Ty.zF, (Ty.sl (Ty.sl Ty.zB))] (zd N)), go [zcx.k N, zam.k N, zap.k N, zdh.k, zp.k, zf9.k, zck.k, zfn.k, zdp.k, zco.k N, zb7.k N] {lits := [91, 125]} [(2, .rets { slots := [(2, .val (Ty.sl (Ty.sl Ty.zB))), (3, .ptr 3 0), (4, .ptr 4 0), (9, .val T6), (10, .val T6)], boxes := [(3, Ty.zI, []), (4, Ty.zF, [])] } [(Ty.sl (Ty.sl Ty.zB)), T6, T6, Ty.zI, Ty.zF] (zj (zd.r2 N) N)), (0, .rets { slots := [(2, .val (Ty.sl (Ty.sl Ty.zB))), (3, .ptr 3 0), (4, .ptr 4 0), (9, .val T6)], boxes := [(3, Ty.zI, []), (4, Ty.zF, [])] } [(Ty.sl (Ty.sl Ty.zB)), T6, Ty.zI, Ty.zF] (zj (zd.r0 N) N)), (9, .rets { slots := [(2, .val (Ty.sl (Ty.sl Ty.zB))), (4, .ptr 4 0), (12, .own 5000012 Ty.bool), (13, .val T6), (14, .val T6), (15, .val (Ty.sl Ty.zB)), (16, .val T6)], boxes := [(4, Ty.zF, [])] } [(Ty.sl (Ty.sl Ty.zB)), (Ty.sl Ty.bool), T6, T6, (Ty.sl Ty.zB), T6, Ty.zF] (zj (zd.r9 N) N)), (7, .rets { slots := [(2, .val (Ty.sl (Ty.sl Ty.zB))), (4, .ptr 4 0), (12, .own 5000012 Ty.bool), (13, .val T6), (14, .val T6)], boxes := [(4, Ty.zF, [])] } [(Ty.sl (Ty.sl Ty.zB)), (Ty.sl Ty.bool), T6, T6, Ty.zF] (zj (zd.r7 N) N)), (5, .rets { slots := [(2, .val (Ty.sl (Ty.sl Ty.zB))), (4, .ptr 4 0), (12, .own 5000012 Ty.bool), (13, .val T6)], boxes := [(4, Ty.zF, [])] } [(Ty.sl (Ty.sl Ty.zB)), (Ty.sl Ty.bool), T6, Ty.zF] (zj (zd.r5 N) N))] Proofs.Tryz.func22 (hL := ⟨⟨_, _, rfl, by kernel_rfl⟩, ⟨_, _, rfl, by kernel_rfl⟩, ⟨_, _, rfl, by kernel_rfl⟩, ⟨_, _, rfl, by kernel_rfl⟩, ⟨_, _, rfl, by kernel_rfl⟩, trivial⟩)⟩
def zfx (a0 : zC) : Option Bool :=
 (cond (a0.Op == 0) (some (!a0.Place.Based)) (some false)).bind fun g1 => some g1
def zfx.k : Kq := ⟨51, (cvv [Ty.bool] [Ty.zC] zfx), go [] {} [] Proofs.Tryz.func51⟩
def zfh (N : Nat) (a0 : List zB) (a1 : zC) (a2 : Int) : Option Bool :=
 (zb7 N a0 (⟨a2, a1.zD, a1.Place.Offset⟩ : zB)).bind fun r1 => some r1
def zfh.k (N : Nat) : Kq := ⟨52, (cvv [Ty.bool] [(Ty.sl Ty.zB), Ty.zC, T6] (zfh N)), go [zb7.k N] {} [] Proofs.Tryz.func52⟩
def ze.b0 (N : Nat) (s8 : Int) (s9 : List Int) (s10 : Int) (b1 : Optimization) : Option (Stp (Int × (List Int) × Int × Optimization)) :=
 cond (decide (s10 < s8)) (if 0 ≤ s10 then (if s10 < (s9.length : Int) then ((s9[s10.toNat]?).bind fun x1001 => (idx b1.Proof.Index s10).bind fun x1002 =>
  (zc4 (x1002 != (-1))).bind fun r1003 =>
  if 0 ≤ (w6 (s10 + 1)) then (if (w6 (s10 + 1)) < (s9.length : Int) then ((s9[(w6 (s10 + 1)).toNat]?).bind fun x1004 =>
  some (.again (s8, (s9.set ((w6 (s10 + 1)).toNat)
  (w6 (x1001 + r1003))), (w6 (s10 + 1)), b1))) else none) else none) else none) else none) (some (.leave (s8, s9, s10, b1)))
def ze.r0 (N : Nat) (x : Int × (List Int) × Int × Optimization) := ze.b0 N x.1 x.2.1 x.2.2.1 x.2.2.2
end
end Go.Proofs.YtblgefddnnlniaaGreatDoor.M
