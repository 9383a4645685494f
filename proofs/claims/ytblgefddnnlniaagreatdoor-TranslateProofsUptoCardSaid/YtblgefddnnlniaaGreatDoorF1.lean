/- What the program's functions compute, each tied to its code: part 1. -/
import Derived.Test.YtblgefddnnlniaaGreatDoorF0
namespace Go.Proofs.YtblgefddnnlniaaGreatDoor.M
open Go Go.Amx
set_option linter.unusedVariables false
set_option maxRecDepth 100000
noncomputable section
def zy.r2 (N : Nat) (x : (List zM) × Int × Int × zJ × zU) := zy.b2 N x.1 x.2.1 x.2.2.1 x.2.2.2.1 x.2.2.2.2
def zy.b4 (N : Nat) (s87 : List zT) (s88 : Int) (s89 : Int) (b1 : zJ) (b2 : zU) : Option (Round (zU × Int) ((List zT) × Int × Int × zJ × zU)) :=
 cond (decide (s89 < s88)) ((idx s87 s89).bind fun x5001 => (zhu b1 x5001).bind fun r5002 => cond (r5002 != 0) (some (.result ((⟨3, s89⟩ : zU), r5002)))
  (some (.again (s87, s88, (w6 (s89 + 1)), b1, b2)))) (some (.leave (s87, s88, s89, b1, b2)))
def zy.r4 (N : Nat) (x : (List zT) × Int × Int × zJ × zU) := zy.b4 N x.1 x.2.1 x.2.2.1 x.2.2.2.1 x.2.2.2.2
def zy (N : Nat) (a0 : zJ) : Option (zU × Int) :=
 (cond (decide ((a0.zS.length : Int) > 24)) (some true) (some (decide ((a0.zC.length : Int) > 40)))).bind fun g1 => (cond g1 (some true)
  (some (decide ((a0.yA.length : Int) > 6)))).bind fun g2 => (zbr g2 2).bind fun r3 => (zbr ((a0.zC.length : Int) == 0) 1).bind fun r4 =>
  (zcn N ([r3, r4] : List Int)).bind fun r5 => cond (r5 != 0) (some ((⟨0, 0⟩ : zU), r5))
  ((zk (zy.r0 N) N ((a0.zS.length : Int), 0, a0, (⟨0, 0⟩ : zU))).bind fun z7 => zaz z7 (fun z => some z) (fun y6 =>
  (zas N y6.2.2.1.zS).bind fun r8 => cond (decide (r8.2 > 24)) (some ((⟨0, 0⟩ : zU), 30))
  ((zk (zy.r2 N) N (y6.2.2.1.zC, (y6.2.2.1.zC.length : Int), 0, y6.2.2.1, y6.2.2.2)).bind fun z10 => zaz z10 (fun z => some z) (fun y9 =>
  (zk (zy.r4 N) N (y9.2.2.2.1.yA, (y9.2.2.2.1.yA.length : Int), 0, y9.2.2.2.1, y9.2.2.2.2)).bind fun z12 => zaz z12 (fun z => some z) (fun y11 =>
  some ((⟨0, 0⟩ : zU), 0))))))
def zy.k (N : Nat) : Kq := ⟨110, (cvv [Ty.zU, T6] [Ty.zJ] (zy N)), go [zas.k N, zcn.k N, zbr.k, zht.k N, zb6.k N, zhu.k] {lits := [33, 38, 39]} [(0, .rets { slots := [(1, .ptr 1 0), (2, .ptr 2 0), (47, .val T6), (48, .val T6)], boxes := [(1, Ty.zJ, []), (2, Ty.zU, [])] } [T6, T6, Ty.zJ, Ty.zU] (zk (zy.r0 N) N)), (2, .rets { slots := [(1, .ptr 1 0), (2, .ptr 2 0), (70, .val (Ty.sl Ty.zM)), (71, .val T6), (72, .val T6)], boxes := [(1, Ty.zJ, []), (2, Ty.zU, [])] } [(Ty.sl Ty.zM), T6, T6, Ty.zJ, Ty.zU] (zk (zy.r2 N) N)), (4, .rets { slots := [(1, .ptr 1 0), (2, .ptr 2 0), (87, .val (Ty.sl Ty.zT)), (88, .val T6), (89, .val T6)], boxes := [(1, Ty.zJ, []), (2, Ty.zU, [])] } [(Ty.sl Ty.zT), T6, T6, Ty.zJ, Ty.zU] (zk (zy.r4 N) N))] Proofs.Tryz.func110 (hL := ⟨⟨_, _, rfl, by kernel_rfl⟩, ⟨_, _, rfl, by kernel_rfl⟩, ⟨_, _, rfl, by kernel_rfl⟩, trivial⟩)⟩
def zgk (N : Nat) (a0 : zJ) : Option Int :=
 (zy N a0).bind fun r1 => some r1.2
def zgk.k (N : Nat) : Kq := ⟨78, (cvv [T6] [Ty.zJ] (zgk N)), go [zy.k N] {} [] Proofs.Tryz.func78⟩
def za4.b0 (N : Nat) (s5 : List Int) (s6 : Int) (s7 : Int) : Option (Round Int ((List Int) × Int × Int)) :=
 cond (decide (s7 < s6)) ((idx s5 s7).bind fun x1001 => cond (x1001 != 0) (some (.result x1001)) (some (.again (s5, s6, (w6 (s7 + 1)))))) (some (.leave (s5, s6, s7)))
def za4.r0 (N : Nat) (x : (List Int) × Int × Int) := za4.b0 N x.1 x.2.1 x.2.2
def za4 (N : Nat) (a0 : List Int) : Option Int :=
 (zk (za4.r0 N) N (a0, (a0.length : Int), 0)).bind fun z2 => zaz z2 (fun z => some z) (fun y1 => some 0)
def za4.k (N : Nat) : Kq := ⟨54, (cvv [T6] [(Ty.sl T6)] (za4 N)), go [] {} [(0, .rets { slots := [(5, .val (Ty.sl T6)), (6, .val T6), (7, .val T6)], boxes := [] } [(Ty.sl T6), T6, T6] (zk (za4.r0 N) N))] Proofs.Tryz.func54 (hL := ⟨⟨_, _, rfl, by kernel_rfl⟩, trivial⟩)⟩
def zfb (N : Nat) (a0 : zJ) : Option Int :=
 (zy N a0).bind fun r1 => some r1.2
def zfb.k (N : Nat) : Kq := ⟨113, (cvv [T6] [Ty.zJ] (zfb N)), go [zy.k N] {} [] Proofs.Tryz.func113⟩
def zj6 (N : Nat) (a0 : zJ) : Option ((List Int) × Int × Int) :=
 (zfb N a0).bind fun r1 => cond (r1 != 0) (some ([], 0, r1)) ((zas N a0.zS).bind fun r2 => some (r2.1, r2.2, 0))
def zj6.k (N : Nat) : Kq := ⟨80, (cvv [(Ty.sl T6), T6, T6] [Ty.zJ] (zj6 N)), go [zfb.k N, zas.k N] {} [] Proofs.Tryz.func80⟩
def zug : Ct U := { params := [.val Ty.str, .val T6], results := [Ty.str], outs := [], fresh := [], fn := app U [Ty.str, T6] (R := PT U [Ty.str]) (zuf) }
theorem zug.meets : zhk (zot [] [] [] [] [] [] [] []) 163 zug :=
 zxw ⟨_, Proofs.Tryz.func163, rfl, by kernel_rfl⟩ (t := Ty.str) rfl rfl rfl rfl fun ds y hy E0 h0 ha μ H w us hA hm hG => by
  obtain ⟨s, n, rfl, hx⟩ := z6k hy; unfold zuf at hx; split at hx
  · rename_i hn; cases hx; have hE : some ([.sc (.string s), .sc (.int .i64 n)], []) = some (E0, h0) := ha; cases hE; cases hA with
    | cons h1 h2 =>
     cases h2 with
     | cons h2 h3 =>
      cases h3; have hu := h1.int; have hu2 := h2.int; subst hu hu2; refine ⟨_, rfl, ?_⟩; have hc := Proofs.Tryz.strings_Repeat s n.toNat w (by omega) hn.2.2; have he : ((n.toNat : Nat) : Int) = n := by omega
      rw [he] at hc; exact hc.mono fun e w' hh => ⟨_, hh.1, zxj hh.2, .sc _⟩
  · cases hx
def zug.k : Kq := ⟨163, zug, zug.meets⟩
def zib (a0 : Int) : Option (Storage × Int) :=
 (zdn a0 0 64).bind fun r1 => cond (!r1) (some ((⟨(⟨#[]⟩ : ByteArray), []⟩ : Storage), 3)) ((zuf (⟨#[0]⟩ : ByteArray) (w6 (a0 * 16))).bind fun r2 =>
  if 0 ≤ a0 then (if a0 ≤ a0 then (cond (Nat.ble (a0.toNat * 1) zak) (some ((⟨r2, (List.replicate a0.toNat (false : Bool))⟩ : Storage), 0)) none) else none) else none)
def zib.k : Kq := ⟨115, (cvv [Ty.Storage, T6] [T6] zib), go [zdn.k, zug.k] {} [] Proofs.Tryz.func115⟩
def zej.b0 (N : Nat) (s0 : Int) (s5 : List Int) (s6 : Int) : Option (Stp (Int × (List Int) × Int)) :=
 cond (decide (s6 ≥ 0)) (if 0 ≤ s6 then (if s6 < (s5.length : Int) then ((s5[s6.toNat]?).bind fun x1001 =>
  some (.again ((w6 (s0.tdiv 10)), (s5.set s6.toNat (IntKind.wrap .u8 (s0.tmod 10))), (w6 (s6 - 1))))) else none) else none)
  (some (.leave (s0, s5, s6)))
def zej.r0 (N : Nat) (x : Int × (List Int) × Int) := zej.b0 N x.1 x.2.1 x.2.2
def zej (N : Nat) (a0 : Int) (a1 : Int) : Option ((List Int)) :=
 if 0 ≤ a1 then (if a1 ≤ a1 then (cond (Nat.ble (a1.toNat * 1) zak)
  ((zf (zej.r0 N) N (a0, (List.replicate a1.toNat (0 : Int)), (w6 (a1 - 1)))).bind fun y1 => some y1.2.1) none) else none) else none
def zej.k (N : Nat) : Kq := ⟨204, (ctv [.val T6, .val T6] [(Ty.sl (Ty.int .u8))] [] [0] [T6, T6] (zej N)), go [] {} [(0, .plain { slots := [(0, .val T6), (5, .own 5000005 (Ty.int .u8)), (6, .val T6)], boxes := [] } [T6, (Ty.sl (Ty.int .u8)), T6] (zf (zej.r0 N) N))] Proofs.Tryz.func204 (hL := ⟨⟨_, _, rfl, by kernel_rfl⟩, trivial⟩)⟩
def zcx.b0 (N : Nat) (s0 : List Int) (s3 : List Int) (s4 : Int) : Option (Stp ((List Int) × (List Int) × Int)) :=
 cond (decide (s4 < (s0.length : Int))) ((idx s0 s4).bind fun x1001 => (idx s0 (w6 (s4 + 1))).bind fun x1002 =>
  cond (Nat.ble ((s3.length + ([(orI .u8 (IntKind.wrap .u8 (x1001 * 2 ^ (min (4 : Int).toNat 8))) x1002)] : List Int).length) * 1) zak)
  (some (.again (s0, (s3 ++ ([(orI .u8 (IntKind.wrap .u8 (x1001 * 2 ^ (min (4 : Int).toNat 8))) x1002)] : List Int)), (w6 (s4 + 2))))) none)
  (some (.leave (s0, s3, s4)))
def zcx.r0 (N : Nat) (x : (List Int) × (List Int) × Int) := zcx.b0 N x.1 x.2.1 x.2.2
def zcx (N : Nat) (a0 : List Int) : Option ByteArray :=
 (zf (zcx.r0 N) N (a0, [], 0)).bind fun y1 => some (zjf y1.2.1)
def zcx.k (N : Nat) : Kq := ⟨205, (cvv [Ty.str] [(Ty.sl (Ty.int .u8))] (zcx N)), go [] {lits := [23]} [(0, .plain { slots := [(0, .val (Ty.sl (Ty.int .u8))), (3, .own 5000003 (Ty.int .u8)), (4, .val T6)], boxes := [] } [(Ty.sl (Ty.int .u8)), (Ty.sl (Ty.int .u8)), T6] (zf (zcx.r0 N) N))] Proofs.Tryz.func205 (hL := ⟨⟨_, _, rfl, by kernel_rfl⟩, trivial⟩)⟩
def zb1.b1 (N : Nat) (s5 : List Int) (s25 : Int) (s26 : Int) (b3 : Value) : Option (Stp ((List Int) × Int × Int × Value)) :=
 cond (decide (s26 < s25)) (if 0 ≤ s26 then (if s26 < (s5.length : Int) then ((s5[s26.toNat]?).bind fun x2001 =>
  if 0 ≤ s26 then (if s26 < (s5.length : Int) then ((s5[s26.toNat]?).bind fun x2002 =>
  some (.again ((s5.set s26.toNat (IntKind.wrap .u8 (x2001 + 240))), s25, (w6 (s26 + 1)), b3))) else none) else none) else none) else none)
  (some (.leave (s5, s25, s26, b3)))
def zb1.r1 (N : Nat) (x : (List Int) × Int × Int × Value) := zb1.b1 N x.1 x.2.1 x.2.2.1 x.2.2.2
def zb1.b3 (N : Nat) (s8 : List Int) (s9 : Int) (s10 : Int) : Option (Stp ((List Int) × Int × Int)) :=
 cond (decide (s9 ≥ 0)) (if 0 ≤ s9 then (if s9 < (s8.length : Int) then ((s8[s9.toNat]?).bind fun x4001 =>
  some (.again ((s8.set s9.toNat (IntKind.wrap .u8 s10)), (w6 (s9 - 1)), (s10.fdiv (2 ^ (min (8 : Int).toNat 64)))))) else none) else none)
  (some (.leave (s8, s9, s10)))
def zb1.r3 (N : Nat) (x : (List Int) × Int × Int) := zb1.b3 N x.1 x.2.1 x.2.2
def zb1 (N : Nat) (a0 : DataType) (a1 : Value) : Option ByteArray :=
 (zej N (if (w6 (0 - a1.N)) > a1.N then (w6 (0 - a1.N)) else a1.N) a0.Length).bind fun r1 => cond (a0.Kind == 2)
  ((zf (zb1.r1 N) N (r1, (r1.length : Int), 0, a1)).bind fun y2 => cond (decide (y2.2.2.2.N < 0))
  (if 0 ≤ (w6 ((y2.1.length : Int) - 1)) then (if (w6 ((y2.1.length : Int) - 1)) < (y2.1.length : Int) then ((y2.1[(w6 ((y2.1.length : Int) - 1)).toNat]?).bind fun x3 =>
  if 0 ≤ (w6 ((y2.1.length : Int) - 1)) then (if (w6 ((y2.1.length : Int) - 1)) < (y2.1.length : Int) then ((y2.1[(w6 ((y2.1.length : Int) - 1)).toNat]?).bind fun x4 =>
  some (zjf (y2.1.set ((w6 ((y2.1.length : Int) - 1)).toNat) (IntKind.wrap .u8 (x3 - 32))))) else none) else none) else none) else none) (some (zjf y2.1)))
  (cond (a0.Kind == 1) (cond (decide (a1.N < 0)) (cond (((r1.length : Int).tmod 2) == 0) (cond (Nat.ble ((([0] : List Int).length + r1.length) * 1) zak)
  (cond (Nat.ble (((([0] : List Int) ++ r1).length + ([13] : List Int).length) * 1) zak) ((zcx N ((([0] : List Int) ++ r1) ++ ([13] : List Int))).bind fun r5 =>
  some r5) none) none) (cond (Nat.ble ((r1.length + ([13] : List Int).length) * 1) zak) ((zcx N (r1 ++ ([13] : List Int))).bind fun r6 => some r6) none))
  (cond (((r1.length : Int).tmod 2) == 0) (cond (Nat.ble ((([0] : List Int).length + r1.length) * 1) zak)
  (cond (Nat.ble (((([0] : List Int) ++ r1).length + ([15] : List Int).length) * 1) zak) ((zcx N ((([0] : List Int) ++ r1) ++ ([15] : List Int))).bind fun r7 =>
  some r7) none) none) (cond (Nat.ble ((r1.length + ([15] : List Int).length) * 1) zak) ((zcx N (r1 ++ ([15] : List Int))).bind fun r8 => some r8) none)))
  (cond (a0.Kind == 3) ((zgc a0).bind fun r9 => if 0 ≤ r9 then (if r9 ≤ r9 then (cond (Nat.ble (r9.toNat * 1) zak)
  ((zf (zb1.r3 N) N ((List.replicate r9.toNat (0 : Int)), (w6 (((List.replicate r9.toNat (0 : Int)).length : Int) - 1)), a1.N)).bind fun y10 =>
  some (zjf y10.1)) none) else none) else none) (some a1.S)))
def zb1.k (N : Nat) : Kq := ⟨165, (cvv [Ty.str] [Ty.DataType, Ty.Value] (zb1 N)), go [zgc.k, zej.k N, zcx.k N] {lits := [16, 63, 64]} [(1, .plain { slots := [(3, .ptr 3 0), (5, .own 5000005 (Ty.int .u8)), (25, .val T6), (26, .val T6)], boxes := [(3, Ty.Value, [])] } [(Ty.sl (Ty.int .u8)), T6, T6, Ty.Value] (zf (zb1.r1 N) N)), (3, .plain { slots := [(8, .own 5000008 (Ty.int .u8)), (9, .val T6), (10, .val T6)], boxes := [] } [(Ty.sl (Ty.int .u8)), T6, T6] (zf (zb1.r3 N) N))] Proofs.Tryz.func165 (hL := ⟨⟨_, _, rfl, by kernel_rfl⟩, ⟨_, _, rfl, by kernel_rfl⟩, trivial⟩)⟩
def zj8 (N : Nat) (a0 : DataType) (a1 : Value) : Option (ByteArray × Int) :=
 (zed N a0 a1).bind fun r1 => cond (r1 != 0) (some ((⟨#[]⟩ : ByteArray), r1)) ((zb1 N a0 a1).bind fun r2 => some (r2, 0))
def zj8.k (N : Nat) : Kq := ⟨116, (cvv [Ty.str, T6] [Ty.DataType, Ty.Value] (zj8 N)), go [zed.k N, zb1.k N] {} [] Proofs.Tryz.func116⟩
def zko (N : Nat) (a0 : Storage) (a1 : Int) (a2 : Int) : Option Int :=
 (zaf N a0).bind fun r1 => cond (r1.2 != 0) (some r1.2) ((cond (decide (a1 < 0)) (some true) (some (decide (a2 < 0)))).bind fun g2 => (cond g2 (some true)
  (some (decide (a1 > (a0.Bytes.size : Int))))).bind fun g3 => (cond g3 (some true) (some (decide (a2 > (w6 ((a0.Bytes.size : Int) - a1)))))).bind fun g4 =>
  cond g4 (some 3) (some 0))
def zko.k (N : Nat) : Kq := ⟨166, (cvv [T6] [Ty.Storage, T6, T6] (zko N)), go [zaf.k N] {} [] Proofs.Tryz.func166⟩
def zmz (a0 : Storage) (a1 : Int) (a2 : ByteArray) : Option Storage :=
 if 0 ≤ a1 ∧ a1 ≤ (a0.Bytes.size : Int) then (if 0 ≤ (0 : Int) ∧ (0 : Int) ≤ a1 then (if (((a0.Bytes.extract (0 : Int).toNat a1.toNat).size + a2.size : Nat) : Int) > IntKind.i64.max then none else if 0 ≤ (w6 (a1 + (a2.size : Int))) ∧ (w6 (a1 + (a2.size : Int))) ≤ (a0.Bytes.size : Int) then (if ((((a0.Bytes.extract (0 : Int).toNat a1.toNat) ++ a2).size + (a0.Bytes.extract (w6 (a1 + (a2.size : Int))).toNat a0.Bytes.size).size : Nat) : Int) > IntKind.i64.max then none else (zke 1 a0.Tags).bind fun r1 =>
  cond (!(a2.toList == (⟨#[]⟩ : ByteArray).toList))
  (if 0 ≤ (w6 ((w6 ((w6 ((w6 (a1 + (a2.size : Int))) - 1)).tdiv 16)) + 1)) ∧ (w6 ((w6 ((w6 ((w6 (a1 + (a2.size : Int))) - 1)).tdiv 16)) + 1)) ≤ (r1.length : Int) then (if 0 ≤ (w6 (a1.tdiv 16)) ∧ (w6 (a1.tdiv 16)) ≤ (w6 ((w6 ((w6 ((w6 (a1 + (a2.size : Int))) - 1)).tdiv 16)) + 1)) then (some (⟨(((a0.Bytes.extract (0 : Int).toNat a1.toNat) ++ a2) ++ (a0.Bytes.extract (w6 (a1 + (a2.size : Int))).toNat a0.Bytes.size)), (r1.take ((w6 (a1.tdiv 16)).toNat) ++ List.replicate ((w6 ((w6 ((w6 ((w6 (a1 + (a2.size : Int))) - 1)).tdiv 16)) + 1)).toNat - (w6 (a1.tdiv 16)).toNat)
  (false : Bool) ++ r1.drop ((w6 (a1.tdiv 16)).toNat + ((w6 ((w6 ((w6 ((w6 (a1 + (a2.size : Int))) - 1)).tdiv 16)) + 1)).toNat - (w6 (a1.tdiv 16)).toNat)))⟩ : Storage)) else none) else none)
  (some (⟨(((a0.Bytes.extract (0 : Int).toNat a1.toNat) ++ a2) ++ (a0.Bytes.extract (w6 (a1 + (a2.size : Int))).toNat a0.Bytes.size)), r1⟩ : Storage))) else none) else none) else none
def zmz.k : Kq := ⟨167, (ctv [.val Ty.Storage, .val T6, .val Ty.str] [Ty.Storage] [] [1] [Ty.Storage, T6, Ty.str] zmz), go [x44.k] {} [] Proofs.Tryz.func167⟩
def zia (N : Nat) (a0 : Storage) (a1 : Int) (a2 : ByteArray) : Option (Storage × Int) :=
 (zko N a0 a1 (a2.size : Int)).bind fun r1 => cond (r1 != 0) (some ((⟨(⟨#[]⟩ : ByteArray), []⟩ : Storage), r1)) ((zmz a0 a1 a2).bind fun r2 => some (r2, 0))
def zia.k (N : Nat) : Kq := ⟨117, (cvv [Ty.Storage, T6] [Ty.Storage, T6, Ty.str] (zia N)), go [zko.k N, zmz.k] {lits := [12]} [] Proofs.Tryz.func117⟩
def zb7.b0 (N : Nat) (s5 : List Int) (s8 : Int) (s31 : List zH) (s32 : Int) (s33 : Int) (b2 : Storage) (b7 : Storage) : Option (Round (Storage × Int) ((List Int) × Int × (List zH) × Int × Int × Storage × Storage)) :=
 cond (decide (s33 < s32)) ((idx s31 s33).bind fun x1001 => (cond (x1001.Kind != 0) (some true) (some (s8 != 0))).bind fun g1002 =>
  cond g1002 (some (.again (s5, s8, s31, s32, (w6 (s33 + 1)), b2, b7))) ((zj8 N x1001.zD x1001.Value).bind fun r1003 => cond (r1003.2 != 0)
  (some (.result ((⟨(⟨#[]⟩ : ByteArray), []⟩ : Storage), r1003.2))) ((idx s5 s33).bind fun x1004 => (zia N b7 x1004 r1003.1).bind fun r1005 =>
  some (.again (s5, r1005.2, s31, s32, (w6 (s33 + 1)), b2, r1005.1))))) (some (.leave (s5, s8, s31, s32, s33, b2, b7)))
def zb7.r0 (N : Nat) (x : (List Int) × Int × (List zH) × Int × Int × Storage × Storage) := zb7.b0 N x.1 x.2.1 x.2.2.1 x.2.2.2.1 x.2.2.2.2.1 x.2.2.2.2.2.1 x.2.2.2.2.2.2
def zb7 (N : Nat) (a0 : zJ) : Option (Storage × Int) :=
 (zfb N a0).bind fun r1 => cond (r1 != 0) (some ((⟨(⟨#[]⟩ : ByteArray), []⟩ : Storage), r1)) ((zas N a0.zS).bind fun r2 =>
  (zib r2.2).bind fun r3 =>
  (zk (zb7.r0 N) N (r2.1, r3.2, a0.zS, (a0.zS.length : Int), 0, (⟨(⟨#[]⟩ : ByteArray), []⟩ : Storage), r3.1)).bind fun z5 => zaz z5 (fun z =>
  some z) (fun y4 => some (y4.2.2.2.2.2.2, y4.2.1)))
def zb7.k (N : Nat) : Kq := ⟨81, (cvv [Ty.Storage, T6] [Ty.zJ] (zb7 N)), go [zfb.k N, zas.k N, zib.k, zj8.k N, zia.k N] {} [(0, .rets { slots := [(2, .ptr 2 0), (5, .val (Ty.sl T6)), (7, .ptr 7 0), (8, .val T6), (31, .val (Ty.sl Ty.zH)), (32, .val T6), (33, .val T6)], boxes := [(2, Ty.Storage, [1]), (7, Ty.Storage, [])] } [(Ty.sl T6), T6, (Ty.sl Ty.zH), T6, T6, Ty.Storage, Ty.Storage] (zk (zb7.r0 N) N))] Proofs.Tryz.func81 (hL := ⟨⟨_, _, rfl, by kernel_rfl⟩, trivial⟩)⟩
def zb (a0 : zG) (a1 : zB) : Option zG :=
 cond (Nat.ble ((a0.code.length + ([a1] : List zB).length) * 224) zak)
  (some (⟨a0.zJ, a0.layout, (a0.code ++ ([a1] : List zB))⟩ : zG)) none
def zb.k : Kq := ⟨83, (ctv [.ptr Ty.zG true [4], .val Ty.zB] [] [Ty.zG] [] [Ty.zG, Ty.zB] zb), go [] {lits := [10], pk := [1000000]} [] Proofs.Tryz.func83⟩
def zc6 (a0 : zH) : Option Bool :=
 some (a0.zD.Kind != 0)
def zc6.k : Kq := ⟨168, (cvv [Ty.bool] [Ty.zH] zc6), go [] {} [] Proofs.Tryz.func168⟩
def za8 (a0 : zH) : Option Bool :=
 some (a0.Kind == 4)
def za8.k : Kq := ⟨169, (cvv [Ty.bool] [Ty.zH] za8), go [] {} [] Proofs.Tryz.func169⟩
def zd5 (a0 : zH) (a1 : zH) : Option Bool :=
 some (a0.Name.toList == a1.Base.toList)
def zd5.k : Kq := ⟨206, (ctv [.val Ty.zH, .ptr Ty.zH false []] [Ty.bool] [] [] [Ty.zH, Ty.zH] zd5), go [] {ro := [1000000], pk := [1000000]} [] Proofs.Tryz.func206⟩
def zal.b0 (N : Nat) (s0 : List zH) (s7 : Int) (s8 : Int) (b1000000 : zH) : Option (Round Int ((List zH) × Int × Int × zH)) :=
 cond (decide (s8 < s7)) ((idx s0 s8).bind fun x1001 => (zd5 x1001 b1000000).bind fun r1002 => cond r1002 (some (.result s8))
  (some (.again (s0, s7, (w6 (s8 + 1)), b1000000)))) (some (.leave (s0, s7, s8, b1000000)))
def zal.r0 (N : Nat) (x : (List zH) × Int × Int × zH) := zal.b0 N x.1 x.2.1 x.2.2.1 x.2.2.2
def zal (N : Nat) (a0 : List zH) (a1 : zH) : Option Int :=
 (zk (zal.r0 N) N (a0, (a0.length : Int), 0, a1)).bind fun z2 => zaz z2 (fun z => some z) (fun y1 => some (-1))
def zal.k (N : Nat) : Kq := ⟨196, (ctv [.val (Ty.sl Ty.zH), .clo 206 1, .ptr Ty.zH false []] [T6] [] [] [(Ty.sl Ty.zH), Ty.zH] (zal N)), go [zd5.k] {ro := [1000000], pk := [1000000]} [(0, .rets { slots := [(0, .val (Ty.sl Ty.zH)), (1, .fn 206 [1000000]), (7, .val T6), (8, .val T6)], boxes := [(1000000, Ty.zH, [])] } [(Ty.sl Ty.zH), T6, T6, Ty.zH] (zk (zal.r0 N) N))] Proofs.Tryz.func196 (hL := ⟨⟨_, _, rfl, by kernel_rfl⟩, trivial⟩)⟩
def zn (N : Nat) (a0 : zG) (a1 : Int) : Option zK :=
 (idx a0.zJ.zS a1).bind fun x1 => cond (x1.Kind != 2) ((idx a0.layout a1).bind fun x2 => some (⟨false, 0, x2⟩ : zK))
  ((zal N a0.zJ.zS x1).bind fun r3 => (idx a0.layout r3).bind fun x4 => some (⟨true, x4, x1.Offset⟩ : zK))
def zn.k (N : Nat) : Kq := ⟨170, (ctv [.ptr Ty.zG false [], .val T6] [Ty.zK] [] [] [Ty.zG, T6] (zn N)), go [zal.k N] {ro := [1000000], pk := [1000000]} [] Proofs.Tryz.func170⟩
def zaa (N : Nat) (a0 : zG) (a1 : Int) (a2 : Int) : Option zG :=
 (idx a0.zJ.zS a2).bind fun x1 => (za8 x1).bind fun r2 =>
  cond r2 ((zb a0 (⟨2, a1, 0, 0, 0, (⟨false, 0, 0⟩ : zK), (⟨false, 0, 0⟩ : zK), (⟨0, 0, 0⟩ : DataType), (⟨0, 0, 0⟩ : DataType), false, false, (⟨x1.Value.N, x1.zD.Scale⟩ : Number), (⟨#[]⟩ : ByteArray), (⟨#[]⟩ : ByteArray), 0, 0, 0, 0⟩ : zB)).bind fun r3 =>
  some r3) ((zn N a0 a2).bind fun r4 =>
  (zb a0 (⟨0, a1, 0, 0, 0, r4, (⟨false, 0, 0⟩ : zK), x1.zD, (⟨0, 0, 0⟩ : DataType), false, false, (⟨0, 0⟩ : Number), (⟨#[]⟩ : ByteArray), (⟨#[]⟩ : ByteArray), 0, 0, 0, 0⟩ : zB)).bind fun r5 =>
  some r5)
def zaa.k (N : Nat) : Kq := ⟨122, (ctv [.ptr Ty.zG true [4], .val T6, .val T6] [] [Ty.zG] [] [Ty.zG, T6, T6] (zaa N)), go [zb.k, za8.k, zn.k N] {lits := [32], pk := [1000000]} [] Proofs.Tryz.func122⟩
def zb0 (N : Nat) (a0 : zG) (a1 : Int) (a2 : Bool) : Option zG :=
 (zn N a0 a1).bind fun r1 => (idx a0.zJ.zS a1).bind fun x2 =>
  (zb a0 (⟨1, 0, 0, 0, 0, r1, (⟨false, 0, 0⟩ : zK), x2.zD, (⟨0, 0, 0⟩ : DataType), a2, false, (⟨0, 0⟩ : Number), (⟨#[]⟩ : ByteArray), (⟨#[]⟩ : ByteArray), 0, 0, 0, 0⟩ : zB)).bind fun r3 =>
  some r3
def zb0.k (N : Nat) : Kq := ⟨123, (ctv [.ptr Ty.zG true [4], .val T6, .val Ty.bool] [] [Ty.zG] [] [Ty.zG, T6, Ty.bool] (zb0 N)), go [zb.k, zn.k N] {lits := [9], pk := [1000000]} [] Proofs.Tryz.func123⟩
def zfd (N : Nat) (a0 : zG) (a1 : zM) : Option zG :=
 (idx a1.Args 0).bind fun x1 => (idx a1.Args 1).bind fun x2 => (idx a0.zJ.zS x1).bind fun x3 => (idx a0.zJ.zS x2).bind fun x4 =>
  (zc6 x3).bind fun r5 => cond r5 ((zaa N a0 0 x2).bind fun r6 => (zb0 N r6 x1 (a1.Op == 1)).bind fun r7 => some r7)
  ((za8 x4).bind fun r8 => cond r8 ((zn N a0 x1).bind fun r9 =>
  (zb a0 (⟨10, 0, 0, 0, 0, r9, (⟨false, 0, 0⟩ : zK), x3.zD, (⟨0, 0, 0⟩ : DataType), false, false, (⟨0, 0⟩ : Number), x4.Value.S, (⟨#[]⟩ : ByteArray), 0, 0, 0, 0⟩ : zB)).bind fun r10 =>
  some r10) ((zn N a0 x1).bind fun r11 => (zn N a0 x2).bind fun r12 =>
  (zb a0 (⟨9, 0, 0, 0, 0, r11, r12, x3.zD, x4.zD, false, false, (⟨0, 0⟩ : Number), (⟨#[]⟩ : ByteArray), (⟨#[]⟩ : ByteArray), 0, 0, 0, 0⟩ : zB)).bind fun r13 =>
  some r13))
def zfd.k (N : Nat) : Kq := ⟨118, (ctv [.ptr Ty.zG true [4], .val Ty.zM] [] [Ty.zG] [] [Ty.zG, Ty.zM] (zfd N)), go [zb.k, zaa.k N, zb0.k N, zc6.k, za8.k, zn.k N] {lits := [35, 40, 63], pk := [1000000]} [] Proofs.Tryz.func118⟩
def zdx (N : Nat) (a0 : zG) (a1 : zM) : Option zG :=
 (idx a1.Args 1).bind fun x1 => (zaa N a0 0 x1).bind fun r2 => (idx a1.Args 2).bind fun x3 => (zaa N r2 1 x3).bind fun r4 =>
  (idx a1.Args 0).bind fun x5 => (idx r4.zJ.zS x5).bind fun x6 =>
  (zb r4 (⟨4, 0, 0, 1, (w6 ((w6 (a1.Op - 2)) + 0)), (⟨false, 0, 0⟩ : zK), (⟨false, 0, 0⟩ : zK), x6.zD, (⟨0, 0, 0⟩ : DataType), false, false, (⟨0, 0⟩ : Number), (⟨#[]⟩ : ByteArray), (⟨#[]⟩ : ByteArray), 0, 0, 0, 0⟩ : zB)).bind fun r7 =>
  (idx a1.Args 0).bind fun x8 => (zb0 N r7 x8 false).bind fun r9 => some r9
def zdx.k (N : Nat) : Kq := ⟨119, (ctv [.ptr Ty.zG true [4], .val Ty.zM] [] [Ty.zG] [] [Ty.zG, Ty.zM] (zdx N)), go [zb.k, zaa.k N, zb0.k N] {pk := [1000000]} [] Proofs.Tryz.func119⟩
def ze3 (N : Nat) (a0 : zG) (a1 : Int) (a2 : Int) : Option (Bool × zG) :=
 (idx a0.zJ.zS a1).bind fun x1 => (idx a0.zJ.zS a2).bind fun x2 => (za8 x1).bind fun r3 =>
  (cond r3 ((za8 x2).bind fun r4 => some r4) (some false)).bind fun g5 =>
  cond g5 ((zb a0 (⟨13, 0, 0, 0, 0, (⟨false, 0, 0⟩ : zK), (⟨false, 0, 0⟩ : zK), (⟨0, 0, 0⟩ : DataType), (⟨0, 0, 0⟩ : DataType), false, false, (⟨0, 0⟩ : Number), x1.Value.S, x2.Value.S, 0, 0, 0, 0⟩ : zB)).bind fun r6 =>
  some (false, r6)) ((za8 x2).bind fun r7 => cond r7 ((zn N a0 a1).bind fun r8 =>
  (zb a0 (⟨12, 0, 0, 0, 0, r8, (⟨false, 0, 0⟩ : zK), x1.zD, (⟨0, 0, 0⟩ : DataType), false, false, (⟨0, 0⟩ : Number), x2.Value.S, (⟨#[]⟩ : ByteArray), 0, 0, 0, 0⟩ : zB)).bind fun r9 =>
  some (false, r9)) ((za8 x1).bind fun r10 => cond r10 ((zn N a0 a2).bind fun r11 =>
  (zb a0 (⟨12, 0, 0, 0, 0, r11, (⟨false, 0, 0⟩ : zK), x2.zD, (⟨0, 0, 0⟩ : DataType), false, false, (⟨0, 0⟩ : Number), x1.Value.S, (⟨#[]⟩ : ByteArray), 0, 0, 0, 0⟩ : zB)).bind fun r12 =>
  some (true, r12)) ((zn N a0 a1).bind fun r13 => (zn N a0 a2).bind fun r14 =>
  (zb a0 (⟨11, 0, 0, 0, 0, r13, r14, x1.zD, x2.zD, false, false, (⟨0, 0⟩ : Number), (⟨#[]⟩ : ByteArray), (⟨#[]⟩ : ByteArray), 0, 0, 0, 0⟩ : zB)).bind fun r15 =>
  some (false, r15))))
def ze3.k (N : Nat) : Kq := ⟨171, (ctv [.ptr Ty.zG true [4], .val T6, .val T6] [Ty.bool] [Ty.zG] [] [Ty.zG, T6, T6] (ze3 N)), go [zb.k, za8.k, zn.k N] {lits := [28, 33, 60, 74], pk := [1000000]} [] Proofs.Tryz.func171⟩
def zer (N : Nat) (a0 : zG) (a1 : zM) : Option zG :=
 (idx a1.Args 0).bind fun x1 => (idx a0.zJ.zS x1).bind fun x2 => (zc6 x2).bind fun r3 => cond r3 ((idx a1.Args 0).bind fun x4 =>
  (zaa N a0 0 x4).bind fun r5 => (idx a1.Args 1).bind fun x6 => (zaa N r5 1 x6).bind fun r7 =>
  (zb r7 (⟨5, 0, 0, 1, 0, (⟨false, 0, 0⟩ : zK), (⟨false, 0, 0⟩ : zK), (⟨0, 0, 0⟩ : DataType), (⟨0, 0, 0⟩ : DataType), false, false, (⟨0, 0⟩ : Number), (⟨#[]⟩ : ByteArray), (⟨#[]⟩ : ByteArray), 0, 0, 0, 0⟩ : zB)).bind fun r8 =>
  (cond (a1.Op == 8) (some false) (some false)).bind fun g9 => cond g9 ((idx a1.Args 2).bind fun x10 => (idx r8.zJ.zS x10).bind fun x11 =>
  (zb r8 (⟨6, 0, 0, 0, 0, (⟨false, 0, 0⟩ : zK), (⟨false, 0, 0⟩ : zK), (⟨0, 0, 0⟩ : DataType), (⟨0, 0, 0⟩ : DataType), false, false, (⟨0, 0⟩ : Number), (⟨#[]⟩ : ByteArray), (⟨#[]⟩ : ByteArray), 4, x11.Target, 0, 0⟩ : zB)).bind fun r12 =>
  some r12) (cond (a1.Op == 8) ((idx a1.Args 2).bind fun x13 => (idx r8.zJ.zS x13).bind fun x14 =>
  (zb r8 (⟨6, 0, 0, 0, 0, (⟨false, 0, 0⟩ : zK), (⟨false, 0, 0⟩ : zK), (⟨0, 0, 0⟩ : DataType), (⟨0, 0, 0⟩ : DataType), false, false, (⟨0, 0⟩ : Number), (⟨#[]⟩ : ByteArray), (⟨#[]⟩ : ByteArray), 1, x14.Target, 0, 0⟩ : zB)).bind fun r15 =>
  some r15) ((idx a1.Args 2).bind fun x16 => (idx r8.zJ.zS x16).bind fun x17 =>
  (zb r8 (⟨6, 0, 0, 0, 0, (⟨false, 0, 0⟩ : zK), (⟨false, 0, 0⟩ : zK), (⟨0, 0, 0⟩ : DataType), (⟨0, 0, 0⟩ : DataType), false, false, (⟨0, 0⟩ : Number), (⟨#[]⟩ : ByteArray), (⟨#[]⟩ : ByteArray), 2, x17.Target, 0, 0⟩ : zB)).bind fun r18 =>
  some r18))) ((idx a1.Args 0).bind fun x19 => (idx a1.Args 1).bind fun x20 => (ze3 N a0 x19 x20).bind fun r21 => (cond (a1.Op == 8) (some r21.1)
  (some false)).bind fun g22 => cond g22 ((idx a1.Args 2).bind fun x23 => (idx r21.2.zJ.zS x23).bind fun x24 =>
  (zb r21.2 (⟨6, 0, 0, 0, 0, (⟨false, 0, 0⟩ : zK), (⟨false, 0, 0⟩ : zK), (⟨0, 0, 0⟩ : DataType), (⟨0, 0, 0⟩ : DataType), false, false, (⟨0, 0⟩ : Number), (⟨#[]⟩ : ByteArray), (⟨#[]⟩ : ByteArray), 4, x24.Target, 0, 0⟩ : zB)).bind fun r25 =>
  some r25) (cond (a1.Op == 8) ((idx a1.Args 2).bind fun x26 => (idx r21.2.zJ.zS x26).bind fun x27 =>
  (zb r21.2 (⟨6, 0, 0, 0, 0, (⟨false, 0, 0⟩ : zK), (⟨false, 0, 0⟩ : zK), (⟨0, 0, 0⟩ : DataType), (⟨0, 0, 0⟩ : DataType), false, false, (⟨0, 0⟩ : Number), (⟨#[]⟩ : ByteArray), (⟨#[]⟩ : ByteArray), 1, x27.Target, 0, 0⟩ : zB)).bind fun r28 =>
  some r28) ((idx a1.Args 2).bind fun x29 => (idx r21.2.zJ.zS x29).bind fun x30 =>
  (zb r21.2 (⟨6, 0, 0, 0, 0, (⟨false, 0, 0⟩ : zK), (⟨false, 0, 0⟩ : zK), (⟨0, 0, 0⟩ : DataType), (⟨0, 0, 0⟩ : DataType), false, false, (⟨0, 0⟩ : Number), (⟨#[]⟩ : ByteArray), (⟨#[]⟩ : ByteArray), 2, x30.Target, 0, 0⟩ : zB)).bind fun r31 =>
  some r31)))
def zer.k (N : Nat) : Kq := ⟨120, (ctv [.ptr Ty.zG true [4], .val Ty.zM] [] [Ty.zG] [] [Ty.zG, Ty.zM] (zer N)), go [zb.k, zaa.k N, zc6.k, ze3.k N] {pk := [1000000]} [] Proofs.Tryz.func120⟩
def zd4 (N : Nat) (a0 : zG) (a1 : zM) : Option zG :=
 (idx a1.Args 0).bind fun x1 => (idx a0.layout x1).bind fun x2 => cond (a1.Op == 10) ((idx a1.Args 1).bind fun x3 => (zn N a0 x3).bind fun r4 =>
  (idx a1.Args 1).bind fun x5 => (idx a0.zJ.zS x5).bind fun x6 =>
  (zb a0 (⟨14, 0, 0, 0, 0, r4, (⟨false, 0, 0⟩ : zK), x6.zD, (⟨0, 0, 0⟩ : DataType), false, false, (⟨0, 0⟩ : Number), (⟨#[]⟩ : ByteArray), (⟨#[]⟩ : ByteArray), 0, 0, x2, 0⟩ : zB)).bind fun r7 =>
  some r7) (cond (a1.Op == 11) ((idx a1.Args 1).bind fun x8 => (idx a0.layout x8).bind fun x9 =>
  (zb a0 (⟨15, 0, 0, 0, 0, (⟨false, 0, 0⟩ : zK), (⟨false, 0, 0⟩ : zK), (⟨0, 0, 0⟩ : DataType), (⟨0, 0, 0⟩ : DataType), false, false, (⟨0, 0⟩ : Number), (⟨#[]⟩ : ByteArray), (⟨#[]⟩ : ByteArray), 0, 0, x2, x9⟩ : zB)).bind fun r10 =>
  some r10) (cond (a1.Op == 12)
  ((zb a0 (⟨17, 0, 0, 0, 0, (⟨false, 0, 0⟩ : zK), (⟨false, 0, 0⟩ : zK), (⟨0, 0, 0⟩ : DataType), (⟨0, 0, 0⟩ : DataType), false, false, (⟨0, 0⟩ : Number), (⟨#[]⟩ : ByteArray), (⟨#[]⟩ : ByteArray), 0, 0, x2, 0⟩ : zB)).bind fun r11 =>
  (idx a1.Args 1).bind fun x12 => (zaa N r11 0 x12).bind fun r13 =>
  (zb r13 (⟨16, 0, 0, 0, 0, (⟨false, 0, 0⟩ : zK), (⟨false, 0, 0⟩ : zK), (⟨0, 0, 0⟩ : DataType), (⟨0, 0, 0⟩ : DataType), false, false, (⟨0, 0⟩ : Number), (⟨#[]⟩ : ByteArray), (⟨#[]⟩ : ByteArray), 0, 0, x2, 0⟩ : zB)).bind fun r14 =>
  some r14) (some a0)))
def zd4.k (N : Nat) : Kq := ⟨121, (ctv [.ptr Ty.zG true [4], .val Ty.zM] [] [Ty.zG] [] [Ty.zG, Ty.zM] (zd4 N)), go [zb.k, zaa.k N, zn.k N] {lits := [26], pk := [1000000]} [] Proofs.Tryz.func121⟩
def ze4 (N : Nat) (a0 : zG) (a1 : Int) : Option zG :=
 (idx a0.zJ.zS a1).bind fun x1 => (zc6 x1).bind fun r2 => cond r2 ((zaa N a0 0 a1).bind fun r3 =>
  (zb r3 (⟨22, 0, 0, 0, 0, (⟨false, 0, 0⟩ : zK), (⟨false, 0, 0⟩ : zK), (⟨0, 0, 0⟩ : DataType), (⟨0, 0, 0⟩ : DataType), false, false, (⟨0, 0⟩ : Number), (⟨#[]⟩ : ByteArray), (⟨#[]⟩ : ByteArray), 0, 0, 0, 0⟩ : zB)).bind fun r4 =>
  some r4) ((za8 x1).bind fun r5 =>
  cond r5 ((zb a0 (⟨24, 0, 0, 0, 0, (⟨false, 0, 0⟩ : zK), (⟨false, 0, 0⟩ : zK), (⟨0, 0, 0⟩ : DataType), (⟨0, 0, 0⟩ : DataType), false, false, (⟨0, 0⟩ : Number), x1.Value.S, (⟨#[]⟩ : ByteArray), 0, 0, 0, 0⟩ : zB)).bind fun r6 =>
  some r6) ((zn N a0 a1).bind fun r7 =>
  (zb a0 (⟨23, 0, 0, 0, 0, r7, (⟨false, 0, 0⟩ : zK), x1.zD, (⟨0, 0, 0⟩ : DataType), false, false, (⟨0, 0⟩ : Number), (⟨#[]⟩ : ByteArray), (⟨#[]⟩ : ByteArray), 0, 0, 0, 0⟩ : zB)).bind fun r8 =>
  some r8))
def ze4.k (N : Nat) : Kq := ⟨124, (ctv [.ptr Ty.zG true [4], .val T6] [] [Ty.zG] [] [Ty.zG, T6] (ze4 N)), go [zb.k, zaa.k N, zc6.k, za8.k, zn.k N] {lits := [16], pk := [1000000]} [] Proofs.Tryz.func124⟩
def zdk (N : Nat) (a0 : zG) (a1 : zM) : Option zG :=
 (zb a0 (⟨25, 0, 0, 0, 0, (⟨false, 0, 0⟩ : zK), (⟨false, 0, 0⟩ : zK), (⟨0, 0, 0⟩ : DataType), (⟨0, 0, 0⟩ : DataType), false, false, (⟨0, 0⟩ : Number), (⟨#[]⟩ : ByteArray), (⟨#[]⟩ : ByteArray), 0, 0, 0, 0⟩ : zB)).bind fun r1 =>
  (cond (a1.Op == 0) (some (a1.Op == 0)) (some (a1.Op == 1))).bind fun q2 => cond q2 ((zfd N r1 a1).bind fun r3 => some r3) ((cond (a1.Op == 2)
  (some (a1.Op == 2)) (cond (a1.Op == 3) (some (a1.Op == 3)) (cond (a1.Op == 4) (some (a1.Op == 4)) (cond (a1.Op == 5) (some (a1.Op == 5)) (some (a1.Op == 6)))))).bind fun q4 =>
  cond q4 ((zdx N r1 a1).bind fun r5 => some r5) ((cond (a1.Op == 7) (some (a1.Op == 7)) (some (a1.Op == 8))).bind fun q6 =>
  cond q6 ((zer N r1 a1).bind fun r7 => some r7) (cond (a1.Op == 9) ((idx a1.Args 0).bind fun x8 => (idx r1.zJ.zS x8).bind fun x9 =>
  (zb r1 (⟨8, 0, 0, 0, 0, (⟨false, 0, 0⟩ : zK), (⟨false, 0, 0⟩ : zK), (⟨0, 0, 0⟩ : DataType), (⟨0, 0, 0⟩ : DataType), false, false, (⟨0, 0⟩ : Number), (⟨#[]⟩ : ByteArray), (⟨#[]⟩ : ByteArray), 0, x9.Target, 0, 0⟩ : zB)).bind fun r10 =>
  some r10) (cond (a1.Op == 13) ((idx a1.Args 0).bind fun x11 => (idx r1.zJ.zS x11).bind fun x12 =>
  (zb r1 (⟨18, 0, 0, 0, 0, (⟨false, 0, 0⟩ : zK), (⟨false, 0, 0⟩ : zK), (⟨0, 0, 0⟩ : DataType), (⟨0, 0, 0⟩ : DataType), false, false, (⟨0, 0⟩ : Number), (⟨#[]⟩ : ByteArray), (⟨#[]⟩ : ByteArray), 0, x12.Target, 0, 0⟩ : zB)).bind fun r13 =>
  some r13) ((cond (a1.Op == 10) (some (a1.Op == 10)) (cond (a1.Op == 11) (some (a1.Op == 11)) (some (a1.Op == 12)))).bind fun q14 =>
  cond q14 ((zd4 N r1 a1).bind fun r15 => some r15) (cond (a1.Op == 14)
  ((zb r1 (⟨19, 0, 0, 0, 0, (⟨false, 0, 0⟩ : zK), (⟨false, 0, 0⟩ : zK), (⟨0, 0, 0⟩ : DataType), (⟨0, 0, 0⟩ : DataType), false, false, (⟨0, 0⟩ : Number), (⟨#[]⟩ : ByteArray), (⟨#[]⟩ : ByteArray), 0, 0, 0, 0⟩ : zB)).bind fun r16 =>
  some r16) (cond (a1.Op == 15) ((idx a1.Args 0).bind fun x17 => (zaa N r1 0 x17).bind fun r18 =>
  (zb r18 (⟨20, 0, 0, 0, 0, (⟨false, 0, 0⟩ : zK), (⟨false, 0, 0⟩ : zK), (⟨0, 0, 0⟩ : DataType), (⟨0, 0, 0⟩ : DataType), false, false, (⟨0, 0⟩ : Number), (⟨#[]⟩ : ByteArray), (⟨#[]⟩ : ByteArray), 0, 0, 0, 0⟩ : zB)).bind fun r19 =>
  some r19) (cond (a1.Op == 16)
  ((zb r1 (⟨21, 0, 0, 0, 0, (⟨false, 0, 0⟩ : zK), (⟨false, 0, 0⟩ : zK), (⟨0, 0, 0⟩ : DataType), (⟨0, 0, 0⟩ : DataType), false, false, (⟨0, 0⟩ : Number), (⟨#[]⟩ : ByteArray), (⟨#[]⟩ : ByteArray), 0, 0, 0, 0⟩ : zB)).bind fun r20 =>
  (idx a1.Args 0).bind fun x21 => (zb0 N r20 x21 false).bind fun r22 => some r22) (cond (a1.Op == 17) ((idx a1.Args 0).bind fun x23 =>
  (ze4 N r1 x23).bind fun r24 => some r24) (cond (a1.Op == 18)
  ((zb r1 (⟨26, 0, 0, 0, 0, (⟨false, 0, 0⟩ : zK), (⟨false, 0, 0⟩ : zK), (⟨0, 0, 0⟩ : DataType), (⟨0, 0, 0⟩ : DataType), false, false, (⟨0, 0⟩ : Number), (⟨#[]⟩ : ByteArray), (⟨#[]⟩ : ByteArray), 0, 0, 0, 0⟩ : zB)).bind fun r25 =>
  some r25) (some r1)))))))))))
def zdk.k (N : Nat) : Kq := ⟨82, (ctv [.ptr Ty.zG true [4], .val Ty.zM] [] [Ty.zG] [] [Ty.zG, Ty.zM] (zdk N)), go [zb.k, zfd.k N, zdx.k N, zer.k N, zd4.k N, zaa.k N, zb0.k N, ze4.k N] {pk := [1000000], bj := [9, 15, 24, 64]} [] Proofs.Tryz.func82⟩
def zc9.b0 (N : Nat) (s1 : List Int) (s5 : List zP) (s8 : List zT) (s9 : Int) (s10 : Int) : Option (Stp ((List Int) × (List zP) × (List zT) × Int × Int)) :=
 cond (decide (s10 < s9)) ((idx s8 s10).bind fun x1001 => (idx s1 x1001.From).bind fun x1002 => (idx s1 x1001.To).bind fun x1003 => (idx s1 x1001.Handler).bind fun x1004 =>
  cond (Nat.ble ((s5.length + ([(⟨x1002, x1003, x1001.Exception, x1004⟩ : zP)] : List zP).length) * 32) zak)
  (some (.again (s1, (s5 ++ ([(⟨x1002, x1003, x1001.Exception, x1004⟩ : zP)] : List zP)), s8, s9, (w6 (s10 + 1))))) none) (some (.leave (s1, s5, s8, s9, s10)))
def zc9.r0 (N : Nat) (x : (List Int) × (List zP) × (List zT) × Int × Int) := zc9.b0 N x.1 x.2.1 x.2.2.1 x.2.2.2.1 x.2.2.2.2
def zc9 (N : Nat) (a0 : List zT) (a1 : List Int) : Option ((List zP)) :=
 (zf (zc9.r0 N) N (a1, [], a0, (a0.length : Int), 0)).bind fun y1 => some y1.2.1
def zc9.k (N : Nat) : Kq := ⟨85, (cvv [(Ty.sl Ty.zP)] [(Ty.sl Ty.zT), (Ty.sl T6)] (zc9 N)), go [] {lits := [33]} [(0, .plain { slots := [(1, .val (Ty.sl T6)), (5, .own 5000005 Ty.zP), (8, .val (Ty.sl Ty.zT)), (9, .val T6), (10, .val T6)], boxes := [] } [(Ty.sl T6), (Ty.sl Ty.zP), (Ty.sl Ty.zT), T6, T6] (zf (zc9.r0 N) N))] Proofs.Tryz.func85 (hL := ⟨⟨_, _, rfl, by kernel_rfl⟩, trivial⟩)⟩
def za6.b0 (N : Nat) (s13 : List Int) (s55 : List zM) (s56 : Int) (s57 : Int) (b2 : zJ) (b4 : zF) (b5 : zX) (b11 : Storage) (b53 : zG) : Option (Stp ((List Int) × (List zM) × Int × Int × zJ × zF × zX × Storage × zG)) :=
 cond (decide (s57 < s56)) ((idx s55 s57).bind fun x1001 => cond (Nat.ble ((s13.length + ([(b53.code.length : Int)] : List Int).length) * 8) zak)
  ((zdk N b53 x1001).bind fun r1002 =>
  some (.again ((s13 ++ ([(b53.code.length : Int)] : List Int)), s55, s56, (w6 (s57 + 1)), b2, b4, b5, b11, r1002))) none)
  (some (.leave (s13, s55, s56, s57, b2, b4, b5, b11, b53)))
def za6.r0 (N : Nat) (x : (List Int) × (List zM) × Int × Int × zJ × zF × zX × Storage × zG) := za6.b0 N x.1 x.2.1 x.2.2.1 x.2.2.2.1 x.2.2.2.2.1 x.2.2.2.2.2.1 x.2.2.2.2.2.2.1 x.2.2.2.2.2.2.2.1 x.2.2.2.2.2.2.2.2
def za6.b2 (N : Nat) (s13 : List Int) (s88 : Int) (s89 : Int) (b2 : zJ) (b4 : zF) (b5 : zX) (b11 : Storage) (b53 : zG) : Option (Stp ((List Int) × Int × Int × zJ × zF × zX × Storage × zG)) :=
 cond (decide (s89 < s88)) (if 0 ≤ s89 then (if s89 < (b53.code.length : Int) then ((b53.code[s89.toNat]?).bind fun x3001 => (zcm x3001.Op).bind fun r3002 =>
  cond r3002 (if 0 ≤ x3001.Target then (if x3001.Target < (s13.length : Int) then ((s13[x3001.Target.toNat]?).bind fun x3003 =>
  if 0 ≤ s89 then (if s89 < (b53.code.length : Int) then ((b53.code[s89.toNat]?).bind fun x3004 =>
  some (.again (s13, s88, (w6 (s89 + 1)), b2, b4, b5, b11, (⟨b53.zJ, b53.layout, (b53.code.set s89.toNat (⟨x3004.Op, x3004.R, x3004.A, x3004.B, x3004.zO, x3004.Place, x3004.From, x3004.zD, x3004.Second, x3004.Half, x3004.zN, x3004.Number, x3004.Text, x3004.Other, x3004.Mask, x3003, x3004.Pointer, x3004.Source⟩ : zB))⟩ : zG)))) else none) else none) else none) else none)
  (some (.again (s13, s88, (w6 (s89 + 1)), b2, b4, b5, b11, b53)))) else none) else none) (some (.leave (s13, s88, s89, b2, b4, b5, b11, b53)))
def za6.r2 (N : Nat) (x : (List Int) × Int × Int × zJ × zF × zX × Storage × zG) := za6.b2 N x.1 x.2.1 x.2.2.1 x.2.2.2.1 x.2.2.2.2.1 x.2.2.2.2.2.1 x.2.2.2.2.2.2.1 x.2.2.2.2.2.2.2
def za6 (N : Nat) (a0 : zJ) (a1 : zI) : Option (zF × zX × Int) :=
 (zgk N a0).bind fun r1 => (zc7 a1).bind fun r2 => (za4 N ([r1, r2] : List Int)).bind fun r3 => cond (r3 != 0)
  (some ((⟨(⟨(⟨#[]⟩ : ByteArray), []⟩ : Storage), [], []⟩ : zF), (⟨[]⟩ : zX), r3)) ((zj6 N a0).bind fun r4 => cond (r4.2.2 != 0)
  (some ((⟨(⟨(⟨#[]⟩ : ByteArray), []⟩ : Storage), [], []⟩ : zF), (⟨[]⟩ : zX), r4.2.2)) ((zb7 N a0).bind fun r5 => cond (r5.2 != 0)
  (some ((⟨(⟨(⟨#[]⟩ : ByteArray), []⟩ : Storage), [], []⟩ : zF), (⟨[]⟩ : zX), r5.2))
  ((zf (za6.r0 N) N ([], a0.zC, (a0.zC.length : Int), 0, a0, (⟨(⟨(⟨#[]⟩ : ByteArray), []⟩ : Storage), [], []⟩ : zF), (⟨[]⟩ : zX), r5.1, (⟨a0, r4.1, []⟩ : zG))).bind fun y6 =>
  cond (Nat.ble ((y6.1.length + ([(y6.2.2.2.2.2.2.2.2.code.length : Int)] : List Int).length) * 8) zak)
  ((zb y6.2.2.2.2.2.2.2.2 (⟨26, 0, 0, 0, 0, (⟨false, 0, 0⟩ : zK), (⟨false, 0, 0⟩ : zK), (⟨0, 0, 0⟩ : DataType), (⟨0, 0, 0⟩ : DataType), false, false, (⟨0, 0⟩ : Number), (⟨#[]⟩ : ByteArray), (⟨#[]⟩ : ByteArray), 0, 0, 0, 0⟩ : zB)).bind fun r7 =>
  (zf (za6.r2 N) N ((y6.1 ++ ([(y6.2.2.2.2.2.2.2.2.code.length : Int)] : List Int)), (r7.code.length : Int), 0, y6.2.2.2.2.1, y6.2.2.2.2.2.1, y6.2.2.2.2.2.2.1, y6.2.2.2.2.2.2.2.1, r7)).bind fun y8 =>
  (zc9 N y8.2.2.2.1.yA y8.1).bind fun r9 => some ((⟨y8.2.2.2.2.2.2.1, y8.2.2.2.2.2.2.2.code, r9⟩ : zF), (⟨y8.1⟩ : zX), 0)) none)))
def za6.k (N : Nat) : Kq := ⟨27, (cvv [Ty.zF, Ty.zX, T6] [Ty.zJ, Ty.zI] (za6 N)), go [za4.k N, zgk.k N, zc7.k, zj6.k N, zb7.k N, zdk.k N, zb.k, zcm.k, zc9.k N] {pre := [(26, [13])], lits := [19, 21, 22, 66, 67, 78, 79]} [(0, .plain { slots := [(2, .ptr 2 0), (4, .ptr 4 0), (5, .ptr 5 0), (11, .ptr 11 0), (12, .ptr 53 0), (13, .own 5000013 T6), (55, .val (Ty.sl Ty.zM)), (56, .val T6), (57, .val T6)], boxes := [(2, Ty.zJ, []), (4, Ty.zF, [1, 2, 3]), (5, Ty.zX, [0]), (11, Ty.Storage, []), (53, Ty.zG, [4])] } [(Ty.sl T6), (Ty.sl Ty.zM), T6, T6, Ty.zJ, Ty.zF, Ty.zX, Ty.Storage, Ty.zG] (zf (za6.r0 N) N)), (2, .plain { slots := [(2, .ptr 2 0), (4, .ptr 4 0), (5, .ptr 5 0), (11, .ptr 11 0), (12, .ptr 53 0), (13, .own 5000013 T6), (87, .ofbox 12 53 4), (88, .val T6), (89, .val T6)], boxes := [(2, Ty.zJ, []), (4, Ty.zF, [1, 2, 3]), (5, Ty.zX, [0]), (11, Ty.Storage, []), (53, Ty.zG, [4])] } [(Ty.sl T6), T6, T6, Ty.zJ, Ty.zF, Ty.zX, Ty.Storage, Ty.zG] (zf (za6.r2 N) N))] Proofs.Tryz.func27 (hL := ⟨⟨_, _, rfl, by kernel_rfl⟩, ⟨_, _, rfl, by kernel_rfl⟩, trivial⟩)⟩
def zkh (N : Nat)  : Option Bool :=
 (zmc N).bind fun r1 => (zbd N (⟨2, false, false⟩ : zI) r1).bind fun r2 => (zmd).bind fun r3 =>
  (za6 N r3 (⟨2, false, false⟩ : zI)).bind fun r4 => (cond (r2.2.2 == 0) (some ((r2.1.zC.length : Int) == 3)) (some false)).bind fun g5 =>
  (cond g5 ((idx r2.1.zC 1).bind fun x6 =>
  some (zdb [(x6.Op == 3), (x6.R == 1), (x6.A == 0), (x6.B == 0), (x6.zO == 0), (x6.Place.Based == false), (x6.Place.Pointer == 0), (x6.Place.Offset == 0), (x6.From.Based == false), (x6.From.Pointer == 0), (x6.From.Offset == 0), (x6.zD.Kind == 0), (x6.zD.Length == 0), (x6.zD.Scale == 0), (x6.Second.Kind == 0), (x6.Second.Length == 0), (x6.Second.Scale == 0), (x6.Half == false), (x6.zN == false), (x6.Number.N == 0), (x6.Number.Scale == 0), (x6.Text == (⟨#[]⟩ : ByteArray)), (x6.Other == (⟨#[]⟩ : ByteArray)), (x6.Mask == 0), (x6.Target == 0), (x6.Pointer == 0), (x6.Source == 0)]))
  (some false)).bind fun g7 => (cond g7 (some (r4.2.2 == 0)) (some false)).bind fun g8 => (cond g8 (some ((r4.2.1.Starts.length : Int) == 4)) (some false)).bind fun g9 => some g9
def zkh.k (N : Nat) : Kq := ⟨7, (cvv [Ty.bool] [] (zkh N)), go [zbd.k N, zmc.k N, za6.k N, zmd.k] {lits := [9, 15]} [] Proofs.Tryz.func7⟩
def zf0 (a0 : Storage) : Option Bool :=
 (cond (decide ((a0.Bytes.size : Int) ≤ 1072)) (some (decide ((a0.Tags.length : Int) ≤ 67))) (some false)).bind fun g1 => some g1
def zf0.k : Kq := ⟨29, (cvv [Ty.bool] [Ty.Storage] zf0), go [] {} [] Proofs.Tryz.func29⟩
def zdv.b0 (N : Nat) (s3 : Int) (b1 : zF) : Option (Round Bool (Int × zF)) :=
 (cond (decide (s3 < (b1.zC.length : Int))) (some (decide (s3 < 244))) (some false)).bind fun g1001 => cond g1001 ((idx b1.zC s3).bind fun x1002 =>
  (cond (decide ((x1002.Text.size : Int) > 300)) (some true) ((idx b1.zC s3).bind fun x1003 => some (decide ((x1003.Other.size : Int) > 300)))).bind fun g1004 =>
  cond g1004 (some (.result false)) (some (.again ((w6 (s3 + 1)), b1)))) (some (.leave (s3, b1)))
def zdv.r0 (N : Nat) (x : Int × zF) := zdv.b0 N x.1 x.2
def zdv (N : Nat) (a0 : zF) : Option Bool :=
 (zk (zdv.r0 N) N (0, a0)).bind fun z2 => zaz z2 (fun z => some z) (fun y1 => (zf0 y1.2.Storage).bind fun r3 =>
  (cond r3 (some (decide ((y1.2.zC.length : Int) < 244))) (some false)).bind fun g4 => (cond g4 (some (decide ((y1.2.zQ.length : Int) < 44)))
  (some false)).bind fun g5 => some g5)
def zdv.k (N : Nat) : Kq := ⟨8, (cvv [Ty.bool] [Ty.zF] (zdv N)), go [zf0.k] {} [(0, .rets { slots := [(1, .ptr 1 0), (3, .val T6)], boxes := [(1, Ty.zF, [])] } [T6, Ty.zF] (zk (zdv.r0 N) N))] Proofs.Tryz.func8 (hL := ⟨⟨_, _, rfl, by kernel_rfl⟩, trivial⟩)⟩
def zbx.b0 (N : Nat) (s0 : List (List zA)) (s3 : Int) : Option (Round Bool ((List (List zA)) × Int)) :=
 (cond (decide (s3 < (s0.length : Int))) (some (decide (s3 ≤ 250))) (some false)).bind fun g1001 => cond g1001 ((idx s0 s3).bind fun x1002 =>
  cond (decide ((x1002.length : Int) > 64)) (some (.result false)) (some (.again (s0, (w6 (s3 + 1)))))) (some (.leave (s0, s3)))
def zbx.r0 (N : Nat) (x : (List (List zA)) × Int) := zbx.b0 N x.1 x.2
def zbx (N : Nat) (a0 : List (List zA)) : Option Bool :=
 (zk (zbx.r0 N) N (a0, 0)).bind fun z2 => zaz z2 (fun z => some z) (fun y1 => some (decide ((y1.1.length : Int) ≤ 250)))
def zbx.k (N : Nat) : Kq := ⟨17, (cvv [Ty.bool] [(Ty.sl (Ty.sl Ty.zA))] (zbx N)), go [] {} [(0, .rets { slots := [(0, .val (Ty.sl (Ty.sl Ty.zA))), (3, .val T6)], boxes := [] } [(Ty.sl (Ty.sl Ty.zA)), T6] (zk (zbx.r0 N) N))] Proofs.Tryz.func17 (hL := ⟨⟨_, _, rfl, by kernel_rfl⟩, trivial⟩)⟩
def zil (a0 : List Bool) : Option ((List Bool)) :=
 cond (Nat.ble (a0.length * 1) zak) (some a0) none
def zil.k : Kq := ⟨90, (ctv [.val (Ty.sl Ty.bool)] [(Ty.sl Ty.bool)] [] [0] [(Ty.sl Ty.bool)] zil), go [] {} [] Proofs.Tryz.func90⟩
def zhz (a0 : Storage) : Option Storage :=
 (zil a0.Tags).bind fun r1 => some (⟨a0.Bytes, r1⟩ : Storage)
def zhz.k : Kq := ⟨34, (ctv [.val Ty.Storage] [Ty.Storage] [] [1] [Ty.Storage] zhz), go [zil.k] {} [] Proofs.Tryz.func34⟩
def zho (a0 : zF) : Option zF :=
 (zhz a0.Storage).bind fun r1 => cond (Nat.ble (a0.zC.length * 224) zak) (cond (Nat.ble (a0.zQ.length * 32) zak)
  (some (⟨r1, a0.zC, a0.zQ⟩ : zF)) none) none
def zho.k : Kq := ⟨10, (cvv [Ty.zF] [Ty.zF] zho), go [zhz.k] {} [] Proofs.Tryz.func10⟩
def zbv.b0 (N : Nat) (s0 : List (List zA)) (s3 : List (List zA)) (s4 : Int) : Option (Stp ((List (List zA)) × (List (List zA)) × Int)) :=
 cond (decide (s4 < (s0.length : Int))) ((idx s0 s4).bind fun x1001 => cond (Nat.ble (x1001.length * 40) zak)
  (cond (Nat.ble ((s3.length + ([x1001] : List (List zA)).length) * 24) zak)
  (some (.again (s0, (s3 ++ ([x1001] : List (List zA))), (w6 (s4 + 1))))) none) none) (some (.leave (s0, s3, s4)))
def zbv.r0 (N : Nat) (x : (List (List zA)) × (List (List zA)) × Int) := zbv.b0 N x.1 x.2.1 x.2.2
def zbv (N : Nat) (a0 : List (List zA)) : Option ((List (List zA))) :=
 (zf (zbv.r0 N) N (a0, [], 0)).bind fun y1 => some y1.2.1
def zbv.k (N : Nat) : Kq := ⟨21, (cvv [(Ty.sl (Ty.sl Ty.zA))] [(Ty.sl (Ty.sl Ty.zA))] (zbv N)), go [] {lits := [16, 17]} [(0, .plain { slots := [(0, .val (Ty.sl (Ty.sl Ty.zA))), (3, .own 5000003 (Ty.sl Ty.zA)), (4, .val T6)], boxes := [] } [(Ty.sl (Ty.sl Ty.zA)), (Ty.sl (Ty.sl Ty.zA)), T6] (zf (zbv.r0 N) N))] Proofs.Tryz.func21 (hL := ⟨⟨_, _, rfl, by kernel_rfl⟩, trivial⟩)⟩
def zif (a0 : Bool) (a1 : Int) : Option Int :=
 cond a0 (some a1) (some 0)
def zif.k : Kq := ⟨55, (cvv [T6] [Ty.bool, T6] zif), go [] {} [] Proofs.Tryz.func55⟩
def zg5 (a0 : Int) (a1 : Int) (a2 : Int) : Option Bool :=
 (cond (decide (a1 ≤ a0)) (some (decide (a0 ≤ a2))) (some false)).bind fun g1 => some g1
def zg5.k : Kq := ⟨74, (cvv [Ty.bool] [T6, T6, T6] zg5), go [] {} [] Proofs.Tryz.func74⟩
def za1.b0 (N : Nat) (s12 : List zA) (s13 : Int) (s14 : Int) (b3 : zI) (b4 : zF) : Option (Round Int ((List zA) × Int × Int × zI × zF)) :=
 cond (decide (s14 < s13)) ((idx s12 s14).bind fun x1001 => (zg5 x1001.Register 0 (w6 (b3.Registers - 1))).bind fun r1002 => cond (!r1002)
  (some (.result 3)) ((zbh N x1001.zD).bind fun r1003 => (cond (r1003 != 0) (some true) (some (x1001.zD.Kind == 0))).bind fun g1004 => (cond g1004 (some true)
  (some (x1001.zD.Kind == 4))).bind fun g1005 => cond g1005 (some (.result 17)) ((cond (x1001.Offset != (-1)) ((zds N x1001.zD).bind fun r1006 =>
  (zg5 x1001.Offset 0 (w6 ((b4.Storage.Bytes.size : Int) - r1006))).bind fun r1007 => some (!r1007)) (some false)).bind fun g1008 =>
  cond g1008 (some (.result 3)) (some (.again (s12, s13, (w6 (s14 + 1)), b3, b4)))))) (some (.leave (s12, s13, s14, b3, b4)))
def za1.r0 (N : Nat) (x : (List zA) × Int × Int × zI × zF) := za1.b0 N x.1 x.2.1 x.2.2.1 x.2.2.2.1 x.2.2.2.2
def za1 (N : Nat) (a0 : zI) (a1 : zF) (a2 : List zA) : Option Int :=
 cond (decide ((a2.length : Int) > 60)) (some 2) ((zk (za1.r0 N) N (a2, (a2.length : Int), 0, a0, a1)).bind fun z2 => zaz z2 (fun z => some z) (fun y1 => some 0))
def za1.k (N : Nat) : Kq := ⟨56, (cvv [T6] [Ty.zI, Ty.zF, (Ty.sl Ty.zA)] (za1 N)), go [zg5.k, zbh.k N, zds.k N] {} [(0, .rets { slots := [(3, .ptr 3 0), (4, .ptr 4 0), (12, .val (Ty.sl Ty.zA)), (13, .val T6), (14, .val T6)], boxes := [(3, Ty.zI, []), (4, Ty.zF, [])] } [(Ty.sl Ty.zA), T6, T6, Ty.zI, Ty.zF] (zk (za1.r0 N) N))] Proofs.Tryz.func56 (hL := ⟨⟨_, _, rfl, by kernel_rfl⟩, trivial⟩)⟩
def zen (N : Nat) (a0 : zA) (a1 : List zA) : Option Bool :=
 (zar N a1 a0).bind fun r1 => some (!r1)
def zen.k (N : Nat) : Kq := ⟨61, (ctv [.val Ty.zA, .ptr (Ty.sl Ty.zA) false []] [Ty.bool] [] [] [Ty.zA, (Ty.sl Ty.zA)] (zen N)), go [zar.k N] {ro := [1000000], pk := [1000000]} [] Proofs.Tryz.func61⟩
def zt.b0 (N : Nat) (s0 : List zA) (s7 : Int) (s8 : Int) (b1000000 : List zA) : Option (Round Int ((List zA) × Int × Int × (List zA))) :=
 cond (decide (s8 < s7)) ((idx s0 s8).bind fun x1001 => (zen N x1001 b1000000).bind fun r1002 => cond r1002 (some (.result s8))
  (some (.again (s0, s7, (w6 (s8 + 1)), b1000000)))) (some (.leave (s0, s7, s8, b1000000)))
def zt.r0 (N : Nat) (x : (List zA) × Int × Int × (List zA)) := zt.b0 N x.1 x.2.1 x.2.2.1 x.2.2.2
def zt (N : Nat) (a0 : List zA) (a1 : List zA) : Option Int :=
 (zk (zt.r0 N) N (a0, (a0.length : Int), 0, a1)).bind fun z2 => zaz z2 (fun z => some z) (fun y1 => some (-1))
def zt.k (N : Nat) : Kq := ⟨108, (ctv [.val (Ty.sl Ty.zA), .clo 61 1, .ptr (Ty.sl Ty.zA) false []] [T6] [] [] [(Ty.sl Ty.zA), (Ty.sl Ty.zA)] (zt N)), go [zen.k N] {ro := [1000000], pk := [1000000]} [(0, .rets { slots := [(0, .val (Ty.sl Ty.zA)), (1, .fn 61 [1000000]), (7, .val T6), (8, .val T6)], boxes := [(1000000, (Ty.sl Ty.zA), [])] } [(Ty.sl Ty.zA), T6, T6, (Ty.sl Ty.zA)] (zk (zt.r0 N) N))] Proofs.Tryz.func108 (hL := ⟨⟨_, _, rfl, by kernel_rfl⟩, trivial⟩)⟩
def zbt (N : Nat) (a0 : List zA) (a1 : List zA) : Option Bool :=
 (zt N a0 a1).bind fun r1 => some (decide (r1 ≥ 0))
def zbt.k (N : Nat) : Kq := ⟨60, (ctv [.val (Ty.sl Ty.zA), .clo 61 1, .ptr (Ty.sl Ty.zA) false []] [Ty.bool] [] [] [(Ty.sl Ty.zA), (Ty.sl Ty.zA)] (zbt N)), go [zt.k N] {ro := [1000000], pk := [1000000]} [] Proofs.Tryz.func60⟩
def ze.b0 (N : Nat) (s2 : List (List zA)) (s34 : Int) (s35 : Int) (b3 : zI) (b4 : zF) : Option (Round (Int × Int) ((List (List zA)) × Int × Int × zI × zF)) :=
 cond (decide (s35 < s34)) ((idx s2 s35).bind fun x1001 => (za1 N b3 b4 x1001).bind fun r1002 => cond (r1002 != 0) (some (.result (s35, r1002)))
  (some (.again (s2, s34, (w6 (s35 + 1)), b3, b4)))) (some (.leave (s2, s34, s35, b3, b4)))
def ze.r0 (N : Nat) (x : (List (List zA)) × Int × Int × zI × zF) := ze.b0 N x.1 x.2.1 x.2.2.1 x.2.2.2.1 x.2.2.2.2
def ze.b4 (N : Nat) (s2 : List (List zA)) (s11 : List Bool) (s12 : List Bool) (s56 : Int) (s57 : Int) (s93 : List Int) (s94 : Int) (s95 : Int) (b4 : zF) (b14 : List zA) : Option (Stp ((List (List zA)) × (List Bool) × (List Bool) × Int × Int × (List Int) × Int × Int × zF × (List zA))) :=
 cond (decide (s95 < s94)) ((idx s93 s95).bind fun x5001 => if 0 ≤ x5001 then (if x5001 < (s12.length : Int) then ((s12[x5001.toNat]?).bind fun x5002 => (cond x5002 (some true)
  ((idx s2 x5001).bind fun x5003 => (zbt N x5003 b14).bind fun r5004 => some r5004)).bind fun g5005 =>
  if 0 ≤ x5001 then (if x5001 < (s12.length : Int) then ((s12[x5001.toNat]?).bind fun x5006 =>
  some (.again (s2, s11, (s12.set x5001.toNat g5005), s56, s57, s93, s94, (w6 (s95 + 1)), b4, b14))) else none) else none) else none) else none)
  (some (.leave (s2, s11, s12, s56, s57, s93, s94, s95, b4, b14)))
def ze.r4 (N : Nat) (x : (List (List zA)) × (List Bool) × (List Bool) × Int × Int × (List Int) × Int × Int × zF × (List zA)) := ze.b4 N x.1 x.2.1 x.2.2.1 x.2.2.2.1 x.2.2.2.2.1 x.2.2.2.2.2.1 x.2.2.2.2.2.2.1 x.2.2.2.2.2.2.2.1 x.2.2.2.2.2.2.2.2.1 x.2.2.2.2.2.2.2.2.2
def ze.b2 (N : Nat) (s2 : List (List zA)) (s11 : List Bool) (s12 : List Bool) (s56 : Int) (s57 : Int) (b4 : zF) : Option (Stp ((List (List zA)) × (List Bool) × (List Bool) × Int × Int × zF)) :=
 cond (decide (s57 < s56)) (if 0 ≤ s57 then (if s57 < (s12.length : Int) then ((s12[s57.toNat]?).bind fun x3001 => (cond x3001 (some true) ((idx s11 s57).bind fun x3002 =>
  (cond x3002 ((idx s2 s57).bind fun x3003 => some (decide ((x3003.length : Int) > 0))) (some false)).bind fun g3004 => some g3004)).bind fun g3005 =>
  if 0 ≤ s57 then (if s57 < (s12.length : Int) then ((s12[s57.toNat]?).bind fun x3006 => (idx b4.zC s57).bind fun x3007 => (idx s2 s57).bind fun x3008 =>
  (zd8 N x3007 x3008).bind fun r3009 => (zb5 b4 s57).bind fun r3010 =>
  (zf (ze.r4 N) N (s2, s11, (s12.set s57.toNat g3005), s56, s57, r3010, (r3010.length : Int), 0, b4, r3009)).bind fun y3011 =>
  some (.again (y3011.1, y3011.2.1, y3011.2.2.1, y3011.2.2.2.1, (w6 (y3011.2.2.2.2.1 + 1)), y3011.2.2.2.2.2.2.2.2.1))) else none) else none) else none) else none)
  (some (.leave (s2, s11, s12, s56, s57, b4)))
def ze.r2 (N : Nat) (x : (List (List zA)) × (List Bool) × (List Bool) × Int × Int × zF) := ze.b2 N x.1 x.2.1 x.2.2.1 x.2.2.2.1 x.2.2.2.2.1 x.2.2.2.2.2
def ze (N : Nat) (a0 : zI) (a1 : zF) (a2 : List (List zA)) : Option (Int × Int) :=
 (zep N a0 a1).bind fun r1 => (zif ((a2.length : Int) != (a1.zC.length : Int)) 6).bind fun r2 =>
  (za4 N ([r1, r2] : List Int)).bind fun r3 => cond (r3 != 0) (some (0, r3)) ((zk (ze.r0 N) N (a2, (a2.length : Int), 0, a0, a1)).bind fun z5 =>
  zaz z5 (fun z => some z) (fun y4 => (zr N y4.2.2.2.2).bind fun r6 =>
  if 0 ≤ (y4.1.length : Int) then (if (y4.1.length : Int) ≤ (y4.1.length : Int) then (cond (Nat.ble ((y4.1.length : Int).toNat * 1) zak)
  ((zf (ze.r2 N) N (y4.1, r6, (List.replicate (y4.1.length : Int).toNat (false : Bool)), (y4.1.length : Int), 0, y4.2.2.2.2)).bind fun y7 =>
  (zab N y7.2.2.1 true).bind fun r8 => cond (decide (r8 ≥ 0)) (some (r8, 42)) (some ((y7.1.length : Int), 0))) none) else none) else none))
def ze.k (N : Nat) : Kq := ⟨20, (cvv [T6, T6] [Ty.zI, Ty.zF, (Ty.sl (Ty.sl Ty.zA))] (ze N)), go [zep.k N, za4.k N, zif.k, za1.k N, zr.k N, zd8.k N, zb5.k, zbt.k N, zab.k N] {lits := [20, 27, 28]} [(0, .rets { slots := [(2, .val (Ty.sl (Ty.sl Ty.zA))), (3, .ptr 3 0), (4, .ptr 4 0), (34, .val T6), (35, .val T6)], boxes := [(3, Ty.zI, []), (4, Ty.zF, [])] } [(Ty.sl (Ty.sl Ty.zA)), T6, T6, Ty.zI, Ty.zF] (zk (ze.r0 N) N)), (4, .plain { slots := [(2, .val (Ty.sl (Ty.sl Ty.zA))), (4, .ptr 4 0), (11, .val (Ty.sl Ty.bool)), (12, .own 5000012 Ty.bool), (14, .ptr 14 0), (56, .val T6), (57, .val T6), (93, .val (Ty.sl T6)), (94, .val T6), (95, .val T6)], boxes := [(4, Ty.zF, []), (14, (Ty.sl Ty.zA), [])] } [(Ty.sl (Ty.sl Ty.zA)), (Ty.sl Ty.bool), (Ty.sl Ty.bool), T6, T6, (Ty.sl T6), T6, T6, Ty.zF, (Ty.sl Ty.zA)] (zf (ze.r4 N) N)), (2, .plain { slots := [(2, .val (Ty.sl (Ty.sl Ty.zA))), (4, .ptr 4 0), (11, .val (Ty.sl Ty.bool)), (12, .own 5000012 Ty.bool), (56, .val T6), (57, .val T6)], boxes := [(4, Ty.zF, [])] } [(Ty.sl (Ty.sl Ty.zA)), (Ty.sl Ty.bool), (Ty.sl Ty.bool), T6, T6, Ty.zF] (zf (ze.r2 N) N))] Proofs.Tryz.func20 (hL := ⟨⟨_, _, rfl, by kernel_rfl⟩, ⟨_, _, rfl, by kernel_rfl⟩, ⟨_, _, rfl, by kernel_rfl⟩, trivial⟩)⟩
def zj (a0 : Int) (a1 : Int) (a2 : Int) : Option Bool :=
 (cond (decide (a1 ≤ a0)) (some (decide (a0 ≤ a2))) (some false)).bind fun g1 => some g1
def zj.k : Kq := ⟨64, (cvv [Ty.bool] [T6, T6, T6] zj), go [] {} [] Proofs.Tryz.func64⟩
def zgx (a0 : zI) : Option Int :=
 (zj a0.Registers 2 8).bind fun r1 => cond (!r1) (some 3) (some 0)
def zgx.k : Kq := ⟨91, (cvv [T6] [Ty.zI] zgx), go [zj.k] {} [] Proofs.Tryz.func91⟩
def zlg (a0 : Storage) (a1 : Int) : Option ByteArray :=
 if 0 ≤ (w6 ((w6 (a1 * 16)) + 16)) ∧ (w6 ((w6 (a1 * 16)) + 16)) ≤ (a0.Bytes.size : Int) then (if 0 ≤ (w6 (a1 * 16)) ∧ (w6 (a1 * 16)) ≤ (w6 ((w6 (a1 * 16)) + 16)) then (some (a0.Bytes.extract (w6 (a1 * 16)).toNat (w6 ((w6 (a1 * 16)) + 16)).toNat)) else none) else none
def zlg.k : Kq := ⟨180, (cvv [Ty.str] [Ty.Storage, T6] zlg), go [] {} [] Proofs.Tryz.func180⟩
def zc4.b0 (N : Nat) (s0 : ByteArray) (s1 : Int) (s2 : Int) (s7 : Int) (s8 : Int) : Option (Stp (ByteArray × Int × Int × Int × Int)) :=
 cond (decide (s8 < s2)) ((znn s0 (w6 (s1 + s8))).bind fun x1001 =>
  some (.again (s0, s1, s2, (w6 ((w6 (s7 * 256)) + (w6 (x1001.toNat : Int)))), (w6 (s8 + 1)))))
  (some (.leave (s0, s1, s2, s7, s8)))
def zc4.r0 (N : Nat) (x : ByteArray × Int × Int × Int × Int) := zc4.b0 N x.1 x.2.1 x.2.2.1 x.2.2.2.1 x.2.2.2.2
def zc4 (N : Nat) (a0 : ByteArray) (a1 : Int) (a2 : Int) : Option Int :=
 (zf (zc4.r0 N) N (a0, a1, a2, 0, 0)).bind fun y1 => some y1.2.2.2.1
def zc4.k (N : Nat) : Kq := ⟨217, (cvv [T6] [Ty.str, T6, T6] (zc4 N)), go [] {} [(0, .plain { slots := [(0, .val Ty.str), (1, .val T6), (2, .val T6), (7, .val T6), (8, .val T6)], boxes := [] } [Ty.str, T6, T6, T6, T6] (zf (zc4.r0 N) N))] Proofs.Tryz.func217 (hL := ⟨⟨_, _, rfl, by kernel_rfl⟩, trivial⟩)⟩
def zfz (a0 : Pointer) : Option Int :=
 (zj a0.Kind 0 2).bind fun r1 => cond (!r1) (some 4) ((zj a0.Address.yC 0 1099511627775).bind fun r2 => (cond (!r2) (some true)
  ((zj a0.Address.Offset 0 16777215).bind fun r3 => some (!r3))).bind fun g4 => (cond g4 (some true) ((zj a0.Authority 0 1023).bind fun r5 =>
  some (!r5))).bind fun g6 => cond g6 (some 3) ((cond (a0.Kind != 1) (some (a0.Authority != 0)) (some false)).bind fun g7 => cond g7 (some 5) (some 0)))
def zfz.k : Kq := ⟨218, (cvv [T6] [Ty.Pointer] zfz), go [zj.k] {} [] Proofs.Tryz.func218⟩
def zlz (N : Nat) (a0 : ByteArray) : Option (Pointer × Int) :=
 cond ((a0.size : Int) != 16) (some ((⟨0, (⟨0, 0⟩ : Address), 0⟩ : Pointer), 18)) ((znn a0 1).bind fun x1 => cond ((x1.toNat : Int) != 0)
  (some ((⟨0, (⟨0, 0⟩ : Address), 0⟩ : Pointer), 5)) ((znn a0 0).bind fun x2 => (zc4 N a0 2 2).bind fun r3 => (zc4 N a0 4 6).bind fun r4 =>
  (zc4 N a0 10 6).bind fun r5 => (zfz (⟨(w6 (x2.toNat : Int)), (⟨r4, r5⟩ : Address), r3⟩ : Pointer)).bind fun r6 => cond (r6 != 0)
  (some ((⟨0, (⟨0, 0⟩ : Address), 0⟩ : Pointer), r6)) (some ((⟨(w6 (x2.toNat : Int)), (⟨r4, r5⟩ : Address), r3⟩ : Pointer), 0))))
def zlz.k (N : Nat) : Kq := ⟨179, (cvv [Ty.Pointer, T6] [Ty.str] (zlz N)), go [zc4.k N, zfz.k] {} [] Proofs.Tryz.func179⟩
def zcu.b0 (N : Nat) (s4 : Int) (s5 : Int) (b1 : Storage) : Option (Round (Int × Int) (Int × Int × Storage)) :=
 cond (decide (s5 < s4)) ((idx b1.Tags s5).bind fun x1001 => cond x1001 ((zlg b1 s5).bind fun r1002 => (zlz N r1002).bind fun r1003 => cond (r1003.2 != 0)
  (some (.result (s5, 22))) (some (.again (s4, (w6 (s5 + 1)), b1)))) (some (.again (s4, (w6 (s5 + 1)), b1)))) (some (.leave (s4, s5, b1)))
def zcu.r0 (N : Nat) (x : Int × Int × Storage) := zcu.b0 N x.1 x.2.1 x.2.2
def zcu (N : Nat) (a0 : Storage) : Option (Int × Int) :=
 cond (decide ((a0.Bytes.size : Int) > 1024)) (some (0, 2)) (cond (((a0.Bytes.size : Int).tmod 16) != 0) (some (0, 18))
  (cond ((a0.Tags.length : Int) != (w6 ((a0.Bytes.size : Int).tdiv 16))) (some (0, 6))
  ((zk (zcu.r0 N) N ((w6 ((a0.Bytes.size : Int).tdiv 16)), 0, a0)).bind fun z2 => zaz z2 (fun z => some z) (fun y1 => some (y1.1, 0)))))
def zcu.k (N : Nat) : Kq := ⟨133, (cvv [T6, T6] [Ty.Storage] (zcu N)), go [zlz.k N, zlg.k] {lits := [39]} [(0, .rets { slots := [(1, .ptr 1 0), (4, .val T6), (5, .val T6)], boxes := [(1, Ty.Storage, [])] } [T6, T6, Ty.Storage] (zk (zcu.r0 N) N))] Proofs.Tryz.func133 (hL := ⟨⟨_, _, rfl, by kernel_rfl⟩, trivial⟩)⟩
def zk3 (N : Nat) (a0 : Storage) : Option Int :=
 (zcu N a0).bind fun r1 => some r1.2
def zk3.k (N : Nat) : Kq := ⟨92, (cvv [T6] [Ty.Storage] (zk3 N)), go [zcu.k N] {} [] Proofs.Tryz.func92⟩
def zbw.b0 (N : Nat) (s3 : List Int) (s4 : Int) (b1 : Storage) : Option (Stp ((List Int) × Int × Storage)) :=
 cond (decide (s4 < (b1.Tags.length : Int))) ((idx b1.Tags s4).bind fun x1001 =>
  cond x1001 (cond (Nat.ble ((s3.length + ([(w6 (s4 * 16))] : List Int).length) * 8) zak)
  (some (.again ((s3 ++ ([(w6 (s4 * 16))] : List Int)), (w6 (s4 + 1)), b1))) none) (some (.again (s3, (w6 (s4 + 1)), b1))))
  (some (.leave (s3, s4, b1)))
def zbw.r0 (N : Nat) (x : (List Int) × Int × Storage) := zbw.b0 N x.1 x.2.1 x.2.2
def zbw (N : Nat) (a0 : Storage) : Option ((List Int)) :=
 (zf (zbw.r0 N) N ([], 0, a0)).bind fun y1 => some y1.1
def zbw.k (N : Nat) : Kq := ⟨93, (cvv [(Ty.sl T6)] [Ty.Storage] (zbw N)), go [] {lits := [20]} [(0, .plain { slots := [(1, .ptr 1 0), (3, .own 5000003 T6), (4, .val T6)], boxes := [(1, Ty.Storage, [])] } [(Ty.sl T6), T6, Ty.Storage] (zf (zbw.r0 N) N))] Proofs.Tryz.func93 (hL := ⟨⟨_, _, rfl, by kernel_rfl⟩, trivial⟩)⟩
def zdz (a0 : zB) : Option zL :=
 cond (a0.Op == 0) (some (⟨true, false, false, true, false, false, false, false, false, false, false, false, false, false, 1, 0⟩ : zL)) (cond (a0.Op == 1)
  (some (⟨true, false, false, true, false, true, false, false, false, false, false, false, false, false, 1, 0⟩ : zL)) (cond (a0.Op == 2)
  (some (⟨true, false, false, false, false, false, true, false, false, false, false, false, false, false, 0, 0⟩ : zL)) (cond (a0.Op == 3)
  (some (⟨true, true, false, false, false, false, false, false, false, false, false, false, false, false, 0, 0⟩ : zL)) (cond (a0.Op == 4)
  (cond a0.zN (some (⟨true, true, false, true, false, false, false, true, false, false, false, false, false, false, 1, 1⟩ : zL))
  (some (⟨true, true, true, false, false, false, false, true, false, false, false, false, false, false, 1, 0⟩ : zL))) (cond (a0.Op == 5)
  (some (⟨false, true, true, false, false, false, false, false, false, false, false, false, false, false, 0, 0⟩ : zL)) (cond (a0.Op == 6)
  (some (⟨false, false, false, false, false, false, false, false, true, true, false, false, false, false, 0, 0⟩ : zL)) (cond (a0.Op == 7)
  (some (⟨false, true, true, false, false, false, false, false, true, true, false, false, false, false, 0, 0⟩ : zL)) ((cond (a0.Op == 8) (some (a0.Op == 8))
  (some (a0.Op == 18))).bind fun q1 => cond q1 (some (⟨false, false, false, false, false, false, false, false, false, true, false, false, false, false, 0, 0⟩ : zL))
  ((cond (a0.Op == 9) (some (a0.Op == 9)) (some (a0.Op == 11))).bind fun q2 =>
  cond q2 (some (⟨false, false, false, true, true, false, false, false, false, false, false, false, false, false, 2, 2⟩ : zL)) ((cond (a0.Op == 10) (some (a0.Op == 10))
  (some (a0.Op == 12))).bind fun q3 => cond q3 (some (⟨false, false, false, true, false, false, false, false, false, false, true, false, false, false, 2, 0⟩ : zL))
  (cond (a0.Op == 13) (some (⟨false, false, false, false, false, false, false, false, false, false, true, true, false, false, 0, 0⟩ : zL)) (cond (a0.Op == 14)
  (some (⟨false, false, false, true, false, false, false, false, false, false, false, false, true, false, 3, 0⟩ : zL)) (cond (a0.Op == 15)
  (some (⟨false, false, false, false, false, false, false, false, false, false, false, false, true, true, 0, 0⟩ : zL)) (cond (a0.Op == 16)
  (some (⟨true, false, false, false, false, false, false, false, false, false, false, false, true, false, 0, 0⟩ : zL)) (cond (a0.Op == 17)
  (some (⟨false, false, false, false, false, false, false, false, false, false, false, false, true, false, 0, 0⟩ : zL)) ((cond (a0.Op == 20) (some (a0.Op == 20))
  (cond (a0.Op == 21) (some (a0.Op == 21)) (some (a0.Op == 22)))).bind fun q4 =>
  cond q4 (some (⟨true, false, false, false, false, false, false, false, false, false, false, false, false, false, 0, 0⟩ : zL)) (cond (a0.Op == 23)
  (some (⟨false, false, false, true, false, false, false, false, false, false, false, false, false, false, 2, 0⟩ : zL)) (cond (a0.Op == 24)
  (some (⟨false, false, false, false, false, false, false, false, false, false, true, false, false, false, 0, 0⟩ : zL))
  (some (⟨false, false, false, false, false, false, false, false, false, false, false, false, false, false, 0, 0⟩ : zL))))))))))))))))))))
def zdz.k : Kq := ⟨134, (cvv [Ty.zL] [Ty.zB] zdz), go [] {bj := [32, 36, 40, 59]} [] Proofs.Tryz.func134⟩
def zgw (a0 : zB) (a1 : zL) : Option Bool :=
 (cond (!a1.R) (some (a0.R != 0)) (some false)).bind fun g1 => (cond g1 (some true) ((cond (!a1.A) (some (a0.A != 0)) (some false)).bind fun g2 => some g2)).bind fun g3 =>
  (cond g3 (some true) ((cond (!a1.B) (some (a0.B != 0)) (some false)).bind fun g4 => some g4)).bind fun g5 => (cond g5 (some true) ((cond (!a1.zO)
  (some (a0.zO != 0)) (some false)).bind fun g6 => some g6)).bind fun g7 => (cond g7 (some true) ((cond (!a1.Place)
  (some (!(zdb [(a0.Place.Based == false), (a0.Place.Pointer == 0), (a0.Place.Offset == 0)]))) (some false)).bind fun g8 => some g8)).bind fun g9 => (cond g9 (some true)
  ((cond (!a1.From) (some (!(zdb [(a0.From.Based == false), (a0.From.Pointer == 0), (a0.From.Offset == 0)]))) (some false)).bind fun g10 => some g10)).bind fun g11 =>
  (cond g11 (some true) ((cond (a1.zD == 0) (some (!(zdb [(a0.zD.Kind == 0), (a0.zD.Length == 0), (a0.zD.Scale == 0)]))) (some false)).bind fun g12 =>
  some g12)).bind fun g13 => (cond g13 (some true) ((cond (a1.Second == 0) (some (!(zdb [(a0.Second.Kind == 0), (a0.Second.Length == 0), (a0.Second.Scale == 0)])))
  (some false)).bind fun g14 => some g14)).bind fun g15 => (cond g15 (some true) ((cond (!a1.Half) (some a0.Half) (some false)).bind fun g16 => some g16)).bind fun g17 =>
  (cond g17 (some true) ((cond (a0.Op != 4) (some a0.zN) (some false)).bind fun g18 => some g18)).bind fun g19 => (cond g19 (some true) ((cond (!a1.Number)
  (some (!(zdb [(a0.Number.N == 0), (a0.Number.Scale == 0)]))) (some false)).bind fun g20 => some g20)).bind fun g21 => (cond g21 (some true) ((cond (!a1.Text)
  (some (!(a0.Text.toList == (⟨#[]⟩ : ByteArray).toList))) (some false)).bind fun g22 => some g22)).bind fun g23 => (cond g23 (some true) ((cond (!a1.Other)
  (some (!(a0.Other.toList == (⟨#[]⟩ : ByteArray).toList))) (some false)).bind fun g24 => some g24)).bind fun g25 => (cond g25 (some true) ((cond (!a1.Mask) (some (a0.Mask != 0))
  (some false)).bind fun g26 => some g26)).bind fun g27 => (cond g27 (some true) ((cond (!a1.Target) (some (a0.Target != 0)) (some false)).bind fun g28 => some g28)).bind fun g29 =>
  (cond g29 (some true) ((cond (!a1.Pointer) (some (a0.Pointer != 0)) (some false)).bind fun g30 => some g30)).bind fun g31 => (cond g31 (some true) ((cond (!a1.Source)
  (some (a0.Source != 0)) (some false)).bind fun g32 => some g32)).bind fun g33 => (cond g33 (some true) ((cond (!a0.Place.Based) (some (a0.Place.Pointer != 0))
  (some false)).bind fun g34 => some g34)).bind fun g35 => (cond g35 (some true) ((cond (!a0.From.Based) (some (a0.From.Pointer != 0)) (some false)).bind fun g36 =>
  some g36)).bind fun g37 => some g37
def zgw.k : Kq := ⟨135, (cvv [Ty.bool] [Ty.zB, Ty.zL] zgw), go [] {} [] Proofs.Tryz.func135⟩
def zi8 (a0 : zI) (a1 : zB) : Option Bool :=
 (cond (a1.Op == 7) (some (!a0.yB)) (some false)).bind fun g1 => (cond g1 (some true) ((cond a1.zN (some (!a0.zZ)) (some false)).bind fun g2 =>
  some g2)).bind fun g3 => some g3
def zi8.k : Kq := ⟨136, (cvv [Ty.bool] [Ty.zI, Ty.zB] zi8), go [] {} [] Proofs.Tryz.func136⟩
def zb9 (a0 : Int) : Option Bool :=
 (zj a0 1 3).bind fun r1 => some r1
def zb9.k : Kq := ⟨66, (cvv [Ty.bool] [T6] zb9), go [zj.k] {} [] Proofs.Tryz.func66⟩
def zdc (a0 : Bool) : Option Int :=
 cond a0 (some 1) (some 0)
def zdc.k : Kq := ⟨50, (cvv [T6] [Ty.bool] zdc), go [] {} [] Proofs.Tryz.func50⟩
def zfo (a0 : DataType) : Option Int :=
 (zj a0.Kind 0 4).bind fun r1 => cond (!r1) (some 4) (cond (a0.Kind == 0) ((zj a0.Length 1 256).bind fun r2 => cond (!r2) (some 18)
  ((zb9 a0.Kind).bind fun r3 => cond r3 ((zj a0.Scale 0 a0.Length).bind fun r4 => (zdc (!r4)).bind fun r5 => some (w6 (3 * r5)))
  ((zj a0.Scale 0 0).bind fun r6 => (zdc (!r6)).bind fun r7 => some (w6 (3 * r7))))) ((cond (a0.Kind == 1) (some (a0.Kind == 1))
  (some (a0.Kind == 2))).bind fun q8 => cond q8 ((zj a0.Length 1 15).bind fun r9 => cond (!r9) (some 18) ((zb9 a0.Kind).bind fun r10 =>
  cond r10 ((zj a0.Scale 0 a0.Length).bind fun r11 => (zdc (!r11)).bind fun r12 => some (w6 (3 * r12))) ((zj a0.Scale 0 0).bind fun r13 =>
  (zdc (!r13)).bind fun r14 => some (w6 (3 * r14))))) (cond (a0.Kind == 3) ((cond (a0.Length == 4) (some true) (some (a0.Length == 9))).bind fun g15 =>
  cond (!g15) (some 18) ((zb9 a0.Kind).bind fun r16 => cond r16 ((zj a0.Scale 0 a0.Length).bind fun r17 => (zdc (!r17)).bind fun r18 =>
  some (w6 (3 * r18))) ((zj a0.Scale 0 0).bind fun r19 => (zdc (!r19)).bind fun r20 => some (w6 (3 * r20))))) (cond (!(a0.Length == 0))
  (some 18) ((zb9 a0.Kind).bind fun r21 => cond r21 ((zj a0.Scale 0 a0.Length).bind fun r22 => (zdc (!r22)).bind fun r23 =>
  some (w6 (3 * r23))) ((zj a0.Scale 0 0).bind fun r24 => (zdc (!r24)).bind fun r25 => some (w6 (3 * r25))))))))
def zfo.k : Kq := ⟨65, (cvv [T6] [Ty.DataType] zfo), go [zdc.k, zj.k, zb9.k] {bj := [19]} [] Proofs.Tryz.func65⟩
def zgi (a0 : DataType) (a1 : Int) : Option Int :=
 cond (a1 == 0) (some 0) ((zfo a0).bind fun r1 => cond (r1 != 0) (some r1) ((cond (a1 == 1) ((zb9 a0.Kind).bind fun r2 => some (!r2))
  (some false)).bind fun g3 => (cond g3 (some true) ((cond (a1 == 2) (some (a0.Kind != 0)) (some false)).bind fun g4 => some g4)).bind fun g5 => (cond g5 (some true)
  ((cond (a1 == 3) (some (a0.Kind == 4)) (some false)).bind fun g6 => some g6)).bind fun g7 => cond g7 (some 17) (some 0)))
def zgi.k : Kq := ⟨137, (cvv [T6] [Ty.DataType, T6] zgi), go [zfo.k, zb9.k] {} [] Proofs.Tryz.func137⟩
def zea (a0 : zI) (a1 : Int) : Option Bool :=
 (zj a1 0 (w6 (a0.Registers - 1))).bind fun r1 => some r1
def zea.k : Kq := ⟨181, (cvv [Ty.bool] [Ty.zI, T6] zea), go [zj.k] {} [] Proofs.Tryz.func181⟩
def zeb (a0 : zI) (a1 : zB) : Option Bool :=
 (zdz a1).bind fun r1 => (cond (!r1.R) (some true) ((zea a0 a1.R).bind fun r2 => some r2)).bind fun g3 => (cond g3 ((cond (!r1.A) (some true)
  ((zea a0 a1.A).bind fun r4 => some r4)).bind fun g5 => some g5) (some false)).bind fun g6 => (cond g6 ((cond (!r1.B) (some true)
  ((zea a0 a1.B).bind fun r7 => some r7)).bind fun g8 => some g8) (some false)).bind fun g9 => some g9
def zeb.k : Kq := ⟨138, (cvv [Ty.bool] [Ty.zI, Ty.zB] zeb), go [zdz.k, zea.k] {} [] Proofs.Tryz.func138⟩
def zec (a0 : Storage) (a1 : Int) : Option Bool :=
 (zj a1 0 (w6 ((a0.Bytes.size : Int) - 16))).bind fun r1 => (cond r1 (some ((a1.tmod 16) == 0)) (some false)).bind fun g2 => some g2
def zec.k : Kq := ⟨139, (cvv [Ty.bool] [Ty.Storage, T6] zec), go [zj.k] {} [] Proofs.Tryz.func139⟩
def zc8 (a0 : DataType) : Option Int :=
 cond (a0.Kind == 1) (some (w6 ((w6 (a0.Length.tdiv 2)) + 1))) (cond (a0.Kind == 3) ((zdc (a0.Length == 9)).bind fun r1 =>
  some (w6 (2 + (w6 (2 * r1))))) (cond (a0.Kind == 4) (some 16) (some a0.Length)))
def zc8.k : Kq := ⟨68, (cvv [T6] [Ty.DataType] zc8), go [zdc.k] {} [] Proofs.Tryz.func68⟩
def ze5 (a0 : Storage) (a1 : Int) (a2 : Int) : Option Bool :=
 (zj a1 0 (a0.Bytes.size : Int)).bind fun r1 => (cond r1 ((zj a2 0 (w6 ((a0.Bytes.size : Int) - a1))).bind fun r2 => some r2)
  (some false)).bind fun g3 => some g3
def ze5.k : Kq := ⟨67, (cvv [Ty.bool] [Ty.Storage, T6, T6] ze5), go [zj.k] {lits := [10]} [] Proofs.Tryz.func67⟩
def zdo (a0 : zF) (a1 : zK) (a2 : Int) : Option Bool :=
 cond a1.Based ((zec a0.Storage a1.Pointer).bind fun r1 => (cond r1 ((zj a1.Offset 0 256).bind fun r2 => some r2) (some false)).bind fun g3 => some g3)
  ((ze5 a0.Storage a1.Offset a2).bind fun r4 => some r4)
def zdo.k : Kq := ⟨140, (cvv [Ty.bool] [Ty.zF, Ty.zK, T6] zdo), go [zj.k, ze5.k, zec.k] {} [] Proofs.Tryz.func140⟩
def zd0 (a0 : Number) : Option Int :=
 (zj a0.N (-999999999999999) 999999999999999).bind fun r1 => (cond r1 ((zj a0.Scale 0 15).bind fun r2 => some r2) (some false)).bind fun g3 =>
  (zdc (!g3)).bind fun r4 => some (w6 (3 * r4))
def zd0.k : Kq := ⟨141, (cvv [T6] [Ty.Number] zd0), go [zdc.k, zj.k] {} [] Proofs.Tryz.func141⟩
def zc1 (a0 : zI) (a1 : zF) (a2 : zB) : Option Int :=
 (zj a2.Op 0 26).bind fun r1 => cond (!r1) (some 4) ((zdz a2).bind fun r2 => (zgw a2 r2).bind fun r3 => cond r3 (some 5)
  ((zi8 a0 a2).bind fun r4 => cond r4 (some 39) ((zgi a2.zD r2.zD).bind fun r5 => cond (r5 != 0) (some r5)
  ((zgi a2.Second r2.Second).bind fun r6 => cond (r6 != 0) (some r6) (cond (a2.Op == 4) (((zeb a0 a2).bind fun r7 => cond (!r7) (some (!r7))
  ((cond r2.Target ((zj a2.Target 0 (w6 ((a1.zC.length : Int) - 1))).bind fun r8 => some (!r8)) (some false)).bind fun g9 => cond g9 (some g9)
  ((cond r2.Mask ((zj a2.Mask 1 7).bind fun r10 => some (!r10)) (some false)).bind fun g11 => some g11))).bind fun q12 => cond q12 (some 3)
  (((cond r2.Pointer ((zec a1.Storage a2.Pointer).bind fun r13 => some (!r13)) (some false)).bind fun g14 => cond g14 (some g14)
  ((cond r2.Source ((zec a1.Storage a2.Source).bind fun r15 => some (!r15)) (some false)).bind fun g16 => some g16)).bind fun q17 => cond q17 (some 3)
  ((cond r2.Place ((zc8 a2.Second).bind fun r18 => (zdo a1 a2.Place r18).bind fun r19 => some (!r19)) (some false)).bind fun g20 => cond g20 (cond g20 (some 3)
  ((cond r2.zO ((zj a2.zO 0 4).bind fun r21 => some (!r21)) (some false)).bind fun g22 => cond g22 (some 3) ((zd0 a2.Number).bind fun r23 =>
  (cond r2.Number (some (r23 != 0)) (some false)).bind fun g24 => cond g24 (some r23) ((cond (decide ((a2.Text.size : Int) > 256)) (some true)
  (some (decide ((a2.Other.size : Int) > 256)))).bind fun g25 => cond g25 (some 2) (some 0))))) ((cond r2.From ((zc8 a2.Second).bind fun r26 =>
  (zdo a1 a2.From r26).bind fun r27 => some (!r27)) (some false)).bind fun g28 => cond g28 (some 3) ((cond r2.zO ((zj a2.zO 0 4).bind fun r29 =>
  some (!r29)) (some false)).bind fun g30 => cond g30 (some 3) ((zd0 a2.Number).bind fun r31 => (cond r2.Number (some (r31 != 0)) (some false)).bind fun g32 =>
  cond g32 (some r31) ((cond (decide ((a2.Text.size : Int) > 256)) (some true) (some (decide ((a2.Other.size : Int) > 256)))).bind fun g33 => cond g33 (some 2) (some 0))))))))
  (((zeb a0 a2).bind fun r34 => cond (!r34) (some (!r34))
  ((cond r2.Target ((zj a2.Target 0 (w6 ((a1.zC.length : Int) - 1))).bind fun r35 => some (!r35)) (some false)).bind fun g36 => cond g36 (some g36)
  ((cond r2.Mask ((zj a2.Mask 1 7).bind fun r37 => some (!r37)) (some false)).bind fun g38 => some g38))).bind fun q39 => cond q39 (some 3)
  (((cond r2.Pointer ((zec a1.Storage a2.Pointer).bind fun r40 => some (!r40)) (some false)).bind fun g41 => cond g41 (some g41)
  ((cond r2.Source ((zec a1.Storage a2.Source).bind fun r42 => some (!r42)) (some false)).bind fun g43 => some g43)).bind fun q44 => cond q44 (some 3)
  ((cond r2.Place ((zc8 a2.zD).bind fun r45 => (zdo a1 a2.Place r45).bind fun r46 => some (!r46)) (some false)).bind fun g47 => cond g47 (cond g47 (some 3)
  ((cond r2.zO ((zj a2.zO 0 4).bind fun r48 => some (!r48)) (some false)).bind fun g49 => cond g49 (some 3) ((zd0 a2.Number).bind fun r50 =>
  (cond r2.Number (some (r50 != 0)) (some false)).bind fun g51 => cond g51 (some r50) ((cond (decide ((a2.Text.size : Int) > 256)) (some true)
  (some (decide ((a2.Other.size : Int) > 256)))).bind fun g52 => cond g52 (some 2) (some 0))))) ((cond r2.From ((zc8 a2.Second).bind fun r53 =>
  (zdo a1 a2.From r53).bind fun r54 => some (!r54)) (some false)).bind fun g55 => cond g55 (some 3) ((cond r2.zO ((zj a2.zO 0 4).bind fun r56 =>
  some (!r56)) (some false)).bind fun g57 => cond g57 (some 3) ((zd0 a2.Number).bind fun r58 => (cond r2.Number (some (r58 != 0)) (some false)).bind fun g59 =>
  cond g59 (some r58) ((cond (decide ((a2.Text.size : Int) > 256)) (some true) (some (decide ((a2.Other.size : Int) > 256)))).bind fun g60 => cond g60 (some 2) (some 0)))))))))))))
def zc1.k : Kq := ⟨94, (cvv [T6] [Ty.zI, Ty.zF, Ty.zB] zc1), go [zj.k, zc8.k, zdz.k, zgw.k, zi8.k, zgi.k, zeb.k, zec.k, zdo.k, zd0.k] {lits := [101, 113], bj := [47, 72]} [] Proofs.Tryz.func94⟩
def zu.b1 (N : Nat) (s8 : Int) (b2 : zI) (b3 : zF) : Option (Round (Int × Int) (Int × zI × zF)) :=
 cond (decide (s8 < (b3.zC.length : Int))) ((idx b3.zC s8).bind fun x2001 => (zc1 b2 b3 x2001).bind fun r2002 => cond (r2002 != 0)
  (some (.result (s8, r2002))) (some (.again ((w6 (s8 + 1)), b2, b3)))) (some (.leave (s8, b2, b3)))
def zu.r1 (N : Nat) (x : Int × zI × zF) := zu.b1 N x.1 x.2.1 x.2.2
def zu.b3 (N : Nat) (s10 : Int) (b3 : zF) : Option (Round (Int × Int) (Int × zF)) :=
 cond (decide (s10 < (b3.zQ.length : Int))) ((idx b3.zQ s10).bind fun x4001 => (cond (decide (x4001.From < 0)) (some true)
  (some (decide (x4001.From > x4001.To)))).bind fun g4002 => (cond g4002 (some true) (some (decide (x4001.To > (b3.zC.length : Int))))).bind fun g4003 =>
  (cond g4003 (some true) ((zj x4001.Exception 0 999).bind fun r4004 => some (!r4004))).bind fun g4005 => (cond g4005 (some true)
  ((zj x4001.Handler 0 (w6 ((b3.zC.length : Int) - 1))).bind fun r4006 => some (!r4006))).bind fun g4007 => cond g4007 (some (.result (s10, 3)))
  (some (.again ((w6 (s10 + 1)), b3)))) (some (.leave (s10, b3)))
def zu.r3 (N : Nat) (x : Int × zF) := zu.b3 N x.1 x.2
def zu (N : Nat) (a0 : zI) (a1 : zF) : Option (Int × Int) :=
 (zgx a0).bind fun r1 => cond (r1 != 0) (some (0, r1)) ((zk3 N a1.Storage).bind fun r2 => cond (r2 != 0) (some (0, r2))
  ((zbw N a1.Storage).bind fun r3 => cond (decide ((r3.length : Int) > 0)) (some (0, 22)) (cond ((a1.zC.length : Int) == 0) (some (0, 1))
  ((cond (decide ((a1.zC.length : Int) > 240)) (some true) (some (decide ((a1.zQ.length : Int) > 40)))).bind fun g4 => cond g4 (some (0, 2))
  ((zk (zu.r1 N) N (0, a0, a1)).bind fun z6 => zaz z6 (fun z => some z) (fun y5 => (zk (zu.r3 N) N (0, y5.2.2)).bind fun z8 => zaz z8 (fun z =>
  some z) (fun y7 => some ((y7.2.zC.length : Int), 0))))))))
def zu.k (N : Nat) : Kq := ⟨35, (cvv [T6, T6] [Ty.zI, Ty.zF] (zu N)), go [zj.k, zgx.k, zk3.k N, zbw.k N, zc1.k] {lits := [26]} [(1, .rets { slots := [(2, .ptr 2 0), (3, .ptr 3 0), (8, .val T6)], boxes := [(2, Ty.zI, []), (3, Ty.zF, [])] } [T6, Ty.zI, Ty.zF] (zk (zu.r1 N) N)), (3, .rets { slots := [(3, .ptr 3 0), (10, .val T6)], boxes := [(3, Ty.zF, [])] } [T6, Ty.zF] (zk (zu.r3 N) N))] Proofs.Tryz.func35 (hL := ⟨⟨_, _, rfl, by kernel_rfl⟩, ⟨_, _, rfl, by kernel_rfl⟩, trivial⟩)⟩
def zi4 (N : Nat) (a0 : zI) (a1 : zF) : Option Int :=
 (zu N a0 a1).bind fun r1 => some r1.2
def zi4.k (N : Nat) : Kq := ⟨11, (cvv [T6] [Ty.zI, Ty.zF] (zi4 N)), go [zu.k N] {} [] Proofs.Tryz.func11⟩
def zah.b0 (N : Nat) (s3 : List Bool) (s4 : Int) (b1 : zF) : Option (Stp ((List Bool) × Int × zF)) :=
 cond (decide (s4 < (b1.zQ.length : Int))) ((idx b1.zQ s4).bind fun x1001 =>
  if 0 ≤ x1001.Handler then (if x1001.Handler < (s3.length : Int) then ((s3[x1001.Handler.toNat]?).bind fun x1002 =>
  some (.again ((s3.set x1001.Handler.toNat true), (w6 (s4 + 1)), b1))) else none) else none) (some (.leave (s3, s4, b1)))
def zah.r0 (N : Nat) (x : (List Bool) × Int × zF) := zah.b0 N x.1 x.2.1 x.2.2
def zah.b2 (N : Nat) (s3 : List Bool) (s5 : Int) (b1 : zF) : Option (Stp ((List Bool) × Int × zF)) :=
 cond (decide ((w6 (s5 + 1)) < (s3.length : Int)))
  (if 0 ≤ (w6 (s5 + 1)) then (if (w6 (s5 + 1)) < (s3.length : Int) then ((s3[(w6 (s5 + 1)).toNat]?).bind fun x3001 =>
  (cond x3001 (some true) ((idx b1.zC s5).bind fun x3002 => some (x3002.Op == 18))).bind fun g3003 =>
  if 0 ≤ (w6 (s5 + 1)) then (if (w6 (s5 + 1)) < (s3.length : Int) then ((s3[(w6 (s5 + 1)).toNat]?).bind fun x3004 =>
  some (.again ((s3.set ((w6 (s5 + 1)).toNat) g3003), (w6 (s5 + 1)), b1))) else none) else none) else none) else none) (some (.leave (s3, s5, b1)))
def zah.r2 (N : Nat) (x : (List Bool) × Int × zF) := zah.b2 N x.1 x.2.1 x.2.2
def zah (N : Nat) (a0 : zF) : Option ((List Bool)) :=
 if 0 ≤ (a0.zC.length : Int) then (if (a0.zC.length : Int) ≤ (a0.zC.length : Int) then (cond (Nat.ble ((a0.zC.length : Int).toNat * 1) zak)
  (if 0 ≤ (0 : Int) then (if (0 : Int) < ((List.replicate (a0.zC.length : Int).toNat (false : Bool)).length : Int) then (((List.replicate (a0.zC.length : Int).toNat (false : Bool))[(0 : Int).toNat]?).bind fun x1 =>
  (zf (zah.r0 N) N (((List.replicate (a0.zC.length : Int).toNat (false : Bool)).set ((0 : Int).toNat) true), 0, a0)).bind fun y2 =>
  (zf (zah.r2 N) N (y2.1, 0, y2.2.2)).bind fun y3 => some y3.1) else none) else none) none) else none) else none
def zah.k (N : Nat) : Kq := ⟨36, (ctv [.val Ty.zF] [(Ty.sl Ty.bool)] [] [0] [Ty.zF] (zah N)), go [] {} [(0, .plain { slots := [(1, .ptr 1 0), (3, .own 5000003 Ty.bool), (4, .val T6)], boxes := [(1, Ty.zF, [])] } [(Ty.sl Ty.bool), T6, Ty.zF] (zf (zah.r0 N) N)), (2, .plain { slots := [(1, .ptr 1 0), (3, .own 5000003 Ty.bool), (5, .val T6)], boxes := [(1, Ty.zF, [])] } [(Ty.sl Ty.bool), T6, Ty.zF] (zf (zah.r2 N) N))] Proofs.Tryz.func36 (hL := ⟨⟨_, _, rfl, by kernel_rfl⟩, ⟨_, _, rfl, by kernel_rfl⟩, trivial⟩)⟩
def zfx (a0 : Int) : Option Bool :=
 (cond (a0 == 6) (some true) (some (a0 == 7))).bind fun g1 => (cond g1 (some true) (some (a0 == 8))).bind fun g2 => (cond g2 (some true) (some (a0 == 18))).bind fun g3 => some g3
def zfx.k : Kq := ⟨53, (cvv [Ty.bool] [T6] zfx), go [] {} [] Proofs.Tryz.func53⟩
def zfy (a0 : zF) (a1 : Int) : Option ((List Int)) :=
 (idx a0.zC a1).bind fun x1 => (cond (decide ((w6 (a1 + 1)) < (a0.zC.length : Int))) (some (x1.Op != 8)) (some false)).bind fun g2 =>
  (cond g2 (some (x1.Op != 18)) (some false)).bind fun g3 => (cond g3 (some (x1.Op != 19)) (some false)).bind fun g4 => (cond g4 (some (x1.Op != 20)) (some false)).bind fun g5 =>
  (cond g5 (some (x1.Op != 26)) (some false)).bind fun g6 => cond g6 (cond (Nat.ble (([(w6 (a1 + 1))] : List Int).length * 8) zak)
  ((zfx x1.Op).bind fun r7 => cond r7 (cond (Nat.ble ((([(w6 (a1 + 1))] : List Int).length + ([x1.Target] : List Int).length) * 8) zak)
  (some (([(w6 (a1 + 1))] : List Int) ++ ([x1.Target] : List Int))) none) (some ([(w6 (a1 + 1))] : List Int))) none)
  ((zfx x1.Op).bind fun r8 => cond r8 (cond (Nat.ble (([x1.Target] : List Int).length * 8) zak) (some ([x1.Target] : List Int)) none) (some []))
def zfy.k : Kq := ⟨39, (ctv [.val Ty.zF, .val T6] [(Ty.sl T6)] [] [0] [Ty.zF, T6] zfy), go [zfx.k] {lits := [46, 54]} [] Proofs.Tryz.func39⟩
def zce.b0 (N : Nat) (s0 : List Int) (s1 : Int) (s5 : Int) : Option (Round Int ((List Int) × Int × Int)) :=
 cond (decide (s5 < (s0.length : Int))) ((idx s0 s5).bind fun x1001 => cond (x1001 == s1) (some (.result s5)) (some (.again (s0, s1, (w6 (s5 + 1))))))
  (some (.leave (s0, s1, s5)))
def zce.r0 (N : Nat) (x : (List Int) × Int × Int) := zce.b0 N x.1 x.2.1 x.2.2
def zce (N : Nat) (a0 : List Int) (a1 : Int) : Option Int :=
 (zk (zce.r0 N) N (a0, a1, 0)).bind fun z2 => zaz z2 (fun z => some z) (fun y1 => some (-1))
def zce.k (N : Nat) : Kq := ⟨69, (cvv [T6] [(Ty.sl T6), T6] (zce N)), go [] {} [(0, .rets { slots := [(0, .val (Ty.sl T6)), (1, .val T6), (5, .val T6)], boxes := [] } [(Ty.sl T6), T6, T6] (zk (zce.r0 N) N))] Proofs.Tryz.func69 (hL := ⟨⟨_, _, rfl, by kernel_rfl⟩, trivial⟩)⟩
def zb3.b0 (N : Nat) (s0 : List zA) (s1 : Int) (s5 : List zA) (s6 : Int) : Option (Stp ((List zA) × Int × (List zA) × Int)) :=
 cond (decide (s6 < (s0.length : Int))) ((idx s0 s6).bind fun x1001 => cond (x1001.Register != s1) ((idx s0 s6).bind fun x1002 =>
  cond (Nat.ble ((s5.length + ([x1002] : List zA).length) * 40) zak) (some (.again (s0, s1, (s5 ++ ([x1002] : List zA)), (w6 (s6 + 1))))) none)
  (some (.again (s0, s1, s5, (w6 (s6 + 1)))))) (some (.leave (s0, s1, s5, s6)))
def zb3.r0 (N : Nat) (x : (List zA) × Int × (List zA) × Int) := zb3.b0 N x.1 x.2.1 x.2.2.1 x.2.2.2
def zb3 (N : Nat) (a0 : List zA) (a1 : Int) : Option ((List zA)) :=
 (zf (zb3.r0 N) N (a0, a1, [], 0)).bind fun y1 => some y1.2.2.1
def zb3.k (N : Nat) : Kq := ⟨95, (cvv [(Ty.sl Ty.zA)] [(Ty.sl Ty.zA), T6] (zb3 N)), go [] {lits := [25]} [(0, .plain { slots := [(0, .val (Ty.sl Ty.zA)), (1, .val T6), (5, .own 5000005 Ty.zA), (6, .val T6)], boxes := [] } [(Ty.sl Ty.zA), T6, (Ty.sl Ty.zA), T6] (zf (zb3.r0 N) N))] Proofs.Tryz.func95 (hL := ⟨⟨_, _, rfl, by kernel_rfl⟩, trivial⟩)⟩
def zb4.b0 (N : Nat) (s0 : List zA) (s3 : List zA) (s4 : Int) : Option (Stp ((List zA) × (List zA) × Int)) :=
 cond (decide (s4 < (s0.length : Int))) ((idx s0 s4).bind fun x1001 => cond (x1001.Offset == (-1)) ((idx s0 s4).bind fun x1002 =>
  cond (Nat.ble ((s3.length + ([x1002] : List zA).length) * 40) zak) (some (.again (s0, (s3 ++ ([x1002] : List zA)), (w6 (s4 + 1))))) none)
  (some (.again (s0, s3, (w6 (s4 + 1)))))) (some (.leave (s0, s3, s4)))
def zb4.r0 (N : Nat) (x : (List zA) × (List zA) × Int) := zb4.b0 N x.1 x.2.1 x.2.2
def zb4 (N : Nat) (a0 : List zA) : Option ((List zA)) :=
 (zf (zb4.r0 N) N (a0, [], 0)).bind fun y1 => some y1.2.1
def zb4.k (N : Nat) : Kq := ⟨96, (cvv [(Ty.sl Ty.zA)] [(Ty.sl Ty.zA)] (zb4 N)), go [] {lits := [22]} [(0, .plain { slots := [(0, .val (Ty.sl Ty.zA)), (3, .own 5000003 Ty.zA), (4, .val T6)], boxes := [] } [(Ty.sl Ty.zA), (Ty.sl Ty.zA), T6] (zf (zb4.r0 N) N))] Proofs.Tryz.func96 (hL := ⟨⟨_, _, rfl, by kernel_rfl⟩, trivial⟩)⟩
def zcj.b0 (N : Nat) (s0 : List zA) (s5 : Int) (b3 : zA) : Option (Round Bool ((List zA) × Int × zA)) :=
 cond (decide (s5 < (s0.length : Int))) ((idx s0 s5).bind fun x1001 =>
  cond (zdb [(x1001.Register == b3.Register), (x1001.zD.Kind == b3.zD.Kind), (x1001.zD.Length == b3.zD.Length), (x1001.zD.Scale == b3.zD.Scale), (x1001.Offset == b3.Offset)])
  (some (.result true)) (some (.again (s0, (w6 (s5 + 1)), b3)))) (some (.leave (s0, s5, b3)))
def zcj.r0 (N : Nat) (x : (List zA) × Int × zA) := zcj.b0 N x.1 x.2.1 x.2.2
def zcj (N : Nat) (a0 : List zA) (a1 : zA) : Option Bool :=
 (zk (zcj.r0 N) N (a0, 0, a1)).bind fun z2 => zaz z2 (fun z => some z) (fun y1 => some false)
def zcj.k (N : Nat) : Kq := ⟨70, (cvv [Ty.bool] [(Ty.sl Ty.zA), Ty.zA] (zcj N)), go [] {} [(0, .rets { slots := [(0, .val (Ty.sl Ty.zA)), (3, .ptr 3 0), (5, .val T6)], boxes := [(3, Ty.zA, [])] } [(Ty.sl Ty.zA), T6, Ty.zA] (zk (zcj.r0 N) N))] Proofs.Tryz.func70 (hL := ⟨⟨_, _, rfl, by kernel_rfl⟩, trivial⟩)⟩
def zbu.b0 (N : Nat) (s5 : List Int) (s6 : List Int) (s7 : Int) : Option (Round Bool ((List Int) × (List Int) × Int)) :=
 cond (decide (s7 < (s5.length : Int))) (if 0 ≤ s7 then (if s7 < (s5.length : Int) then ((s5[s7.toNat]?).bind fun x1001 =>
  if 0 ≤ s7 then (if s7 < (s6.length : Int) then ((s6[s7.toNat]?).bind fun x1002 => cond (x1001 != x1002)
  (if 0 ≤ s7 then (if s7 < (s5.length : Int) then ((s5[s7.toNat]?).bind fun x1003 => if 0 ≤ s7 then (if s7 < (s6.length : Int) then ((s6[s7.toNat]?).bind fun x1004 =>
  some (.result (decide (x1003 < x1004)))) else none) else none) else none) else none)
  (some (.again (s5, s6, (w6 (s7 + 1)))))) else none) else none) else none) else none) (some (.leave (s5, s6, s7)))
def zbu.r0 (N : Nat) (x : (List Int) × (List Int) × Int) := zbu.b0 N x.1 x.2.1 x.2.2
def zbu (N : Nat) (a0 : zA) (a1 : zA) : Option Bool :=
 (zk (zbu.r0 N) N (([a0.Register, a0.Offset, a0.zD.Kind, a0.zD.Length, a0.zD.Scale] : List Int), ([a1.Register, a1.Offset, a1.zD.Kind, a1.zD.Length, a1.zD.Scale] : List Int), 0)).bind fun z2 =>
  zaz z2 (fun z => some z) (fun y1 => some false)
def zbu.k (N : Nat) : Kq := ⟨142, (cvv [Ty.bool] [Ty.zA, Ty.zA] (zbu N)), go [] {} [(0, .rets { slots := [(5, .own 5000005 T6), (6, .own 5000006 T6), (7, .val T6)], boxes := [] } [(Ty.sl T6), (Ty.sl T6), T6] (zk (zbu.r0 N) N))] Proofs.Tryz.func142 (hL := ⟨⟨_, _, rfl, by kernel_rfl⟩, trivial⟩)⟩
def zch.b0 (N : Nat) (s0 : List zA) (s5 : List zA) (s6 : Bool) (s7 : Int) (b3 : zA) : Option (Stp ((List zA) × (List zA) × Bool × Int × zA)) :=
 cond (decide (s7 < (s0.length : Int))) ((cond (!s6) ((idx s0 s7).bind fun x1001 => (zbu N b3 x1001).bind fun r1002 => some r1002) (some false)).bind fun g1003 =>
  cond g1003 (cond (Nat.ble ((s5.length + ([b3] : List zA).length) * 40) zak) ((idx s0 s7).bind fun x1004 =>
  cond (Nat.ble (((s5 ++ ([b3] : List zA)).length + ([x1004] : List zA).length) * 40) zak)
  (some (.again (s0, ((s5 ++ ([b3] : List zA)) ++ ([x1004] : List zA)), true, (w6 (s7 + 1)), b3))) none) none) ((idx s0 s7).bind fun x1005 =>
  cond (Nat.ble ((s5.length + ([x1005] : List zA).length) * 40) zak) (some (.again (s0, (s5 ++ ([x1005] : List zA)), s6, (w6 (s7 + 1)), b3))) none))
  (some (.leave (s0, s5, s6, s7, b3)))
def zch.r0 (N : Nat) (x : (List zA) × (List zA) × Bool × Int × zA) := zch.b0 N x.1 x.2.1 x.2.2.1 x.2.2.2.1 x.2.2.2.2
def zch (N : Nat) (a0 : List zA) (a1 : zA) : Option ((List zA)) :=
 (zcj N a0 a1).bind fun r1 => cond r1 (some a0) ((zf (zch.r0 N) N (a0, [], false, 0, a1)).bind fun y2 => cond (!y2.2.2.1)
  (cond (Nat.ble ((y2.2.1.length + ([y2.2.2.2.2] : List zA).length) * 40) zak) (some (y2.2.1 ++ ([y2.2.2.2.2] : List zA))) none) (some y2.2.1))
def zch.k (N : Nat) : Kq := ⟨97, (cvv [(Ty.sl Ty.zA)] [(Ty.sl Ty.zA), Ty.zA] (zch N)), go [zcj.k N, zbu.k N] {lits := [30, 37, 43]} [(0, .plain { slots := [(0, .val (Ty.sl Ty.zA)), (3, .ptr 3 0), (5, .own 5000005 Ty.zA), (6, .val Ty.bool), (7, .val T6)], boxes := [(3, Ty.zA, [])] } [(Ty.sl Ty.zA), (Ty.sl Ty.zA), Ty.bool, T6, Ty.zA] (zf (zch.r0 N) N))] Proofs.Tryz.func97 (hL := ⟨⟨_, _, rfl, by kernel_rfl⟩, trivial⟩)⟩
def zci.b0 (N : Nat) (s0 : List zA) (s1 : Int) (s2 : Int) (s7 : List zA) (s8 : Int) : Option (Stp ((List zA) × Int × Int × (List zA) × Int)) :=
 cond (decide (s8 < (s0.length : Int))) ((idx s0 s8).bind fun x1001 => (cond (x1001.Offset == (-1)) (some true) ((zc8 x1001.zD).bind fun r1002 =>
  some (decide ((w6 (x1001.Offset + r1002)) ≤ s1)))).bind fun g1003 => (cond g1003 (some true)
  (some (decide ((w6 (s1 + s2)) ≤ x1001.Offset)))).bind fun g1004 => cond g1004 (cond (Nat.ble ((s7.length + ([x1001] : List zA).length) * 40) zak)
  (some (.again (s0, s1, s2, (s7 ++ ([x1001] : List zA)), (w6 (s8 + 1))))) none) (some (.again (s0, s1, s2, s7, (w6 (s8 + 1))))))
  (some (.leave (s0, s1, s2, s7, s8)))
def zci.r0 (N : Nat) (x : (List zA) × Int × Int × (List zA) × Int) := zci.b0 N x.1 x.2.1 x.2.2.1 x.2.2.2.1 x.2.2.2.2
def zci (N : Nat) (a0 : List zA) (a1 : Int) (a2 : Int) : Option ((List zA)) :=
 (zf (zci.r0 N) N (a0, a1, a2, [], 0)).bind fun y1 => some y1.2.2.2.1
def zci.k (N : Nat) : Kq := ⟨98, (cvv [(Ty.sl Ty.zA)] [(Ty.sl Ty.zA), T6, T6] (zci N)), go [zc8.k] {lits := [43]} [(0, .plain { slots := [(0, .val (Ty.sl Ty.zA)), (1, .val T6), (2, .val T6), (7, .own 5000007 Ty.zA), (8, .val T6)], boxes := [] } [(Ty.sl Ty.zA), T6, T6, (Ty.sl Ty.zA), T6] (zf (zci.r0 N) N))] Proofs.Tryz.func98 (hL := ⟨⟨_, _, rfl, by kernel_rfl⟩, trivial⟩)⟩
def zap.b1 (N : Nat) (s1 : List zA) (s8 : List zA) (s9 : Int) (b2 : zB) : Option (Stp ((List zA) × (List zA) × Int × zB)) :=
 cond (decide (s9 < (s1.length : Int))) ((idx s1 s9).bind fun x2001 => (zcj N s1 (⟨x2001.Register, b2.zD, b2.Place.Offset⟩ : zA)).bind fun r2002 =>
  cond r2002 ((idx s1 s9).bind fun x2003 => (idx s1 s9).bind fun x2004 => (zch N s8 (⟨b2.R, x2003.zD, x2004.Offset⟩ : zA)).bind fun r2005 =>
  some (.again (s1, r2005, (w6 (s9 + 1)), b2))) (some (.again (s1, s8, (w6 (s9 + 1)), b2)))) (some (.leave (s1, s8, s9, b2)))
def zap.r1 (N : Nat) (x : (List zA) × (List zA) × Int × zB) := zap.b1 N x.1 x.2.1 x.2.2.1 x.2.2.2
def zap.b3 (N : Nat) (s1 : List zA) (s10 : List zA) (s11 : Int) (b2 : zB) : Option (Stp ((List zA) × (List zA) × Int × zB)) :=
 cond (decide (s11 < (s1.length : Int))) ((idx s1 s11).bind fun x4001 => cond (x4001.Register == b2.A) ((idx s1 s11).bind fun x4002 => (idx s1 s11).bind fun x4003 =>
  (zch N s10 (⟨b2.R, x4002.zD, x4003.Offset⟩ : zA)).bind fun r4004 => some (.again (s1, r4004, (w6 (s11 + 1)), b2)))
  (some (.again (s1, s10, (w6 (s11 + 1)), b2)))) (some (.leave (s1, s10, s11, b2)))
def zap.r3 (N : Nat) (x : (List zA) × (List zA) × Int × zB) := zap.b3 N x.1 x.2.1 x.2.2.1 x.2.2.2
def zap (N : Nat) (a0 : zB) (a1 : List zA) : Option ((List zA)) :=
 (zb3 N a1 a0.R).bind fun r1 => (zb4 N a1).bind fun r2 => cond (a0.Op == 0) ((zch N r1 (⟨a0.R, a0.zD, (-1)⟩ : zA)).bind fun r3 =>
  cond a0.Place.Based (some r3) ((zch N r3 (⟨a0.R, a0.zD, a0.Place.Offset⟩ : zA)).bind fun r4 => (zf (zap.r1 N) N (a1, r4, 0, a0)).bind fun y5 =>
  some y5.2.1)) (cond (a0.Op == 4) ((zch N r1 (⟨a0.R, a0.zD, (-1)⟩ : zA)).bind fun r6 => some r6) ((cond (a0.Op == 2) (some (a0.Op == 2))
  (some (a0.Op == 21))).bind fun q7 => cond q7 (some r1) (cond (a0.Op == 3) (cond (a0.A == a0.R) (some a1) ((zf (zap.r3 N) N (a1, r1, 0, a0)).bind fun y8 =>
  some y8.2.1)) ((cond (a0.Op == 1) (some (a0.Op == 1)) (cond (a0.Op == 9) (some (a0.Op == 9)) (some (a0.Op == 10)))).bind fun q9 => cond q9 (cond a0.Place.Based (some r2)
  ((zc8 a0.zD).bind fun r10 => (zci N a1 a0.Place.Offset r10).bind fun r11 => (cond (a0.Op == 1) ((zcj N a1 (⟨a0.R, a0.zD, (-1)⟩ : zA)).bind fun r12 =>
  some r12) (some false)).bind fun g13 => cond g13 ((zch N r11 (⟨a0.R, a0.zD, a0.Place.Offset⟩ : zA)).bind fun r14 => some r14) (some r11))) ((cond (a0.Op == 14)
  (some (a0.Op == 14)) (cond (a0.Op == 15) (some (a0.Op == 15)) (some (a0.Op == 16)))).bind fun q15 => cond q15 ((zci N a1 a0.Pointer 16).bind fun r16 => some r16)
  (some a1))))))
def zap.k (N : Nat) : Kq := ⟨38, (cvv [(Ty.sl Ty.zA)] [Ty.zB, (Ty.sl Ty.zA)] (zap N)), go [zc8.k, zcj.k N, zb3.k N, zb4.k N, zch.k N, zci.k N] {lits := [142], bj := [85, 128, 163]} [(1, .plain { slots := [(1, .val (Ty.sl Ty.zA)), (2, .ptr 2 0), (8, .val (Ty.sl Ty.zA)), (9, .val T6)], boxes := [(2, Ty.zB, [])] } [(Ty.sl Ty.zA), (Ty.sl Ty.zA), T6, Ty.zB] (zf (zap.r1 N) N)), (3, .plain { slots := [(1, .val (Ty.sl Ty.zA)), (2, .ptr 2 0), (10, .val (Ty.sl Ty.zA)), (11, .val T6)], boxes := [(2, Ty.zB, [])] } [(Ty.sl Ty.zA), (Ty.sl Ty.zA), T6, Ty.zB] (zf (zap.r3 N) N))] Proofs.Tryz.func38 (hL := ⟨⟨_, _, rfl, by kernel_rfl⟩, ⟨_, _, rfl, by kernel_rfl⟩, trivial⟩)⟩
def zd.b2 (N : Nat) (s2 : List (List zA)) (s9 : Int) (s10 : Int) (b3 : zI) (b4 : zF) : Option (Round (Int × Int) ((List (List zA)) × Int × Int × zI × zF)) :=
 (idx s2 s9).bind fun x3001 => cond (decide (s10 < (x3001.length : Int))) ((idx s2 s9).bind fun x3002 => (idx x3002 s10).bind fun x3003 =>
  (zj x3003.Register 0 (w6 (b3.Registers - 1))).bind fun r3004 => cond (!r3004) (some (.result (s9, 3))) ((zfo x3003.zD).bind fun r3005 =>
  (cond (r3005 != 0) (some true) ((zb9 x3003.zD.Kind).bind fun r3006 => some (!r3006))).bind fun g3007 => cond g3007 (some (.result (s9, 17)))
  ((cond (x3003.Offset != (-1)) ((zc8 x3003.zD).bind fun r3008 => (ze5 b4.Storage x3003.Offset r3008).bind fun r3009 => some (!r3009))
  (some false)).bind fun g3010 => cond g3010 (some (.result (s9, 3))) (some (.again (s2, s9, (w6 (s10 + 1)), b3, b4)))))) (some (.leave (s2, s9, s10, b3, b4)))
def zd.r2 (N : Nat) (x : (List (List zA)) × Int × Int × zI × zF) := zd.b2 N x.1 x.2.1 x.2.2.1 x.2.2.2.1 x.2.2.2.2
def zd.b0 (N : Nat) (s2 : List (List zA)) (s9 : Int) (b3 : zI) (b4 : zF) : Option (Round (Int × Int) ((List (List zA)) × Int × zI × zF)) :=
 cond (decide (s9 < (s2.length : Int))) ((idx s2 s9).bind fun x1001 => cond (decide ((x1001.length : Int) > 60)) (some (.result (s9, 2)))
  ((zk (zd.r2 N) N (s2, s9, 0, b3, b4)).bind fun z1003 => zaz z1003 (fun z => some (.result z)) (fun y1002 =>
  some (.again (y1002.1, (w6 (y1002.2.1 + 1)), y1002.2.2.2.1, y1002.2.2.2.2))))) (some (.leave (s2, s9, b3, b4)))
def zd.r0 (N : Nat) (x : (List (List zA)) × Int × zI × zF) := zd.b0 N x.1 x.2.1 x.2.2.1 x.2.2.2
def zd.b9 (N : Nat) (s2 : List (List zA)) (s12 : List Bool) (s13 : Int) (s14 : Int) (s15 : List zA) (s16 : Int) (b4 : zF) : Option (Round (Int × Int) ((List (List zA)) × (List Bool) × Int × Int × (List zA) × Int × zF)) :=
 (idx s2 s13).bind fun x10001 => cond (decide (s16 < (x10001.length : Int))) ((idx s2 s13).bind fun x10002 => (idx x10002 s16).bind fun x10003 =>
  (zcj N s15 x10003).bind fun r10004 => cond (!r10004) (some (.result (s13, 42))) (some (.again (s2, s12, s13, s14, s15, (w6 (s16 + 1)), b4))))
  (some (.leave (s2, s12, s13, s14, s15, s16, b4)))
def zd.r9 (N : Nat) (x : (List (List zA)) × (List Bool) × Int × Int × (List zA) × Int × zF) := zd.b9 N x.1 x.2.1 x.2.2.1 x.2.2.2.1 x.2.2.2.2.1 x.2.2.2.2.2.1 x.2.2.2.2.2.2
def zd.b7 (N : Nat) (s2 : List (List zA)) (s12 : List Bool) (s13 : Int) (s14 : Int) (b4 : zF) : Option (Round (Int × Int) ((List (List zA)) × (List Bool) × Int × Int × zF)) :=
 cond (decide (s14 < (s2.length : Int))) ((zfy b4 s14).bind fun r8001 => (zce N r8001 s13).bind fun r8002 => cond (r8002 == (-1))
  (some (.again (s2, s12, s13, (w6 (s14 + 1)), b4))) ((idx b4.zC s14).bind fun x8003 => (idx s2 s14).bind fun x8004 =>
  (zap N x8003 x8004).bind fun r8005 => (zk (zd.r9 N) N (s2, s12, s13, s14, r8005, 0, b4)).bind fun z8007 => zaz z8007 (fun z => some (.result z))
  (fun y8006 => some (.again (y8006.1, y8006.2.1, y8006.2.2.1, (w6 (y8006.2.2.2.1 + 1)), y8006.2.2.2.2.2.2))))) (some (.leave (s2, s12, s13, s14, b4)))
def zd.r7 (N : Nat) (x : (List (List zA)) × (List Bool) × Int × Int × zF) := zd.b7 N x.1 x.2.1 x.2.2.1 x.2.2.2.1 x.2.2.2.2
def zd.b5 (N : Nat) (s2 : List (List zA)) (s12 : List Bool) (s13 : Int) (b4 : zF) : Option (Round (Int × Int) ((List (List zA)) × (List Bool) × Int × zF)) :=
 cond (decide (s13 < (s2.length : Int))) (if 0 ≤ s13 then (if s13 < (s12.length : Int) then ((s12[s13.toNat]?).bind fun x6001 => (cond x6001 ((idx s2 s13).bind fun x6002 =>
  some (decide ((x6002.length : Int) > 0))) (some false)).bind fun g6003 => cond g6003 (some (.result (s13, 42)))
  ((zk (zd.r7 N) N (s2, s12, s13, 0, b4)).bind fun z6005 => zaz z6005 (fun z => some (.result z)) (fun y6004 =>
  some (.again (y6004.1, y6004.2.1, (w6 (y6004.2.2.1 + 1)), y6004.2.2.2.2))))) else none) else none) (some (.leave (s2, s12, s13, b4)))
def zd.r5 (N : Nat) (x : (List (List zA)) × (List Bool) × Int × zF) := zd.b5 N x.1 x.2.1 x.2.2.1 x.2.2.2
def zd (N : Nat) (a0 : zI) (a1 : zF) (a2 : List (List zA)) : Option (Int × Int) :=
 (zi4 N a0 a1).bind fun r1 => cond (r1 != 0) (some (0, r1)) (cond ((a2.length : Int) != (a1.zC.length : Int)) (some (0, 6))
  ((zk (zd.r0 N) N (a2, 0, a0, a1)).bind fun z3 => zaz z3 (fun z => some z) (fun y2 => (zah N y2.2.2.2).bind fun r4 =>
  (zk (zd.r5 N) N (y2.1, r4, 0, y2.2.2.2)).bind fun z6 => zaz z6 (fun z => some z) (fun y5 => some ((y5.1.length : Int), 0)))))
def zd.k (N : Nat) : Kq := ⟨22, (cvv [T6, T6] [Ty.zI, Ty.zF, (Ty.sl (Ty.sl Ty.zA))] (zd N)), go [zi4.k N, zah.k N, zap.k N, zfy.k, zj.k, zfo.k, zb9.k, ze5.k, zc8.k, zce.k N, zcj.k N] {lits := [91, 125]} [(2, .rets { slots := [(2, .val (Ty.sl (Ty.sl Ty.zA))), (3, .ptr 3 0), (4, .ptr 4 0), (9, .val T6), (10, .val T6)], boxes := [(3, Ty.zI, []), (4, Ty.zF, [])] } [(Ty.sl (Ty.sl Ty.zA)), T6, T6, Ty.zI, Ty.zF] (zk (zd.r2 N) N)), (0, .rets { slots := [(2, .val (Ty.sl (Ty.sl Ty.zA))), (3, .ptr 3 0), (4, .ptr 4 0), (9, .val T6)], boxes := [(3, Ty.zI, []), (4, Ty.zF, [])] } [(Ty.sl (Ty.sl Ty.zA)), T6, Ty.zI, Ty.zF] (zk (zd.r0 N) N)), (9, .rets { slots := [(2, .val (Ty.sl (Ty.sl Ty.zA))), (4, .ptr 4 0), (12, .own 5000012 Ty.bool), (13, .val T6), (14, .val T6), (15, .val (Ty.sl Ty.zA)), (16, .val T6)], boxes := [(4, Ty.zF, [])] } [(Ty.sl (Ty.sl Ty.zA)), (Ty.sl Ty.bool), T6, T6, (Ty.sl Ty.zA), T6, Ty.zF] (zk (zd.r9 N) N)), (7, .rets { slots := [(2, .val (Ty.sl (Ty.sl Ty.zA))), (4, .ptr 4 0), (12, .own 5000012 Ty.bool), (13, .val T6), (14, .val T6)], boxes := [(4, Ty.zF, [])] } [(Ty.sl (Ty.sl Ty.zA)), (Ty.sl Ty.bool), T6, T6, Ty.zF] (zk (zd.r7 N) N)), (5, .rets { slots := [(2, .val (Ty.sl (Ty.sl Ty.zA))), (4, .ptr 4 0), (12, .own 5000012 Ty.bool), (13, .val T6)], boxes := [(4, Ty.zF, [])] } [(Ty.sl (Ty.sl Ty.zA)), (Ty.sl Ty.bool), T6, Ty.zF] (zk (zd.r5 N) N))] Proofs.Tryz.func22 (hL := ⟨⟨_, _, rfl, by kernel_rfl⟩, ⟨_, _, rfl, by kernel_rfl⟩, ⟨_, _, rfl, by kernel_rfl⟩, ⟨_, _, rfl, by kernel_rfl⟩, ⟨_, _, rfl, by kernel_rfl⟩, trivial⟩)⟩
def zd3 (N : Nat) (a0 : zI) (a1 : zF) (a2 : List (List zA)) : Option Bool :=
 (zkh N).bind fun r1 => cond (!r1) (some false) ((zdv N a1).bind fun r2 => (cond (!r2) (some true) ((zbx N a2).bind fun r3 => some (!r3))).bind fun g4 =>
  cond g4 (some true) ((zho a1).bind fun r5 => (zbv N a2).bind fun r6 => (ze N a0 r5 r6).bind fun r7 =>
  (zd N a0 a1 a2).bind fun r8 => (cond (r7.2 == r8.2) (some (r7.1 == r8.1)) (some false)).bind fun g9 => some g9))
def zd3.k (N : Nat) : Kq := ⟨5, (cvv [Ty.bool] [Ty.zI, Ty.zF, (Ty.sl (Ty.sl Ty.zA))] (zd3 N)), go [zkh.k N, zdv.k N, zho.k, zbx.k N, ze.k N, zbv.k N, zd.k N] {lits := [24, 26]} [] Proofs.Tryz.func5⟩
end
end Go.Proofs.YtblgefddnnlniaaGreatDoor.M
