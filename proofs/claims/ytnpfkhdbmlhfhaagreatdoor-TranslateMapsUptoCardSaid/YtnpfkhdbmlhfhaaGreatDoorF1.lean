/- What the program's functions compute, each tied to its code: part 1. -/
import Derived.Test.YtnpfkhdbmlhfhaaGreatDoorF0
namespace Go.Proofs.YtnpfkhdbmlhfhaaGreatDoor.M
open Go Go.Amx
set_option linter.unusedVariables false
set_option maxRecDepth 100000
noncomputable section
def ze.r2 (N : Nat) (x : (List zK) × Int × Int × zD × zQ) := ze.b2 N x.1 x.2.1 x.2.2.1 x.2.2.2.1 x.2.2.2.2
def ze.b4 (N : Nat) (s87 : List zU) (s88 : Int) (s89 : Int) (b1 : zD) (b2 : zQ) : Option (Round (zQ × Int) ((List zU) × Int × Int × zD × zQ)) :=
 cond (decide (s89 < s88)) ((idx s87 s89).bind fun x5001 => (zfv b1 x5001).bind fun r5002 => cond (r5002 != 0) (some (.result ((⟨3, s89⟩ : zQ), r5002)))
  (some (.again (s87, s88, (w6 (s89 + 1)), b1, b2)))) (some (.leave (s87, s88, s89, b1, b2)))
def ze.r4 (N : Nat) (x : (List zU) × Int × Int × zD × zQ) := ze.b4 N x.1 x.2.1 x.2.2.1 x.2.2.2.1 x.2.2.2.2
def ze (N : Nat) (a0 : zD) : Option (zQ × Int) :=
 (cond (decide ((a0.zB.length : Int) > 24)) (some true) (some (decide ((a0.zA.length : Int) > 40)))).bind fun g1 => (cond g1 (some true)
  (some (decide ((a0.zP.length : Int) > 6)))).bind fun g2 => (zbx g2 2).bind fun r3 => (zbx ((a0.zA.length : Int) == 0) 1).bind fun r4 =>
  (za8 N ([r3, r4] : List Int)).bind fun r5 => cond (r5 != 0) (some ((⟨0, 0⟩ : zQ), r5))
  ((zf (ze.r0 N) N ((a0.zB.length : Int), 0, a0, (⟨0, 0⟩ : zQ))).bind fun z7 => zbc z7 (fun z => some z) (fun y6 =>
  (zh N y6.2.2.1.zB).bind fun r8 => cond (decide (r8.2 > 24)) (some ((⟨0, 0⟩ : zQ), 30))
  ((zf (ze.r2 N) N (y6.2.2.1.zA, (y6.2.2.1.zA.length : Int), 0, y6.2.2.1, y6.2.2.2)).bind fun z10 => zbc z10 (fun z => some z) (fun y9 =>
  (zf (ze.r4 N) N (y9.2.2.2.1.zP, (y9.2.2.2.1.zP.length : Int), 0, y9.2.2.2.1, y9.2.2.2.2)).bind fun z12 => zbc z12 (fun z => some z) (fun y11 =>
  some ((⟨0, 0⟩ : zQ), 0))))))
def ze.k (N : Nat) : Kq := ⟨97, (cvv [Ty.zQ, T6] [Ty.zD] (ze N)), go [zh.k N, za8.k N, zbx.k, zfu.k N, zaf.k N, zfv.k] {lits := [33, 38, 39]} [(0, .rets { slots := [(1, .ptr 1 0), (2, .ptr 2 0), (47, .val T6), (48, .val T6)], boxes := [(1, Ty.zD, []), (2, Ty.zQ, [])] } [T6, T6, Ty.zD, Ty.zQ] (zf (ze.r0 N) N)), (2, .rets { slots := [(1, .ptr 1 0), (2, .ptr 2 0), (70, .val (Ty.sl Ty.zK)), (71, .val T6), (72, .val T6)], boxes := [(1, Ty.zD, []), (2, Ty.zQ, [])] } [(Ty.sl Ty.zK), T6, T6, Ty.zD, Ty.zQ] (zf (ze.r2 N) N)), (4, .rets { slots := [(1, .ptr 1 0), (2, .ptr 2 0), (87, .val (Ty.sl Ty.zU)), (88, .val T6), (89, .val T6)], boxes := [(1, Ty.zD, []), (2, Ty.zQ, [])] } [(Ty.sl Ty.zU), T6, T6, Ty.zD, Ty.zQ] (zf (ze.r4 N) N))] Proofs.Tryz.func97 (hL := ⟨⟨_, _, rfl, by kernel_rfl⟩, ⟨_, _, rfl, by kernel_rfl⟩, ⟨_, _, rfl, by kernel_rfl⟩, trivial⟩)⟩
def zdv (N : Nat) (a0 : zD) : Option Int :=
 (ze N a0).bind fun r1 => some r1.2
def zdv.k (N : Nat) : Kq := ⟨50, (cvv [T6] [Ty.zD] (zdv N)), go [ze.k N] {} [] Proofs.Tryz.func50⟩
def za9.b0 (N : Nat) (s5 : List Int) (s6 : Int) (s7 : Int) : Option (Round Int ((List Int) × Int × Int)) :=
 cond (decide (s7 < s6)) ((idx s5 s7).bind fun x1001 => cond (x1001 != 0) (some (.result x1001)) (some (.again (s5, s6, (w6 (s7 + 1)))))) (some (.leave (s5, s6, s7)))
def za9.r0 (N : Nat) (x : (List Int) × Int × Int) := za9.b0 N x.1 x.2.1 x.2.2
def za9 (N : Nat) (a0 : List Int) : Option Int :=
 (zf (za9.r0 N) N (a0, (a0.length : Int), 0)).bind fun z2 => zbc z2 (fun z => some z) (fun y1 => some 0)
def za9.k (N : Nat) : Kq := ⟨49, (cvv [T6] [(Ty.sl T6)] (za9 N)), go [] {} [(0, .rets { slots := [(5, .val (Ty.sl T6)), (6, .val T6), (7, .val T6)], boxes := [] } [(Ty.sl T6), T6, T6] (zf (za9.r0 N) N))] Proofs.Tryz.func49 (hL := ⟨⟨_, _, rfl, by kernel_rfl⟩, trivial⟩)⟩
def zdt (N : Nat) (a0 : zD) : Option Int :=
 (ze N a0).bind fun r1 => some r1.2
def zdt.k (N : Nat) : Kq := ⟨100, (cvv [T6] [Ty.zD] (zdt N)), go [ze.k N] {} [] Proofs.Tryz.func100⟩
def zky (N : Nat) (a0 : zD) : Option ((List Int) × Int × Int) :=
 (zdt N a0).bind fun r1 => cond (r1 != 0) (some ([], 0, r1)) ((zh N a0.zB).bind fun r2 => some (r2.1, r2.2, 0))
def zky.k (N : Nat) : Kq := ⟨74, (cvv [(Ty.sl T6), T6, T6] [Ty.zD] (zky N)), go [zdt.k N, zh.k N] {} [] Proofs.Tryz.func74⟩
def zwb : Ct U := { params := [.val Ty.str, .val T6], results := [Ty.str], outs := [], fresh := [], fn := app U [Ty.str, T6] (R := PT U [Ty.str]) (zti) }
theorem zwb.meets : zh9 (zqa [] [] [] [] [] [] [] []) 163 zwb :=
 z0s ⟨_, Proofs.Tryz.func163, rfl, by kernel_rfl⟩ (t := Ty.str) rfl rfl rfl rfl fun ds y hy E0 h0 ha μ H w us hA hm hG => by
  obtain ⟨s, n, rfl, hx⟩ := app2 hy; unfold zti at hx; split at hx
  · rename_i hn; cases hx; have hE : some ([.sc (.string s), .sc (.int .i64 n)], []) = some (E0, h0) := ha; cases hE; cases hA with
    | cons h1 h2 =>
     cases h2 with
     | cons h2 h3 =>
      cases h3; have hu := h1.int; have hu2 := h2.int; subst hu hu2; refine ⟨_, rfl, ?_⟩; have hc := Proofs.Tryz.strings_Repeat s n.toNat w (by omega) hn.2.2; have he : ((n.toNat : Nat) : Int) = n := by omega
      rw [he] at hc; exact hc.mono fun e w' hh => ⟨_, hh.1, z0e hh.2, .sc _⟩
  · cases hx
def zwb.k : Kq := ⟨163, zwb, zwb.meets⟩
def zf8 (a0 : Int) : Option (Storage × Int) :=
 (zdy a0 0 64).bind fun r1 => cond (!r1) (some ((⟨(⟨#[]⟩ : ByteArray), []⟩ : Storage), 3)) ((zti (⟨#[0]⟩ : ByteArray) (w6 (a0 * 16))).bind fun r2 =>
  if 0 ≤ a0 then (if a0 ≤ a0 then (cond (Nat.ble (a0.toNat * 1) zah) (some ((⟨r2, (List.replicate a0.toNat (false : Bool))⟩ : Storage), 0)) none) else none) else none)
def zf8.k : Kq := ⟨102, (cvv [Ty.Storage, T6] [T6] zf8), go [zdy.k, zwb.k] {} [] Proofs.Tryz.func102⟩
def zaq.b0 (N : Nat) (s0 : Int) (s5 : List Int) (s6 : Int) : Option (Stp (Int × (List Int) × Int)) :=
 cond (decide (s6 ≥ 0)) (if 0 ≤ s6 then (if s6 < (s5.length : Int) then ((s5[s6.toNat]?).bind fun x1001 =>
  some (.again ((w6 (s0.tdiv 10)), (s5.set s6.toNat (IntKind.wrap .u8 (s0.tmod 10))), (w6 (s6 - 1))))) else none) else none)
  (some (.leave (s0, s5, s6)))
def zaq.r0 (N : Nat) (x : Int × (List Int) × Int) := zaq.b0 N x.1 x.2.1 x.2.2
def zaq (N : Nat) (a0 : Int) (a1 : Int) : Option ((List Int)) :=
 if 0 ≤ a1 then (if a1 ≤ a1 then (cond (Nat.ble (a1.toNat * 1) zah)
  ((zi (zaq.r0 N) N (a0, (List.replicate a1.toNat (0 : Int)), (w6 (a1 - 1)))).bind fun y1 => some y1.2.1) none) else none) else none
def zaq.k (N : Nat) : Kq := ⟨218, (ctv [.val T6, .val T6] [(Ty.sl (Ty.int .u8))] [] [0] [T6, T6] (zaq N)), go [] {} [(0, .plain { slots := [(0, .val T6), (5, .own 5000005 (Ty.int .u8)), (6, .val T6)], boxes := [] } [T6, (Ty.sl (Ty.int .u8)), T6] (zi (zaq.r0 N) N))] Proofs.Tryz.func218 (hL := ⟨⟨_, _, rfl, by kernel_rfl⟩, trivial⟩)⟩
def zbf.b0 (N : Nat) (s0 : List Int) (s3 : List Int) (s4 : Int) : Option (Stp ((List Int) × (List Int) × Int)) :=
 cond (decide (s4 < (s0.length : Int))) ((idx s0 s4).bind fun x1001 => (idx s0 (w6 (s4 + 1))).bind fun x1002 =>
  cond (Nat.ble ((s3.length + ([(orI .u8 (IntKind.wrap .u8 (x1001 * 2 ^ (min (4 : Int).toNat 8))) x1002)] : List Int).length) * 1) zah)
  (some (.again (s0, (s3 ++ ([(orI .u8 (IntKind.wrap .u8 (x1001 * 2 ^ (min (4 : Int).toNat 8))) x1002)] : List Int)), (w6 (s4 + 2))))) none)
  (some (.leave (s0, s3, s4)))
def zbf.r0 (N : Nat) (x : (List Int) × (List Int) × Int) := zbf.b0 N x.1 x.2.1 x.2.2
def zbf (N : Nat) (a0 : List Int) : Option ByteArray :=
 (zi (zbf.r0 N) N (a0, [], 0)).bind fun y1 => some (ze6 y1.2.1)
def zbf.k (N : Nat) : Kq := ⟨219, (cvv [Ty.str] [(Ty.sl (Ty.int .u8))] (zbf N)), go [] {lits := [23]} [(0, .plain { slots := [(0, .val (Ty.sl (Ty.int .u8))), (3, .own 5000003 (Ty.int .u8)), (4, .val T6)], boxes := [] } [(Ty.sl (Ty.int .u8)), (Ty.sl (Ty.int .u8)), T6] (zi (zbf.r0 N) N))] Proofs.Tryz.func219 (hL := ⟨⟨_, _, rfl, by kernel_rfl⟩, trivial⟩)⟩
def zu.b1 (N : Nat) (s5 : List Int) (s25 : Int) (s26 : Int) (b3 : Value) : Option (Stp ((List Int) × Int × Int × Value)) :=
 cond (decide (s26 < s25)) (if 0 ≤ s26 then (if s26 < (s5.length : Int) then ((s5[s26.toNat]?).bind fun x2001 =>
  if 0 ≤ s26 then (if s26 < (s5.length : Int) then ((s5[s26.toNat]?).bind fun x2002 =>
  some (.again ((s5.set s26.toNat (IntKind.wrap .u8 (x2001 + 240))), s25, (w6 (s26 + 1)), b3))) else none) else none) else none) else none)
  (some (.leave (s5, s25, s26, b3)))
def zu.r1 (N : Nat) (x : (List Int) × Int × Int × Value) := zu.b1 N x.1 x.2.1 x.2.2.1 x.2.2.2
def zu.b3 (N : Nat) (s8 : List Int) (s9 : Int) (s10 : Int) : Option (Stp ((List Int) × Int × Int)) :=
 cond (decide (s9 ≥ 0)) (if 0 ≤ s9 then (if s9 < (s8.length : Int) then ((s8[s9.toNat]?).bind fun x4001 =>
  some (.again ((s8.set s9.toNat (IntKind.wrap .u8 s10)), (w6 (s9 - 1)), (s10.fdiv (2 ^ (min (8 : Int).toNat 64)))))) else none) else none)
  (some (.leave (s8, s9, s10)))
def zu.r3 (N : Nat) (x : (List Int) × Int × Int) := zu.b3 N x.1 x.2.1 x.2.2
def zu (N : Nat) (a0 : DataType) (a1 : Value) : Option ByteArray :=
 (zaq N (if (w6 (0 - a1.N)) > a1.N then (w6 (0 - a1.N)) else a1.N) a0.Length).bind fun r1 => cond (a0.Kind == 2)
  ((zi (zu.r1 N) N (r1, (r1.length : Int), 0, a1)).bind fun y2 => cond (decide (y2.2.2.2.N < 0))
  (if 0 ≤ (w6 ((y2.1.length : Int) - 1)) then (if (w6 ((y2.1.length : Int) - 1)) < (y2.1.length : Int) then ((y2.1[(w6 ((y2.1.length : Int) - 1)).toNat]?).bind fun x3 =>
  if 0 ≤ (w6 ((y2.1.length : Int) - 1)) then (if (w6 ((y2.1.length : Int) - 1)) < (y2.1.length : Int) then ((y2.1[(w6 ((y2.1.length : Int) - 1)).toNat]?).bind fun x4 =>
  some (ze6 (y2.1.set ((w6 ((y2.1.length : Int) - 1)).toNat) (IntKind.wrap .u8 (x3 - 32))))) else none) else none) else none) else none) (some (ze6 y2.1)))
  (cond (a0.Kind == 1) (cond (decide (a1.N < 0)) (cond (((r1.length : Int).tmod 2) == 0) (cond (Nat.ble ((([0] : List Int).length + r1.length) * 1) zah)
  (cond (Nat.ble (((([0] : List Int) ++ r1).length + ([13] : List Int).length) * 1) zah) ((zbf N ((([0] : List Int) ++ r1) ++ ([13] : List Int))).bind fun r5 =>
  some r5) none) none) (cond (Nat.ble ((r1.length + ([13] : List Int).length) * 1) zah) ((zbf N (r1 ++ ([13] : List Int))).bind fun r6 => some r6) none))
  (cond (((r1.length : Int).tmod 2) == 0) (cond (Nat.ble ((([0] : List Int).length + r1.length) * 1) zah)
  (cond (Nat.ble (((([0] : List Int) ++ r1).length + ([15] : List Int).length) * 1) zah) ((zbf N ((([0] : List Int) ++ r1) ++ ([15] : List Int))).bind fun r7 =>
  some r7) none) none) (cond (Nat.ble ((r1.length + ([15] : List Int).length) * 1) zah) ((zbf N (r1 ++ ([15] : List Int))).bind fun r8 => some r8) none)))
  (cond (a0.Kind == 3) ((zgz a0).bind fun r9 => if 0 ≤ r9 then (if r9 ≤ r9 then (cond (Nat.ble (r9.toNat * 1) zah)
  ((zi (zu.r3 N) N ((List.replicate r9.toNat (0 : Int)), (w6 (((List.replicate r9.toNat (0 : Int)).length : Int) - 1)), a1.N)).bind fun y10 =>
  some (ze6 y10.1)) none) else none) else none) (some a1.S)))
def zu.k (N : Nat) : Kq := ⟨165, (cvv [Ty.str] [Ty.DataType, Ty.Value] (zu N)), go [zaq.k N, zbf.k N, zgz.k] {lits := [16, 63, 64]} [(1, .plain { slots := [(3, .ptr 3 0), (5, .own 5000005 (Ty.int .u8)), (25, .val T6), (26, .val T6)], boxes := [(3, Ty.Value, [])] } [(Ty.sl (Ty.int .u8)), T6, T6, Ty.Value] (zi (zu.r1 N) N)), (3, .plain { slots := [(8, .own 5000008 (Ty.int .u8)), (9, .val T6), (10, .val T6)], boxes := [] } [(Ty.sl (Ty.int .u8)), T6, T6] (zi (zu.r3 N) N))] Proofs.Tryz.func165 (hL := ⟨⟨_, _, rfl, by kernel_rfl⟩, ⟨_, _, rfl, by kernel_rfl⟩, trivial⟩)⟩
def zfw (N : Nat) (a0 : DataType) (a1 : Value) : Option (ByteArray × Int) :=
 (zcm N a0 a1).bind fun r1 => cond (r1 != 0) (some ((⟨#[]⟩ : ByteArray), r1)) ((zu N a0 a1).bind fun r2 => some (r2, 0))
def zfw.k (N : Nat) : Kq := ⟨103, (cvv [Ty.str, T6] [Ty.DataType, Ty.Value] (zfw N)), go [zcm.k N, zu.k N] {} [] Proofs.Tryz.func103⟩
def zju (N : Nat) (a0 : Storage) (a1 : Int) (a2 : Int) : Option Int :=
 (zn N a0).bind fun r1 => cond (r1.2 != 0) (some r1.2) ((cond (decide (a1 < 0)) (some true) (some (decide (a2 < 0)))).bind fun g2 => (cond g2 (some true)
  (some (decide (a1 > (a0.Bytes.size : Int))))).bind fun g3 => (cond g3 (some true) (some (decide (a2 > (w6 ((a0.Bytes.size : Int) - a1)))))).bind fun g4 =>
  cond g4 (some 3) (some 0))
def zju.k (N : Nat) : Kq := ⟨166, (cvv [T6] [Ty.Storage, T6, T6] (zju N)), go [zn.k N] {} [] Proofs.Tryz.func166⟩
def zkt (a0 : Storage) (a1 : Int) (a2 : ByteArray) : Option Storage :=
 if 0 ≤ a1 ∧ a1 ≤ (a0.Bytes.size : Int) then (if 0 ≤ (0 : Int) ∧ (0 : Int) ≤ a1 then (if (((a0.Bytes.extract (0 : Int).toNat a1.toNat).size + a2.size : Nat) : Int) > IntKind.i64.max then none else if 0 ≤ (w6 (a1 + (a2.size : Int))) ∧ (w6 (a1 + (a2.size : Int))) ≤ (a0.Bytes.size : Int) then (if ((((a0.Bytes.extract (0 : Int).toNat a1.toNat) ++ a2).size + (a0.Bytes.extract (w6 (a1 + (a2.size : Int))).toNat a0.Bytes.size).size : Nat) : Int) > IntKind.i64.max then none else (zk7 1 a0.Tags).bind fun r1 =>
  cond (!(a2.toList == (⟨#[]⟩ : ByteArray).toList))
  (if 0 ≤ (w6 ((w6 ((w6 ((w6 (a1 + (a2.size : Int))) - 1)).tdiv 16)) + 1)) ∧ (w6 ((w6 ((w6 ((w6 (a1 + (a2.size : Int))) - 1)).tdiv 16)) + 1)) ≤ (r1.length : Int) then (if 0 ≤ (w6 (a1.tdiv 16)) ∧ (w6 (a1.tdiv 16)) ≤ (w6 ((w6 ((w6 ((w6 (a1 + (a2.size : Int))) - 1)).tdiv 16)) + 1)) then (some (⟨(((a0.Bytes.extract (0 : Int).toNat a1.toNat) ++ a2) ++ (a0.Bytes.extract (w6 (a1 + (a2.size : Int))).toNat a0.Bytes.size)), (r1.take ((w6 (a1.tdiv 16)).toNat) ++ List.replicate ((w6 ((w6 ((w6 ((w6 (a1 + (a2.size : Int))) - 1)).tdiv 16)) + 1)).toNat - (w6 (a1.tdiv 16)).toNat)
  (false : Bool) ++ r1.drop ((w6 (a1.tdiv 16)).toNat + ((w6 ((w6 ((w6 ((w6 (a1 + (a2.size : Int))) - 1)).tdiv 16)) + 1)).toNat - (w6 (a1.tdiv 16)).toNat)))⟩ : Storage)) else none) else none)
  (some (⟨(((a0.Bytes.extract (0 : Int).toNat a1.toNat) ++ a2) ++ (a0.Bytes.extract (w6 (a1 + (a2.size : Int))).toNat a0.Bytes.size)), r1⟩ : Storage))) else none) else none) else none
def zkt.k : Kq := ⟨167, (ctv [.val Ty.Storage, .val T6, .val Ty.str] [Ty.Storage] [] [1] [Ty.Storage, T6, Ty.str] zkt), go [x44.k] {} [] Proofs.Tryz.func167⟩
def zf7 (N : Nat) (a0 : Storage) (a1 : Int) (a2 : ByteArray) : Option (Storage × Int) :=
 (zju N a0 a1 (a2.size : Int)).bind fun r1 => cond (r1 != 0) (some ((⟨(⟨#[]⟩ : ByteArray), []⟩ : Storage), r1)) ((zkt a0 a1 a2).bind fun r2 => some (r2, 0))
def zf7.k (N : Nat) : Kq := ⟨104, (cvv [Ty.Storage, T6] [Ty.Storage, T6, Ty.str] (zf7 N)), go [zju.k N, zkt.k] {lits := [12]} [] Proofs.Tryz.func104⟩
def zy.b0 (N : Nat) (s5 : List Int) (s8 : Int) (s31 : List zH) (s32 : Int) (s33 : Int) (b2 : Storage) (b7 : Storage) : Option (Round (Storage × Int) ((List Int) × Int × (List zH) × Int × Int × Storage × Storage)) :=
 cond (decide (s33 < s32)) ((idx s31 s33).bind fun x1001 => (cond (x1001.Kind != 0) (some true) (some (s8 != 0))).bind fun g1002 =>
  cond g1002 (some (.again (s5, s8, s31, s32, (w6 (s33 + 1)), b2, b7))) ((zfw N x1001.zG x1001.Value).bind fun r1003 => cond (r1003.2 != 0)
  (some (.result ((⟨(⟨#[]⟩ : ByteArray), []⟩ : Storage), r1003.2))) ((idx s5 s33).bind fun x1004 => (zf7 N b7 x1004 r1003.1).bind fun r1005 =>
  some (.again (s5, r1005.2, s31, s32, (w6 (s33 + 1)), b2, r1005.1))))) (some (.leave (s5, s8, s31, s32, s33, b2, b7)))
def zy.r0 (N : Nat) (x : (List Int) × Int × (List zH) × Int × Int × Storage × Storage) := zy.b0 N x.1 x.2.1 x.2.2.1 x.2.2.2.1 x.2.2.2.2.1 x.2.2.2.2.2.1 x.2.2.2.2.2.2
def zy (N : Nat) (a0 : zD) : Option (Storage × Int) :=
 (zdt N a0).bind fun r1 => cond (r1 != 0) (some ((⟨(⟨#[]⟩ : ByteArray), []⟩ : Storage), r1)) ((zh N a0.zB).bind fun r2 =>
  (zf8 r2.2).bind fun r3 =>
  (zf (zy.r0 N) N (r2.1, r3.2, a0.zB, (a0.zB.length : Int), 0, (⟨(⟨#[]⟩ : ByteArray), []⟩ : Storage), r3.1)).bind fun z5 => zbc z5 (fun z =>
  some z) (fun y4 => some (y4.2.2.2.2.2.2, y4.2.1)))
def zy.k (N : Nat) : Kq := ⟨52, (cvv [Ty.Storage, T6] [Ty.zD] (zy N)), go [zdt.k N, zh.k N, zf8.k, zfw.k N, zf7.k N] {} [(0, .rets { slots := [(2, .ptr 2 0), (5, .val (Ty.sl T6)), (7, .ptr 7 0), (8, .val T6), (31, .val (Ty.sl Ty.zH)), (32, .val T6), (33, .val T6)], boxes := [(2, Ty.Storage, [1]), (7, Ty.Storage, [])] } [(Ty.sl T6), T6, (Ty.sl Ty.zH), T6, T6, Ty.Storage, Ty.Storage] (zf (zy.r0 N) N))] Proofs.Tryz.func52 (hL := ⟨⟨_, _, rfl, by kernel_rfl⟩, trivial⟩)⟩
def zb (a0 : zJ) (a1 : zC) : Option zJ :=
 cond (Nat.ble ((a0.code.length + ([a1] : List zC).length) * 224) zah)
  (some (⟨a0.zD, a0.layout, (a0.code ++ ([a1] : List zC))⟩ : zJ)) none
def zb.k : Kq := ⟨76, (ctv [.ptr Ty.zJ true [4], .val Ty.zC] [] [Ty.zJ] [] [Ty.zJ, Ty.zC] zb), go [] {lits := [10], pk := [1000000]} [] Proofs.Tryz.func76⟩
def zdk (a0 : zH) : Option Bool :=
 some (a0.zG.Kind != 0)
def zdk.k : Kq := ⟨178, (cvv [Ty.bool] [Ty.zH] zdk), go [] {} [] Proofs.Tryz.func178⟩
def zbd (a0 : zH) : Option Bool :=
 some (a0.Kind == 4)
def zbd.k : Kq := ⟨179, (cvv [Ty.bool] [Ty.zH] zbd), go [] {} [] Proofs.Tryz.func179⟩
def zej (a0 : zH) (a1 : zH) : Option Bool :=
 some (a0.Name.toList == a1.Base.toList)
def zej.k : Kq := ⟨228, (ctv [.val Ty.zH, .ptr Ty.zH false []] [Ty.bool] [] [] [Ty.zH, Ty.zH] zej), go [] {ro := [1000000], pk := [1000000]} [] Proofs.Tryz.func228⟩
def zaj.b0 (N : Nat) (s0 : List zH) (s7 : Int) (s8 : Int) (b1000000 : zH) : Option (Round Int ((List zH) × Int × Int × zH)) :=
 cond (decide (s8 < s7)) ((idx s0 s8).bind fun x1001 => (zej x1001 b1000000).bind fun r1002 => cond r1002 (some (.result s8))
  (some (.again (s0, s7, (w6 (s8 + 1)), b1000000)))) (some (.leave (s0, s7, s8, b1000000)))
def zaj.r0 (N : Nat) (x : (List zH) × Int × Int × zH) := zaj.b0 N x.1 x.2.1 x.2.2.1 x.2.2.2
def zaj (N : Nat) (a0 : List zH) (a1 : zH) : Option Int :=
 (zf (zaj.r0 N) N (a0, (a0.length : Int), 0, a1)).bind fun z2 => zbc z2 (fun z => some z) (fun y1 => some (-1))
def zaj.k (N : Nat) : Kq := ⟨207, (ctv [.val (Ty.sl Ty.zH), .clo 228 1, .ptr Ty.zH false []] [T6] [] [] [(Ty.sl Ty.zH), Ty.zH] (zaj N)), go [zej.k] {ro := [1000000], pk := [1000000]} [(0, .rets { slots := [(0, .val (Ty.sl Ty.zH)), (1, .fn 228 [1000000]), (7, .val T6), (8, .val T6)], boxes := [(1000000, Ty.zH, [])] } [(Ty.sl Ty.zH), T6, T6, Ty.zH] (zf (zaj.r0 N) N))] Proofs.Tryz.func207 (hL := ⟨⟨_, _, rfl, by kernel_rfl⟩, trivial⟩)⟩
def zm (N : Nat) (a0 : zJ) (a1 : Int) : Option zM :=
 (idx a0.zD.zB a1).bind fun x1 => cond (x1.Kind != 2) ((idx a0.layout a1).bind fun x2 => some (⟨false, 0, x2⟩ : zM))
  ((zaj N a0.zD.zB x1).bind fun r3 => (idx a0.layout r3).bind fun x4 => some (⟨true, x4, x1.Offset⟩ : zM))
def zm.k (N : Nat) : Kq := ⟨180, (ctv [.ptr Ty.zJ false [], .val T6] [Ty.zM] [] [] [Ty.zJ, T6] (zm N)), go [zaj.k N] {ro := [1000000], pk := [1000000]} [] Proofs.Tryz.func180⟩
def zt (N : Nat) (a0 : zJ) (a1 : Int) (a2 : Int) : Option zJ :=
 (idx a0.zD.zB a2).bind fun x1 => (zbd x1).bind fun r2 =>
  cond r2 ((zb a0 (⟨2, a1, 0, 0, 0, (⟨false, 0, 0⟩ : zM), (⟨false, 0, 0⟩ : zM), (⟨0, 0, 0⟩ : DataType), (⟨0, 0, 0⟩ : DataType), false, false, (⟨x1.Value.N, x1.zG.Scale⟩ : Number), (⟨#[]⟩ : ByteArray), (⟨#[]⟩ : ByteArray), 0, 0, 0, 0⟩ : zC)).bind fun r3 =>
  some r3) ((zm N a0 a2).bind fun r4 =>
  (zb a0 (⟨0, a1, 0, 0, 0, r4, (⟨false, 0, 0⟩ : zM), x1.zG, (⟨0, 0, 0⟩ : DataType), false, false, (⟨0, 0⟩ : Number), (⟨#[]⟩ : ByteArray), (⟨#[]⟩ : ByteArray), 0, 0, 0, 0⟩ : zC)).bind fun r5 =>
  some r5)
def zt.k (N : Nat) : Kq := ⟨125, (ctv [.ptr Ty.zJ true [4], .val T6, .val T6] [] [Ty.zJ] [] [Ty.zJ, T6, T6] (zt N)), go [zb.k, zbd.k, zm.k N] {lits := [32], pk := [1000000]} [] Proofs.Tryz.func125⟩
def zb9 (N : Nat) (a0 : zJ) (a1 : Int) (a2 : Bool) : Option zJ :=
 (zm N a0 a1).bind fun r1 => (idx a0.zD.zB a1).bind fun x2 =>
  (zb a0 (⟨1, 0, 0, 0, 0, r1, (⟨false, 0, 0⟩ : zM), x2.zG, (⟨0, 0, 0⟩ : DataType), a2, false, (⟨0, 0⟩ : Number), (⟨#[]⟩ : ByteArray), (⟨#[]⟩ : ByteArray), 0, 0, 0, 0⟩ : zC)).bind fun r3 =>
  some r3
def zb9.k (N : Nat) : Kq := ⟨126, (ctv [.ptr Ty.zJ true [4], .val T6, .val Ty.bool] [] [Ty.zJ] [] [Ty.zJ, T6, Ty.bool] (zb9 N)), go [zb.k, zm.k N] {lits := [9], pk := [1000000]} [] Proofs.Tryz.func126⟩
def zfx (N : Nat) (a0 : zJ) (a1 : zK) : Option zJ :=
 (idx a1.Args 0).bind fun x1 => (idx a1.Args 1).bind fun x2 => (idx a0.zD.zB x1).bind fun x3 => (idx a0.zD.zB x2).bind fun x4 =>
  (zdk x3).bind fun r5 => cond r5 ((zt N a0 0 x2).bind fun r6 => (zb9 N r6 x1 (a1.Op == 1)).bind fun r7 => some r7)
  ((zbd x4).bind fun r8 => cond r8 ((zm N a0 x1).bind fun r9 =>
  (zb a0 (⟨10, 0, 0, 0, 0, r9, (⟨false, 0, 0⟩ : zM), x3.zG, (⟨0, 0, 0⟩ : DataType), false, false, (⟨0, 0⟩ : Number), x4.Value.S, (⟨#[]⟩ : ByteArray), 0, 0, 0, 0⟩ : zC)).bind fun r10 =>
  some r10) ((zm N a0 x1).bind fun r11 => (zm N a0 x2).bind fun r12 =>
  (zb a0 (⟨9, 0, 0, 0, 0, r11, r12, x3.zG, x4.zG, false, false, (⟨0, 0⟩ : Number), (⟨#[]⟩ : ByteArray), (⟨#[]⟩ : ByteArray), 0, 0, 0, 0⟩ : zC)).bind fun r13 =>
  some r13))
def zfx.k (N : Nat) : Kq := ⟨121, (ctv [.ptr Ty.zJ true [4], .val Ty.zK] [] [Ty.zJ] [] [Ty.zJ, Ty.zK] (zfx N)), go [zb.k, zt.k N, zb9.k N, zdk.k, zbd.k, zm.k N] {lits := [35, 40, 63], pk := [1000000]} [] Proofs.Tryz.func121⟩
def zec (N : Nat) (a0 : zJ) (a1 : zK) : Option zJ :=
 (idx a1.Args 1).bind fun x1 => (zt N a0 0 x1).bind fun r2 => (idx a1.Args 2).bind fun x3 => (zt N r2 1 x3).bind fun r4 =>
  (idx a1.Args 0).bind fun x5 => (idx r4.zD.zB x5).bind fun x6 =>
  (zb r4 (⟨4, 0, 0, 1, (w6 ((w6 (a1.Op - 2)) + 0)), (⟨false, 0, 0⟩ : zM), (⟨false, 0, 0⟩ : zM), x6.zG, (⟨0, 0, 0⟩ : DataType), false, false, (⟨0, 0⟩ : Number), (⟨#[]⟩ : ByteArray), (⟨#[]⟩ : ByteArray), 0, 0, 0, 0⟩ : zC)).bind fun r7 =>
  (idx a1.Args 0).bind fun x8 => (zb9 N r7 x8 false).bind fun r9 => some r9
def zec.k (N : Nat) : Kq := ⟨122, (ctv [.ptr Ty.zJ true [4], .val Ty.zK] [] [Ty.zJ] [] [Ty.zJ, Ty.zK] (zec N)), go [zb.k, zt.k N, zb9.k N] {pk := [1000000]} [] Proofs.Tryz.func122⟩
def zfn (N : Nat) (a0 : zJ) (a1 : Int) (a2 : Int) : Option (Bool × zJ) :=
 (idx a0.zD.zB a1).bind fun x1 => (idx a0.zD.zB a2).bind fun x2 => (zbd x1).bind fun r3 =>
  (cond r3 ((zbd x2).bind fun r4 => some r4) (some false)).bind fun g5 =>
  cond g5 ((zb a0 (⟨13, 0, 0, 0, 0, (⟨false, 0, 0⟩ : zM), (⟨false, 0, 0⟩ : zM), (⟨0, 0, 0⟩ : DataType), (⟨0, 0, 0⟩ : DataType), false, false, (⟨0, 0⟩ : Number), x1.Value.S, x2.Value.S, 0, 0, 0, 0⟩ : zC)).bind fun r6 =>
  some (false, r6)) ((zbd x2).bind fun r7 => cond r7 ((zm N a0 a1).bind fun r8 =>
  (zb a0 (⟨12, 0, 0, 0, 0, r8, (⟨false, 0, 0⟩ : zM), x1.zG, (⟨0, 0, 0⟩ : DataType), false, false, (⟨0, 0⟩ : Number), x2.Value.S, (⟨#[]⟩ : ByteArray), 0, 0, 0, 0⟩ : zC)).bind fun r9 =>
  some (false, r9)) ((zbd x1).bind fun r10 => cond r10 ((zm N a0 a2).bind fun r11 =>
  (zb a0 (⟨12, 0, 0, 0, 0, r11, (⟨false, 0, 0⟩ : zM), x2.zG, (⟨0, 0, 0⟩ : DataType), false, false, (⟨0, 0⟩ : Number), x1.Value.S, (⟨#[]⟩ : ByteArray), 0, 0, 0, 0⟩ : zC)).bind fun r12 =>
  some (true, r12)) ((zm N a0 a1).bind fun r13 => (zm N a0 a2).bind fun r14 =>
  (zb a0 (⟨11, 0, 0, 0, 0, r13, r14, x1.zG, x2.zG, false, false, (⟨0, 0⟩ : Number), (⟨#[]⟩ : ByteArray), (⟨#[]⟩ : ByteArray), 0, 0, 0, 0⟩ : zC)).bind fun r15 =>
  some (false, r15))))
def zfn.k (N : Nat) : Kq := ⟨181, (ctv [.ptr Ty.zJ true [4], .val T6, .val T6] [Ty.bool] [Ty.zJ] [] [Ty.zJ, T6, T6] (zfn N)), go [zb.k, zbd.k, zm.k N] {lits := [28, 33, 60, 74], pk := [1000000]} [] Proofs.Tryz.func181⟩
def zfb (N : Nat) (a0 : zJ) (a1 : zK) : Option zJ :=
 (idx a1.Args 0).bind fun x1 => (idx a0.zD.zB x1).bind fun x2 => (zdk x2).bind fun r3 => cond r3 ((idx a1.Args 0).bind fun x4 =>
  (zt N a0 0 x4).bind fun r5 => (idx a1.Args 1).bind fun x6 => (zt N r5 1 x6).bind fun r7 =>
  (zb r7 (⟨5, 0, 0, 1, 0, (⟨false, 0, 0⟩ : zM), (⟨false, 0, 0⟩ : zM), (⟨0, 0, 0⟩ : DataType), (⟨0, 0, 0⟩ : DataType), false, false, (⟨0, 0⟩ : Number), (⟨#[]⟩ : ByteArray), (⟨#[]⟩ : ByteArray), 0, 0, 0, 0⟩ : zC)).bind fun r8 =>
  (cond (a1.Op == 8) (some false) (some false)).bind fun g9 => cond g9 ((idx a1.Args 2).bind fun x10 => (idx r8.zD.zB x10).bind fun x11 =>
  (zb r8 (⟨6, 0, 0, 0, 0, (⟨false, 0, 0⟩ : zM), (⟨false, 0, 0⟩ : zM), (⟨0, 0, 0⟩ : DataType), (⟨0, 0, 0⟩ : DataType), false, false, (⟨0, 0⟩ : Number), (⟨#[]⟩ : ByteArray), (⟨#[]⟩ : ByteArray), 4, x11.Target, 0, 0⟩ : zC)).bind fun r12 =>
  some r12) (cond (a1.Op == 8) ((idx a1.Args 2).bind fun x13 => (idx r8.zD.zB x13).bind fun x14 =>
  (zb r8 (⟨6, 0, 0, 0, 0, (⟨false, 0, 0⟩ : zM), (⟨false, 0, 0⟩ : zM), (⟨0, 0, 0⟩ : DataType), (⟨0, 0, 0⟩ : DataType), false, false, (⟨0, 0⟩ : Number), (⟨#[]⟩ : ByteArray), (⟨#[]⟩ : ByteArray), 1, x14.Target, 0, 0⟩ : zC)).bind fun r15 =>
  some r15) ((idx a1.Args 2).bind fun x16 => (idx r8.zD.zB x16).bind fun x17 =>
  (zb r8 (⟨6, 0, 0, 0, 0, (⟨false, 0, 0⟩ : zM), (⟨false, 0, 0⟩ : zM), (⟨0, 0, 0⟩ : DataType), (⟨0, 0, 0⟩ : DataType), false, false, (⟨0, 0⟩ : Number), (⟨#[]⟩ : ByteArray), (⟨#[]⟩ : ByteArray), 2, x17.Target, 0, 0⟩ : zC)).bind fun r18 =>
  some r18))) ((idx a1.Args 0).bind fun x19 => (idx a1.Args 1).bind fun x20 => (zfn N a0 x19 x20).bind fun r21 => (cond (a1.Op == 8) (some r21.1)
  (some false)).bind fun g22 => cond g22 ((idx a1.Args 2).bind fun x23 => (idx r21.2.zD.zB x23).bind fun x24 =>
  (zb r21.2 (⟨6, 0, 0, 0, 0, (⟨false, 0, 0⟩ : zM), (⟨false, 0, 0⟩ : zM), (⟨0, 0, 0⟩ : DataType), (⟨0, 0, 0⟩ : DataType), false, false, (⟨0, 0⟩ : Number), (⟨#[]⟩ : ByteArray), (⟨#[]⟩ : ByteArray), 4, x24.Target, 0, 0⟩ : zC)).bind fun r25 =>
  some r25) (cond (a1.Op == 8) ((idx a1.Args 2).bind fun x26 => (idx r21.2.zD.zB x26).bind fun x27 =>
  (zb r21.2 (⟨6, 0, 0, 0, 0, (⟨false, 0, 0⟩ : zM), (⟨false, 0, 0⟩ : zM), (⟨0, 0, 0⟩ : DataType), (⟨0, 0, 0⟩ : DataType), false, false, (⟨0, 0⟩ : Number), (⟨#[]⟩ : ByteArray), (⟨#[]⟩ : ByteArray), 1, x27.Target, 0, 0⟩ : zC)).bind fun r28 =>
  some r28) ((idx a1.Args 2).bind fun x29 => (idx r21.2.zD.zB x29).bind fun x30 =>
  (zb r21.2 (⟨6, 0, 0, 0, 0, (⟨false, 0, 0⟩ : zM), (⟨false, 0, 0⟩ : zM), (⟨0, 0, 0⟩ : DataType), (⟨0, 0, 0⟩ : DataType), false, false, (⟨0, 0⟩ : Number), (⟨#[]⟩ : ByteArray), (⟨#[]⟩ : ByteArray), 2, x30.Target, 0, 0⟩ : zC)).bind fun r31 =>
  some r31)))
def zfb.k (N : Nat) : Kq := ⟨123, (ctv [.ptr Ty.zJ true [4], .val Ty.zK] [] [Ty.zJ] [] [Ty.zJ, Ty.zK] (zfb N)), go [zb.k, zt.k N, zdk.k, zfn.k N] {pk := [1000000]} [] Proofs.Tryz.func123⟩
def zei (N : Nat) (a0 : zJ) (a1 : zK) : Option zJ :=
 (idx a1.Args 0).bind fun x1 => (idx a0.layout x1).bind fun x2 => cond (a1.Op == 10) ((idx a1.Args 1).bind fun x3 => (zm N a0 x3).bind fun r4 =>
  (idx a1.Args 1).bind fun x5 => (idx a0.zD.zB x5).bind fun x6 =>
  (zb a0 (⟨14, 0, 0, 0, 0, r4, (⟨false, 0, 0⟩ : zM), x6.zG, (⟨0, 0, 0⟩ : DataType), false, false, (⟨0, 0⟩ : Number), (⟨#[]⟩ : ByteArray), (⟨#[]⟩ : ByteArray), 0, 0, x2, 0⟩ : zC)).bind fun r7 =>
  some r7) (cond (a1.Op == 11) ((idx a1.Args 1).bind fun x8 => (idx a0.layout x8).bind fun x9 =>
  (zb a0 (⟨15, 0, 0, 0, 0, (⟨false, 0, 0⟩ : zM), (⟨false, 0, 0⟩ : zM), (⟨0, 0, 0⟩ : DataType), (⟨0, 0, 0⟩ : DataType), false, false, (⟨0, 0⟩ : Number), (⟨#[]⟩ : ByteArray), (⟨#[]⟩ : ByteArray), 0, 0, x2, x9⟩ : zC)).bind fun r10 =>
  some r10) (cond (a1.Op == 12)
  ((zb a0 (⟨17, 0, 0, 0, 0, (⟨false, 0, 0⟩ : zM), (⟨false, 0, 0⟩ : zM), (⟨0, 0, 0⟩ : DataType), (⟨0, 0, 0⟩ : DataType), false, false, (⟨0, 0⟩ : Number), (⟨#[]⟩ : ByteArray), (⟨#[]⟩ : ByteArray), 0, 0, x2, 0⟩ : zC)).bind fun r11 =>
  (idx a1.Args 1).bind fun x12 => (zt N r11 0 x12).bind fun r13 =>
  (zb r13 (⟨16, 0, 0, 0, 0, (⟨false, 0, 0⟩ : zM), (⟨false, 0, 0⟩ : zM), (⟨0, 0, 0⟩ : DataType), (⟨0, 0, 0⟩ : DataType), false, false, (⟨0, 0⟩ : Number), (⟨#[]⟩ : ByteArray), (⟨#[]⟩ : ByteArray), 0, 0, x2, 0⟩ : zC)).bind fun r14 =>
  some r14) (some a0)))
def zei.k (N : Nat) : Kq := ⟨124, (ctv [.ptr Ty.zJ true [4], .val Ty.zK] [] [Ty.zJ] [] [Ty.zJ, Ty.zK] (zei N)), go [zb.k, zt.k N, zm.k N] {lits := [26], pk := [1000000]} [] Proofs.Tryz.func124⟩
def zfo (N : Nat) (a0 : zJ) (a1 : Int) : Option zJ :=
 (idx a0.zD.zB a1).bind fun x1 => (zdk x1).bind fun r2 => cond r2 ((zt N a0 0 a1).bind fun r3 =>
  (zb r3 (⟨22, 0, 0, 0, 0, (⟨false, 0, 0⟩ : zM), (⟨false, 0, 0⟩ : zM), (⟨0, 0, 0⟩ : DataType), (⟨0, 0, 0⟩ : DataType), false, false, (⟨0, 0⟩ : Number), (⟨#[]⟩ : ByteArray), (⟨#[]⟩ : ByteArray), 0, 0, 0, 0⟩ : zC)).bind fun r4 =>
  some r4) ((zbd x1).bind fun r5 =>
  cond r5 ((zb a0 (⟨24, 0, 0, 0, 0, (⟨false, 0, 0⟩ : zM), (⟨false, 0, 0⟩ : zM), (⟨0, 0, 0⟩ : DataType), (⟨0, 0, 0⟩ : DataType), false, false, (⟨0, 0⟩ : Number), x1.Value.S, (⟨#[]⟩ : ByteArray), 0, 0, 0, 0⟩ : zC)).bind fun r6 =>
  some r6) ((zm N a0 a1).bind fun r7 =>
  (zb a0 (⟨23, 0, 0, 0, 0, r7, (⟨false, 0, 0⟩ : zM), x1.zG, (⟨0, 0, 0⟩ : DataType), false, false, (⟨0, 0⟩ : Number), (⟨#[]⟩ : ByteArray), (⟨#[]⟩ : ByteArray), 0, 0, 0, 0⟩ : zC)).bind fun r8 =>
  some r8))
def zfo.k (N : Nat) : Kq := ⟨127, (ctv [.ptr Ty.zJ true [4], .val T6] [] [Ty.zJ] [] [Ty.zJ, T6] (zfo N)), go [zb.k, zt.k N, zdk.k, zbd.k, zm.k N] {lits := [16], pk := [1000000]} [] Proofs.Tryz.func127⟩
def zdu (N : Nat) (a0 : zJ) (a1 : zK) : Option zJ :=
 (zb a0 (⟨25, 0, 0, 0, 0, (⟨false, 0, 0⟩ : zM), (⟨false, 0, 0⟩ : zM), (⟨0, 0, 0⟩ : DataType), (⟨0, 0, 0⟩ : DataType), false, false, (⟨0, 0⟩ : Number), (⟨#[]⟩ : ByteArray), (⟨#[]⟩ : ByteArray), 0, 0, 0, 0⟩ : zC)).bind fun r1 =>
  (cond (a1.Op == 0) (some (a1.Op == 0)) (some (a1.Op == 1))).bind fun q2 => cond q2 ((zfx N r1 a1).bind fun r3 => some r3) ((cond (a1.Op == 2)
  (some (a1.Op == 2)) (cond (a1.Op == 3) (some (a1.Op == 3)) (cond (a1.Op == 4) (some (a1.Op == 4)) (cond (a1.Op == 5) (some (a1.Op == 5)) (some (a1.Op == 6)))))).bind fun q4 =>
  cond q4 ((zec N r1 a1).bind fun r5 => some r5) ((cond (a1.Op == 7) (some (a1.Op == 7)) (some (a1.Op == 8))).bind fun q6 =>
  cond q6 ((zfb N r1 a1).bind fun r7 => some r7) (cond (a1.Op == 9) ((idx a1.Args 0).bind fun x8 => (idx r1.zD.zB x8).bind fun x9 =>
  (zb r1 (⟨8, 0, 0, 0, 0, (⟨false, 0, 0⟩ : zM), (⟨false, 0, 0⟩ : zM), (⟨0, 0, 0⟩ : DataType), (⟨0, 0, 0⟩ : DataType), false, false, (⟨0, 0⟩ : Number), (⟨#[]⟩ : ByteArray), (⟨#[]⟩ : ByteArray), 0, x9.Target, 0, 0⟩ : zC)).bind fun r10 =>
  some r10) (cond (a1.Op == 13) ((idx a1.Args 0).bind fun x11 => (idx r1.zD.zB x11).bind fun x12 =>
  (zb r1 (⟨18, 0, 0, 0, 0, (⟨false, 0, 0⟩ : zM), (⟨false, 0, 0⟩ : zM), (⟨0, 0, 0⟩ : DataType), (⟨0, 0, 0⟩ : DataType), false, false, (⟨0, 0⟩ : Number), (⟨#[]⟩ : ByteArray), (⟨#[]⟩ : ByteArray), 0, x12.Target, 0, 0⟩ : zC)).bind fun r13 =>
  some r13) ((cond (a1.Op == 10) (some (a1.Op == 10)) (cond (a1.Op == 11) (some (a1.Op == 11)) (some (a1.Op == 12)))).bind fun q14 =>
  cond q14 ((zei N r1 a1).bind fun r15 => some r15) (cond (a1.Op == 14)
  ((zb r1 (⟨19, 0, 0, 0, 0, (⟨false, 0, 0⟩ : zM), (⟨false, 0, 0⟩ : zM), (⟨0, 0, 0⟩ : DataType), (⟨0, 0, 0⟩ : DataType), false, false, (⟨0, 0⟩ : Number), (⟨#[]⟩ : ByteArray), (⟨#[]⟩ : ByteArray), 0, 0, 0, 0⟩ : zC)).bind fun r16 =>
  some r16) (cond (a1.Op == 15) ((idx a1.Args 0).bind fun x17 => (zt N r1 0 x17).bind fun r18 =>
  (zb r18 (⟨20, 0, 0, 0, 0, (⟨false, 0, 0⟩ : zM), (⟨false, 0, 0⟩ : zM), (⟨0, 0, 0⟩ : DataType), (⟨0, 0, 0⟩ : DataType), false, false, (⟨0, 0⟩ : Number), (⟨#[]⟩ : ByteArray), (⟨#[]⟩ : ByteArray), 0, 0, 0, 0⟩ : zC)).bind fun r19 =>
  some r19) (cond (a1.Op == 16)
  ((zb r1 (⟨21, 0, 0, 0, 0, (⟨false, 0, 0⟩ : zM), (⟨false, 0, 0⟩ : zM), (⟨0, 0, 0⟩ : DataType), (⟨0, 0, 0⟩ : DataType), false, false, (⟨0, 0⟩ : Number), (⟨#[]⟩ : ByteArray), (⟨#[]⟩ : ByteArray), 0, 0, 0, 0⟩ : zC)).bind fun r20 =>
  (idx a1.Args 0).bind fun x21 => (zb9 N r20 x21 false).bind fun r22 => some r22) (cond (a1.Op == 17) ((idx a1.Args 0).bind fun x23 =>
  (zfo N r1 x23).bind fun r24 => some r24) (cond (a1.Op == 18)
  ((zb r1 (⟨26, 0, 0, 0, 0, (⟨false, 0, 0⟩ : zM), (⟨false, 0, 0⟩ : zM), (⟨0, 0, 0⟩ : DataType), (⟨0, 0, 0⟩ : DataType), false, false, (⟨0, 0⟩ : Number), (⟨#[]⟩ : ByteArray), (⟨#[]⟩ : ByteArray), 0, 0, 0, 0⟩ : zC)).bind fun r25 =>
  some r25) (some r1)))))))))))
def zdu.k (N : Nat) : Kq := ⟨75, (ctv [.ptr Ty.zJ true [4], .val Ty.zK] [] [Ty.zJ] [] [Ty.zJ, Ty.zK] (zdu N)), go [zb.k, zfx.k N, zec.k N, zfb.k N, zei.k N, zt.k N, zb9.k N, zfo.k N] {pk := [1000000], bj := [9, 15, 24, 64]} [] Proofs.Tryz.func75⟩
def zaz.b0 (N : Nat) (s1 : List Int) (s5 : List zR) (s8 : List zU) (s9 : Int) (s10 : Int) : Option (Stp ((List Int) × (List zR) × (List zU) × Int × Int)) :=
 cond (decide (s10 < s9)) ((idx s8 s10).bind fun x1001 => (idx s1 x1001.From).bind fun x1002 => (idx s1 x1001.To).bind fun x1003 => (idx s1 x1001.Handler).bind fun x1004 =>
  cond (Nat.ble ((s5.length + ([(⟨x1002, x1003, x1001.Exception, x1004⟩ : zR)] : List zR).length) * 32) zah)
  (some (.again (s1, (s5 ++ ([(⟨x1002, x1003, x1001.Exception, x1004⟩ : zR)] : List zR)), s8, s9, (w6 (s10 + 1))))) none) (some (.leave (s1, s5, s8, s9, s10)))
def zaz.r0 (N : Nat) (x : (List Int) × (List zR) × (List zU) × Int × Int) := zaz.b0 N x.1 x.2.1 x.2.2.1 x.2.2.2.1 x.2.2.2.2
def zaz (N : Nat) (a0 : List zU) (a1 : List Int) : Option ((List zR)) :=
 (zi (zaz.r0 N) N (a1, [], a0, (a0.length : Int), 0)).bind fun y1 => some y1.2.1
def zaz.k (N : Nat) : Kq := ⟨58, (cvv [(Ty.sl Ty.zR)] [(Ty.sl Ty.zU), (Ty.sl T6)] (zaz N)), go [] {lits := [33]} [(0, .plain { slots := [(1, .val (Ty.sl T6)), (5, .own 5000005 Ty.zR), (8, .val (Ty.sl Ty.zU)), (9, .val T6), (10, .val T6)], boxes := [] } [(Ty.sl T6), (Ty.sl Ty.zR), (Ty.sl Ty.zU), T6, T6] (zi (zaz.r0 N) N))] Proofs.Tryz.func58 (hL := ⟨⟨_, _, rfl, by kernel_rfl⟩, trivial⟩)⟩
def zba.b0 (N : Nat) (s13 : List Int) (s55 : List zK) (s56 : Int) (s57 : Int) (b2 : zD) (b4 : zI) (b5 : zY) (b11 : Storage) (b53 : zJ) : Option (Stp ((List Int) × (List zK) × Int × Int × zD × zI × zY × Storage × zJ)) :=
 cond (decide (s57 < s56)) ((idx s55 s57).bind fun x1001 => cond (Nat.ble ((s13.length + ([(b53.code.length : Int)] : List Int).length) * 8) zah)
  ((zdu N b53 x1001).bind fun r1002 =>
  some (.again ((s13 ++ ([(b53.code.length : Int)] : List Int)), s55, s56, (w6 (s57 + 1)), b2, b4, b5, b11, r1002))) none)
  (some (.leave (s13, s55, s56, s57, b2, b4, b5, b11, b53)))
def zba.r0 (N : Nat) (x : (List Int) × (List zK) × Int × Int × zD × zI × zY × Storage × zJ) := zba.b0 N x.1 x.2.1 x.2.2.1 x.2.2.2.1 x.2.2.2.2.1 x.2.2.2.2.2.1 x.2.2.2.2.2.2.1 x.2.2.2.2.2.2.2.1 x.2.2.2.2.2.2.2.2
def zba.b2 (N : Nat) (s13 : List Int) (s88 : Int) (s89 : Int) (b2 : zD) (b4 : zI) (b5 : zY) (b11 : Storage) (b53 : zJ) : Option (Stp ((List Int) × Int × Int × zD × zI × zY × Storage × zJ)) :=
 cond (decide (s89 < s88)) (if 0 ≤ s89 then (if s89 < (b53.code.length : Int) then ((b53.code[s89.toNat]?).bind fun x3001 => (zcg x3001.Op).bind fun r3002 =>
  cond r3002 (if 0 ≤ x3001.Target then (if x3001.Target < (s13.length : Int) then ((s13[x3001.Target.toNat]?).bind fun x3003 =>
  if 0 ≤ s89 then (if s89 < (b53.code.length : Int) then ((b53.code[s89.toNat]?).bind fun x3004 =>
  some (.again (s13, s88, (w6 (s89 + 1)), b2, b4, b5, b11, (⟨b53.zD, b53.layout, (b53.code.set s89.toNat (⟨x3004.Op, x3004.R, x3004.A, x3004.B, x3004.zS, x3004.Place, x3004.From, x3004.zG, x3004.Second, x3004.Half, x3004.zO, x3004.Number, x3004.Text, x3004.Other, x3004.Mask, x3003, x3004.Pointer, x3004.Source⟩ : zC))⟩ : zJ)))) else none) else none) else none) else none)
  (some (.again (s13, s88, (w6 (s89 + 1)), b2, b4, b5, b11, b53)))) else none) else none) (some (.leave (s13, s88, s89, b2, b4, b5, b11, b53)))
def zba.r2 (N : Nat) (x : (List Int) × Int × Int × zD × zI × zY × Storage × zJ) := zba.b2 N x.1 x.2.1 x.2.2.1 x.2.2.2.1 x.2.2.2.2.1 x.2.2.2.2.2.1 x.2.2.2.2.2.2.1 x.2.2.2.2.2.2.2
def zba (N : Nat) (a0 : zD) (a1 : zL) : Option (zI × zY × Int) :=
 (zdv N a0).bind fun r1 => (zcs a1).bind fun r2 => (za9 N ([r1, r2] : List Int)).bind fun r3 => cond (r3 != 0)
  (some ((⟨(⟨(⟨#[]⟩ : ByteArray), []⟩ : Storage), [], []⟩ : zI), (⟨[]⟩ : zY), r3)) ((zky N a0).bind fun r4 => cond (r4.2.2 != 0)
  (some ((⟨(⟨(⟨#[]⟩ : ByteArray), []⟩ : Storage), [], []⟩ : zI), (⟨[]⟩ : zY), r4.2.2)) ((zy N a0).bind fun r5 => cond (r5.2 != 0)
  (some ((⟨(⟨(⟨#[]⟩ : ByteArray), []⟩ : Storage), [], []⟩ : zI), (⟨[]⟩ : zY), r5.2))
  ((zi (zba.r0 N) N ([], a0.zA, (a0.zA.length : Int), 0, a0, (⟨(⟨(⟨#[]⟩ : ByteArray), []⟩ : Storage), [], []⟩ : zI), (⟨[]⟩ : zY), r5.1, (⟨a0, r4.1, []⟩ : zJ))).bind fun y6 =>
  cond (Nat.ble ((y6.1.length + ([(y6.2.2.2.2.2.2.2.2.code.length : Int)] : List Int).length) * 8) zah)
  ((zb y6.2.2.2.2.2.2.2.2 (⟨26, 0, 0, 0, 0, (⟨false, 0, 0⟩ : zM), (⟨false, 0, 0⟩ : zM), (⟨0, 0, 0⟩ : DataType), (⟨0, 0, 0⟩ : DataType), false, false, (⟨0, 0⟩ : Number), (⟨#[]⟩ : ByteArray), (⟨#[]⟩ : ByteArray), 0, 0, 0, 0⟩ : zC)).bind fun r7 =>
  (zi (zba.r2 N) N ((y6.1 ++ ([(y6.2.2.2.2.2.2.2.2.code.length : Int)] : List Int)), (r7.code.length : Int), 0, y6.2.2.2.2.1, y6.2.2.2.2.2.1, y6.2.2.2.2.2.2.1, y6.2.2.2.2.2.2.2.1, r7)).bind fun y8 =>
  (zaz N y8.2.2.2.1.zP y8.1).bind fun r9 => some ((⟨y8.2.2.2.2.2.2.1, y8.2.2.2.2.2.2.2.code, r9⟩ : zI), (⟨y8.1⟩ : zY), 0)) none)))
def zba.k (N : Nat) : Kq := ⟨27, (cvv [Ty.zI, Ty.zY, T6] [Ty.zD, Ty.zL] (zba N)), go [za9.k N, zdv.k N, zcs.k, zy.k N, zcg.k, zaz.k N, zky.k N, zdu.k N, zb.k] {pre := [(26, [13])], lits := [19, 21, 22, 66, 67, 78, 79]} [(0, .plain { slots := [(2, .ptr 2 0), (4, .ptr 4 0), (5, .ptr 5 0), (11, .ptr 11 0), (12, .ptr 53 0), (13, .own 5000013 T6), (55, .val (Ty.sl Ty.zK)), (56, .val T6), (57, .val T6)], boxes := [(2, Ty.zD, []), (4, Ty.zI, [1, 2, 3]), (5, Ty.zY, [0]), (11, Ty.Storage, []), (53, Ty.zJ, [4])] } [(Ty.sl T6), (Ty.sl Ty.zK), T6, T6, Ty.zD, Ty.zI, Ty.zY, Ty.Storage, Ty.zJ] (zi (zba.r0 N) N)), (2, .plain { slots := [(2, .ptr 2 0), (4, .ptr 4 0), (5, .ptr 5 0), (11, .ptr 11 0), (12, .ptr 53 0), (13, .own 5000013 T6), (87, .ofbox 12 53 4), (88, .val T6), (89, .val T6)], boxes := [(2, Ty.zD, []), (4, Ty.zI, [1, 2, 3]), (5, Ty.zY, [0]), (11, Ty.Storage, []), (53, Ty.zJ, [4])] } [(Ty.sl T6), T6, T6, Ty.zD, Ty.zI, Ty.zY, Ty.Storage, Ty.zJ] (zi (zba.r2 N) N))] Proofs.Tryz.func27 (hL := ⟨⟨_, _, rfl, by kernel_rfl⟩, ⟨_, _, rfl, by kernel_rfl⟩, trivial⟩)⟩
def zlb (N : Nat)  : Option Bool :=
 (znd N).bind fun r1 => (zbk N (⟨2, false, false⟩ : zL) r1).bind fun r2 => (zne).bind fun r3 =>
  (zba N r3 (⟨2, false, false⟩ : zL)).bind fun r4 => (cond (r2.2.2 == 0) (some ((r2.1.zA.length : Int) == 3)) (some false)).bind fun g5 =>
  (cond g5 ((idx r2.1.zA 1).bind fun x6 =>
  some (zcp [(x6.Op == 3), (x6.R == 1), (x6.A == 0), (x6.B == 0), (x6.zS == 0), (x6.Place.Based == false), (x6.Place.Pointer == 0), (x6.Place.Offset == 0), (x6.From.Based == false), (x6.From.Pointer == 0), (x6.From.Offset == 0), (x6.zG.Kind == 0), (x6.zG.Length == 0), (x6.zG.Scale == 0), (x6.Second.Kind == 0), (x6.Second.Length == 0), (x6.Second.Scale == 0), (x6.Half == false), (x6.zO == false), (x6.Number.N == 0), (x6.Number.Scale == 0), (x6.Text == (⟨#[]⟩ : ByteArray)), (x6.Other == (⟨#[]⟩ : ByteArray)), (x6.Mask == 0), (x6.Target == 0), (x6.Pointer == 0), (x6.Source == 0)]))
  (some false)).bind fun g7 => (cond g7 (some (r4.2.2 == 0)) (some false)).bind fun g8 => (cond g8 (some ((r4.2.1.Starts.length : Int) == 4)) (some false)).bind fun g9 => some g9
def zlb.k (N : Nat) : Kq := ⟨7, (cvv [Ty.bool] [] (zlb N)), go [zbk.k N, znd.k N, zba.k N, zne.k] {lits := [9, 15]} [] Proofs.Tryz.func7⟩
def zb2.b0 (N : Nat) (s3 : Int) (b1 : zD) : Option (Round Bool (Int × zD)) :=
 cond (decide (s3 < (b1.zB.length : Int))) ((idx b1.zB s3).bind fun x1001 => (cond (decide ((x1001.Name.size : Int) > 100)) (some true)
  (some (decide ((x1001.Base.size : Int) > 100)))).bind fun g1002 => (cond g1002 (some true) (some (decide ((x1001.Value.S.size : Int) > 600)))).bind fun g1003 =>
  cond g1003 (some (.result false)) (some (.again ((w6 (s3 + 1)), b1)))) (some (.leave (s3, b1)))
def zb2.r0 (N : Nat) (x : Int × zD) := zb2.b0 N x.1 x.2
def zb2.b2 (N : Nat) (s5 : Int) (b1 : zD) : Option (Round Bool (Int × zD)) :=
 cond (decide (s5 < (b1.zA.length : Int))) ((idx b1.zA s5).bind fun x3001 => cond (decide ((x3001.Args.length : Int) > 6)) (some (.result false))
  (some (.again ((w6 (s5 + 1)), b1)))) (some (.leave (s5, b1)))
def zb2.r2 (N : Nat) (x : Int × zD) := zb2.b2 N x.1 x.2
def zb2 (N : Nat) (a0 : zD) : Option Bool :=
 (cond (decide ((a0.zB.length : Int) > 28)) (some true) (some (decide ((a0.zA.length : Int) > 44)))).bind fun g1 => (cond g1 (some true)
  (some (decide ((a0.zP.length : Int) > 9)))).bind fun g2 => cond g2 (some false) ((zf (zb2.r0 N) N (0, a0)).bind fun z4 => zbc z4 (fun z => some z) (fun y3 =>
  (zf (zb2.r2 N) N (0, y3.2)).bind fun z6 => zbc z6 (fun z => some z) (fun y5 => some true)))
def zb2.k (N : Nat) : Kq := ⟨16, (cvv [Ty.bool] [Ty.zD] (zb2 N)), go [] {} [(0, .rets { slots := [(1, .ptr 1 0), (3, .val T6)], boxes := [(1, Ty.zD, [])] } [T6, Ty.zD] (zf (zb2.r0 N) N)), (2, .rets { slots := [(1, .ptr 1 0), (5, .val T6)], boxes := [(1, Ty.zD, [])] } [T6, Ty.zD] (zf (zb2.r2 N) N))] Proofs.Tryz.func16 (hL := ⟨⟨_, _, rfl, by kernel_rfl⟩, ⟨_, _, rfl, by kernel_rfl⟩, trivial⟩)⟩
def zgo (a0 : Storage) : Option Bool :=
 (cond (decide ((a0.Bytes.size : Int) ≤ 1072)) (some (decide ((a0.Tags.length : Int) ≤ 67))) (some false)).bind fun g1 => some g1
def zgo.k : Kq := ⟨29, (cvv [Ty.bool] [Ty.Storage] zgo), go [] {} [] Proofs.Tryz.func29⟩
def zd9.b0 (N : Nat) (s3 : Int) (b1 : zI) : Option (Round Bool (Int × zI)) :=
 (cond (decide (s3 < (b1.zA.length : Int))) (some (decide (s3 < 244))) (some false)).bind fun g1001 => cond g1001 ((idx b1.zA s3).bind fun x1002 =>
  (cond (decide ((x1002.Text.size : Int) > 300)) (some true) ((idx b1.zA s3).bind fun x1003 => some (decide ((x1003.Other.size : Int) > 300)))).bind fun g1004 =>
  cond g1004 (some (.result false)) (some (.again ((w6 (s3 + 1)), b1)))) (some (.leave (s3, b1)))
def zd9.r0 (N : Nat) (x : Int × zI) := zd9.b0 N x.1 x.2
def zd9 (N : Nat) (a0 : zI) : Option Bool :=
 (zf (zd9.r0 N) N (0, a0)).bind fun z2 => zbc z2 (fun z => some z) (fun y1 => (zgo y1.2.Storage).bind fun r3 =>
  (cond r3 (some (decide ((y1.2.zA.length : Int) < 244))) (some false)).bind fun g4 => (cond g4 (some (decide ((y1.2.zV.length : Int) < 44)))
  (some false)).bind fun g5 => some g5)
def zd9.k (N : Nat) : Kq := ⟨8, (cvv [Ty.bool] [Ty.zI] (zd9 N)), go [zgo.k] {} [(0, .rets { slots := [(1, .ptr 1 0), (3, .val T6)], boxes := [(1, Ty.zI, [])] } [T6, Ty.zI] (zf (zd9.r0 N) N))] Proofs.Tryz.func8 (hL := ⟨⟨_, _, rfl, by kernel_rfl⟩, trivial⟩)⟩
def zik (a0 : zY) : Option Bool :=
 some (decide ((a0.Starts.length : Int) ≤ 60))
def zik.k : Kq := ⟨17, (cvv [Ty.bool] [Ty.zY] zik), go [] {} [] Proofs.Tryz.func17⟩
def zgh (a0 : List Int) : Option ((List Int)) :=
 cond (Nat.ble (a0.length * 8) zah) (some a0) none
def zgh.k : Kq := ⟨59, (ctv [.val (Ty.sl T6)] [(Ty.sl T6)] [] [0] [(Ty.sl T6)] zgh), go [] {} [] Proofs.Tryz.func59⟩
def zd8.b0 (N : Nat) (s4 : Int) (b1 : zD) (b2 : zD) (b3 : zD) : Option (Stp (Int × zD × zD × zD)) :=
 cond (decide (s4 < (b1.zA.length : Int))) ((idx b1.zA s4).bind fun x1001 => (idx b1.zA s4).bind fun x1002 =>
  (zgh x1002.Args).bind fun r1003 => cond (Nat.ble ((b3.zA.length + ([(⟨x1001.Op, r1003⟩ : zK)] : List zK).length) * 32) zah)
  (some (.again ((w6 (s4 + 1)), b1, b2, (⟨b3.zB, (b3.zA ++ ([(⟨x1001.Op, r1003⟩ : zK)] : List zK)), b3.zP⟩ : zD)))) none)
  (some (.leave (s4, b1, b2, b3)))
def zd8.r0 (N : Nat) (x : Int × zD × zD × zD) := zd8.b0 N x.1 x.2.1 x.2.2.1 x.2.2.2
def zd8 (N : Nat) (a0 : zD) : Option zD :=
 cond (Nat.ble (a0.zB.length * 104) zah) (cond (Nat.ble (a0.zP.length * 32) zah)
  ((zi (zd8.r0 N) N (0, a0, (⟨[], [], []⟩ : zD), (⟨a0.zB, [], a0.zP⟩ : zD))).bind fun y1 => some y1.2.2.2) none) none
def zd8.k (N : Nat) : Kq := ⟨19, (cvv [Ty.zD] [Ty.zD] (zd8 N)), go [zgh.k] {lits := [33, 35]} [(0, .plain { slots := [(1, .ptr 1 0), (2, .ptr 2 0), (3, .ptr 3 0), (4, .val T6)], boxes := [(1, Ty.zD, []), (2, Ty.zD, [0, 1, 2]), (3, Ty.zD, [0, 1, 2])] } [T6, Ty.zD, Ty.zD, Ty.zD] (zi (zd8.r0 N) N))] Proofs.Tryz.func19 (hL := ⟨⟨_, _, rfl, by kernel_rfl⟩, trivial⟩)⟩
def zjd (a0 : List Bool) : Option ((List Bool)) :=
 cond (Nat.ble (a0.length * 1) zah) (some a0) none
def zjd.k : Kq := ⟨84, (ctv [.val (Ty.sl Ty.bool)] [(Ty.sl Ty.bool)] [] [0] [(Ty.sl Ty.bool)] zjd), go [] {} [] Proofs.Tryz.func84⟩
def ziq (a0 : Storage) : Option Storage :=
 (zjd a0.Tags).bind fun r1 => some (⟨a0.Bytes, r1⟩ : Storage)
def ziq.k : Kq := ⟨34, (ctv [.val Ty.Storage] [Ty.Storage] [] [1] [Ty.Storage] ziq), go [zjd.k] {} [] Proofs.Tryz.func34⟩
def zib (a0 : zI) : Option zI :=
 (ziq a0.Storage).bind fun r1 => cond (Nat.ble (a0.zA.length * 224) zah) (cond (Nat.ble (a0.zV.length * 32) zah)
  (some (⟨r1, a0.zA, a0.zV⟩ : zI)) none) none
def zib.k : Kq := ⟨10, (cvv [Ty.zI] [Ty.zI] zib), go [ziq.k] {} [] Proofs.Tryz.func10⟩
def ze3 (a0 : Translation) : Option Translation :=
 (zib a0.Code).bind fun r1 => (zgh a0.Map.Starts).bind fun r2 => some (⟨a0.Model, r1, (⟨r2⟩ : zY)⟩ : Translation)
def ze3.k : Kq := ⟨20, (cvv [Ty.Translation] [Ty.Translation] ze3), go [zib.k, zgh.k] {} [] Proofs.Tryz.func20⟩
def zab.b0 (N : Nat) (s0 : List Bool) (s1 : List Bool) (s12 : Int) (s13 : Int) : Option (Round Bool ((List Bool) × (List Bool) × Int × Int)) :=
 cond (decide (s13 < s12)) ((idx s0 s13).bind fun x1001 => (idx s1 s13).bind fun x1002 => cond (!(x1001 == x1002)) (some (.result false))
  (some (.again (s0, s1, s12, (w6 (s13 + 1)))))) (some (.leave (s0, s1, s12, s13)))
def zab.r0 (N : Nat) (x : (List Bool) × (List Bool) × Int × Int) := zab.b0 N x.1 x.2.1 x.2.2.1 x.2.2.2
def zab (N : Nat) (a0 : List Bool) (a1 : List Bool) : Option Bool :=
 cond ((a0.length : Int) != (a1.length : Int)) (some false) ((zf (zab.r0 N) N (a0, a1, (a0.length : Int), 0)).bind fun z2 => zbc z2 (fun z => some z) (fun y1 =>
  some true))
def zab.k (N : Nat) : Kq := ⟨53, (cvv [Ty.bool] [(Ty.sl Ty.bool), (Ty.sl Ty.bool)] (zab N)), go [] {} [(0, .rets { slots := [(0, .val (Ty.sl Ty.bool)), (1, .val (Ty.sl Ty.bool)), (12, .val T6), (13, .val T6)], boxes := [] } [(Ty.sl Ty.bool), (Ty.sl Ty.bool), T6, T6] (zf (zab.r0 N) N))] Proofs.Tryz.func53 (hL := ⟨⟨_, _, rfl, by kernel_rfl⟩, trivial⟩)⟩
def zal.b0 (N : Nat) (s1 : List Int) (s6 : Int) (s14 : List Int) (s15 : Int) (s16 : Int) (b2 : zI) : Option (Round (Int × Int) ((List Int) × Int × (List Int) × Int × Int × zI)) :=
 cond (decide (s16 < s15)) ((idx s14 s16).bind fun x1001 => (cond (decide (x1001 > (-1))) ((cond (decide (s16 > 0)) (some true) (some (x1001 == 0))).bind fun g1002 => some g1002)
  (some false)).bind fun g1003 => (cond g1003 ((cond (s16 == 0) (some true)
  ((idx s1 (if 0 > (w6 (s16 - 1)) then 0 else (w6 (s16 - 1)))).bind fun x1004 => some (decide (x1001 > x1004)))).bind fun g1005 => some g1005)
  (some false)).bind fun g1006 => (cond (!g1006) (some true) (some (decide (x1001 ≥ (b2.zA.length : Int))))).bind fun g1007 => cond g1007 (some (.result (s16, 42)))
  ((idx b2.zA x1001).bind fun x1008 => (cond (decide (s16 < s6)) (some (x1008.Op != 25)) (some false)).bind fun g1009 => (cond g1009 (some true) ((cond (s16 == s6)
  ((cond (x1008.Op != 26) (some true) (some (x1001 != (w6 ((b2.zA.length : Int) - 1))))).bind fun g1010 => some g1010) (some false)).bind fun g1011 =>
  some g1011)).bind fun g1012 => cond g1012 (some (.result (s16, 42))) (some (.again (s1, s6, s14, s15, (w6 (s16 + 1)), b2)))))
  (some (.leave (s1, s6, s14, s15, s16, b2)))
def zal.r0 (N : Nat) (x : (List Int) × Int × (List Int) × Int × Int × zI) := zal.b0 N x.1 x.2.1 x.2.2.1 x.2.2.2.1 x.2.2.2.2.1 x.2.2.2.2.2
def zal (N : Nat) (a0 : zI) (a1 : List Int) : Option (Int × Int) :=
 (zf (zal.r0 N) N (a1, (w6 ((a1.length : Int) - 1)), a1, (a1.length : Int), 0, a0)).bind fun z2 => zbc z2 (fun z => some z) (fun y1 =>
  some (0, 0))
def zal.k (N : Nat) : Kq := ⟨54, (cvv [T6, T6] [Ty.zI, (Ty.sl T6)] (zal N)), go [] {} [(0, .rets { slots := [(1, .val (Ty.sl T6)), (2, .ptr 2 0), (6, .val T6), (14, .val (Ty.sl T6)), (15, .val T6), (16, .val T6)], boxes := [(2, Ty.zI, [])] } [(Ty.sl T6), T6, (Ty.sl T6), T6, T6, Ty.zI] (zf (zal.r0 N) N))] Proofs.Tryz.func54 (hL := ⟨⟨_, _, rfl, by kernel_rfl⟩, trivial⟩)⟩
def zbn.b0 (N : Nat) (s0 : List Int) (s1 : Int) (s7 : Int) (s8 : Int) : Option (Round Int ((List Int) × Int × Int × Int)) :=
 cond (decide (s8 < s7)) ((idx s0 s8).bind fun x1001 => cond (s1 == x1001) (some (.result s8)) (some (.again (s0, s1, s7, (w6 (s8 + 1))))))
  (some (.leave (s0, s1, s7, s8)))
def zbn.r0 (N : Nat) (x : (List Int) × Int × Int × Int) := zbn.b0 N x.1 x.2.1 x.2.2.1 x.2.2.2
def zbn (N : Nat) (a0 : List Int) (a1 : Int) : Option Int :=
 (zf (zbn.r0 N) N (a0, a1, (a0.length : Int), 0)).bind fun z2 => zbc z2 (fun z => some z) (fun y1 => some (-1))
def zbn.k (N : Nat) : Kq := ⟨105, (cvv [T6] [(Ty.sl T6), T6] (zbn N)), go [] {} [(0, .rets { slots := [(0, .val (Ty.sl T6)), (1, .val T6), (7, .val T6), (8, .val T6)], boxes := [] } [(Ty.sl T6), T6, T6, T6] (zf (zbn.r0 N) N))] Proofs.Tryz.func105 (hL := ⟨⟨_, _, rfl, by kernel_rfl⟩, trivial⟩)⟩
def zea (N : Nat) (a0 : List Int) (a1 : Int) : Option Bool :=
 (zbn N a0 a1).bind fun r1 => some (decide (r1 ≥ 0))
def zea.k (N : Nat) : Kq := ⟨55, (cvv [Ty.bool] [(Ty.sl T6), T6] (zea N)), go [zbn.k N] {} [] Proofs.Tryz.func55⟩
def zaa.b0 (N : Nat) (s0 : List zR) (s1 : List zR) (s12 : Int) (s13 : Int) : Option (Round Bool ((List zR) × (List zR) × Int × Int)) :=
 cond (decide (s13 < s12)) ((idx s0 s13).bind fun x1001 => (idx s1 s13).bind fun x1002 =>
  cond (!(zcp [(x1001.From == x1002.From), (x1001.To == x1002.To), (x1001.Exception == x1002.Exception), (x1001.Handler == x1002.Handler)])) (some (.result false))
  (some (.again (s0, s1, s12, (w6 (s13 + 1)))))) (some (.leave (s0, s1, s12, s13)))
def zaa.r0 (N : Nat) (x : (List zR) × (List zR) × Int × Int) := zaa.b0 N x.1 x.2.1 x.2.2.1 x.2.2.2
def zaa (N : Nat) (a0 : List zR) (a1 : List zR) : Option Bool :=
 cond ((a0.length : Int) != (a1.length : Int)) (some false) ((zf (zaa.r0 N) N (a0, a1, (a0.length : Int), 0)).bind fun z2 => zbc z2 (fun z => some z)
  (fun y1 => some true))
def zaa.k (N : Nat) : Kq := ⟨57, (cvv [Ty.bool] [(Ty.sl Ty.zR), (Ty.sl Ty.zR)] (zaa N)), go [] {} [(0, .rets { slots := [(0, .val (Ty.sl Ty.zR)), (1, .val (Ty.sl Ty.zR)), (12, .val T6), (13, .val T6)], boxes := [] } [(Ty.sl Ty.zR), (Ty.sl Ty.zR), T6, T6] (zf (zaa.r0 N) N))] Proofs.Tryz.func57 (hL := ⟨⟨_, _, rfl, by kernel_rfl⟩, trivial⟩)⟩
def zay.b0 (N : Nat) (s9 : List Int) (s13 : List Int) (s87 : List zC) (s88 : Int) (s89 : Int) (b2 : zD) (b3 : Translation) : Option (Round (Int × Int) ((List Int) × (List Int) × (List zC) × Int × Int × zD × Translation)) :=
 cond (decide (s89 < s88)) ((idx s87 s89).bind fun x1001 => (cond (x1001.Op == 25) ((zea N s13 s89).bind fun r1002 => some (!r1002)) (some false)).bind fun g1003 =>
  (cond g1003 (some true) ((zcg x1001.Op).bind fun r1004 => (cond r1004 ((zea N s13 x1001.Target).bind fun r1005 => some (!r1005))
  (some false)).bind fun g1006 => some g1006)).bind fun g1007 => cond g1007 (some (.result (0, 42))) (some (.again (s9, s13, s87, s88, (w6 (s89 + 1)), b2, b3))))
  (some (.leave (s9, s13, s87, s88, s89, b2, b3)))
def zay.r0 (N : Nat) (x : (List Int) × (List Int) × (List zC) × Int × Int × zD × Translation) := zay.b0 N x.1 x.2.1 x.2.2.1 x.2.2.2.1 x.2.2.2.2.1 x.2.2.2.2.2.1 x.2.2.2.2.2.2
def zay (N : Nat) (a0 : zD) (a1 : Translation) : Option (Int × Int) :=
 (zdv N a0).bind fun r1 => (zcs a1.Model).bind fun r2 => (ze9 N a1.Model a1.Code).bind fun r3 =>
  (za9 N ([r1, r2, r3] : List Int)).bind fun r4 => cond (r4 != 0) (some (0, r4)) ((zy N a0).bind fun r5 => cond (r5.2 != 0) (some (0, r5.2))
  ((cond (r5.1.Bytes.toList == a1.Code.Storage.Bytes.toList) ((zab N r5.1.Tags a1.Code.Storage.Tags).bind fun r6 => some r6) (some false)).bind fun g7 => (cond (!g7)
  (some true) (some ((a1.Map.Starts.length : Int) != (w6 ((a0.zA.length : Int) + 1))))).bind fun g8 => cond g8 (some (0, 42))
  ((zal N a1.Code a1.Map.Starts).bind fun r9 => cond (r9.2 != 0) (some (r9.1, r9.2))
  (if 0 ≤ (a0.zA.length : Int) ∧ (a0.zA.length : Int) ≤ (a1.Map.Starts.length : Int) then (if 0 ≤ (0 : Int) ∧ (0 : Int) ≤ (a0.zA.length : Int) then ((zf (zay.r0 N) N (a1.Map.Starts, ((a1.Map.Starts.take (a0.zA.length : Int).toNat).drop (0 : Int).toNat), a1.Code.zA, (a1.Code.zA.length : Int), 0, a0, a1)).bind fun z11 =>
  zbc z11 (fun z => some z) (fun y10 => (zaz N y10.2.2.2.2.2.1.zP y10.1).bind fun r12 =>
  (zaa N y10.2.2.2.2.2.2.Code.zV r12).bind fun r13 => cond (!r13) (some (0, 42))
  (some ((y10.2.2.2.2.2.1.zA.length : Int), 0)))) else none) else none))))
def zay.k (N : Nat) : Kq := ⟨18, (cvv [T6, T6] [Ty.zD, Ty.Translation] (zay N)), go [ze9.k N, za9.k N, zdv.k N, zcs.k, zy.k N, zab.k N, zal.k N, zea.k N, zcg.k, zaa.k N, zaz.k N] {lits := [17, 20, 25, 26, 122]} [(0, .rets { slots := [(2, .ptr 2 0), (3, .ptr 3 0), (9, .val (Ty.sl T6)), (13, .val (Ty.sl T6)), (87, .val (Ty.sl Ty.zC)), (88, .val T6), (89, .val T6)], boxes := [(2, Ty.zD, []), (3, Ty.Translation, [])] } [(Ty.sl T6), (Ty.sl T6), (Ty.sl Ty.zC), T6, T6, Ty.zD, Ty.Translation] (zf (zay.r0 N) N))] Proofs.Tryz.func18 (hL := ⟨⟨_, _, rfl, by kernel_rfl⟩, trivial⟩)⟩
def zd (a0 : Int) (a1 : Int) (a2 : Int) : Option Bool :=
 (cond (decide (a1 ≤ a0)) (some (decide (a0 ≤ a2))) (some false)).bind fun g1 => some g1
def zd.k : Kq := ⟨89, (cvv [Ty.bool] [T6, T6, T6] zd), go [] {} [] Proofs.Tryz.func89⟩
def zko (a0 : Int) : Option Bool :=
 (cond (decide (65 ≤ a0)) (some (decide (a0 ≤ 90))) (some false)).bind fun g1 => some g1
def zko.k : Kq := ⟨253, (cvv [Ty.bool] [(Ty.int .u8)] zko), go [] {} [] Proofs.Tryz.func253⟩
def zkp (a0 : Int) : Option Bool :=
 (cond (decide (48 ≤ a0)) (some (decide (a0 ≤ 57))) (some false)).bind fun g1 => some g1
def zkp.k : Kq := ⟨254, (cvv [Ty.bool] [(Ty.int .u8)] zkp), go [] {} [] Proofs.Tryz.func254⟩
def zc7.b0 (N : Nat) (s0 : ByteArray) (s3 : Int) : Option (Round Bool (ByteArray × Int)) :=
 cond (decide (s3 < (s0.size : Int))) ((zi9 s0 s3).bind fun x1001 => (zko (x1001.toNat : Int)).bind fun r1002 => (cond r1002 (some true)
  (some ((x1001.toNat : Int) == 36))).bind fun g1003 => (cond g1003 (some true) (some ((x1001.toNat : Int) == 35))).bind fun g1004 => (cond g1004 (some true)
  (some ((x1001.toNat : Int) == 64))).bind fun g1005 => (cond (!g1005) ((cond (s3 == 0) (some true) ((zkp (x1001.toNat : Int)).bind fun r1006 => (cond (!r1006)
  (some ((x1001.toNat : Int) != 95)) (some false)).bind fun g1007 => (cond g1007 (some ((x1001.toNat : Int) != 46)) (some false)).bind fun g1008 => some g1008)).bind fun g1009 =>
  some g1009) (some false)).bind fun g1010 => cond g1010 (some (.result false)) (some (.again (s0, (w6 (s3 + 1)))))) (some (.leave (s0, s3)))
def zc7.r0 (N : Nat) (x : ByteArray × Int) := zc7.b0 N x.1 x.2
def zc7 (N : Nat) (a0 : ByteArray) : Option Bool :=
 (zd (a0.size : Int) 1 10).bind fun r1 => cond (!r1) (some false) ((zf (zc7.r0 N) N (a0, 0)).bind fun z3 => zbc z3 (fun z => some z) (fun y2 => some true))
def zc7.k (N : Nat) : Kq := ⟨221, (cvv [Ty.bool] [Ty.str] (zc7 N)), go [zd.k, zko.k, zkp.k] {lits := [7]} [(0, .rets { slots := [(0, .val Ty.str), (3, .val T6)], boxes := [] } [Ty.str, T6] (zf (zc7.r0 N) N))] Proofs.Tryz.func221 (hL := ⟨⟨_, _, rfl, by kernel_rfl⟩, trivial⟩)⟩
def zdn.b0 (N : Nat) (s1 : ByteArray) (s5 : Int) (b2 : zD) : Option (Round Int (ByteArray × Int × zD)) :=
 cond (decide (s5 < (b2.zB.length : Int))) ((idx b2.zB s5).bind fun x1001 => cond (x1001.Name.toList == s1.toList) (some (.result s5))
  (some (.again (s1, (w6 (s5 + 1)), b2)))) (some (.leave (s1, s5, b2)))
def zdn.r0 (N : Nat) (x : ByteArray × Int × zD) := zdn.b0 N x.1 x.2.1 x.2.2
def zdn (N : Nat) (a0 : zD) (a1 : ByteArray) : Option Int :=
 (zf (zdn.r0 N) N (a1, 0, a0)).bind fun z2 => zbc z2 (fun z => some z) (fun y1 => some (-1))
def zdn.k (N : Nat) : Kq := ⟨170, (cvv [T6] [Ty.zD, Ty.str] (zdn N)), go [] {} [(0, .rets { slots := [(1, .val Ty.str), (2, .ptr 2 0), (5, .val T6)], boxes := [(2, Ty.zD, [])] } [Ty.str, T6, Ty.zD] (zf (zdn.r0 N) N))] Proofs.Tryz.func170 (hL := ⟨⟨_, _, rfl, by kernel_rfl⟩, trivial⟩)⟩
def zhp (a0 : zH) : Option Bool :=
 (cond (a0.Base.toList == (⟨#[]⟩ : ByteArray).toList) (some (a0.Offset == 0)) (some false)).bind fun g1 => (cond (a0.Kind == 0) (some (a0.Kind == 0))
  (some (a0.Kind == 4))).bind fun q2 => cond q2 ((cond (!g1) (some true) (some (a0.Target != 0))).bind fun g3 => some g3) ((cond (a0.Kind == 1) (some (a0.Kind == 1))
  (some (a0.Kind == 2))).bind fun q4 => cond q4 ((cond (!(zcp [(a0.Value.N == 0), (a0.Value.S == (⟨#[]⟩ : ByteArray))])) (some true) (some (a0.Target != 0))).bind fun g5 =>
  some g5) (cond (a0.Kind == 3) ((cond (!(zcp [(a0.zG.Kind == 0), (a0.zG.Length == 0), (a0.zG.Scale == 0)])) (some true)
  (some (!(zcp [(a0.Value.N == 0), (a0.Value.S == (⟨#[]⟩ : ByteArray))])))).bind fun g6 => (cond g6 (some true) (some (!g1))).bind fun g7 => (cond g7 (some true)
  (some (a0.Target != 0))).bind fun g8 => some g8) ((cond (!(zcp [(a0.zG.Kind == 0), (a0.zG.Length == 0), (a0.zG.Scale == 0)])) (some true)
  (some (!(zcp [(a0.Value.N == 0), (a0.Value.S == (⟨#[]⟩ : ByteArray))])))).bind fun g9 => (cond g9 (some true) (some (!g1))).bind fun g10 => some g10)))
def zhp.k : Kq := ⟨222, (cvv [Ty.bool] [Ty.zH] zhp), go [] {bj := [19, 29]} [] Proofs.Tryz.func222⟩
def ze1 (a0 : Int) : Option Bool :=
 (cond (a0 == 0) (some true) (some (a0 == 1))).bind fun g1 => (cond g1 (some true) (some (a0 == 2))).bind fun g2 => some g2
def ze1.k : Kq := ⟨226, (cvv [Ty.bool] [T6] ze1), go [] {} [] Proofs.Tryz.func226⟩
def zfk (a0 : Int) : Option Bool :=
 (ze1 a0).bind fun r1 => (cond r1 (some true) (some (a0 == 4))).bind fun g2 => some g2
def zfk.k : Kq := ⟨223, (cvv [Ty.bool] [T6] zfk), go [ze1.k] {} [] Proofs.Tryz.func223⟩
def zcr (a0 : Int) : Option Bool :=
 (zd a0 1 3).bind fun r1 => some r1
def zcr.k : Kq := ⟨119, (cvv [Ty.bool] [T6] zcr), go [zd.k] {} [] Proofs.Tryz.func119⟩
def zcf (a0 : Bool) : Option Int :=
 cond a0 (some 1) (some 0)
def zcf.k : Kq := ⟨70, (cvv [T6] [Ty.bool] zcf), go [] {} [] Proofs.Tryz.func70⟩
def zev (a0 : DataType) : Option Int :=
 (zd a0.Kind 0 4).bind fun r1 => cond (!r1) (some 4) (cond (a0.Kind == 0) ((zd a0.Length 1 256).bind fun r2 => cond (!r2) (some 18)
  ((zcr a0.Kind).bind fun r3 => cond r3 ((zd a0.Scale 0 a0.Length).bind fun r4 => (zcf (!r4)).bind fun r5 => some (w6 (3 * r5)))
  ((zd a0.Scale 0 0).bind fun r6 => (zcf (!r6)).bind fun r7 => some (w6 (3 * r7))))) ((cond (a0.Kind == 1) (some (a0.Kind == 1))
  (some (a0.Kind == 2))).bind fun q8 => cond q8 ((zd a0.Length 1 15).bind fun r9 => cond (!r9) (some 18) ((zcr a0.Kind).bind fun r10 =>
  cond r10 ((zd a0.Scale 0 a0.Length).bind fun r11 => (zcf (!r11)).bind fun r12 => some (w6 (3 * r12))) ((zd a0.Scale 0 0).bind fun r13 =>
  (zcf (!r13)).bind fun r14 => some (w6 (3 * r14))))) (cond (a0.Kind == 3) ((cond (a0.Length == 4) (some true) (some (a0.Length == 9))).bind fun g15 =>
  cond (!g15) (some 18) ((zcr a0.Kind).bind fun r16 => cond r16 ((zd a0.Scale 0 a0.Length).bind fun r17 => (zcf (!r17)).bind fun r18 =>
  some (w6 (3 * r18))) ((zd a0.Scale 0 0).bind fun r19 => (zcf (!r19)).bind fun r20 => some (w6 (3 * r20))))) (cond (!(a0.Length == 0))
  (some 18) ((zcr a0.Kind).bind fun r21 => cond r21 ((zd a0.Scale 0 a0.Length).bind fun r22 => (zcf (!r22)).bind fun r23 =>
  some (w6 (3 * r23))) ((zd a0.Scale 0 0).bind fun r24 => (zcf (!r24)).bind fun r25 => some (w6 (3 * r25))))))))
def zev.k : Kq := ⟨118, (cvv [T6] [Ty.DataType] zev), go [zcf.k, zd.k, zcr.k] {bj := [19]} [] Proofs.Tryz.func118⟩
def zdm.b0 (N : Nat) (s0 : Int) (s3 : Int) (s4 : Int) : Option (Stp (Int × Int × Int)) :=
 cond (decide (s4 < s0)) (some (.again (s0, (w6 (s3 * 10)), (w6 (s4 + 1))))) (some (.leave (s0, s3, s4)))
def zdm.r0 (N : Nat) (x : Int × Int × Int) := zdm.b0 N x.1 x.2.1 x.2.2
def zdm (N : Nat) (a0 : Int) : Option Int :=
 (zi (zdm.r0 N) N (a0, 1, 0)).bind fun y1 => some y1.2.1
def zdm.k (N : Nat) : Kq := ⟨264, (cvv [T6] [T6] (zdm N)), go [] {} [(0, .plain { slots := [(0, .val T6), (3, .val T6), (4, .val T6)], boxes := [] } [T6, T6, T6] (zi (zdm.r0 N) N))] Proofs.Tryz.func264 (hL := ⟨⟨_, _, rfl, by kernel_rfl⟩, trivial⟩)⟩
def zkx (N : Nat) (a0 : DataType) : Option Int :=
 (zdm N a0.Length).bind fun r1 => some (w6 (r1 - 1))
def zkx.k (N : Nat) : Kq := ⟨255, (cvv [T6] [Ty.DataType] (zkx N)), go [zdm.k N] {} [] Proofs.Tryz.func255⟩
def zgn (N : Nat) (a0 : DataType) (a1 : Value) : Option Int :=
 (zev a0).bind fun r1 => cond (r1 != 0) (some r1) (cond (a0.Kind == 4) (some 17) ((cond (a0.Kind == 0) (some (a1.N != 0)) (some false)).bind fun g2 =>
  (cond g2 (some true) ((cond (a0.Kind != 0) (some (!(a1.S.toList == (⟨#[]⟩ : ByteArray).toList))) (some false)).bind fun g3 => some g3)).bind fun g4 => cond g4 (some 5)
  (cond (a0.Kind == 0) ((zcf ((a1.S.size : Int) != a0.Length)).bind fun r5 => some (w6 (18 * r5))) ((zkx N a0).bind fun r6 =>
  (zkx N a0).bind fun r7 => (zd a1.N (w6 (0 - r6)) r7).bind fun r8 => (zcf (!r8)).bind fun r9 => some (w6 (19 * r9))))))
def zgn.k (N : Nat) : Kq := ⟨224, (cvv [T6] [Ty.DataType, Ty.Value] (zgn N)), go [zcf.k, zd.k, zev.k, zkx.k N] {lits := [49]} [] Proofs.Tryz.func224⟩
def zcb (a0 : DataType) : Option Int :=
 cond (a0.Kind == 1) (some (w6 ((w6 (a0.Length.tdiv 2)) + 1))) (cond (a0.Kind == 3) ((zcf (a0.Length == 9)).bind fun r1 =>
  some (w6 (2 + (w6 (2 * r1))))) (cond (a0.Kind == 4) (some 16) (some a0.Length)))
def zcb.k : Kq := ⟨95, (cvv [T6] [Ty.DataType] zcb), go [zcf.k] {} [] Proofs.Tryz.func95⟩
def zgm (N : Nat) (a0 : zD) (a1 : Int) : Option Int :=
 (idx a0.zB a1).bind fun x1 => (zc7 N x1.Name).bind fun r2 => cond (!r2) (some 7) ((zdn N a0 x1.Name).bind fun r3 => cond (decide (r3 < a1)) (some 13)
  ((zd x1.Kind 0 5).bind fun r4 => cond (!r4) (some 4) ((zhp x1).bind fun r5 => cond r5 (some 5) ((zfk x1.Kind).bind fun r6 =>
  cond r6 ((zev x1.zG).bind fun r7 => cond (r7 != 0) (some r7) (cond (x1.zG.Kind == 4) (some 17) ((zdn N a0 x1.Base).bind fun r8 => (cond (x1.Kind == 0)
  (some (x1.Kind == 0)) (some (x1.Kind == 4))).bind fun q9 => cond q9 ((zgn N x1.zG x1.Value).bind fun r10 => some r10) ((cond (x1.Kind == 1) (some (x1.Kind == 1))
  (some (x1.Kind == 2))).bind fun q11 => cond q11 ((cond (r8 == (-1)) (some true) (some (decide (r8 ≥ a1)))).bind fun g12 => cond g12 (some 11) ((idx a0.zB r8).bind fun x13 =>
  (cond (x1.Kind == 1) (some (x13.Kind != 0)) (some false)).bind fun g14 => (cond g14 (some true) ((cond (x1.Kind == 2) (some (x13.Kind != 3)) (some false)).bind fun g15 =>
  some g15)).bind fun g16 => cond g16 (some 17) (cond (x1.Kind == 1) ((zcb x13.zG).bind fun r17 => (zcb x1.zG).bind fun r18 =>
  (zd x1.Offset 0 (w6 (r17 - r18))).bind fun r19 => cond (!r19) (some 3) (some 0)) ((zd x1.Offset 0 256).bind fun r20 => cond (!r20) (some 3)
  (some 0))))) (cond (x1.Kind == 5) ((zd x1.Target 0 (w6 ((a0.zA.length : Int) - 1))).bind fun r21 => cond (!r21) (some 3) (some 0)) (some 0))))))
  ((zdn N a0 x1.Base).bind fun r22 => (cond (x1.Kind == 0) (some (x1.Kind == 0)) (some (x1.Kind == 4))).bind fun q23 =>
  cond q23 ((zgn N x1.zG x1.Value).bind fun r24 => some r24) ((cond (x1.Kind == 1) (some (x1.Kind == 1)) (some (x1.Kind == 2))).bind fun q25 =>
  cond q25 ((cond (r22 == (-1)) (some true) (some (decide (r22 ≥ a1)))).bind fun g26 => cond g26 (some 11) ((idx a0.zB r22).bind fun x27 => (cond (x1.Kind == 1)
  (some (x27.Kind != 0)) (some false)).bind fun g28 => (cond g28 (some true) ((cond (x1.Kind == 2) (some (x27.Kind != 3)) (some false)).bind fun g29 => some g29)).bind fun g30 =>
  cond g30 (some 17) (cond (x1.Kind == 1) ((zcb x27.zG).bind fun r31 => (zcb x1.zG).bind fun r32 =>
  (zd x1.Offset 0 (w6 (r31 - r32))).bind fun r33 => cond (!r33) (some 3) (some 0)) ((zd x1.Offset 0 256).bind fun r34 => cond (!r34) (some 3)
  (some 0))))) (cond (x1.Kind == 5) ((zd x1.Target 0 (w6 ((a0.zA.length : Int) - 1))).bind fun r35 => cond (!r35) (some 3) (some 0)) (some 0))))))))
def zgm.k (N : Nat) : Kq := ⟨168, (cvv [T6] [Ty.zD, T6] (zgm N)), go [zd.k, zcb.k, zev.k, zdn.k N, zc7.k N, zhp.k, zfk.k, zgn.k N] {bj := [54, 62]} [] Proofs.Tryz.func168⟩
def zp.b0 (N : Nat) (s4 : List Int) (s5 : Int) (s6 : Int) (b1 : zD) : Option (Stp ((List Int) × Int × Int × zD)) :=
 cond (decide (s6 < (b1.zB.length : Int))) (if 0 ≤ s6 then (if s6 < (s4.length : Int) then ((s4[s6.toNat]?).bind fun x1001 => (idx b1.zB s6).bind fun x1002 =>
  cond (x1002.Kind == 3) (if 0 ≤ s6 then (if s6 < ((s4.set s6.toNat (-1)).length : Int) then (((s4.set s6.toNat (-1))[s6.toNat]?).bind fun x1003 =>
  some (.again (((s4.set s6.toNat (-1)).set s6.toNat s5), (w6 (s5 + 16)), (w6 (s6 + 1)), b1))) else none) else none)
  (some (.again ((s4.set s6.toNat (-1)), s5, (w6 (s6 + 1)), b1)))) else none) else none) (some (.leave (s4, s5, s6, b1)))
def zp.r0 (N : Nat) (x : (List Int) × Int × Int × zD) := zp.b0 N x.1 x.2.1 x.2.2.1 x.2.2.2
def zp.b2 (N : Nat) (s4 : List Int) (s5 : Int) (s7 : Int) (b1 : zD) : Option (Stp ((List Int) × Int × Int × zD)) :=
 cond (decide (s7 < (b1.zB.length : Int))) ((idx b1.zB s7).bind fun x3001 => cond (x3001.Kind == 0)
  (if 0 ≤ s7 then (if s7 < (s4.length : Int) then ((s4[s7.toNat]?).bind fun x3002 => (zcb x3001.zG).bind fun r3003 =>
  some (.again ((s4.set s7.toNat s5), (w6 (s5 + r3003)), (w6 (s7 + 1)), b1))) else none) else none)
  (some (.again (s4, s5, (w6 (s7 + 1)), b1)))) (some (.leave (s4, s5, s7, b1)))
def zp.r2 (N : Nat) (x : (List Int) × Int × Int × zD) := zp.b2 N x.1 x.2.1 x.2.2.1 x.2.2.2
def zp.b4 (N : Nat) (s4 : List Int) (s5 : Int) (s9 : Int) (b1 : zD) : Option (Stp ((List Int) × Int × Int × zD)) :=
 cond (decide (s9 < (b1.zB.length : Int))) ((idx b1.zB s9).bind fun x5001 => cond (x5001.Kind == 1) ((zdn N b1 x5001.Base).bind fun r5002 =>
  if 0 ≤ r5002 then (if r5002 < (s4.length : Int) then ((s4[r5002.toNat]?).bind fun x5003 => if 0 ≤ s9 then (if s9 < (s4.length : Int) then ((s4[s9.toNat]?).bind fun x5004 =>
  some (.again ((s4.set s9.toNat (w6 (x5003 + x5001.Offset))), s5, (w6 (s9 + 1)), b1))) else none) else none) else none) else none)
  (some (.again (s4, s5, (w6 (s9 + 1)), b1)))) (some (.leave (s4, s5, s9, b1)))
def zp.r4 (N : Nat) (x : (List Int) × Int × Int × zD) := zp.b4 N x.1 x.2.1 x.2.2.1 x.2.2.2
def zp (N : Nat) (a0 : zD) : Option ((List Int) × Int) :=
 if 0 ≤ (a0.zB.length : Int) then (if (a0.zB.length : Int) ≤ (a0.zB.length : Int) then (cond (Nat.ble ((a0.zB.length : Int).toNat * 8) zah)
  ((zi (zp.r0 N) N ((List.replicate (a0.zB.length : Int).toNat (0 : Int)), 0, 0, a0)).bind fun y1 =>
  (zi (zp.r2 N) N (y1.1, y1.2.1, 0, y1.2.2.2)).bind fun y2 => (zi (zp.r4 N) N (y2.1, y2.2.1, 0, y2.2.2.2)).bind fun y3 =>
  some (y3.1, (w6 ((w6 ((w6 (y3.2.1 + 16)) - 1)).tdiv 16)))) none) else none) else none
def zp.k (N : Nat) : Kq := ⟨108, (cvv [(Ty.sl T6), T6] [Ty.zD] (zp N)), go [zcb.k, zdn.k N] {} [(0, .plain { slots := [(1, .ptr 1 0), (4, .own 5000004 T6), (5, .val T6), (6, .val T6)], boxes := [(1, Ty.zD, [])] } [(Ty.sl T6), T6, T6, Ty.zD] (zi (zp.r0 N) N)), (2, .plain { slots := [(1, .ptr 1 0), (4, .own 5000004 T6), (5, .val T6), (7, .val T6)], boxes := [(1, Ty.zD, [])] } [(Ty.sl T6), T6, T6, Ty.zD] (zi (zp.r2 N) N)), (4, .plain { slots := [(1, .ptr 1 0), (4, .own 5000004 T6), (5, .val T6), (9, .val T6)], boxes := [(1, Ty.zD, [])] } [(Ty.sl T6), T6, T6, Ty.zD] (zi (zp.r4 N) N))] Proofs.Tryz.func108 (hL := ⟨⟨_, _, rfl, by kernel_rfl⟩, ⟨_, _, rfl, by kernel_rfl⟩, ⟨_, _, rfl, by kernel_rfl⟩, trivial⟩)⟩
def ziw (a0 : Int) : Option ((List Int)) :=
 cond (a0 == 0) (some ([0, 4] : List Int)) (cond (a0 == 1) (some ([1, 3] : List Int)) ((cond (a0 == 2) (some (a0 == 2)) (cond (a0 == 3) (some (a0 == 3)) (cond (a0 == 4)
  (some (a0 == 4)) (cond (a0 == 5) (some (a0 == 5)) (some (a0 == 6)))))).bind fun q1 => cond q1 (some ([1, 3, 3] : List Int)) ((cond (a0 == 7) (some (a0 == 7))
  (some (a0 == 8))).bind fun q2 => cond q2 (some ([2, 4, 6] : List Int)) ((cond (a0 == 9) (some (a0 == 9)) (some (a0 == 13))).bind fun q3 => cond q3 (some ([6] : List Int))
  (cond (a0 == 10) (some ([5, 0] : List Int)) (cond (a0 == 11) (some ([5, 5] : List Int)) (cond (a0 == 12) (some ([5, 3] : List Int)) (cond (a0 == 15) (some ([3] : List Int))
  (cond (a0 == 16) (some ([1] : List Int)) (cond (a0 == 17) (some ([2] : List Int)) (some [])))))))))))
def ziw.k : Kq := ⟨225, (cvv [(Ty.sl T6)] [T6] ziw), go [] {bj := [10, 17, 21]} [] Proofs.Tryz.func225⟩
def zfd (a0 : zH) : Option Bool :=
 (zcr a0.zG.Kind).bind fun r1 => some r1
def zfd.k : Kq := ⟨227, (cvv [Ty.bool] [Ty.zH] zfd), go [zcr.k] {} [] Proofs.Tryz.func227⟩
def zao.b0 (N : Nat) (s5 : List Int) (s6 : Int) (b2 : zD) (b3 : zK) : Option (Round Int ((List Int) × Int × zD × zK)) :=
 cond (decide (s6 < (s5.length : Int))) ((idx b3.Args s6).bind fun x1001 => (zd x1001 0 (w6 ((b2.zB.length : Int) - 1))).bind fun r1002 =>
  cond (!r1002) (some (.result 3)) ((idx b3.Args s6).bind fun x1003 => (idx b2.zB x1003).bind fun x1004 => (idx s5 s6).bind fun x1005 => cond (x1005 == 0)
  ((ze1 x1004.Kind).bind fun r1006 => cond (!r1006) (some (.result 17)) (some (.again (s5, (w6 (s6 + 1)), b2, b3)))) (cond (x1005 == 1)
  ((ze1 x1004.Kind).bind fun r1007 => (cond r1007 ((zfd x1004).bind fun r1008 => some r1008) (some false)).bind fun g1009 => cond (!g1009) (some (.result 17))
  (some (.again (s5, (w6 (s6 + 1)), b2, b3)))) (cond (x1005 == 2) ((zfk x1004.Kind).bind fun r1010 => cond (!r1010) (some (.result 17))
  (some (.again (s5, (w6 (s6 + 1)), b2, b3)))) (cond (x1005 == 3) ((zfk x1004.Kind).bind fun r1011 => (cond r1011 ((zfd x1004).bind fun r1012 =>
  some r1012) (some false)).bind fun g1013 => cond (!g1013) (some (.result 17)) (some (.again (s5, (w6 (s6 + 1)), b2, b3)))) (cond (x1005 == 4)
  ((zfk x1004.Kind).bind fun r1014 => (cond r1014 ((zfd x1004).bind fun r1015 => (idx b3.Args (w6 (s6 - 1))).bind fun x1016 =>
  (idx b2.zB x1016).bind fun x1017 => (zfd x1017).bind fun r1018 => some (r1015 == r1018)) (some false)).bind fun g1019 => cond (!g1019) (some (.result 17))
  (some (.again (s5, (w6 (s6 + 1)), b2, b3)))) (cond (x1005 == 5) (cond (!(x1004.Kind == 3)) (some (.result 17))
  (some (.again (s5, (w6 (s6 + 1)), b2, b3)))) (cond (x1005 == 6) (cond (!(x1004.Kind == 5)) (some (.result 17))
  (some (.again (s5, (w6 (s6 + 1)), b2, b3)))) (some (.result 17)))))))))) (some (.leave (s5, s6, b2, b3)))
def zao.r0 (N : Nat) (x : (List Int) × Int × zD × zK) := zao.b0 N x.1 x.2.1 x.2.2.1 x.2.2.2
def zao (N : Nat) (a0 : zD) (a1 : zK) : Option Int :=
 (zd a1.Op 0 18).bind fun r1 => cond (!r1) (some 4) ((ziw a1.Op).bind fun r2 => cond ((a1.Args.length : Int) != (r2.length : Int)) (some 37)
  ((zf (zao.r0 N) N (r2, 0, a0, a1)).bind fun z4 => zbc z4 (fun z => some z) (fun y3 => some 0)))
def zao.k (N : Nat) : Kq := ⟨169, (cvv [T6] [Ty.zD, Ty.zK] (zao N)), go [zd.k, zfk.k, ziw.k, ze1.k, zfd.k] {} [(0, .rets { slots := [(2, .ptr 2 0), (3, .ptr 3 0), (5, .val (Ty.sl T6)), (6, .val T6)], boxes := [(2, Ty.zD, []), (3, Ty.zK, [])] } [(Ty.sl T6), T6, Ty.zD, Ty.zK] (zf (zao.r0 N) N))] Proofs.Tryz.func169 (hL := ⟨⟨_, _, rfl, by kernel_rfl⟩, trivial⟩)⟩
def zac.b0 (N : Nat) (s4 : Int) (b1 : zD) (b2 : zQ) : Option (Round (zQ × Int) (Int × zD × zQ)) :=
 cond (decide (s4 < (b1.zB.length : Int))) ((zgm N b1 s4).bind fun r1001 => cond (r1001 != 0) (some (.result ((⟨1, s4⟩ : zQ), r1001)))
  (some (.again ((w6 (s4 + 1)), b1, b2)))) (some (.leave (s4, b1, b2)))
def zac.r0 (N : Nat) (x : Int × zD × zQ) := zac.b0 N x.1 x.2.1 x.2.2
def zac.b2 (N : Nat) (s8 : Int) (b1 : zD) (b2 : zQ) : Option (Round (zQ × Int) (Int × zD × zQ)) :=
 cond (decide (s8 < (b1.zA.length : Int))) ((idx b1.zA s8).bind fun x3001 => (zao N b1 x3001).bind fun r3002 => cond (r3002 != 0)
  (some (.result ((⟨2, s8⟩ : zQ), r3002))) (some (.again ((w6 (s8 + 1)), b1, b2)))) (some (.leave (s8, b1, b2)))
def zac.r2 (N : Nat) (x : Int × zD × zQ) := zac.b2 N x.1 x.2.1 x.2.2
def zac.b4 (N : Nat) (s10 : Int) (b1 : zD) (b2 : zQ) : Option (Round (zQ × Int) (Int × zD × zQ)) :=
 cond (decide (s10 < (b1.zP.length : Int))) ((idx b1.zP s10).bind fun x5001 => (cond (decide (x5001.From < 0)) (some true)
  (some (decide (x5001.From ≥ x5001.To)))).bind fun g5002 => (cond g5002 (some true) (some (decide (x5001.To > (b1.zA.length : Int))))).bind fun g5003 =>
  (cond g5003 (some true) ((zd x5001.Exception 0 999).bind fun r5004 => some (!r5004))).bind fun g5005 => (cond g5005 (some true)
  ((zd x5001.Handler 0 (w6 ((b1.zA.length : Int) - 1))).bind fun r5006 => some (!r5006))).bind fun g5007 =>
  cond g5007 (some (.result ((⟨3, s10⟩ : zQ), 3))) (some (.again ((w6 (s10 + 1)), b1, b2)))) (some (.leave (s10, b1, b2)))
def zac.r4 (N : Nat) (x : Int × zD × zQ) := zac.b4 N x.1 x.2.1 x.2.2
def zac (N : Nat) (a0 : zD) : Option (zQ × Int) :=
 (cond (decide ((a0.zB.length : Int) > 24)) (some true) (some (decide ((a0.zA.length : Int) > 40)))).bind fun g1 => (cond g1 (some true)
  (some (decide ((a0.zP.length : Int) > 6)))).bind fun g2 => cond g2 (some ((⟨0, 0⟩ : zQ), 2)) (cond ((a0.zA.length : Int) == 0) (some ((⟨0, 0⟩ : zQ), 1))
  ((zf (zac.r0 N) N (0, a0, (⟨0, 0⟩ : zQ))).bind fun z4 => zbc z4 (fun z => some z) (fun y3 => (zp N y3.2.1).bind fun r5 => cond (decide (r5.2 > 24))
  (some ((⟨0, 0⟩ : zQ), 30)) ((zf (zac.r2 N) N (0, y3.2.1, y3.2.2)).bind fun z7 => zbc z7 (fun z => some z) (fun y6 =>
  (zf (zac.r4 N) N (0, y6.2.1, y6.2.2)).bind fun z9 => zbc z9 (fun z => some z) (fun y8 => some ((⟨0, 0⟩ : zQ), 0)))))))
def zac.k (N : Nat) : Kq := ⟨106, (cvv [Ty.zQ, T6] [Ty.zD] (zac N)), go [zd.k, zp.k N, zgm.k N, zao.k N] {} [(0, .rets { slots := [(1, .ptr 1 0), (2, .ptr 2 0), (4, .val T6)], boxes := [(1, Ty.zD, []), (2, Ty.zQ, [])] } [T6, Ty.zD, Ty.zQ] (zf (zac.r0 N) N)), (2, .rets { slots := [(1, .ptr 1 0), (2, .ptr 2 0), (8, .val T6)], boxes := [(1, Ty.zD, []), (2, Ty.zQ, [])] } [T6, Ty.zD, Ty.zQ] (zf (zac.r2 N) N)), (4, .rets { slots := [(1, .ptr 1 0), (2, .ptr 2 0), (10, .val T6)], boxes := [(1, Ty.zD, []), (2, Ty.zQ, [])] } [T6, Ty.zD, Ty.zQ] (zf (zac.r4 N) N))] Proofs.Tryz.func106 (hL := ⟨⟨_, _, rfl, by kernel_rfl⟩, ⟨_, _, rfl, by kernel_rfl⟩, ⟨_, _, rfl, by kernel_rfl⟩, trivial⟩)⟩
def zl2 (N : Nat) (a0 : zD) : Option Int :=
 (zac N a0).bind fun r1 => some r1.2
def zl2.k (N : Nat) : Kq := ⟨60, (cvv [T6] [Ty.zD] (zl2 N)), go [zac.k N] {} [] Proofs.Tryz.func60⟩
def zgl (a0 : zL) : Option Int :=
 (zd a0.Registers 2 8).bind fun r1 => cond (!r1) (some 3) (some 0)
def zgl.k : Kq := ⟨85, (cvv [T6] [Ty.zL] zgl), go [zd.k] {} [] Proofs.Tryz.func85⟩
def zkw (a0 : Storage) (a1 : Int) : Option ByteArray :=
 if 0 ≤ (w6 ((w6 (a1 * 16)) + 16)) ∧ (w6 ((w6 (a1 * 16)) + 16)) ≤ (a0.Bytes.size : Int) then (if 0 ≤ (w6 (a1 * 16)) ∧ (w6 (a1 * 16)) ≤ (w6 ((w6 (a1 * 16)) + 16)) then (some (a0.Bytes.extract (w6 (a1 * 16)).toNat (w6 ((w6 (a1 * 16)) + 16)).toNat)) else none) else none
def zkw.k : Kq := ⟨197, (cvv [Ty.str] [Ty.Storage, T6] zkw), go [] {} [] Proofs.Tryz.func197⟩
def zbo.b0 (N : Nat) (s0 : ByteArray) (s1 : Int) (s2 : Int) (s7 : Int) (s8 : Int) : Option (Stp (ByteArray × Int × Int × Int × Int)) :=
 cond (decide (s8 < s2)) ((zi9 s0 (w6 (s1 + s8))).bind fun x1001 =>
  some (.again (s0, s1, s2, (w6 ((w6 (s7 * 256)) + (w6 (x1001.toNat : Int)))), (w6 (s8 + 1)))))
  (some (.leave (s0, s1, s2, s7, s8)))
def zbo.r0 (N : Nat) (x : ByteArray × Int × Int × Int × Int) := zbo.b0 N x.1 x.2.1 x.2.2.1 x.2.2.2.1 x.2.2.2.2
def zbo (N : Nat) (a0 : ByteArray) (a1 : Int) (a2 : Int) : Option Int :=
 (zi (zbo.r0 N) N (a0, a1, a2, 0, 0)).bind fun y1 => some y1.2.2.2.1
def zbo.k (N : Nat) : Kq := ⟨245, (cvv [T6] [Ty.str, T6, T6] (zbo N)), go [] {} [(0, .plain { slots := [(0, .val Ty.str), (1, .val T6), (2, .val T6), (7, .val T6), (8, .val T6)], boxes := [] } [Ty.str, T6, T6, T6, T6] (zi (zbo.r0 N) N))] Proofs.Tryz.func245 (hL := ⟨⟨_, _, rfl, by kernel_rfl⟩, trivial⟩)⟩
def zep (a0 : Pointer) : Option Int :=
 (zd a0.Kind 0 2).bind fun r1 => cond (!r1) (some 4) ((zd a0.Address.yA 0 1099511627775).bind fun r2 => (cond (!r2) (some true)
  ((zd a0.Address.Offset 0 16777215).bind fun r3 => some (!r3))).bind fun g4 => (cond g4 (some true) ((zd a0.Authority 0 1023).bind fun r5 =>
  some (!r5))).bind fun g6 => cond g6 (some 3) ((cond (a0.Kind != 1) (some (a0.Authority != 0)) (some false)).bind fun g7 => cond g7 (some 5) (some 0)))
def zep.k : Kq := ⟨246, (cvv [T6] [Ty.Pointer] zep), go [zd.k] {} [] Proofs.Tryz.func246⟩
def zkf (N : Nat) (a0 : ByteArray) : Option (Pointer × Int) :=
 cond ((a0.size : Int) != 16) (some ((⟨0, (⟨0, 0⟩ : Address), 0⟩ : Pointer), 18)) ((zi9 a0 1).bind fun x1 => cond ((x1.toNat : Int) != 0)
  (some ((⟨0, (⟨0, 0⟩ : Address), 0⟩ : Pointer), 5)) ((zi9 a0 0).bind fun x2 => (zbo N a0 2 2).bind fun r3 => (zbo N a0 4 6).bind fun r4 =>
  (zbo N a0 10 6).bind fun r5 => (zep (⟨(w6 (x2.toNat : Int)), (⟨r4, r5⟩ : Address), r3⟩ : Pointer)).bind fun r6 => cond (r6 != 0)
  (some ((⟨0, (⟨0, 0⟩ : Address), 0⟩ : Pointer), r6)) (some ((⟨(w6 (x2.toNat : Int)), (⟨r4, r5⟩ : Address), r3⟩ : Pointer), 0))))
def zkf.k (N : Nat) : Kq := ⟨196, (cvv [Ty.Pointer, T6] [Ty.str] (zkf N)), go [zbo.k N, zep.k] {} [] Proofs.Tryz.func196⟩
def zbl.b0 (N : Nat) (s4 : Int) (s5 : Int) (b1 : Storage) : Option (Round (Int × Int) (Int × Int × Storage)) :=
 cond (decide (s5 < s4)) ((idx b1.Tags s5).bind fun x1001 => cond x1001 ((zkw b1 s5).bind fun r1002 => (zkf N r1002).bind fun r1003 => cond (r1003.2 != 0)
  (some (.result (s5, 22))) (some (.again (s4, (w6 (s5 + 1)), b1)))) (some (.again (s4, (w6 (s5 + 1)), b1)))) (some (.leave (s4, s5, b1)))
def zbl.r0 (N : Nat) (x : Int × Int × Storage) := zbl.b0 N x.1 x.2.1 x.2.2
def zbl (N : Nat) (a0 : Storage) : Option (Int × Int) :=
 cond (decide ((a0.Bytes.size : Int) > 1024)) (some (0, 2)) (cond (((a0.Bytes.size : Int).tmod 16) != 0) (some (0, 18))
  (cond ((a0.Tags.length : Int) != (w6 ((a0.Bytes.size : Int).tdiv 16))) (some (0, 6))
  ((zf (zbl.r0 N) N ((w6 ((a0.Bytes.size : Int).tdiv 16)), 0, a0)).bind fun z2 => zbc z2 (fun z => some z) (fun y1 => some (y1.1, 0)))))
def zbl.k (N : Nat) : Kq := ⟨143, (cvv [T6, T6] [Ty.Storage] (zbl N)), go [zkf.k N, zkw.k] {lits := [39]} [(0, .rets { slots := [(1, .ptr 1 0), (4, .val T6), (5, .val T6)], boxes := [(1, Ty.Storage, [])] } [T6, T6, Ty.Storage] (zf (zbl.r0 N) N))] Proofs.Tryz.func143 (hL := ⟨⟨_, _, rfl, by kernel_rfl⟩, trivial⟩)⟩
def zl3 (N : Nat) (a0 : Storage) : Option Int :=
 (zbl N a0).bind fun r1 => some r1.2
def zl3.k (N : Nat) : Kq := ⟨86, (cvv [T6] [Ty.Storage] (zl3 N)), go [zbl.k N] {} [] Proofs.Tryz.func86⟩
def zb5.b0 (N : Nat) (s3 : List Int) (s4 : Int) (b1 : Storage) : Option (Stp ((List Int) × Int × Storage)) :=
 cond (decide (s4 < (b1.Tags.length : Int))) ((idx b1.Tags s4).bind fun x1001 =>
  cond x1001 (cond (Nat.ble ((s3.length + ([(w6 (s4 * 16))] : List Int).length) * 8) zah)
  (some (.again ((s3 ++ ([(w6 (s4 * 16))] : List Int)), (w6 (s4 + 1)), b1))) none) (some (.again (s3, (w6 (s4 + 1)), b1))))
  (some (.leave (s3, s4, b1)))
def zb5.r0 (N : Nat) (x : (List Int) × Int × Storage) := zb5.b0 N x.1 x.2.1 x.2.2
def zb5 (N : Nat) (a0 : Storage) : Option ((List Int)) :=
 (zi (zb5.r0 N) N ([], 0, a0)).bind fun y1 => some y1.1
def zb5.k (N : Nat) : Kq := ⟨87, (cvv [(Ty.sl T6)] [Ty.Storage] (zb5 N)), go [] {lits := [20]} [(0, .plain { slots := [(1, .ptr 1 0), (3, .own 5000003 T6), (4, .val T6)], boxes := [(1, Ty.Storage, [])] } [(Ty.sl T6), T6, Ty.Storage] (zi (zb5.r0 N) N))] Proofs.Tryz.func87 (hL := ⟨⟨_, _, rfl, by kernel_rfl⟩, trivial⟩)⟩
def zee (a0 : zC) : Option zN :=
 cond (a0.Op == 0) (some (⟨true, false, false, true, false, false, false, false, false, false, false, false, false, false, 1, 0⟩ : zN)) (cond (a0.Op == 1)
  (some (⟨true, false, false, true, false, true, false, false, false, false, false, false, false, false, 1, 0⟩ : zN)) (cond (a0.Op == 2)
  (some (⟨true, false, false, false, false, false, true, false, false, false, false, false, false, false, 0, 0⟩ : zN)) (cond (a0.Op == 3)
  (some (⟨true, true, false, false, false, false, false, false, false, false, false, false, false, false, 0, 0⟩ : zN)) (cond (a0.Op == 4)
  (cond a0.zO (some (⟨true, true, false, true, false, false, false, true, false, false, false, false, false, false, 1, 1⟩ : zN))
  (some (⟨true, true, true, false, false, false, false, true, false, false, false, false, false, false, 1, 0⟩ : zN))) (cond (a0.Op == 5)
  (some (⟨false, true, true, false, false, false, false, false, false, false, false, false, false, false, 0, 0⟩ : zN)) (cond (a0.Op == 6)
  (some (⟨false, false, false, false, false, false, false, false, true, true, false, false, false, false, 0, 0⟩ : zN)) (cond (a0.Op == 7)
  (some (⟨false, true, true, false, false, false, false, false, true, true, false, false, false, false, 0, 0⟩ : zN)) ((cond (a0.Op == 8) (some (a0.Op == 8))
  (some (a0.Op == 18))).bind fun q1 => cond q1 (some (⟨false, false, false, false, false, false, false, false, false, true, false, false, false, false, 0, 0⟩ : zN))
  ((cond (a0.Op == 9) (some (a0.Op == 9)) (some (a0.Op == 11))).bind fun q2 =>
  cond q2 (some (⟨false, false, false, true, true, false, false, false, false, false, false, false, false, false, 2, 2⟩ : zN)) ((cond (a0.Op == 10) (some (a0.Op == 10))
  (some (a0.Op == 12))).bind fun q3 => cond q3 (some (⟨false, false, false, true, false, false, false, false, false, false, true, false, false, false, 2, 0⟩ : zN))
  (cond (a0.Op == 13) (some (⟨false, false, false, false, false, false, false, false, false, false, true, true, false, false, 0, 0⟩ : zN)) (cond (a0.Op == 14)
  (some (⟨false, false, false, true, false, false, false, false, false, false, false, false, true, false, 3, 0⟩ : zN)) (cond (a0.Op == 15)
  (some (⟨false, false, false, false, false, false, false, false, false, false, false, false, true, true, 0, 0⟩ : zN)) (cond (a0.Op == 16)
  (some (⟨true, false, false, false, false, false, false, false, false, false, false, false, true, false, 0, 0⟩ : zN)) (cond (a0.Op == 17)
  (some (⟨false, false, false, false, false, false, false, false, false, false, false, false, true, false, 0, 0⟩ : zN)) ((cond (a0.Op == 20) (some (a0.Op == 20))
  (cond (a0.Op == 21) (some (a0.Op == 21)) (some (a0.Op == 22)))).bind fun q4 =>
  cond q4 (some (⟨true, false, false, false, false, false, false, false, false, false, false, false, false, false, 0, 0⟩ : zN)) (cond (a0.Op == 23)
  (some (⟨false, false, false, true, false, false, false, false, false, false, false, false, false, false, 2, 0⟩ : zN)) (cond (a0.Op == 24)
  (some (⟨false, false, false, false, false, false, false, false, false, false, true, false, false, false, 0, 0⟩ : zN))
  (some (⟨false, false, false, false, false, false, false, false, false, false, false, false, false, false, 0, 0⟩ : zN))))))))))))))))))))
def zee.k : Kq := ⟨144, (cvv [Ty.zN] [Ty.zC] zee), go [] {bj := [32, 36, 40, 59]} [] Proofs.Tryz.func144⟩
def zho (a0 : zC) (a1 : zN) : Option Bool :=
 (cond (!a1.R) (some (a0.R != 0)) (some false)).bind fun g1 => (cond g1 (some true) ((cond (!a1.A) (some (a0.A != 0)) (some false)).bind fun g2 => some g2)).bind fun g3 =>
  (cond g3 (some true) ((cond (!a1.B) (some (a0.B != 0)) (some false)).bind fun g4 => some g4)).bind fun g5 => (cond g5 (some true) ((cond (!a1.zS)
  (some (a0.zS != 0)) (some false)).bind fun g6 => some g6)).bind fun g7 => (cond g7 (some true) ((cond (!a1.Place)
  (some (!(zcp [(a0.Place.Based == false), (a0.Place.Pointer == 0), (a0.Place.Offset == 0)]))) (some false)).bind fun g8 => some g8)).bind fun g9 => (cond g9 (some true)
  ((cond (!a1.From) (some (!(zcp [(a0.From.Based == false), (a0.From.Pointer == 0), (a0.From.Offset == 0)]))) (some false)).bind fun g10 => some g10)).bind fun g11 =>
  (cond g11 (some true) ((cond (a1.zG == 0) (some (!(zcp [(a0.zG.Kind == 0), (a0.zG.Length == 0), (a0.zG.Scale == 0)]))) (some false)).bind fun g12 =>
  some g12)).bind fun g13 => (cond g13 (some true) ((cond (a1.Second == 0) (some (!(zcp [(a0.Second.Kind == 0), (a0.Second.Length == 0), (a0.Second.Scale == 0)])))
  (some false)).bind fun g14 => some g14)).bind fun g15 => (cond g15 (some true) ((cond (!a1.Half) (some a0.Half) (some false)).bind fun g16 => some g16)).bind fun g17 =>
  (cond g17 (some true) ((cond (a0.Op != 4) (some a0.zO) (some false)).bind fun g18 => some g18)).bind fun g19 => (cond g19 (some true) ((cond (!a1.Number)
  (some (!(zcp [(a0.Number.N == 0), (a0.Number.Scale == 0)]))) (some false)).bind fun g20 => some g20)).bind fun g21 => (cond g21 (some true) ((cond (!a1.Text)
  (some (!(a0.Text.toList == (⟨#[]⟩ : ByteArray).toList))) (some false)).bind fun g22 => some g22)).bind fun g23 => (cond g23 (some true) ((cond (!a1.Other)
  (some (!(a0.Other.toList == (⟨#[]⟩ : ByteArray).toList))) (some false)).bind fun g24 => some g24)).bind fun g25 => (cond g25 (some true) ((cond (!a1.Mask) (some (a0.Mask != 0))
  (some false)).bind fun g26 => some g26)).bind fun g27 => (cond g27 (some true) ((cond (!a1.Target) (some (a0.Target != 0)) (some false)).bind fun g28 => some g28)).bind fun g29 =>
  (cond g29 (some true) ((cond (!a1.Pointer) (some (a0.Pointer != 0)) (some false)).bind fun g30 => some g30)).bind fun g31 => (cond g31 (some true) ((cond (!a1.Source)
  (some (a0.Source != 0)) (some false)).bind fun g32 => some g32)).bind fun g33 => (cond g33 (some true) ((cond (!a0.Place.Based) (some (a0.Place.Pointer != 0))
  (some false)).bind fun g34 => some g34)).bind fun g35 => (cond g35 (some true) ((cond (!a0.From.Based) (some (a0.From.Pointer != 0)) (some false)).bind fun g36 =>
  some g36)).bind fun g37 => some g37
def zho.k : Kq := ⟨145, (cvv [Ty.bool] [Ty.zC, Ty.zN] zho), go [] {} [] Proofs.Tryz.func145⟩
def zj2 (a0 : zL) (a1 : zC) : Option Bool :=
 (cond (a1.Op == 7) (some (!a0.yC)) (some false)).bind fun g1 => (cond g1 (some true) ((cond a1.zO (some (!a0.yB)) (some false)).bind fun g2 =>
  some g2)).bind fun g3 => some g3
def zj2.k : Kq := ⟨146, (cvv [Ty.bool] [Ty.zL, Ty.zC] zj2), go [] {} [] Proofs.Tryz.func146⟩
def zg8 (a0 : DataType) (a1 : Int) : Option Int :=
 cond (a1 == 0) (some 0) ((zev a0).bind fun r1 => cond (r1 != 0) (some r1) ((cond (a1 == 1) ((zcr a0.Kind).bind fun r2 => some (!r2))
  (some false)).bind fun g3 => (cond g3 (some true) ((cond (a1 == 2) (some (a0.Kind != 0)) (some false)).bind fun g4 => some g4)).bind fun g5 => (cond g5 (some true)
  ((cond (a1 == 3) (some (a0.Kind == 4)) (some false)).bind fun g6 => some g6)).bind fun g7 => cond g7 (some 17) (some 0)))
def zg8.k : Kq := ⟨147, (cvv [T6] [Ty.DataType, T6] zg8), go [zev.k, zcr.k] {} [] Proofs.Tryz.func147⟩
def zen (a0 : zL) (a1 : Int) : Option Bool :=
 (zd a1 0 (w6 (a0.Registers - 1))).bind fun r1 => some r1
def zen.k : Kq := ⟨198, (cvv [Ty.bool] [Ty.zL, T6] zen), go [zd.k] {} [] Proofs.Tryz.func198⟩
def zeo (a0 : zL) (a1 : zC) : Option Bool :=
 (zee a1).bind fun r1 => (cond (!r1.R) (some true) ((zen a0 a1.R).bind fun r2 => some r2)).bind fun g3 => (cond g3 ((cond (!r1.A) (some true)
  ((zen a0 a1.A).bind fun r4 => some r4)).bind fun g5 => some g5) (some false)).bind fun g6 => (cond g6 ((cond (!r1.B) (some true)
  ((zen a0 a1.B).bind fun r7 => some r7)).bind fun g8 => some g8) (some false)).bind fun g9 => some g9
def zeo.k : Kq := ⟨148, (cvv [Ty.bool] [Ty.zL, Ty.zC] zeo), go [zee.k, zen.k] {} [] Proofs.Tryz.func148⟩
def zeq (a0 : Storage) (a1 : Int) : Option Bool :=
 (zd a1 0 (w6 ((a0.Bytes.size : Int) - 16))).bind fun r1 => (cond r1 (some ((a1.tmod 16) == 0)) (some false)).bind fun g2 => some g2
def zeq.k : Kq := ⟨149, (cvv [Ty.bool] [Ty.Storage, T6] zeq), go [zd.k] {} [] Proofs.Tryz.func149⟩
def zjx (a0 : Storage) (a1 : Int) (a2 : Int) : Option Bool :=
 (zd a1 0 (a0.Bytes.size : Int)).bind fun r1 => (cond r1 ((zd a2 0 (w6 ((a0.Bytes.size : Int) - a1))).bind fun r2 => some r2)
  (some false)).bind fun g3 => some g3
def zjx.k : Kq := ⟨120, (cvv [Ty.bool] [Ty.Storage, T6, T6] zjx), go [zd.k] {lits := [10]} [] Proofs.Tryz.func120⟩
def zdz (a0 : zI) (a1 : zM) (a2 : Int) : Option Bool :=
 cond a1.Based ((zeq a0.Storage a1.Pointer).bind fun r1 => (cond r1 ((zd a1.Offset 0 256).bind fun r2 => some r2) (some false)).bind fun g3 => some g3)
  ((zjx a0.Storage a1.Offset a2).bind fun r4 => some r4)
def zdz.k : Kq := ⟨150, (cvv [Ty.bool] [Ty.zI, Ty.zM, T6] zdz), go [zd.k, zjx.k, zeq.k] {} [] Proofs.Tryz.func150⟩
def zef (a0 : Number) : Option Int :=
 (zd a0.N (-999999999999999) 999999999999999).bind fun r1 => (cond r1 ((zd a0.Scale 0 15).bind fun r2 => some r2) (some false)).bind fun g3 =>
  (zcf (!g3)).bind fun r4 => some (w6 (3 * r4))
def zef.k : Kq := ⟨151, (cvv [T6] [Ty.Number] zef), go [zcf.k, zd.k] {} [] Proofs.Tryz.func151⟩
def zdd (a0 : zL) (a1 : zI) (a2 : zC) : Option Int :=
 (zd a2.Op 0 26).bind fun r1 => cond (!r1) (some 4) ((zee a2).bind fun r2 => (zho a2 r2).bind fun r3 => cond r3 (some 5)
  ((zj2 a0 a2).bind fun r4 => cond r4 (some 39) ((zg8 a2.zG r2.zG).bind fun r5 => cond (r5 != 0) (some r5)
  ((zg8 a2.Second r2.Second).bind fun r6 => cond (r6 != 0) (some r6) (cond (a2.Op == 4) (((zeo a0 a2).bind fun r7 => cond (!r7) (some (!r7))
  ((cond r2.Target ((zd a2.Target 0 (w6 ((a1.zA.length : Int) - 1))).bind fun r8 => some (!r8)) (some false)).bind fun g9 => cond g9 (some g9)
  ((cond r2.Mask ((zd a2.Mask 1 7).bind fun r10 => some (!r10)) (some false)).bind fun g11 => some g11))).bind fun q12 => cond q12 (some 3)
  (((cond r2.Pointer ((zeq a1.Storage a2.Pointer).bind fun r13 => some (!r13)) (some false)).bind fun g14 => cond g14 (some g14)
  ((cond r2.Source ((zeq a1.Storage a2.Source).bind fun r15 => some (!r15)) (some false)).bind fun g16 => some g16)).bind fun q17 => cond q17 (some 3)
  ((cond r2.Place ((zcb a2.Second).bind fun r18 => (zdz a1 a2.Place r18).bind fun r19 => some (!r19)) (some false)).bind fun g20 => cond g20 (cond g20 (some 3)
  ((cond r2.zS ((zd a2.zS 0 4).bind fun r21 => some (!r21)) (some false)).bind fun g22 => cond g22 (some 3) ((zef a2.Number).bind fun r23 =>
  (cond r2.Number (some (r23 != 0)) (some false)).bind fun g24 => cond g24 (some r23) ((cond (decide ((a2.Text.size : Int) > 256)) (some true)
  (some (decide ((a2.Other.size : Int) > 256)))).bind fun g25 => cond g25 (some 2) (some 0))))) ((cond r2.From ((zcb a2.Second).bind fun r26 =>
  (zdz a1 a2.From r26).bind fun r27 => some (!r27)) (some false)).bind fun g28 => cond g28 (some 3) ((cond r2.zS ((zd a2.zS 0 4).bind fun r29 =>
  some (!r29)) (some false)).bind fun g30 => cond g30 (some 3) ((zef a2.Number).bind fun r31 => (cond r2.Number (some (r31 != 0)) (some false)).bind fun g32 =>
  cond g32 (some r31) ((cond (decide ((a2.Text.size : Int) > 256)) (some true) (some (decide ((a2.Other.size : Int) > 256)))).bind fun g33 => cond g33 (some 2) (some 0))))))))
  (((zeo a0 a2).bind fun r34 => cond (!r34) (some (!r34))
  ((cond r2.Target ((zd a2.Target 0 (w6 ((a1.zA.length : Int) - 1))).bind fun r35 => some (!r35)) (some false)).bind fun g36 => cond g36 (some g36)
  ((cond r2.Mask ((zd a2.Mask 1 7).bind fun r37 => some (!r37)) (some false)).bind fun g38 => some g38))).bind fun q39 => cond q39 (some 3)
  (((cond r2.Pointer ((zeq a1.Storage a2.Pointer).bind fun r40 => some (!r40)) (some false)).bind fun g41 => cond g41 (some g41)
  ((cond r2.Source ((zeq a1.Storage a2.Source).bind fun r42 => some (!r42)) (some false)).bind fun g43 => some g43)).bind fun q44 => cond q44 (some 3)
  ((cond r2.Place ((zcb a2.zG).bind fun r45 => (zdz a1 a2.Place r45).bind fun r46 => some (!r46)) (some false)).bind fun g47 => cond g47 (cond g47 (some 3)
  ((cond r2.zS ((zd a2.zS 0 4).bind fun r48 => some (!r48)) (some false)).bind fun g49 => cond g49 (some 3) ((zef a2.Number).bind fun r50 =>
  (cond r2.Number (some (r50 != 0)) (some false)).bind fun g51 => cond g51 (some r50) ((cond (decide ((a2.Text.size : Int) > 256)) (some true)
  (some (decide ((a2.Other.size : Int) > 256)))).bind fun g52 => cond g52 (some 2) (some 0))))) ((cond r2.From ((zcb a2.Second).bind fun r53 =>
  (zdz a1 a2.From r53).bind fun r54 => some (!r54)) (some false)).bind fun g55 => cond g55 (some 3) ((cond r2.zS ((zd a2.zS 0 4).bind fun r56 =>
  some (!r56)) (some false)).bind fun g57 => cond g57 (some 3) ((zef a2.Number).bind fun r58 => (cond r2.Number (some (r58 != 0)) (some false)).bind fun g59 =>
  cond g59 (some r58) ((cond (decide ((a2.Text.size : Int) > 256)) (some true) (some (decide ((a2.Other.size : Int) > 256)))).bind fun g60 => cond g60 (some 2) (some 0)))))))))))))
def zdd.k : Kq := ⟨88, (cvv [T6] [Ty.zL, Ty.zI, Ty.zC] zdd), go [zd.k, zcb.k, zee.k, zho.k, zj2.k, zg8.k, zeo.k, zeq.k, zdz.k, zef.k] {lits := [101, 113], bj := [47, 72]} [] Proofs.Tryz.func88⟩
def zo.b1 (N : Nat) (s8 : Int) (b2 : zL) (b3 : zI) : Option (Round (Int × Int) (Int × zL × zI)) :=
 cond (decide (s8 < (b3.zA.length : Int))) ((idx b3.zA s8).bind fun x2001 => (zdd b2 b3 x2001).bind fun r2002 => cond (r2002 != 0)
  (some (.result (s8, r2002))) (some (.again ((w6 (s8 + 1)), b2, b3)))) (some (.leave (s8, b2, b3)))
def zo.r1 (N : Nat) (x : Int × zL × zI) := zo.b1 N x.1 x.2.1 x.2.2
def zo.b3 (N : Nat) (s10 : Int) (b3 : zI) : Option (Round (Int × Int) (Int × zI)) :=
 cond (decide (s10 < (b3.zV.length : Int))) ((idx b3.zV s10).bind fun x4001 => (cond (decide (x4001.From < 0)) (some true)
  (some (decide (x4001.From > x4001.To)))).bind fun g4002 => (cond g4002 (some true) (some (decide (x4001.To > (b3.zA.length : Int))))).bind fun g4003 =>
  (cond g4003 (some true) ((zd x4001.Exception 0 999).bind fun r4004 => some (!r4004))).bind fun g4005 => (cond g4005 (some true)
  ((zd x4001.Handler 0 (w6 ((b3.zA.length : Int) - 1))).bind fun r4006 => some (!r4006))).bind fun g4007 => cond g4007 (some (.result (s10, 3)))
  (some (.again ((w6 (s10 + 1)), b3)))) (some (.leave (s10, b3)))
def zo.r3 (N : Nat) (x : Int × zI) := zo.b3 N x.1 x.2
def zo (N : Nat) (a0 : zL) (a1 : zI) : Option (Int × Int) :=
 (zgl a0).bind fun r1 => cond (r1 != 0) (some (0, r1)) ((zl3 N a1.Storage).bind fun r2 => cond (r2 != 0) (some (0, r2))
  ((zb5 N a1.Storage).bind fun r3 => cond (decide ((r3.length : Int) > 0)) (some (0, 22)) (cond ((a1.zA.length : Int) == 0) (some (0, 1))
  ((cond (decide ((a1.zA.length : Int) > 240)) (some true) (some (decide ((a1.zV.length : Int) > 40)))).bind fun g4 => cond g4 (some (0, 2))
  ((zf (zo.r1 N) N (0, a0, a1)).bind fun z6 => zbc z6 (fun z => some z) (fun y5 => (zf (zo.r3 N) N (0, y5.2.2)).bind fun z8 => zbc z8 (fun z =>
  some z) (fun y7 => some ((y7.2.zA.length : Int), 0))))))))
def zo.k (N : Nat) : Kq := ⟨35, (cvv [T6, T6] [Ty.zL, Ty.zI] (zo N)), go [zgl.k, zl3.k N, zb5.k N, zdd.k, zd.k] {lits := [26]} [(1, .rets { slots := [(2, .ptr 2 0), (3, .ptr 3 0), (8, .val T6)], boxes := [(2, Ty.zL, []), (3, Ty.zI, [])] } [T6, Ty.zL, Ty.zI] (zf (zo.r1 N) N)), (3, .rets { slots := [(3, .ptr 3 0), (10, .val T6)], boxes := [(3, Ty.zI, [])] } [T6, Ty.zI] (zf (zo.r3 N) N))] Proofs.Tryz.func35 (hL := ⟨⟨_, _, rfl, by kernel_rfl⟩, ⟨_, _, rfl, by kernel_rfl⟩, trivial⟩)⟩
def zjw (N : Nat) (a0 : zL) (a1 : zI) : Option Int :=
 (zo N a0 a1).bind fun r1 => some r1.2
def zjw.k (N : Nat) : Kq := ⟨11, (cvv [T6] [Ty.zL, Ty.zI] (zjw N)), go [zo.k N] {} [] Proofs.Tryz.func11⟩
def zcc.b0 (N : Nat) (s0 : Int) (s1 : Int) (s5 : List Int) (s6 : Int) : Option (Stp (Int × Int × (List Int) × Int)) :=
 cond (decide (s6 < s1))
  (if 0 ≤ (w6 ((w6 (s1 - 1)) - s6)) then (if (w6 ((w6 (s1 - 1)) - s6)) < (s5.length : Int) then ((s5[(w6 ((w6 (s1 - 1)) - s6)).toNat]?).bind fun x1001 =>
  some (.again ((w6 (s0.tdiv 256)), s1, (s5.set ((w6 ((w6 (s1 - 1)) - s6)).toNat)
  (IntKind.wrap .u8 (s0.tmod 256))), (w6 (s6 + 1))))) else none) else none) (some (.leave (s0, s1, s5, s6)))
def zcc.r0 (N : Nat) (x : Int × Int × (List Int) × Int) := zcc.b0 N x.1 x.2.1 x.2.2.1 x.2.2.2
def zcc (N : Nat) (a0 : Int) (a1 : Int) : Option ByteArray :=
 if 0 ≤ a1 then (if a1 ≤ a1 then (cond (Nat.ble (a1.toNat * 1) zah) ((zi (zcc.r0 N) N (a0, a1, (List.replicate a1.toNat (0 : Int)), 0)).bind fun y1 =>
  some (ze6 y1.2.2.1)) none) else none) else none
def zcc.k (N : Nat) : Kq := ⟨171, (cvv [Ty.str] [T6, T6] (zcc N)), go [] {} [(0, .plain { slots := [(0, .val T6), (1, .val T6), (5, .own 5000005 (Ty.int .u8)), (6, .val T6)], boxes := [] } [T6, T6, (Ty.sl (Ty.int .u8)), T6] (zi (zcc.r0 N) N))] Proofs.Tryz.func171 (hL := ⟨⟨_, _, rfl, by kernel_rfl⟩, trivial⟩)⟩
def zkg (a0 : Int) : Option Int :=
 some (if (w6 (0 - a0)) > a0 then (w6 (0 - a0)) else a0)
def zkg.k : Kq := ⟨173, (cvv [T6] [T6] zkg), go [] {} [] Proofs.Tryz.func173⟩
def zcx.b0 (N : Nat) (s0 : Int) (s5 : List Int) (s6 : Int) : Option (Stp (Int × (List Int) × Int)) :=
 cond (decide (s6 ≥ 0)) (if 0 ≤ s6 then (if s6 < (s5.length : Int) then ((s5[s6.toNat]?).bind fun x1001 =>
  some (.again ((w6 (s0.tdiv 10)), (s5.set s6.toNat (s0.tmod 10)), (w6 (s6 - 1))))) else none) else none) (some (.leave (s0, s5, s6)))
def zcx.r0 (N : Nat) (x : Int × (List Int) × Int) := zcx.b0 N x.1 x.2.1 x.2.2
def zcx (N : Nat) (a0 : Int) (a1 : Int) : Option ((List Int)) :=
 if 0 ≤ a1 then (if a1 ≤ a1 then (cond (Nat.ble (a1.toNat * 8) zah)
  ((zi (zcx.r0 N) N (a0, (List.replicate a1.toNat (0 : Int)), (w6 (a1 - 1)))).bind fun y1 => some y1.2.1) none) else none) else none
def zcx.k (N : Nat) : Kq := ⟨172, (ctv [.val T6, .val T6] [(Ty.sl T6)] [] [0] [T6, T6] (zcx N)), go [] {} [(0, .plain { slots := [(0, .val T6), (5, .own 5000005 T6), (6, .val T6)], boxes := [] } [T6, (Ty.sl T6), T6] (zi (zcx.r0 N) N))] Proofs.Tryz.func172 (hL := ⟨⟨_, _, rfl, by kernel_rfl⟩, trivial⟩)⟩
def zam.b1 (N : Nat) (s6 : List Int) (s7 : List Int) (s8 : Int) (b2 : DataType) (b3 : Value) : Option (Stp ((List Int) × (List Int) × Int × DataType × Value)) :=
 cond (decide (s8 < b2.Length)) (if 0 ≤ s8 then (if s8 < (s6.length : Int) then ((s6[s8.toNat]?).bind fun x2001 =>
  if 0 ≤ s8 then (if s8 < (s7.length : Int) then ((s7[s8.toNat]?).bind fun x2002 =>
  some (.again (s6, (s7.set s8.toNat (IntKind.wrap .u8 (w6 (240 + x2001)))), (w6 (s8 + 1)), b2, b3))) else none) else none) else none) else none)
  (some (.leave (s6, s7, s8, b2, b3)))
def zam.r1 (N : Nat) (x : (List Int) × (List Int) × Int × DataType × Value) := zam.b1 N x.1 x.2.1 x.2.2.1 x.2.2.2.1 x.2.2.2.2
def zam.b3 (N : Nat) (s6 : List Int) (s9 : List Int) (s10 : Int) : Option (Stp ((List Int) × (List Int) × Int)) :=
 cond (decide (s10 < (s9.length : Int)))
  (if 0 ≤ (w6 (2 * s10)) then (if (w6 (2 * s10)) < (s6.length : Int) then ((s6[(w6 (2 * s10)).toNat]?).bind fun x4001 =>
  if 0 ≤ (w6 ((w6 (2 * s10)) + 1)) then (if (w6 ((w6 (2 * s10)) + 1)) < (s6.length : Int) then ((s6[(w6 ((w6 (2 * s10)) + 1)).toNat]?).bind fun x4002 =>
  if 0 ≤ s10 then (if s10 < (s9.length : Int) then ((s9[s10.toNat]?).bind fun x4003 =>
  some (.again (s6, (s9.set s10.toNat (IntKind.wrap .u8 (w6 ((w6 (16 * x4001)) + x4002)))), (w6 (s10 + 1))))) else none) else none) else none) else none) else none) else none)
  (some (.leave (s6, s9, s10)))
def zam.r3 (N : Nat) (x : (List Int) × (List Int) × Int) := zam.b3 N x.1 x.2.1 x.2.2
def zam (N : Nat) (a0 : DataType) (a1 : Value) : Option ByteArray :=
 cond (a0.Kind == 0) (some a1.S) (cond (a0.Kind == 3) (cond (decide (a1.N < 0)) ((zcb a0).bind fun r1 =>
  if (w6 (8 * r1)) < 0 then none else (zcb a0).bind fun r2 =>
  (zcc N (w6 (a1.N + (w6 (1 * 2 ^ (min (w6 (8 * r1)).toNat 64))))) r2).bind fun r3 => some r3) ((zcb a0).bind fun r4 =>
  (zcc N a1.N r4).bind fun r5 => some r5)) ((zkg a1.N).bind fun r6 => (zcx N r6 a0.Length).bind fun r7 => cond (a0.Kind == 2)
  (if 0 ≤ a0.Length then (if a0.Length ≤ a0.Length then (cond (Nat.ble (a0.Length.toNat * 1) zah)
  ((zi (zam.r1 N) N (r7, (List.replicate a0.Length.toNat (0 : Int)), 0, a0, a1)).bind fun y8 => cond (decide (y8.2.2.2.2.N < 0))
  (if 0 ≤ (w6 (y8.2.2.2.1.Length - 1)) then (if (w6 (y8.2.2.2.1.Length - 1)) < (y8.1.length : Int) then ((y8.1[(w6 (y8.2.2.2.1.Length - 1)).toNat]?).bind fun x9 =>
  if 0 ≤ (w6 (y8.2.2.2.1.Length - 1)) then (if (w6 (y8.2.2.2.1.Length - 1)) < (y8.2.1.length : Int) then ((y8.2.1[(w6 (y8.2.2.2.1.Length - 1)).toNat]?).bind fun x10 =>
  some (ze6 (y8.2.1.set ((w6 (y8.2.2.2.1.Length - 1)).toNat) (IntKind.wrap .u8 (w6 (208 + x9)))))) else none) else none) else none) else none)
  (some (ze6 y8.2.1))) none) else none) else none) (cond ((a0.Length.tmod 2) == 0) (cond (Nat.ble ((([0] : List Int).length + r7.length) * 8) zah)
  ((zcf (decide (a1.N < 0))).bind fun r11 =>
  cond (Nat.ble (((([0] : List Int) ++ r7).length + ([(w6 (15 - (w6 (2 * r11))))] : List Int).length) * 8) zah)
  (if 0 ≤ (w6 ((((([0] : List Int) ++ r7) ++ ([(w6 (15 - (w6 (2 * r11))))] : List Int)).length : Int).tdiv 2)) then (if (w6 ((((([0] : List Int) ++ r7) ++ ([(w6 (15 - (w6 (2 * r11))))] : List Int)).length : Int).tdiv 2)) ≤ (w6 ((((([0] : List Int) ++ r7) ++ ([(w6 (15 - (w6 (2 * r11))))] : List Int)).length : Int).tdiv 2)) then (cond (Nat.ble ((w6 ((((([0] : List Int) ++ r7) ++ ([(w6 (15 - (w6 (2 * r11))))] : List Int)).length : Int).tdiv 2)).toNat * 1) zah)
  ((zi (zam.r3 N) N (((([0] : List Int) ++ r7) ++ ([(w6 (15 - (w6 (2 * r11))))] : List Int)), (List.replicate (w6 ((((([0] : List Int) ++ r7) ++ ([(w6 (15 - (w6 (2 * r11))))] : List Int)).length : Int).tdiv 2)).toNat (0 : Int)), 0)).bind fun y12 =>
  some (ze6 y12.2.1)) none) else none) else none) none) none) ((zcf (decide (a1.N < 0))).bind fun r13 =>
  cond (Nat.ble ((r7.length + ([(w6 (15 - (w6 (2 * r13))))] : List Int).length) * 8) zah)
  (if 0 ≤ (w6 (((r7 ++ ([(w6 (15 - (w6 (2 * r13))))] : List Int)).length : Int).tdiv 2)) then (if (w6 (((r7 ++ ([(w6 (15 - (w6 (2 * r13))))] : List Int)).length : Int).tdiv 2)) ≤ (w6 (((r7 ++ ([(w6 (15 - (w6 (2 * r13))))] : List Int)).length : Int).tdiv 2)) then (cond (Nat.ble ((w6 (((r7 ++ ([(w6 (15 - (w6 (2 * r13))))] : List Int)).length : Int).tdiv 2)).toNat * 1) zah)
  ((zi (zam.r3 N) N ((r7 ++ ([(w6 (15 - (w6 (2 * r13))))] : List Int)), (List.replicate (w6 (((r7 ++ ([(w6 (15 - (w6 (2 * r13))))] : List Int)).length : Int).tdiv 2)).toNat (0 : Int)), 0)).bind fun y14 =>
  some (ze6 y14.2.1)) none) else none) else none) none))))
def zam.k (N : Nat) : Kq := ⟨110, (cvv [Ty.str] [Ty.DataType, Ty.Value] (zam N)), go [zcf.k, zcb.k, zcc.k N, zcx.k N, zkg.k] {lits := [31, 35, 92]} [(1, .plain { slots := [(2, .ptr 2 0), (3, .ptr 3 0), (6, .own 5000006 T6), (7, .own 5000007 (Ty.int .u8)), (8, .val T6)], boxes := [(2, Ty.DataType, []), (3, Ty.Value, [])] } [(Ty.sl T6), (Ty.sl (Ty.int .u8)), T6, Ty.DataType, Ty.Value] (zi (zam.r1 N) N)), (3, .plain { slots := [(6, .own 5000006 T6), (9, .own 5000009 (Ty.int .u8)), (10, .val T6)], boxes := [] } [(Ty.sl T6), (Ty.sl (Ty.int .u8)), T6] (zi (zam.r3 N) N))] Proofs.Tryz.func110 (hL := ⟨⟨_, _, rfl, by kernel_rfl⟩, ⟨_, _, rfl, by kernel_rfl⟩, trivial⟩)⟩
def zjc (a0 : ByteArray) (a1 : Int) (a2 : ByteArray) : Option ByteArray :=
 if 0 ≤ a1 ∧ a1 ≤ (a0.size : Int) then (if 0 ≤ (0 : Int) ∧ (0 : Int) ≤ a1 then (if (((a0.extract (0 : Int).toNat a1.toNat).size + a2.size : Nat) : Int) > IntKind.i64.max then none else if 0 ≤ (w6 (a1 + (a2.size : Int))) ∧ (w6 (a1 + (a2.size : Int))) ≤ (a0.size : Int) then (if ((((a0.extract (0 : Int).toNat a1.toNat) ++ a2).size + (a0.extract (w6 (a1 + (a2.size : Int))).toNat a0.size).size : Nat) : Int) > IntKind.i64.max then none else some (((a0.extract (0 : Int).toNat a1.toNat) ++ a2) ++ (a0.extract (w6 (a1 + (a2.size : Int))).toNat a0.size))) else none) else none) else none
def zjc.k : Kq := ⟨109, (cvv [Ty.str] [Ty.str, T6, Ty.str] zjc), go [] {} [] Proofs.Tryz.func109⟩
def zci.b0 (N : Nat) (s3 : List Int) (s6 : Int) (b1 : zD) (b2 : Storage) (b5 : Storage) : Option (Stp ((List Int) × Int × zD × Storage × Storage)) :=
 cond (decide (s6 < (b1.zB.length : Int))) ((idx b1.zB s6).bind fun x1001 => cond (x1001.Kind == 0) ((idx s3 s6).bind fun x1002 =>
  (zam N x1001.zG x1001.Value).bind fun r1003 => (zjc b5.Bytes x1002 r1003).bind fun r1004 =>
  some (.again (s3, (w6 (s6 + 1)), b1, b2, (⟨r1004, b5.Tags⟩ : Storage)))) (some (.again (s3, (w6 (s6 + 1)), b1, b2, b5))))
  (some (.leave (s3, s6, b1, b2, b5)))
def zci.r0 (N : Nat) (x : (List Int) × Int × zD × Storage × Storage) := zci.b0 N x.1 x.2.1 x.2.2.1 x.2.2.2.1 x.2.2.2.2
def zci (N : Nat) (a0 : zD) : Option Storage :=
 (zp N a0).bind fun r1 => (zct N 0 (w6 (r1.2 * 16))).bind fun r2 => if 0 ≤ r1.2 then (if r1.2 ≤ r1.2 then (cond (Nat.ble (r1.2.toNat * 1) zah)
  ((zi (zci.r0 N) N (r1.1, 0, a0, (⟨(⟨#[]⟩ : ByteArray), []⟩ : Storage), (⟨r2, (List.replicate r1.2.toNat (false : Bool))⟩ : Storage))).bind fun y3 =>
  some y3.2.2.2.2) none) else none) else none
def zci.k (N : Nat) : Kq := ⟨62, (cvv [Ty.Storage] [Ty.zD] (zci N)), go [zct.k N, zp.k N, zjc.k, zam.k N] {lits := [44]} [(0, .plain { slots := [(1, .ptr 1 0), (2, .ptr 2 0), (3, .val (Ty.sl T6)), (5, .ptr 5 0), (6, .val T6)], boxes := [(1, Ty.zD, []), (2, Ty.Storage, [1]), (5, Ty.Storage, [1])] } [(Ty.sl T6), T6, Ty.zD, Ty.Storage, Ty.Storage] (zi (zci.r0 N) N))] Proofs.Tryz.func62 (hL := ⟨⟨_, _, rfl, by kernel_rfl⟩, trivial⟩)⟩
def zdg.b0 (N : Nat) (s0 : List Bool) (s1 : List Bool) (s5 : Int) : Option (Round Bool ((List Bool) × (List Bool) × Int)) :=
 cond (decide (s5 < (s0.length : Int))) ((idx s0 s5).bind fun x1001 => (idx s1 s5).bind fun x1002 => cond (!(x1001 == x1002)) (some (.result false))
  (some (.again (s0, s1, (w6 (s5 + 1)))))) (some (.leave (s0, s1, s5)))
def zdg.r0 (N : Nat) (x : (List Bool) × (List Bool) × Int) := zdg.b0 N x.1 x.2.1 x.2.2
def zdg (N : Nat) (a0 : List Bool) (a1 : List Bool) : Option Bool :=
 cond ((a0.length : Int) != (a1.length : Int)) (some false) ((zf (zdg.r0 N) N (a0, a1, 0)).bind fun z2 => zbc z2 (fun z => some z) (fun y1 => some true))
def zdg.k (N : Nat) : Kq := ⟨107, (cvv [Ty.bool] [(Ty.sl Ty.bool), (Ty.sl Ty.bool)] (zdg N)), go [] {} [(0, .rets { slots := [(0, .val (Ty.sl Ty.bool)), (1, .val (Ty.sl Ty.bool)), (5, .val T6)], boxes := [] } [(Ty.sl Ty.bool), (Ty.sl Ty.bool), T6] (zf (zdg.r0 N) N))] Proofs.Tryz.func107 (hL := ⟨⟨_, _, rfl, by kernel_rfl⟩, trivial⟩)⟩
def zh5 (N : Nat) (a0 : Storage) (a1 : Storage) : Option Bool :=
 (cond (a0.Bytes.toList == a1.Bytes.toList) ((zdg N a0.Tags a1.Tags).bind fun r1 => some r1) (some false)).bind fun g2 => some g2
def zh5.k (N : Nat) : Kq := ⟨61, (cvv [Ty.bool] [Ty.Storage, Ty.Storage] (zh5 N)), go [zdg.k N] {} [] Proofs.Tryz.func61⟩
def zco.b0 (N : Nat) (s0 : List Int) (s1 : Int) (s5 : Int) : Option (Round Int ((List Int) × Int × Int)) :=
 cond (decide (s5 < (s0.length : Int))) ((idx s0 s5).bind fun x1001 => cond (x1001 == s1) (some (.result s5)) (some (.again (s0, s1, (w6 (s5 + 1))))))
  (some (.leave (s0, s1, s5)))
def zco.r0 (N : Nat) (x : (List Int) × Int × Int) := zco.b0 N x.1 x.2.1 x.2.2
def zco (N : Nat) (a0 : List Int) (a1 : Int) : Option Int :=
 (zf (zco.r0 N) N (a0, a1, 0)).bind fun z2 => zbc z2 (fun z => some z) (fun y1 => some (-1))
def zco.k (N : Nat) : Kq := ⟨63, (cvv [T6] [(Ty.sl T6), T6] (zco N)), go [] {} [(0, .rets { slots := [(0, .val (Ty.sl T6)), (1, .val T6), (5, .val T6)], boxes := [] } [(Ty.sl T6), T6, T6] (zf (zco.r0 N) N))] Proofs.Tryz.func63 (hL := ⟨⟨_, _, rfl, by kernel_rfl⟩, trivial⟩)⟩
def zhn (a0 : Int) : Option Bool :=
 (cond (a0 == 6) (some true) (some (a0 == 7))).bind fun g1 => (cond g1 (some true) (some (a0 == 8))).bind fun g2 => (cond g2 (some true) (some (a0 == 18))).bind fun g3 => some g3
def zhn.k : Kq := ⟨64, (cvv [Ty.bool] [T6] zhn), go [] {} [] Proofs.Tryz.func64⟩
def zg.b0 (N : Nat) (s8 : Int) (s9 : List Int) (s10 : Int) (b2 : zD) (b3 : Translation) : Option (Round (Int × Int) (Int × (List Int) × Int × zD × Translation)) :=
 cond (decide (s10 ≤ s8)) ((cond (s10 == 0) ((idx s9 s10).bind fun x1001 => some (x1001 != 0)) (some false)).bind fun g1002 => (cond g1002 (some true) ((cond (decide (s10 > 0))
  ((idx s9 s10).bind fun x1003 => (idx s9 (w6 (s10 - 1))).bind fun x1004 => some (decide (x1003 ≤ x1004))) (some false)).bind fun g1005 =>
  some g1005)).bind fun g1006 => (cond g1006 (some true) ((idx s9 s10).bind fun x1007 => some (decide (x1007 ≥ (b3.Code.zA.length : Int))))).bind fun g1008 =>
  cond g1008 (some (.result (s10, 42))) ((idx s9 s10).bind fun x1009 => (idx b3.Code.zA x1009).bind fun x1010 => (cond (decide (s10 < s8)) (some (x1010.Op != 25))
  (some false)).bind fun g1011 => (cond g1011 (some true) ((cond (s10 == s8) ((cond (x1010.Op != 26) (some true) ((idx s9 s10).bind fun x1012 =>
  some (x1012 != (w6 ((b3.Code.zA.length : Int) - 1))))).bind fun g1013 => some g1013) (some false)).bind fun g1014 => some g1014)).bind fun g1015 =>
  cond g1015 (some (.result (s10, 42))) (some (.again (s8, s9, (w6 (s10 + 1)), b2, b3))))) (some (.leave (s8, s9, s10, b2, b3)))
def zg.r0 (N : Nat) (x : Int × (List Int) × Int × zD × Translation) := zg.b0 N x.1 x.2.1 x.2.2.1 x.2.2.2.1 x.2.2.2.2
end
end Go.Proofs.YtnpfkhdbmlhfhaaGreatDoor.M
