/- What the program's functions compute, each tied to its code: part 1. -/
import Derived.Test.YtnpfkhdbmlhfhaaGreatDoorF0
namespace Go.Proofs.YtnpfkhdbmlhfhaaGreatDoor.M
open Go Go.Amx
set_option linter.unusedVariables false
set_option maxRecDepth 100000
noncomputable section
def zac.r2 (N : Nat) (x : (List zO) × Int × Int × zJ × zU) := zac.b2 N x.1 x.2.1 x.2.2.1 x.2.2.2.1 x.2.2.2.2
def zac.b4 (N : Nat) (s87 : List zT) (s88 : Int) (s89 : Int) (b1 : zJ) (b2 : zU) : Option (Round (zU × Int) ((List zT) × Int × Int × zJ × zU)) :=
 cond (decide (s89 < s88)) ((idx s87 s89).bind fun x5001 => (zid b1 x5001).bind fun r5002 => cond (r5002 != 0) (some (.result ((⟨3, s89⟩ : zU), r5002)))
  (some (.again (s87, s88, (w6 (s89 + 1)), b1, b2)))) (some (.leave (s87, s88, s89, b1, b2)))
def zac.r4 (N : Nat) (x : (List zT) × Int × Int × zJ × zU) := zac.b4 N x.1 x.2.1 x.2.2.1 x.2.2.2.1 x.2.2.2.2
def zac (N : Nat) (a0 : zJ) : Option (zU × Int) :=
 (cond (decide ((a0.zS.length : Int) > 24)) (some true) (some (decide ((a0.zB.length : Int) > 40)))).bind fun g1 => (cond g1 (some true)
  (some (decide ((a0.yA.length : Int) > 6)))).bind fun g2 => (zb2 g2 2).bind fun r3 => (zb2 ((a0.zB.length : Int) == 0) 1).bind fun r4 =>
  (zcz N ([r3, r4] : List Int)).bind fun r5 => cond (r5 != 0) (some ((⟨0, 0⟩ : zU), r5))
  ((zg (zac.r0 N) N ((a0.zS.length : Int), 0, a0, (⟨0, 0⟩ : zU))).bind fun z7 => zat z7 (fun z => some z) (fun y6 =>
  (zaw N y6.2.2.1.zS).bind fun r8 => cond (decide (r8.2 > 24)) (some ((⟨0, 0⟩ : zU), 30))
  ((zg (zac.r2 N) N (y6.2.2.1.zB, (y6.2.2.1.zB.length : Int), 0, y6.2.2.1, y6.2.2.2)).bind fun z10 => zat z10 (fun z => some z) (fun y9 =>
  (zg (zac.r4 N) N (y9.2.2.2.1.yA, (y9.2.2.2.1.yA.length : Int), 0, y9.2.2.2.1, y9.2.2.2.2)).bind fun z12 => zat z12 (fun z => some z) (fun y11 =>
  some ((⟨0, 0⟩ : zU), 0))))))
def zac.k (N : Nat) : Kq := ⟨97, (cvv [Ty.zU, T6] [Ty.zJ] (zac N)), go [zaw.k N, zcz.k N, zb2.k, zic.k N, zcf.k N, zid.k] {lits := [33, 38, 39]} [(0, .rets { slots := [(1, .ptr 1 0), (2, .ptr 2 0), (47, .val T6), (48, .val T6)], boxes := [(1, Ty.zJ, []), (2, Ty.zU, [])] } [T6, T6, Ty.zJ, Ty.zU] (zg (zac.r0 N) N)), (2, .rets { slots := [(1, .ptr 1 0), (2, .ptr 2 0), (70, .val (Ty.sl Ty.zO)), (71, .val T6), (72, .val T6)], boxes := [(1, Ty.zJ, []), (2, Ty.zU, [])] } [(Ty.sl Ty.zO), T6, T6, Ty.zJ, Ty.zU] (zg (zac.r2 N) N)), (4, .rets { slots := [(1, .ptr 1 0), (2, .ptr 2 0), (87, .val (Ty.sl Ty.zT)), (88, .val T6), (89, .val T6)], boxes := [(1, Ty.zJ, []), (2, Ty.zU, [])] } [(Ty.sl Ty.zT), T6, T6, Ty.zJ, Ty.zU] (zg (zac.r4 N) N))] Proofs.Tryz.func97 (hL := ⟨⟨_, _, rfl, by kernel_rfl⟩, ⟨_, _, rfl, by kernel_rfl⟩, ⟨_, _, rfl, by kernel_rfl⟩, trivial⟩)⟩
def zg1 (N : Nat) (a0 : zJ) : Option Int :=
 (zac N a0).bind fun r1 => some r1.2
def zg1.k (N : Nat) : Kq := ⟨50, (cvv [T6] [Ty.zJ] (zg1 N)), go [zac.k N] {} [] Proofs.Tryz.func50⟩
def za3.b0 (N : Nat) (s5 : List Int) (s6 : Int) (s7 : Int) : Option (Round Int ((List Int) × Int × Int)) :=
 cond (decide (s7 < s6)) ((idx s5 s7).bind fun x1001 => cond (x1001 != 0) (some (.result x1001)) (some (.again (s5, s6, (w6 (s7 + 1)))))) (some (.leave (s5, s6, s7)))
def za3.r0 (N : Nat) (x : (List Int) × Int × Int) := za3.b0 N x.1 x.2.1 x.2.2
def za3 (N : Nat) (a0 : List Int) : Option Int :=
 (zg (za3.r0 N) N (a0, (a0.length : Int), 0)).bind fun z2 => zat z2 (fun z => some z) (fun y1 => some 0)
def za3.k (N : Nat) : Kq := ⟨49, (cvv [T6] [(Ty.sl T6)] (za3 N)), go [] {} [(0, .rets { slots := [(5, .val (Ty.sl T6)), (6, .val T6), (7, .val T6)], boxes := [] } [(Ty.sl T6), T6, T6] (zg (za3.r0 N) N))] Proofs.Tryz.func49 (hL := ⟨⟨_, _, rfl, by kernel_rfl⟩, trivial⟩)⟩
def zfo (N : Nat) (a0 : zJ) : Option Int :=
 (zac N a0).bind fun r1 => some r1.2
def zfo.k (N : Nat) : Kq := ⟨100, (cvv [T6] [Ty.zJ] (zfo N)), go [zac.k N] {} [] Proofs.Tryz.func100⟩
def zkn (N : Nat) (a0 : zJ) : Option ((List Int) × Int × Int) :=
 (zfo N a0).bind fun r1 => cond (r1 != 0) (some ([], 0, r1)) ((zaw N a0.zS).bind fun r2 => some (r2.1, r2.2, 0))
def zkn.k (N : Nat) : Kq := ⟨74, (cvv [(Ty.sl T6), T6, T6] [Ty.zJ] (zkn N)), go [zfo.k N, zaw.k N] {} [] Proofs.Tryz.func74⟩
def zvb : Ct U := { params := [.val Ty.str, .val T6], results := [Ty.str], outs := [], fresh := [], fn := app U [Ty.str, T6] (R := PT U [Ty.str]) (zva) }
theorem zvb.meets : zh5 (zpj [] [] [] [] [] [] [] []) 163 zvb :=
 zyz ⟨_, Proofs.Tryz.func163, rfl, by kernel_rfl⟩ (t := Ty.str) rfl rfl rfl rfl fun ds y hy E0 h0 ha μ H w us hA hm hG => by
  obtain ⟨s, n, rfl, hx⟩ := z8i hy; unfold zva at hx; split at hx
  · rename_i hn; cases hx; have hE : some ([.sc (.string s), .sc (.int .i64 n)], []) = some (E0, h0) := ha; cases hE; cases hA with
    | cons h1 h2 =>
     cases h2 with
     | cons h2 h3 =>
      cases h3; have hu := h1.int; have hu2 := h2.int; subst hu hu2; refine ⟨_, rfl, ?_⟩; have hc := Proofs.Tryz.strings_Repeat s n.toNat w (by omega) hn.2.2; have he : ((n.toNat : Nat) : Int) = n := by omega
      rw [he] at hc; exact hc.mono fun e w' hh => ⟨_, hh.1, zyn hh.2, .sc _⟩
  · cases hx
def zvb.k : Kq := ⟨163, zvb, zvb.meets⟩
def ziv (a0 : Int) : Option (Storage × Int) :=
 (zd0 a0 0 64).bind fun r1 => cond (!r1) (some ((⟨(⟨#[]⟩ : ByteArray), []⟩ : Storage), 3)) ((zva (⟨#[0]⟩ : ByteArray) (w6 (a0 * 16))).bind fun r2 =>
  if 0 ≤ a0 then (if a0 ≤ a0 then (cond (Nat.ble (a0.toNat * 1) zak) (some ((⟨r2, (List.replicate a0.toNat (false : Bool))⟩ : Storage), 0)) none) else none) else none)
def ziv.k : Kq := ⟨102, (cvv [Ty.Storage, T6] [T6] ziv), go [zd0.k, zvb.k] {} [] Proofs.Tryz.func102⟩
def zex.b0 (N : Nat) (s0 : Int) (s5 : List Int) (s6 : Int) : Option (Stp (Int × (List Int) × Int)) :=
 cond (decide (s6 ≥ 0)) (if 0 ≤ s6 then (if s6 < (s5.length : Int) then ((s5[s6.toNat]?).bind fun x1001 =>
  some (.again ((w6 (s0.tdiv 10)), (s5.set s6.toNat (IntKind.wrap .u8 (s0.tmod 10))), (w6 (s6 - 1))))) else none) else none)
  (some (.leave (s0, s5, s6)))
def zex.r0 (N : Nat) (x : Int × (List Int) × Int) := zex.b0 N x.1 x.2.1 x.2.2
def zex (N : Nat) (a0 : Int) (a1 : Int) : Option ((List Int)) :=
 if 0 ≤ a1 then (if a1 ≤ a1 then (cond (Nat.ble (a1.toNat * 1) zak)
  ((zh (zex.r0 N) N (a0, (List.replicate a1.toNat (0 : Int)), (w6 (a1 - 1)))).bind fun y1 => some y1.2.1) none) else none) else none
def zex.k (N : Nat) : Kq := ⟨218, (ctv [.val T6, .val T6] [(Ty.sl (Ty.int .u8))] [] [0] [T6, T6] (zex N)), go [] {} [(0, .plain { slots := [(0, .val T6), (5, .own 5000005 (Ty.int .u8)), (6, .val T6)], boxes := [] } [T6, (Ty.sl (Ty.int .u8)), T6] (zh (zex.r0 N) N))] Proofs.Tryz.func218 (hL := ⟨⟨_, _, rfl, by kernel_rfl⟩, trivial⟩)⟩
def zc9.b0 (N : Nat) (s0 : List Int) (s3 : List Int) (s4 : Int) : Option (Stp ((List Int) × (List Int) × Int)) :=
 cond (decide (s4 < (s0.length : Int))) ((idx s0 s4).bind fun x1001 => (idx s0 (w6 (s4 + 1))).bind fun x1002 =>
  cond (Nat.ble ((s3.length + ([(orI .u8 (IntKind.wrap .u8 (x1001 * 2 ^ (min (4 : Int).toNat 8))) x1002)] : List Int).length) * 1) zak)
  (some (.again (s0, (s3 ++ ([(orI .u8 (IntKind.wrap .u8 (x1001 * 2 ^ (min (4 : Int).toNat 8))) x1002)] : List Int)), (w6 (s4 + 2))))) none)
  (some (.leave (s0, s3, s4)))
def zc9.r0 (N : Nat) (x : (List Int) × (List Int) × Int) := zc9.b0 N x.1 x.2.1 x.2.2
def zc9 (N : Nat) (a0 : List Int) : Option ByteArray :=
 (zh (zc9.r0 N) N (a0, [], 0)).bind fun y1 => some (zjw y1.2.1)
def zc9.k (N : Nat) : Kq := ⟨219, (cvv [Ty.str] [(Ty.sl (Ty.int .u8))] (zc9 N)), go [] {lits := [23]} [(0, .plain { slots := [(0, .val (Ty.sl (Ty.int .u8))), (3, .own 5000003 (Ty.int .u8)), (4, .val T6)], boxes := [] } [(Ty.sl (Ty.int .u8)), (Ty.sl (Ty.int .u8)), T6] (zh (zc9.r0 N) N))] Proofs.Tryz.func219 (hL := ⟨⟨_, _, rfl, by kernel_rfl⟩, trivial⟩)⟩
def zca.b1 (N : Nat) (s5 : List Int) (s25 : Int) (s26 : Int) (b3 : Value) : Option (Stp ((List Int) × Int × Int × Value)) :=
 cond (decide (s26 < s25)) (if 0 ≤ s26 then (if s26 < (s5.length : Int) then ((s5[s26.toNat]?).bind fun x2001 =>
  if 0 ≤ s26 then (if s26 < (s5.length : Int) then ((s5[s26.toNat]?).bind fun x2002 =>
  some (.again ((s5.set s26.toNat (IntKind.wrap .u8 (x2001 + 240))), s25, (w6 (s26 + 1)), b3))) else none) else none) else none) else none)
  (some (.leave (s5, s25, s26, b3)))
def zca.r1 (N : Nat) (x : (List Int) × Int × Int × Value) := zca.b1 N x.1 x.2.1 x.2.2.1 x.2.2.2
def zca.b3 (N : Nat) (s8 : List Int) (s9 : Int) (s10 : Int) : Option (Stp ((List Int) × Int × Int)) :=
 cond (decide (s9 ≥ 0)) (if 0 ≤ s9 then (if s9 < (s8.length : Int) then ((s8[s9.toNat]?).bind fun x4001 =>
  some (.again ((s8.set s9.toNat (IntKind.wrap .u8 s10)), (w6 (s9 - 1)), (s10.fdiv (2 ^ (min (8 : Int).toNat 64)))))) else none) else none)
  (some (.leave (s8, s9, s10)))
def zca.r3 (N : Nat) (x : (List Int) × Int × Int) := zca.b3 N x.1 x.2.1 x.2.2
def zca (N : Nat) (a0 : DataType) (a1 : Value) : Option ByteArray :=
 (zex N (if (w6 (0 - a1.N)) > a1.N then (w6 (0 - a1.N)) else a1.N) a0.Length).bind fun r1 => cond (a0.Kind == 2)
  ((zh (zca.r1 N) N (r1, (r1.length : Int), 0, a1)).bind fun y2 => cond (decide (y2.2.2.2.N < 0))
  (if 0 ≤ (w6 ((y2.1.length : Int) - 1)) then (if (w6 ((y2.1.length : Int) - 1)) < (y2.1.length : Int) then ((y2.1[(w6 ((y2.1.length : Int) - 1)).toNat]?).bind fun x3 =>
  if 0 ≤ (w6 ((y2.1.length : Int) - 1)) then (if (w6 ((y2.1.length : Int) - 1)) < (y2.1.length : Int) then ((y2.1[(w6 ((y2.1.length : Int) - 1)).toNat]?).bind fun x4 =>
  some (zjw (y2.1.set ((w6 ((y2.1.length : Int) - 1)).toNat) (IntKind.wrap .u8 (x3 - 32))))) else none) else none) else none) else none) (some (zjw y2.1)))
  (cond (a0.Kind == 1) (cond (decide (a1.N < 0)) (cond (((r1.length : Int).tmod 2) == 0) (cond (Nat.ble ((([0] : List Int).length + r1.length) * 1) zak)
  (cond (Nat.ble (((([0] : List Int) ++ r1).length + ([13] : List Int).length) * 1) zak) ((zc9 N ((([0] : List Int) ++ r1) ++ ([13] : List Int))).bind fun r5 =>
  some r5) none) none) (cond (Nat.ble ((r1.length + ([13] : List Int).length) * 1) zak) ((zc9 N (r1 ++ ([13] : List Int))).bind fun r6 => some r6) none))
  (cond (((r1.length : Int).tmod 2) == 0) (cond (Nat.ble ((([0] : List Int).length + r1.length) * 1) zak)
  (cond (Nat.ble (((([0] : List Int) ++ r1).length + ([15] : List Int).length) * 1) zak) ((zc9 N ((([0] : List Int) ++ r1) ++ ([15] : List Int))).bind fun r7 =>
  some r7) none) none) (cond (Nat.ble ((r1.length + ([15] : List Int).length) * 1) zak) ((zc9 N (r1 ++ ([15] : List Int))).bind fun r8 => some r8) none)))
  (cond (a0.Kind == 3) ((zgs a0).bind fun r9 => if 0 ≤ r9 then (if r9 ≤ r9 then (cond (Nat.ble (r9.toNat * 1) zak)
  ((zh (zca.r3 N) N ((List.replicate r9.toNat (0 : Int)), (w6 (((List.replicate r9.toNat (0 : Int)).length : Int) - 1)), a1.N)).bind fun y10 =>
  some (zjw y10.1)) none) else none) else none) (some a1.S)))
def zca.k (N : Nat) : Kq := ⟨165, (cvv [Ty.str] [Ty.DataType, Ty.Value] (zca N)), go [zex.k N, zc9.k N, zgs.k] {lits := [16, 63, 64]} [(1, .plain { slots := [(3, .ptr 3 0), (5, .own 5000005 (Ty.int .u8)), (25, .val T6), (26, .val T6)], boxes := [(3, Ty.Value, [])] } [(Ty.sl (Ty.int .u8)), T6, T6, Ty.Value] (zh (zca.r1 N) N)), (3, .plain { slots := [(8, .own 5000008 (Ty.int .u8)), (9, .val T6), (10, .val T6)], boxes := [] } [(Ty.sl (Ty.int .u8)), T6, T6] (zh (zca.r3 N) N))] Proofs.Tryz.func165 (hL := ⟨⟨_, _, rfl, by kernel_rfl⟩, ⟨_, _, rfl, by kernel_rfl⟩, trivial⟩)⟩
def zkp (N : Nat) (a0 : DataType) (a1 : Value) : Option (ByteArray × Int) :=
 (zep N a0 a1).bind fun r1 => cond (r1 != 0) (some ((⟨#[]⟩ : ByteArray), r1)) ((zca N a0 a1).bind fun r2 => some (r2, 0))
def zkp.k (N : Nat) : Kq := ⟨103, (cvv [Ty.str, T6] [Ty.DataType, Ty.Value] (zkp N)), go [zep.k N, zca.k N] {} [] Proofs.Tryz.func103⟩
def zk6 (N : Nat) (a0 : Storage) (a1 : Int) (a2 : Int) : Option Int :=
 (zaj N a0).bind fun r1 => cond (r1.2 != 0) (some r1.2) ((cond (decide (a1 < 0)) (some true) (some (decide (a2 < 0)))).bind fun g2 => (cond g2 (some true)
  (some (decide (a1 > (a0.Bytes.size : Int))))).bind fun g3 => (cond g3 (some true) (some (decide (a2 > (w6 ((a0.Bytes.size : Int) - a1)))))).bind fun g4 =>
  cond g4 (some 3) (some 0))
def zk6.k (N : Nat) : Kq := ⟨166, (cvv [T6] [Ty.Storage, T6, T6] (zk6 N)), go [zaj.k N] {} [] Proofs.Tryz.func166⟩
def znl (a0 : Storage) (a1 : Int) (a2 : ByteArray) : Option Storage :=
 if 0 ≤ a1 ∧ a1 ≤ (a0.Bytes.size : Int) then (if 0 ≤ (0 : Int) ∧ (0 : Int) ≤ a1 then (if (((a0.Bytes.extract (0 : Int).toNat a1.toNat).size + a2.size : Nat) : Int) > IntKind.i64.max then none else if 0 ≤ (w6 (a1 + (a2.size : Int))) ∧ (w6 (a1 + (a2.size : Int))) ≤ (a0.Bytes.size : Int) then (if ((((a0.Bytes.extract (0 : Int).toNat a1.toNat) ++ a2).size + (a0.Bytes.extract (w6 (a1 + (a2.size : Int))).toNat a0.Bytes.size).size : Nat) : Int) > IntKind.i64.max then none else (zkx 1 a0.Tags).bind fun r1 =>
  cond (!(a2.toList == (⟨#[]⟩ : ByteArray).toList))
  (if 0 ≤ (w6 ((w6 ((w6 ((w6 (a1 + (a2.size : Int))) - 1)).tdiv 16)) + 1)) ∧ (w6 ((w6 ((w6 ((w6 (a1 + (a2.size : Int))) - 1)).tdiv 16)) + 1)) ≤ (r1.length : Int) then (if 0 ≤ (w6 (a1.tdiv 16)) ∧ (w6 (a1.tdiv 16)) ≤ (w6 ((w6 ((w6 ((w6 (a1 + (a2.size : Int))) - 1)).tdiv 16)) + 1)) then (some (⟨(((a0.Bytes.extract (0 : Int).toNat a1.toNat) ++ a2) ++ (a0.Bytes.extract (w6 (a1 + (a2.size : Int))).toNat a0.Bytes.size)), (r1.take ((w6 (a1.tdiv 16)).toNat) ++ List.replicate ((w6 ((w6 ((w6 ((w6 (a1 + (a2.size : Int))) - 1)).tdiv 16)) + 1)).toNat - (w6 (a1.tdiv 16)).toNat)
  (false : Bool) ++ r1.drop ((w6 (a1.tdiv 16)).toNat + ((w6 ((w6 ((w6 ((w6 (a1 + (a2.size : Int))) - 1)).tdiv 16)) + 1)).toNat - (w6 (a1.tdiv 16)).toNat)))⟩ : Storage)) else none) else none)
  (some (⟨(((a0.Bytes.extract (0 : Int).toNat a1.toNat) ++ a2) ++ (a0.Bytes.extract (w6 (a1 + (a2.size : Int))).toNat a0.Bytes.size)), r1⟩ : Storage))) else none) else none) else none
def znl.k : Kq := ⟨167, (ctv [.val Ty.Storage, .val T6, .val Ty.str] [Ty.Storage] [] [1] [Ty.Storage, T6, Ty.str] znl), go [x44.k] {} [] Proofs.Tryz.func167⟩
def ziu (N : Nat) (a0 : Storage) (a1 : Int) (a2 : ByteArray) : Option (Storage × Int) :=
 (zk6 N a0 a1 (a2.size : Int)).bind fun r1 => cond (r1 != 0) (some ((⟨(⟨#[]⟩ : ByteArray), []⟩ : Storage), r1)) ((znl a0 a1 a2).bind fun r2 => some (r2, 0))
def ziu.k (N : Nat) : Kq := ⟨104, (cvv [Ty.Storage, T6] [Ty.Storage, T6, Ty.str] (ziu N)), go [zk6.k N, znl.k] {lits := [12]} [] Proofs.Tryz.func104⟩
def zcg.b0 (N : Nat) (s5 : List Int) (s8 : Int) (s31 : List zH) (s32 : Int) (s33 : Int) (b2 : Storage) (b7 : Storage) : Option (Round (Storage × Int) ((List Int) × Int × (List zH) × Int × Int × Storage × Storage)) :=
 cond (decide (s33 < s32)) ((idx s31 s33).bind fun x1001 => (cond (x1001.Kind != 0) (some true) (some (s8 != 0))).bind fun g1002 =>
  cond g1002 (some (.again (s5, s8, s31, s32, (w6 (s33 + 1)), b2, b7))) ((zkp N x1001.zD x1001.Value).bind fun r1003 => cond (r1003.2 != 0)
  (some (.result ((⟨(⟨#[]⟩ : ByteArray), []⟩ : Storage), r1003.2))) ((idx s5 s33).bind fun x1004 => (ziu N b7 x1004 r1003.1).bind fun r1005 =>
  some (.again (s5, r1005.2, s31, s32, (w6 (s33 + 1)), b2, r1005.1))))) (some (.leave (s5, s8, s31, s32, s33, b2, b7)))
def zcg.r0 (N : Nat) (x : (List Int) × Int × (List zH) × Int × Int × Storage × Storage) := zcg.b0 N x.1 x.2.1 x.2.2.1 x.2.2.2.1 x.2.2.2.2.1 x.2.2.2.2.2.1 x.2.2.2.2.2.2
def zcg (N : Nat) (a0 : zJ) : Option (Storage × Int) :=
 (zfo N a0).bind fun r1 => cond (r1 != 0) (some ((⟨(⟨#[]⟩ : ByteArray), []⟩ : Storage), r1)) ((zaw N a0.zS).bind fun r2 =>
  (ziv r2.2).bind fun r3 =>
  (zg (zcg.r0 N) N (r2.1, r3.2, a0.zS, (a0.zS.length : Int), 0, (⟨(⟨#[]⟩ : ByteArray), []⟩ : Storage), r3.1)).bind fun z5 => zat z5 (fun z =>
  some z) (fun y4 => some (y4.2.2.2.2.2.2, y4.2.1)))
def zcg.k (N : Nat) : Kq := ⟨52, (cvv [Ty.Storage, T6] [Ty.zJ] (zcg N)), go [zfo.k N, zaw.k N, ziv.k, zkp.k N, ziu.k N] {} [(0, .rets { slots := [(2, .ptr 2 0), (5, .val (Ty.sl T6)), (7, .ptr 7 0), (8, .val T6), (31, .val (Ty.sl Ty.zH)), (32, .val T6), (33, .val T6)], boxes := [(2, Ty.Storage, [1]), (7, Ty.Storage, [])] } [(Ty.sl T6), T6, (Ty.sl Ty.zH), T6, T6, Ty.Storage, Ty.Storage] (zg (zcg.r0 N) N))] Proofs.Tryz.func52 (hL := ⟨⟨_, _, rfl, by kernel_rfl⟩, trivial⟩)⟩
def zb (a0 : zG) (a1 : zC) : Option zG :=
 cond (Nat.ble ((a0.code.length + ([a1] : List zC).length) * 224) zak)
  (some (⟨a0.zJ, a0.layout, (a0.code ++ ([a1] : List zC))⟩ : zG)) none
def zb.k : Kq := ⟨76, (ctv [.ptr Ty.zG true [4], .val Ty.zC] [] [Ty.zG] [] [Ty.zG, Ty.zC] zb), go [] {lits := [10], pk := [1000000]} [] Proofs.Tryz.func76⟩
def zdj (a0 : zH) : Option Bool :=
 some (a0.zD.Kind != 0)
def zdj.k : Kq := ⟨178, (cvv [Ty.bool] [Ty.zH] zdj), go [] {} [] Proofs.Tryz.func178⟩
def zbe (a0 : zH) : Option Bool :=
 some (a0.Kind == 4)
def zbe.k : Kq := ⟨179, (cvv [Ty.bool] [Ty.zH] zbe), go [] {} [] Proofs.Tryz.func179⟩
def zeh (a0 : zH) (a1 : zH) : Option Bool :=
 some (a0.Name.toList == a1.Base.toList)
def zeh.k : Kq := ⟨228, (ctv [.val Ty.zH, .ptr Ty.zH false []] [Ty.bool] [] [] [Ty.zH, Ty.zH] zeh), go [] {ro := [1000000], pk := [1000000]} [] Proofs.Tryz.func228⟩
def zap.b0 (N : Nat) (s0 : List zH) (s7 : Int) (s8 : Int) (b1000000 : zH) : Option (Round Int ((List zH) × Int × Int × zH)) :=
 cond (decide (s8 < s7)) ((idx s0 s8).bind fun x1001 => (zeh x1001 b1000000).bind fun r1002 => cond r1002 (some (.result s8))
  (some (.again (s0, s7, (w6 (s8 + 1)), b1000000)))) (some (.leave (s0, s7, s8, b1000000)))
def zap.r0 (N : Nat) (x : (List zH) × Int × Int × zH) := zap.b0 N x.1 x.2.1 x.2.2.1 x.2.2.2
def zap (N : Nat) (a0 : List zH) (a1 : zH) : Option Int :=
 (zg (zap.r0 N) N (a0, (a0.length : Int), 0, a1)).bind fun z2 => zat z2 (fun z => some z) (fun y1 => some (-1))
def zap.k (N : Nat) : Kq := ⟨207, (ctv [.val (Ty.sl Ty.zH), .clo 228 1, .ptr Ty.zH false []] [T6] [] [] [(Ty.sl Ty.zH), Ty.zH] (zap N)), go [zeh.k] {ro := [1000000], pk := [1000000]} [(0, .rets { slots := [(0, .val (Ty.sl Ty.zH)), (1, .fn 228 [1000000]), (7, .val T6), (8, .val T6)], boxes := [(1000000, Ty.zH, [])] } [(Ty.sl Ty.zH), T6, T6, Ty.zH] (zg (zap.r0 N) N))] Proofs.Tryz.func207 (hL := ⟨⟨_, _, rfl, by kernel_rfl⟩, trivial⟩)⟩
def zo (N : Nat) (a0 : zG) (a1 : Int) : Option zL :=
 (idx a0.zJ.zS a1).bind fun x1 => cond (x1.Kind != 2) ((idx a0.layout a1).bind fun x2 => some (⟨false, 0, x2⟩ : zL))
  ((zap N a0.zJ.zS x1).bind fun r3 => (idx a0.layout r3).bind fun x4 => some (⟨true, x4, x1.Offset⟩ : zL))
def zo.k (N : Nat) : Kq := ⟨180, (ctv [.ptr Ty.zG false [], .val T6] [Ty.zL] [] [] [Ty.zG, T6] (zo N)), go [zap.k N] {ro := [1000000], pk := [1000000]} [] Proofs.Tryz.func180⟩
def zae (N : Nat) (a0 : zG) (a1 : Int) (a2 : Int) : Option zG :=
 (idx a0.zJ.zS a2).bind fun x1 => (zbe x1).bind fun r2 =>
  cond r2 ((zb a0 (⟨2, a1, 0, 0, 0, (⟨false, 0, 0⟩ : zL), (⟨false, 0, 0⟩ : zL), (⟨0, 0, 0⟩ : DataType), (⟨0, 0, 0⟩ : DataType), false, false, (⟨x1.Value.N, x1.zD.Scale⟩ : Number), (⟨#[]⟩ : ByteArray), (⟨#[]⟩ : ByteArray), 0, 0, 0, 0⟩ : zC)).bind fun r3 =>
  some r3) ((zo N a0 a2).bind fun r4 =>
  (zb a0 (⟨0, a1, 0, 0, 0, r4, (⟨false, 0, 0⟩ : zL), x1.zD, (⟨0, 0, 0⟩ : DataType), false, false, (⟨0, 0⟩ : Number), (⟨#[]⟩ : ByteArray), (⟨#[]⟩ : ByteArray), 0, 0, 0, 0⟩ : zC)).bind fun r5 =>
  some r5)
def zae.k (N : Nat) : Kq := ⟨125, (ctv [.ptr Ty.zG true [4], .val T6, .val T6] [] [Ty.zG] [] [Ty.zG, T6, T6] (zae N)), go [zb.k, zbe.k, zo.k N] {lits := [32], pk := [1000000]} [] Proofs.Tryz.func125⟩
def zb9 (N : Nat) (a0 : zG) (a1 : Int) (a2 : Bool) : Option zG :=
 (zo N a0 a1).bind fun r1 => (idx a0.zJ.zS a1).bind fun x2 =>
  (zb a0 (⟨1, 0, 0, 0, 0, r1, (⟨false, 0, 0⟩ : zL), x2.zD, (⟨0, 0, 0⟩ : DataType), a2, false, (⟨0, 0⟩ : Number), (⟨#[]⟩ : ByteArray), (⟨#[]⟩ : ByteArray), 0, 0, 0, 0⟩ : zC)).bind fun r3 =>
  some r3
def zb9.k (N : Nat) : Kq := ⟨126, (ctv [.ptr Ty.zG true [4], .val T6, .val Ty.bool] [] [Ty.zG] [] [Ty.zG, T6, Ty.bool] (zb9 N)), go [zb.k, zo.k N] {lits := [9], pk := [1000000]} [] Proofs.Tryz.func126⟩
def zfr (N : Nat) (a0 : zG) (a1 : zO) : Option zG :=
 (idx a1.Args 0).bind fun x1 => (idx a1.Args 1).bind fun x2 => (idx a0.zJ.zS x1).bind fun x3 => (idx a0.zJ.zS x2).bind fun x4 =>
  (zdj x3).bind fun r5 => cond r5 ((zae N a0 0 x2).bind fun r6 => (zb9 N r6 x1 (a1.Op == 1)).bind fun r7 => some r7)
  ((zbe x4).bind fun r8 => cond r8 ((zo N a0 x1).bind fun r9 =>
  (zb a0 (⟨10, 0, 0, 0, 0, r9, (⟨false, 0, 0⟩ : zL), x3.zD, (⟨0, 0, 0⟩ : DataType), false, false, (⟨0, 0⟩ : Number), x4.Value.S, (⟨#[]⟩ : ByteArray), 0, 0, 0, 0⟩ : zC)).bind fun r10 =>
  some r10) ((zo N a0 x1).bind fun r11 => (zo N a0 x2).bind fun r12 =>
  (zb a0 (⟨9, 0, 0, 0, 0, r11, r12, x3.zD, x4.zD, false, false, (⟨0, 0⟩ : Number), (⟨#[]⟩ : ByteArray), (⟨#[]⟩ : ByteArray), 0, 0, 0, 0⟩ : zC)).bind fun r13 =>
  some r13))
def zfr.k (N : Nat) : Kq := ⟨121, (ctv [.ptr Ty.zG true [4], .val Ty.zO] [] [Ty.zG] [] [Ty.zG, Ty.zO] (zfr N)), go [zb.k, zae.k N, zb9.k N, zdj.k, zbe.k, zo.k N] {lits := [35, 40, 63], pk := [1000000]} [] Proofs.Tryz.func121⟩
def zea (N : Nat) (a0 : zG) (a1 : zO) : Option zG :=
 (idx a1.Args 1).bind fun x1 => (zae N a0 0 x1).bind fun r2 => (idx a1.Args 2).bind fun x3 => (zae N r2 1 x3).bind fun r4 =>
  (idx a1.Args 0).bind fun x5 => (idx r4.zJ.zS x5).bind fun x6 =>
  (zb r4 (⟨4, 0, 0, 1, (w6 ((w6 (a1.Op - 2)) + 0)), (⟨false, 0, 0⟩ : zL), (⟨false, 0, 0⟩ : zL), x6.zD, (⟨0, 0, 0⟩ : DataType), false, false, (⟨0, 0⟩ : Number), (⟨#[]⟩ : ByteArray), (⟨#[]⟩ : ByteArray), 0, 0, 0, 0⟩ : zC)).bind fun r7 =>
  (idx a1.Args 0).bind fun x8 => (zb9 N r7 x8 false).bind fun r9 => some r9
def zea.k (N : Nat) : Kq := ⟨122, (ctv [.ptr Ty.zG true [4], .val Ty.zO] [] [Ty.zG] [] [Ty.zG, Ty.zO] (zea N)), go [zb.k, zae.k N, zb9.k N] {pk := [1000000]} [] Proofs.Tryz.func122⟩
def zfg (N : Nat) (a0 : zG) (a1 : Int) (a2 : Int) : Option (Bool × zG) :=
 (idx a0.zJ.zS a1).bind fun x1 => (idx a0.zJ.zS a2).bind fun x2 => (zbe x1).bind fun r3 =>
  (cond r3 ((zbe x2).bind fun r4 => some r4) (some false)).bind fun g5 =>
  cond g5 ((zb a0 (⟨13, 0, 0, 0, 0, (⟨false, 0, 0⟩ : zL), (⟨false, 0, 0⟩ : zL), (⟨0, 0, 0⟩ : DataType), (⟨0, 0, 0⟩ : DataType), false, false, (⟨0, 0⟩ : Number), x1.Value.S, x2.Value.S, 0, 0, 0, 0⟩ : zC)).bind fun r6 =>
  some (false, r6)) ((zbe x2).bind fun r7 => cond r7 ((zo N a0 a1).bind fun r8 =>
  (zb a0 (⟨12, 0, 0, 0, 0, r8, (⟨false, 0, 0⟩ : zL), x1.zD, (⟨0, 0, 0⟩ : DataType), false, false, (⟨0, 0⟩ : Number), x2.Value.S, (⟨#[]⟩ : ByteArray), 0, 0, 0, 0⟩ : zC)).bind fun r9 =>
  some (false, r9)) ((zbe x1).bind fun r10 => cond r10 ((zo N a0 a2).bind fun r11 =>
  (zb a0 (⟨12, 0, 0, 0, 0, r11, (⟨false, 0, 0⟩ : zL), x2.zD, (⟨0, 0, 0⟩ : DataType), false, false, (⟨0, 0⟩ : Number), x1.Value.S, (⟨#[]⟩ : ByteArray), 0, 0, 0, 0⟩ : zC)).bind fun r12 =>
  some (true, r12)) ((zo N a0 a1).bind fun r13 => (zo N a0 a2).bind fun r14 =>
  (zb a0 (⟨11, 0, 0, 0, 0, r13, r14, x1.zD, x2.zD, false, false, (⟨0, 0⟩ : Number), (⟨#[]⟩ : ByteArray), (⟨#[]⟩ : ByteArray), 0, 0, 0, 0⟩ : zC)).bind fun r15 =>
  some (false, r15))))
def zfg.k (N : Nat) : Kq := ⟨181, (ctv [.ptr Ty.zG true [4], .val T6, .val T6] [Ty.bool] [Ty.zG] [] [Ty.zG, T6, T6] (zfg N)), go [zb.k, zbe.k, zo.k N] {lits := [28, 33, 60, 74], pk := [1000000]} [] Proofs.Tryz.func181⟩
def ze4 (N : Nat) (a0 : zG) (a1 : zO) : Option zG :=
 (idx a1.Args 0).bind fun x1 => (idx a0.zJ.zS x1).bind fun x2 => (zdj x2).bind fun r3 => cond r3 ((idx a1.Args 0).bind fun x4 =>
  (zae N a0 0 x4).bind fun r5 => (idx a1.Args 1).bind fun x6 => (zae N r5 1 x6).bind fun r7 =>
  (zb r7 (⟨5, 0, 0, 1, 0, (⟨false, 0, 0⟩ : zL), (⟨false, 0, 0⟩ : zL), (⟨0, 0, 0⟩ : DataType), (⟨0, 0, 0⟩ : DataType), false, false, (⟨0, 0⟩ : Number), (⟨#[]⟩ : ByteArray), (⟨#[]⟩ : ByteArray), 0, 0, 0, 0⟩ : zC)).bind fun r8 =>
  (cond (a1.Op == 8) (some false) (some false)).bind fun g9 => cond g9 ((idx a1.Args 2).bind fun x10 => (idx r8.zJ.zS x10).bind fun x11 =>
  (zb r8 (⟨6, 0, 0, 0, 0, (⟨false, 0, 0⟩ : zL), (⟨false, 0, 0⟩ : zL), (⟨0, 0, 0⟩ : DataType), (⟨0, 0, 0⟩ : DataType), false, false, (⟨0, 0⟩ : Number), (⟨#[]⟩ : ByteArray), (⟨#[]⟩ : ByteArray), 4, x11.Target, 0, 0⟩ : zC)).bind fun r12 =>
  some r12) (cond (a1.Op == 8) ((idx a1.Args 2).bind fun x13 => (idx r8.zJ.zS x13).bind fun x14 =>
  (zb r8 (⟨6, 0, 0, 0, 0, (⟨false, 0, 0⟩ : zL), (⟨false, 0, 0⟩ : zL), (⟨0, 0, 0⟩ : DataType), (⟨0, 0, 0⟩ : DataType), false, false, (⟨0, 0⟩ : Number), (⟨#[]⟩ : ByteArray), (⟨#[]⟩ : ByteArray), 1, x14.Target, 0, 0⟩ : zC)).bind fun r15 =>
  some r15) ((idx a1.Args 2).bind fun x16 => (idx r8.zJ.zS x16).bind fun x17 =>
  (zb r8 (⟨6, 0, 0, 0, 0, (⟨false, 0, 0⟩ : zL), (⟨false, 0, 0⟩ : zL), (⟨0, 0, 0⟩ : DataType), (⟨0, 0, 0⟩ : DataType), false, false, (⟨0, 0⟩ : Number), (⟨#[]⟩ : ByteArray), (⟨#[]⟩ : ByteArray), 2, x17.Target, 0, 0⟩ : zC)).bind fun r18 =>
  some r18))) ((idx a1.Args 0).bind fun x19 => (idx a1.Args 1).bind fun x20 => (zfg N a0 x19 x20).bind fun r21 => (cond (a1.Op == 8) (some r21.1)
  (some false)).bind fun g22 => cond g22 ((idx a1.Args 2).bind fun x23 => (idx r21.2.zJ.zS x23).bind fun x24 =>
  (zb r21.2 (⟨6, 0, 0, 0, 0, (⟨false, 0, 0⟩ : zL), (⟨false, 0, 0⟩ : zL), (⟨0, 0, 0⟩ : DataType), (⟨0, 0, 0⟩ : DataType), false, false, (⟨0, 0⟩ : Number), (⟨#[]⟩ : ByteArray), (⟨#[]⟩ : ByteArray), 4, x24.Target, 0, 0⟩ : zC)).bind fun r25 =>
  some r25) (cond (a1.Op == 8) ((idx a1.Args 2).bind fun x26 => (idx r21.2.zJ.zS x26).bind fun x27 =>
  (zb r21.2 (⟨6, 0, 0, 0, 0, (⟨false, 0, 0⟩ : zL), (⟨false, 0, 0⟩ : zL), (⟨0, 0, 0⟩ : DataType), (⟨0, 0, 0⟩ : DataType), false, false, (⟨0, 0⟩ : Number), (⟨#[]⟩ : ByteArray), (⟨#[]⟩ : ByteArray), 1, x27.Target, 0, 0⟩ : zC)).bind fun r28 =>
  some r28) ((idx a1.Args 2).bind fun x29 => (idx r21.2.zJ.zS x29).bind fun x30 =>
  (zb r21.2 (⟨6, 0, 0, 0, 0, (⟨false, 0, 0⟩ : zL), (⟨false, 0, 0⟩ : zL), (⟨0, 0, 0⟩ : DataType), (⟨0, 0, 0⟩ : DataType), false, false, (⟨0, 0⟩ : Number), (⟨#[]⟩ : ByteArray), (⟨#[]⟩ : ByteArray), 2, x30.Target, 0, 0⟩ : zC)).bind fun r31 =>
  some r31)))
def ze4.k (N : Nat) : Kq := ⟨123, (ctv [.ptr Ty.zG true [4], .val Ty.zO] [] [Ty.zG] [] [Ty.zG, Ty.zO] (ze4 N)), go [zb.k, zae.k N, zdj.k, zfg.k N] {pk := [1000000]} [] Proofs.Tryz.func123⟩
def zeg (N : Nat) (a0 : zG) (a1 : zO) : Option zG :=
 (idx a1.Args 0).bind fun x1 => (idx a0.layout x1).bind fun x2 => cond (a1.Op == 10) ((idx a1.Args 1).bind fun x3 => (zo N a0 x3).bind fun r4 =>
  (idx a1.Args 1).bind fun x5 => (idx a0.zJ.zS x5).bind fun x6 =>
  (zb a0 (⟨14, 0, 0, 0, 0, r4, (⟨false, 0, 0⟩ : zL), x6.zD, (⟨0, 0, 0⟩ : DataType), false, false, (⟨0, 0⟩ : Number), (⟨#[]⟩ : ByteArray), (⟨#[]⟩ : ByteArray), 0, 0, x2, 0⟩ : zC)).bind fun r7 =>
  some r7) (cond (a1.Op == 11) ((idx a1.Args 1).bind fun x8 => (idx a0.layout x8).bind fun x9 =>
  (zb a0 (⟨15, 0, 0, 0, 0, (⟨false, 0, 0⟩ : zL), (⟨false, 0, 0⟩ : zL), (⟨0, 0, 0⟩ : DataType), (⟨0, 0, 0⟩ : DataType), false, false, (⟨0, 0⟩ : Number), (⟨#[]⟩ : ByteArray), (⟨#[]⟩ : ByteArray), 0, 0, x2, x9⟩ : zC)).bind fun r10 =>
  some r10) (cond (a1.Op == 12)
  ((zb a0 (⟨17, 0, 0, 0, 0, (⟨false, 0, 0⟩ : zL), (⟨false, 0, 0⟩ : zL), (⟨0, 0, 0⟩ : DataType), (⟨0, 0, 0⟩ : DataType), false, false, (⟨0, 0⟩ : Number), (⟨#[]⟩ : ByteArray), (⟨#[]⟩ : ByteArray), 0, 0, x2, 0⟩ : zC)).bind fun r11 =>
  (idx a1.Args 1).bind fun x12 => (zae N r11 0 x12).bind fun r13 =>
  (zb r13 (⟨16, 0, 0, 0, 0, (⟨false, 0, 0⟩ : zL), (⟨false, 0, 0⟩ : zL), (⟨0, 0, 0⟩ : DataType), (⟨0, 0, 0⟩ : DataType), false, false, (⟨0, 0⟩ : Number), (⟨#[]⟩ : ByteArray), (⟨#[]⟩ : ByteArray), 0, 0, x2, 0⟩ : zC)).bind fun r14 =>
  some r14) (some a0)))
def zeg.k (N : Nat) : Kq := ⟨124, (ctv [.ptr Ty.zG true [4], .val Ty.zO] [] [Ty.zG] [] [Ty.zG, Ty.zO] (zeg N)), go [zb.k, zae.k N, zo.k N] {lits := [26], pk := [1000000]} [] Proofs.Tryz.func124⟩
def zfh (N : Nat) (a0 : zG) (a1 : Int) : Option zG :=
 (idx a0.zJ.zS a1).bind fun x1 => (zdj x1).bind fun r2 => cond r2 ((zae N a0 0 a1).bind fun r3 =>
  (zb r3 (⟨22, 0, 0, 0, 0, (⟨false, 0, 0⟩ : zL), (⟨false, 0, 0⟩ : zL), (⟨0, 0, 0⟩ : DataType), (⟨0, 0, 0⟩ : DataType), false, false, (⟨0, 0⟩ : Number), (⟨#[]⟩ : ByteArray), (⟨#[]⟩ : ByteArray), 0, 0, 0, 0⟩ : zC)).bind fun r4 =>
  some r4) ((zbe x1).bind fun r5 =>
  cond r5 ((zb a0 (⟨24, 0, 0, 0, 0, (⟨false, 0, 0⟩ : zL), (⟨false, 0, 0⟩ : zL), (⟨0, 0, 0⟩ : DataType), (⟨0, 0, 0⟩ : DataType), false, false, (⟨0, 0⟩ : Number), x1.Value.S, (⟨#[]⟩ : ByteArray), 0, 0, 0, 0⟩ : zC)).bind fun r6 =>
  some r6) ((zo N a0 a1).bind fun r7 =>
  (zb a0 (⟨23, 0, 0, 0, 0, r7, (⟨false, 0, 0⟩ : zL), x1.zD, (⟨0, 0, 0⟩ : DataType), false, false, (⟨0, 0⟩ : Number), (⟨#[]⟩ : ByteArray), (⟨#[]⟩ : ByteArray), 0, 0, 0, 0⟩ : zC)).bind fun r8 =>
  some r8))
def zfh.k (N : Nat) : Kq := ⟨127, (ctv [.ptr Ty.zG true [4], .val T6] [] [Ty.zG] [] [Ty.zG, T6] (zfh N)), go [zb.k, zae.k N, zdj.k, zbe.k, zo.k N] {lits := [16], pk := [1000000]} [] Proofs.Tryz.func127⟩
def zdx (N : Nat) (a0 : zG) (a1 : zO) : Option zG :=
 (zb a0 (⟨25, 0, 0, 0, 0, (⟨false, 0, 0⟩ : zL), (⟨false, 0, 0⟩ : zL), (⟨0, 0, 0⟩ : DataType), (⟨0, 0, 0⟩ : DataType), false, false, (⟨0, 0⟩ : Number), (⟨#[]⟩ : ByteArray), (⟨#[]⟩ : ByteArray), 0, 0, 0, 0⟩ : zC)).bind fun r1 =>
  (cond (a1.Op == 0) (some (a1.Op == 0)) (some (a1.Op == 1))).bind fun q2 => cond q2 ((zfr N r1 a1).bind fun r3 => some r3) ((cond (a1.Op == 2)
  (some (a1.Op == 2)) (cond (a1.Op == 3) (some (a1.Op == 3)) (cond (a1.Op == 4) (some (a1.Op == 4)) (cond (a1.Op == 5) (some (a1.Op == 5)) (some (a1.Op == 6)))))).bind fun q4 =>
  cond q4 ((zea N r1 a1).bind fun r5 => some r5) ((cond (a1.Op == 7) (some (a1.Op == 7)) (some (a1.Op == 8))).bind fun q6 =>
  cond q6 ((ze4 N r1 a1).bind fun r7 => some r7) (cond (a1.Op == 9) ((idx a1.Args 0).bind fun x8 => (idx r1.zJ.zS x8).bind fun x9 =>
  (zb r1 (⟨8, 0, 0, 0, 0, (⟨false, 0, 0⟩ : zL), (⟨false, 0, 0⟩ : zL), (⟨0, 0, 0⟩ : DataType), (⟨0, 0, 0⟩ : DataType), false, false, (⟨0, 0⟩ : Number), (⟨#[]⟩ : ByteArray), (⟨#[]⟩ : ByteArray), 0, x9.Target, 0, 0⟩ : zC)).bind fun r10 =>
  some r10) (cond (a1.Op == 13) ((idx a1.Args 0).bind fun x11 => (idx r1.zJ.zS x11).bind fun x12 =>
  (zb r1 (⟨18, 0, 0, 0, 0, (⟨false, 0, 0⟩ : zL), (⟨false, 0, 0⟩ : zL), (⟨0, 0, 0⟩ : DataType), (⟨0, 0, 0⟩ : DataType), false, false, (⟨0, 0⟩ : Number), (⟨#[]⟩ : ByteArray), (⟨#[]⟩ : ByteArray), 0, x12.Target, 0, 0⟩ : zC)).bind fun r13 =>
  some r13) ((cond (a1.Op == 10) (some (a1.Op == 10)) (cond (a1.Op == 11) (some (a1.Op == 11)) (some (a1.Op == 12)))).bind fun q14 =>
  cond q14 ((zeg N r1 a1).bind fun r15 => some r15) (cond (a1.Op == 14)
  ((zb r1 (⟨19, 0, 0, 0, 0, (⟨false, 0, 0⟩ : zL), (⟨false, 0, 0⟩ : zL), (⟨0, 0, 0⟩ : DataType), (⟨0, 0, 0⟩ : DataType), false, false, (⟨0, 0⟩ : Number), (⟨#[]⟩ : ByteArray), (⟨#[]⟩ : ByteArray), 0, 0, 0, 0⟩ : zC)).bind fun r16 =>
  some r16) (cond (a1.Op == 15) ((idx a1.Args 0).bind fun x17 => (zae N r1 0 x17).bind fun r18 =>
  (zb r18 (⟨20, 0, 0, 0, 0, (⟨false, 0, 0⟩ : zL), (⟨false, 0, 0⟩ : zL), (⟨0, 0, 0⟩ : DataType), (⟨0, 0, 0⟩ : DataType), false, false, (⟨0, 0⟩ : Number), (⟨#[]⟩ : ByteArray), (⟨#[]⟩ : ByteArray), 0, 0, 0, 0⟩ : zC)).bind fun r19 =>
  some r19) (cond (a1.Op == 16)
  ((zb r1 (⟨21, 0, 0, 0, 0, (⟨false, 0, 0⟩ : zL), (⟨false, 0, 0⟩ : zL), (⟨0, 0, 0⟩ : DataType), (⟨0, 0, 0⟩ : DataType), false, false, (⟨0, 0⟩ : Number), (⟨#[]⟩ : ByteArray), (⟨#[]⟩ : ByteArray), 0, 0, 0, 0⟩ : zC)).bind fun r20 =>
  (idx a1.Args 0).bind fun x21 => (zb9 N r20 x21 false).bind fun r22 => some r22) (cond (a1.Op == 17) ((idx a1.Args 0).bind fun x23 =>
  (zfh N r1 x23).bind fun r24 => some r24) (cond (a1.Op == 18)
  ((zb r1 (⟨26, 0, 0, 0, 0, (⟨false, 0, 0⟩ : zL), (⟨false, 0, 0⟩ : zL), (⟨0, 0, 0⟩ : DataType), (⟨0, 0, 0⟩ : DataType), false, false, (⟨0, 0⟩ : Number), (⟨#[]⟩ : ByteArray), (⟨#[]⟩ : ByteArray), 0, 0, 0, 0⟩ : zC)).bind fun r25 =>
  some r25) (some r1)))))))))))
def zdx.k (N : Nat) : Kq := ⟨75, (ctv [.ptr Ty.zG true [4], .val Ty.zO] [] [Ty.zG] [] [Ty.zG, Ty.zO] (zdx N)), go [zb.k, zfr.k N, zea.k N, ze4.k N, zeg.k N, zae.k N, zb9.k N, zfh.k N] {pk := [1000000], bj := [9, 15, 24, 64]} [] Proofs.Tryz.func75⟩
def zdm.b0 (N : Nat) (s1 : List Int) (s5 : List zQ) (s8 : List zT) (s9 : Int) (s10 : Int) : Option (Stp ((List Int) × (List zQ) × (List zT) × Int × Int)) :=
 cond (decide (s10 < s9)) ((idx s8 s10).bind fun x1001 => (idx s1 x1001.From).bind fun x1002 => (idx s1 x1001.To).bind fun x1003 => (idx s1 x1001.Handler).bind fun x1004 =>
  cond (Nat.ble ((s5.length + ([(⟨x1002, x1003, x1001.Exception, x1004⟩ : zQ)] : List zQ).length) * 32) zak)
  (some (.again (s1, (s5 ++ ([(⟨x1002, x1003, x1001.Exception, x1004⟩ : zQ)] : List zQ)), s8, s9, (w6 (s10 + 1))))) none) (some (.leave (s1, s5, s8, s9, s10)))
def zdm.r0 (N : Nat) (x : (List Int) × (List zQ) × (List zT) × Int × Int) := zdm.b0 N x.1 x.2.1 x.2.2.1 x.2.2.2.1 x.2.2.2.2
def zdm (N : Nat) (a0 : List zT) (a1 : List Int) : Option ((List zQ)) :=
 (zh (zdm.r0 N) N (a1, [], a0, (a0.length : Int), 0)).bind fun y1 => some y1.2.1
def zdm.k (N : Nat) : Kq := ⟨58, (cvv [(Ty.sl Ty.zQ)] [(Ty.sl Ty.zT), (Ty.sl T6)] (zdm N)), go [] {lits := [33]} [(0, .plain { slots := [(1, .val (Ty.sl T6)), (5, .own 5000005 Ty.zQ), (8, .val (Ty.sl Ty.zT)), (9, .val T6), (10, .val T6)], boxes := [] } [(Ty.sl T6), (Ty.sl Ty.zQ), (Ty.sl Ty.zT), T6, T6] (zh (zdm.r0 N) N))] Proofs.Tryz.func58 (hL := ⟨⟨_, _, rfl, by kernel_rfl⟩, trivial⟩)⟩
def zbc.b0 (N : Nat) (s13 : List Int) (s55 : List zO) (s56 : Int) (s57 : Int) (b2 : zJ) (b4 : zF) (b5 : zX) (b11 : Storage) (b53 : zG) : Option (Stp ((List Int) × (List zO) × Int × Int × zJ × zF × zX × Storage × zG)) :=
 cond (decide (s57 < s56)) ((idx s55 s57).bind fun x1001 => cond (Nat.ble ((s13.length + ([(b53.code.length : Int)] : List Int).length) * 8) zak)
  ((zdx N b53 x1001).bind fun r1002 =>
  some (.again ((s13 ++ ([(b53.code.length : Int)] : List Int)), s55, s56, (w6 (s57 + 1)), b2, b4, b5, b11, r1002))) none)
  (some (.leave (s13, s55, s56, s57, b2, b4, b5, b11, b53)))
def zbc.r0 (N : Nat) (x : (List Int) × (List zO) × Int × Int × zJ × zF × zX × Storage × zG) := zbc.b0 N x.1 x.2.1 x.2.2.1 x.2.2.2.1 x.2.2.2.2.1 x.2.2.2.2.2.1 x.2.2.2.2.2.2.1 x.2.2.2.2.2.2.2.1 x.2.2.2.2.2.2.2.2
def zbc.b2 (N : Nat) (s13 : List Int) (s88 : Int) (s89 : Int) (b2 : zJ) (b4 : zF) (b5 : zX) (b11 : Storage) (b53 : zG) : Option (Stp ((List Int) × Int × Int × zJ × zF × zX × Storage × zG)) :=
 cond (decide (s89 < s88)) (if 0 ≤ s89 then (if s89 < (b53.code.length : Int) then ((b53.code[s89.toNat]?).bind fun x3001 => (zcy x3001.Op).bind fun r3002 =>
  cond r3002 (if 0 ≤ x3001.Target then (if x3001.Target < (s13.length : Int) then ((s13[x3001.Target.toNat]?).bind fun x3003 =>
  if 0 ≤ s89 then (if s89 < (b53.code.length : Int) then ((b53.code[s89.toNat]?).bind fun x3004 =>
  some (.again (s13, s88, (w6 (s89 + 1)), b2, b4, b5, b11, (⟨b53.zJ, b53.layout, (b53.code.set s89.toNat (⟨x3004.Op, x3004.R, x3004.A, x3004.B, x3004.zM, x3004.Place, x3004.From, x3004.zD, x3004.Second, x3004.Half, x3004.zK, x3004.Number, x3004.Text, x3004.Other, x3004.Mask, x3003, x3004.Pointer, x3004.Source⟩ : zC))⟩ : zG)))) else none) else none) else none) else none)
  (some (.again (s13, s88, (w6 (s89 + 1)), b2, b4, b5, b11, b53)))) else none) else none) (some (.leave (s13, s88, s89, b2, b4, b5, b11, b53)))
def zbc.r2 (N : Nat) (x : (List Int) × Int × Int × zJ × zF × zX × Storage × zG) := zbc.b2 N x.1 x.2.1 x.2.2.1 x.2.2.2.1 x.2.2.2.2.1 x.2.2.2.2.2.1 x.2.2.2.2.2.2.1 x.2.2.2.2.2.2.2
def zbc (N : Nat) (a0 : zJ) (a1 : zI) : Option (zF × zX × Int) :=
 (zg1 N a0).bind fun r1 => (zdk a1).bind fun r2 => (za3 N ([r1, r2] : List Int)).bind fun r3 => cond (r3 != 0)
  (some ((⟨(⟨(⟨#[]⟩ : ByteArray), []⟩ : Storage), [], []⟩ : zF), (⟨[]⟩ : zX), r3)) ((zkn N a0).bind fun r4 => cond (r4.2.2 != 0)
  (some ((⟨(⟨(⟨#[]⟩ : ByteArray), []⟩ : Storage), [], []⟩ : zF), (⟨[]⟩ : zX), r4.2.2)) ((zcg N a0).bind fun r5 => cond (r5.2 != 0)
  (some ((⟨(⟨(⟨#[]⟩ : ByteArray), []⟩ : Storage), [], []⟩ : zF), (⟨[]⟩ : zX), r5.2))
  ((zh (zbc.r0 N) N ([], a0.zB, (a0.zB.length : Int), 0, a0, (⟨(⟨(⟨#[]⟩ : ByteArray), []⟩ : Storage), [], []⟩ : zF), (⟨[]⟩ : zX), r5.1, (⟨a0, r4.1, []⟩ : zG))).bind fun y6 =>
  cond (Nat.ble ((y6.1.length + ([(y6.2.2.2.2.2.2.2.2.code.length : Int)] : List Int).length) * 8) zak)
  ((zb y6.2.2.2.2.2.2.2.2 (⟨26, 0, 0, 0, 0, (⟨false, 0, 0⟩ : zL), (⟨false, 0, 0⟩ : zL), (⟨0, 0, 0⟩ : DataType), (⟨0, 0, 0⟩ : DataType), false, false, (⟨0, 0⟩ : Number), (⟨#[]⟩ : ByteArray), (⟨#[]⟩ : ByteArray), 0, 0, 0, 0⟩ : zC)).bind fun r7 =>
  (zh (zbc.r2 N) N ((y6.1 ++ ([(y6.2.2.2.2.2.2.2.2.code.length : Int)] : List Int)), (r7.code.length : Int), 0, y6.2.2.2.2.1, y6.2.2.2.2.2.1, y6.2.2.2.2.2.2.1, y6.2.2.2.2.2.2.2.1, r7)).bind fun y8 =>
  (zdm N y8.2.2.2.1.yA y8.1).bind fun r9 => some ((⟨y8.2.2.2.2.2.2.1, y8.2.2.2.2.2.2.2.code, r9⟩ : zF), (⟨y8.1⟩ : zX), 0)) none)))
def zbc.k (N : Nat) : Kq := ⟨27, (cvv [Ty.zF, Ty.zX, T6] [Ty.zJ, Ty.zI] (zbc N)), go [za3.k N, zg1.k N, zdk.k, zcg.k N, zcy.k, zdm.k N, zkn.k N, zdx.k N, zb.k] {pre := [(26, [13])], lits := [19, 21, 22, 66, 67, 78, 79]} [(0, .plain { slots := [(2, .ptr 2 0), (4, .ptr 4 0), (5, .ptr 5 0), (11, .ptr 11 0), (12, .ptr 53 0), (13, .own 5000013 T6), (55, .val (Ty.sl Ty.zO)), (56, .val T6), (57, .val T6)], boxes := [(2, Ty.zJ, []), (4, Ty.zF, [1, 2, 3]), (5, Ty.zX, [0]), (11, Ty.Storage, []), (53, Ty.zG, [4])] } [(Ty.sl T6), (Ty.sl Ty.zO), T6, T6, Ty.zJ, Ty.zF, Ty.zX, Ty.Storage, Ty.zG] (zh (zbc.r0 N) N)), (2, .plain { slots := [(2, .ptr 2 0), (4, .ptr 4 0), (5, .ptr 5 0), (11, .ptr 11 0), (12, .ptr 53 0), (13, .own 5000013 T6), (87, .ofbox 12 53 4), (88, .val T6), (89, .val T6)], boxes := [(2, Ty.zJ, []), (4, Ty.zF, [1, 2, 3]), (5, Ty.zX, [0]), (11, Ty.Storage, []), (53, Ty.zG, [4])] } [(Ty.sl T6), T6, T6, Ty.zJ, Ty.zF, Ty.zX, Ty.Storage, Ty.zG] (zh (zbc.r2 N) N))] Proofs.Tryz.func27 (hL := ⟨⟨_, _, rfl, by kernel_rfl⟩, ⟨_, _, rfl, by kernel_rfl⟩, trivial⟩)⟩
def zk0 (N : Nat)  : Option Bool :=
 (zmz N).bind fun r1 => (zbl N (⟨2, false, false⟩ : zI) r1).bind fun r2 => (zm0).bind fun r3 =>
  (zbc N r3 (⟨2, false, false⟩ : zI)).bind fun r4 => (cond (r2.2.2 == 0) (some ((r2.1.zB.length : Int) == 3)) (some false)).bind fun g5 =>
  (cond g5 ((idx r2.1.zB 1).bind fun x6 =>
  some (zbx [(x6.Op == 3), (x6.R == 1), (x6.A == 0), (x6.B == 0), (x6.zM == 0), (x6.Place.Based == false), (x6.Place.Pointer == 0), (x6.Place.Offset == 0), (x6.From.Based == false), (x6.From.Pointer == 0), (x6.From.Offset == 0), (x6.zD.Kind == 0), (x6.zD.Length == 0), (x6.zD.Scale == 0), (x6.Second.Kind == 0), (x6.Second.Length == 0), (x6.Second.Scale == 0), (x6.Half == false), (x6.zK == false), (x6.Number.N == 0), (x6.Number.Scale == 0), (x6.Text == (⟨#[]⟩ : ByteArray)), (x6.Other == (⟨#[]⟩ : ByteArray)), (x6.Mask == 0), (x6.Target == 0), (x6.Pointer == 0), (x6.Source == 0)]))
  (some false)).bind fun g7 => (cond g7 (some (r4.2.2 == 0)) (some false)).bind fun g8 => (cond g8 (some ((r4.2.1.Starts.length : Int) == 4)) (some false)).bind fun g9 => some g9
def zk0.k (N : Nat) : Kq := ⟨7, (cvv [Ty.bool] [] (zk0 N)), go [zbl.k N, zmz.k N, zbc.k N, zm0.k] {lits := [9, 15]} [] Proofs.Tryz.func7⟩
def zge (a0 : Storage) : Option Bool :=
 (cond (decide ((a0.Bytes.size : Int) ≤ 1072)) (some (decide ((a0.Tags.length : Int) ≤ 67))) (some false)).bind fun g1 => some g1
def zge.k : Kq := ⟨29, (cvv [Ty.bool] [Ty.Storage] zge), go [] {} [] Proofs.Tryz.func29⟩
def zdv.b0 (N : Nat) (s3 : Int) (b1 : zF) : Option (Round Bool (Int × zF)) :=
 (cond (decide (s3 < (b1.zB.length : Int))) (some (decide (s3 < 244))) (some false)).bind fun g1001 => cond g1001 ((idx b1.zB s3).bind fun x1002 =>
  (cond (decide ((x1002.Text.size : Int) > 300)) (some true) ((idx b1.zB s3).bind fun x1003 => some (decide ((x1003.Other.size : Int) > 300)))).bind fun g1004 =>
  cond g1004 (some (.result false)) (some (.again ((w6 (s3 + 1)), b1)))) (some (.leave (s3, b1)))
def zdv.r0 (N : Nat) (x : Int × zF) := zdv.b0 N x.1 x.2
def zdv (N : Nat) (a0 : zF) : Option Bool :=
 (zg (zdv.r0 N) N (0, a0)).bind fun z2 => zat z2 (fun z => some z) (fun y1 => (zge y1.2.Storage).bind fun r3 =>
  (cond r3 (some (decide ((y1.2.zB.length : Int) < 244))) (some false)).bind fun g4 => (cond g4 (some (decide ((y1.2.zP.length : Int) < 44)))
  (some false)).bind fun g5 => some g5)
def zdv.k (N : Nat) : Kq := ⟨8, (cvv [Ty.bool] [Ty.zF] (zdv N)), go [zge.k] {} [(0, .rets { slots := [(1, .ptr 1 0), (3, .val T6)], boxes := [(1, Ty.zF, [])] } [T6, Ty.zF] (zg (zdv.r0 N) N))] Proofs.Tryz.func8 (hL := ⟨⟨_, _, rfl, by kernel_rfl⟩, trivial⟩)⟩
def zb6.b0 (N : Nat) (s0 : List (List zA)) (s3 : Int) : Option (Round Bool ((List (List zA)) × Int)) :=
 (cond (decide (s3 < (s0.length : Int))) (some (decide (s3 ≤ 250))) (some false)).bind fun g1001 => cond g1001 ((idx s0 s3).bind fun x1002 =>
  cond (decide ((x1002.length : Int) > 64)) (some (.result false)) (some (.again (s0, (w6 (s3 + 1)))))) (some (.leave (s0, s3)))
def zb6.r0 (N : Nat) (x : (List (List zA)) × Int) := zb6.b0 N x.1 x.2
def zb6 (N : Nat) (a0 : List (List zA)) : Option Bool :=
 (zg (zb6.r0 N) N (a0, 0)).bind fun z2 => zat z2 (fun z => some z) (fun y1 => some (decide ((y1.1.length : Int) ≤ 250)))
def zb6.k (N : Nat) : Kq := ⟨65, (cvv [Ty.bool] [(Ty.sl (Ty.sl Ty.zA))] (zb6 N)), go [] {} [(0, .rets { slots := [(0, .val (Ty.sl (Ty.sl Ty.zA))), (3, .val T6)], boxes := [] } [(Ty.sl (Ty.sl Ty.zA)), T6] (zg (zb6.r0 N) N))] Proofs.Tryz.func65 (hL := ⟨⟨_, _, rfl, by kernel_rfl⟩, trivial⟩)⟩
def zef (N : Nat) (a0 : Optimization) : Option Bool :=
 (zdv N a0.Before).bind fun r1 => (cond r1 ((zdv N a0.After).bind fun r2 => some r2) (some false)).bind fun g3 =>
  (cond g3 ((zb6 N a0.Proof.Facts).bind fun r4 => some r4) (some false)).bind fun g5 => (cond g5 (some (decide ((a0.Proof.Index.length : Int) ≤ 250)))
  (some false)).bind fun g6 => some g6
def zef.k (N : Nat) : Kq := ⟨22, (cvv [Ty.bool] [Ty.Optimization] (zef N)), go [zdv.k N, zb6.k N] {} [] Proofs.Tryz.func22⟩
def zi4 (a0 : List Bool) : Option ((List Bool)) :=
 cond (Nat.ble (a0.length * 1) zak) (some a0) none
def zi4.k : Kq := ⟨84, (ctv [.val (Ty.sl Ty.bool)] [(Ty.sl Ty.bool)] [] [0] [(Ty.sl Ty.bool)] zi4), go [] {} [] Proofs.Tryz.func84⟩
def zii (a0 : Storage) : Option Storage :=
 (zi4 a0.Tags).bind fun r1 => some (⟨a0.Bytes, r1⟩ : Storage)
def zii.k : Kq := ⟨34, (ctv [.val Ty.Storage] [Ty.Storage] [] [1] [Ty.Storage] zii), go [zi4.k] {} [] Proofs.Tryz.func34⟩
def zgy (a0 : zF) : Option zF :=
 (zii a0.Storage).bind fun r1 => cond (Nat.ble (a0.zB.length * 224) zak) (cond (Nat.ble (a0.zP.length * 32) zak)
  (some (⟨r1, a0.zB, a0.zP⟩ : zF)) none) none
def zgy.k : Kq := ⟨10, (cvv [Ty.zF] [Ty.zF] zgy), go [zii.k] {} [] Proofs.Tryz.func10⟩
def zb5.b0 (N : Nat) (s0 : List (List zA)) (s3 : List (List zA)) (s4 : Int) : Option (Stp ((List (List zA)) × (List (List zA)) × Int)) :=
 cond (decide (s4 < (s0.length : Int))) ((idx s0 s4).bind fun x1001 => cond (Nat.ble (x1001.length * 40) zak)
  (cond (Nat.ble ((s3.length + ([x1001] : List (List zA)).length) * 24) zak)
  (some (.again (s0, (s3 ++ ([x1001] : List (List zA))), (w6 (s4 + 1))))) none) none) (some (.leave (s0, s3, s4)))
def zb5.r0 (N : Nat) (x : (List (List zA)) × (List (List zA)) × Int) := zb5.b0 N x.1 x.2.1 x.2.2
def zb5 (N : Nat) (a0 : List (List zA)) : Option ((List (List zA))) :=
 (zh (zb5.r0 N) N (a0, [], 0)).bind fun y1 => some y1.2.1
def zb5.k (N : Nat) : Kq := ⟨117, (cvv [(Ty.sl (Ty.sl Ty.zA))] [(Ty.sl (Ty.sl Ty.zA))] (zb5 N)), go [] {lits := [16, 17]} [(0, .plain { slots := [(0, .val (Ty.sl (Ty.sl Ty.zA))), (3, .own 5000003 (Ty.sl Ty.zA)), (4, .val T6)], boxes := [] } [(Ty.sl (Ty.sl Ty.zA)), (Ty.sl (Ty.sl Ty.zA)), T6] (zh (zb5.r0 N) N))] Proofs.Tryz.func117 (hL := ⟨⟨_, _, rfl, by kernel_rfl⟩, trivial⟩)⟩
def zjn (a0 : List Int) : Option ((List Int)) :=
 cond (Nat.ble (a0.length * 8) zak) (some a0) none
def zjn.k : Kq := ⟨59, (ctv [.val (Ty.sl T6)] [(Ty.sl T6)] [] [0] [(Ty.sl T6)] zjn), go [] {} [] Proofs.Tryz.func59⟩
def zi1 (N : Nat) (a0 : zV) : Option zV :=
 (zb5 N a0.Facts).bind fun r1 => (zjn a0.Index).bind fun r2 => some (⟨r1, r2⟩ : zV)
def zi1.k (N : Nat) : Kq := ⟨68, (cvv [Ty.zV] [Ty.zV] (zi1 N)), go [zjn.k, zb5.k N] {} [] Proofs.Tryz.func68⟩
def zee (N : Nat) (a0 : Optimization) : Option Optimization :=
 (zgy a0.Before).bind fun r1 => (zgy a0.After).bind fun r2 => (zi1 N a0.Proof).bind fun r3 => some (⟨a0.Model, r1, r2, r3⟩ : Optimization)
def zee.k (N : Nat) : Kq := ⟨24, (cvv [Ty.Optimization] [Ty.Optimization] (zee N)), go [zgy.k, zi1.k N] {} [] Proofs.Tryz.func24⟩
def zdp (a0 : Bool) (a1 : Int) : Option Int :=
 cond a0 (some a1) (some 0)
def zdp.k : Kq := ⟨111, (cvv [T6] [Ty.bool, T6] zdp), go [] {} [] Proofs.Tryz.func111⟩
def zhq (a0 : Int) (a1 : Int) (a2 : Int) : Option Bool :=
 (cond (decide (a1 ≤ a0)) (some (decide (a0 ≤ a2))) (some false)).bind fun g1 => some g1
def zhq.k : Kq := ⟨174, (cvv [Ty.bool] [T6, T6, T6] zhq), go [] {} [] Proofs.Tryz.func174⟩
def za7.b0 (N : Nat) (s12 : List zA) (s13 : Int) (s14 : Int) (b3 : zI) (b4 : zF) : Option (Round Int ((List zA) × Int × Int × zI × zF)) :=
 cond (decide (s14 < s13)) ((idx s12 s14).bind fun x1001 => (zhq x1001.Register 0 (w6 (b3.Registers - 1))).bind fun r1002 => cond (!r1002)
  (some (.result 3)) ((zbp N x1001.zD).bind fun r1003 => (cond (r1003 != 0) (some true) (some (x1001.zD.Kind == 0))).bind fun g1004 => (cond g1004 (some true)
  (some (x1001.zD.Kind == 4))).bind fun g1005 => cond g1005 (some (.result 17)) ((cond (x1001.Offset != (-1)) ((zd6 N x1001.zD).bind fun r1006 =>
  (zhq x1001.Offset 0 (w6 ((b4.Storage.Bytes.size : Int) - r1006))).bind fun r1007 => some (!r1007)) (some false)).bind fun g1008 =>
  cond g1008 (some (.result 3)) (some (.again (s12, s13, (w6 (s14 + 1)), b3, b4)))))) (some (.leave (s12, s13, s14, b3, b4)))
def za7.r0 (N : Nat) (x : (List zA) × Int × Int × zI × zF) := za7.b0 N x.1 x.2.1 x.2.2.1 x.2.2.2.1 x.2.2.2.2
def za7 (N : Nat) (a0 : zI) (a1 : zF) (a2 : List zA) : Option Int :=
 cond (decide ((a2.length : Int) > 60)) (some 2) ((zg (za7.r0 N) N (a2, (a2.length : Int), 0, a0, a1)).bind fun z2 => zat z2 (fun z => some z) (fun y1 => some 0))
def za7.k (N : Nat) : Kq := ⟨112, (cvv [T6] [Ty.zI, Ty.zF, (Ty.sl Ty.zA)] (za7 N)), go [zhq.k, zbp.k N, zd6.k N] {} [(0, .rets { slots := [(3, .ptr 3 0), (4, .ptr 4 0), (12, .val (Ty.sl Ty.zA)), (13, .val T6), (14, .val T6)], boxes := [(3, Ty.zI, []), (4, Ty.zF, [])] } [(Ty.sl Ty.zA), T6, T6, Ty.zI, Ty.zF] (zg (za7.r0 N) N))] Proofs.Tryz.func112 (hL := ⟨⟨_, _, rfl, by kernel_rfl⟩, trivial⟩)⟩
def ze1 (N : Nat) (a0 : zA) (a1 : List zA) : Option Bool :=
 (zav N a1 a0).bind fun r1 => some (!r1)
def ze1.k (N : Nat) : Kq := ⟨114, (ctv [.val Ty.zA, .ptr (Ty.sl Ty.zA) false []] [Ty.bool] [] [] [Ty.zA, (Ty.sl Ty.zA)] (ze1 N)), go [zav.k N] {ro := [1000000], pk := [1000000]} [] Proofs.Tryz.func114⟩
def zt.b0 (N : Nat) (s0 : List zA) (s7 : Int) (s8 : Int) (b1000000 : List zA) : Option (Round Int ((List zA) × Int × Int × (List zA))) :=
 cond (decide (s8 < s7)) ((idx s0 s8).bind fun x1001 => (ze1 N x1001 b1000000).bind fun r1002 => cond r1002 (some (.result s8))
  (some (.again (s0, s7, (w6 (s8 + 1)), b1000000)))) (some (.leave (s0, s7, s8, b1000000)))
def zt.r0 (N : Nat) (x : (List zA) × Int × Int × (List zA)) := zt.b0 N x.1 x.2.1 x.2.2.1 x.2.2.2
def zt (N : Nat) (a0 : List zA) (a1 : List zA) : Option Int :=
 (zg (zt.r0 N) N (a0, (a0.length : Int), 0, a1)).bind fun z2 => zat z2 (fun z => some z) (fun y1 => some (-1))
def zt.k (N : Nat) : Kq := ⟨177, (ctv [.val (Ty.sl Ty.zA), .clo 114 1, .ptr (Ty.sl Ty.zA) false []] [T6] [] [] [(Ty.sl Ty.zA), (Ty.sl Ty.zA)] (zt N)), go [ze1.k N] {ro := [1000000], pk := [1000000]} [(0, .rets { slots := [(0, .val (Ty.sl Ty.zA)), (1, .fn 114 [1000000]), (7, .val T6), (8, .val T6)], boxes := [(1000000, (Ty.sl Ty.zA), [])] } [(Ty.sl Ty.zA), T6, T6, (Ty.sl Ty.zA)] (zg (zt.r0 N) N))] Proofs.Tryz.func177 (hL := ⟨⟨_, _, rfl, by kernel_rfl⟩, trivial⟩)⟩
def zb0 (N : Nat) (a0 : List zA) (a1 : List zA) : Option Bool :=
 (zt N a0 a1).bind fun r1 => some (decide (r1 ≥ 0))
def zb0.k (N : Nat) : Kq := ⟨113, (ctv [.val (Ty.sl Ty.zA), .clo 114 1, .ptr (Ty.sl Ty.zA) false []] [Ty.bool] [] [] [(Ty.sl Ty.zA), (Ty.sl Ty.zA)] (zb0 N)), go [zt.k N] {ro := [1000000], pk := [1000000]} [] Proofs.Tryz.func113⟩
def zf.b0 (N : Nat) (s2 : List (List zA)) (s34 : Int) (s35 : Int) (b3 : zI) (b4 : zF) : Option (Round (Int × Int) ((List (List zA)) × Int × Int × zI × zF)) :=
 cond (decide (s35 < s34)) ((idx s2 s35).bind fun x1001 => (za7 N b3 b4 x1001).bind fun r1002 => cond (r1002 != 0) (some (.result (s35, r1002)))
  (some (.again (s2, s34, (w6 (s35 + 1)), b3, b4)))) (some (.leave (s2, s34, s35, b3, b4)))
def zf.r0 (N : Nat) (x : (List (List zA)) × Int × Int × zI × zF) := zf.b0 N x.1 x.2.1 x.2.2.1 x.2.2.2.1 x.2.2.2.2
def zf.b4 (N : Nat) (s2 : List (List zA)) (s11 : List Bool) (s12 : List Bool) (s56 : Int) (s57 : Int) (s93 : List Int) (s94 : Int) (s95 : Int) (b4 : zF) (b14 : List zA) : Option (Stp ((List (List zA)) × (List Bool) × (List Bool) × Int × Int × (List Int) × Int × Int × zF × (List zA))) :=
 cond (decide (s95 < s94)) ((idx s93 s95).bind fun x5001 => if 0 ≤ x5001 then (if x5001 < (s12.length : Int) then ((s12[x5001.toNat]?).bind fun x5002 => (cond x5002 (some true)
  ((idx s2 x5001).bind fun x5003 => (zb0 N x5003 b14).bind fun r5004 => some r5004)).bind fun g5005 =>
  if 0 ≤ x5001 then (if x5001 < (s12.length : Int) then ((s12[x5001.toNat]?).bind fun x5006 =>
  some (.again (s2, s11, (s12.set x5001.toNat g5005), s56, s57, s93, s94, (w6 (s95 + 1)), b4, b14))) else none) else none) else none) else none)
  (some (.leave (s2, s11, s12, s56, s57, s93, s94, s95, b4, b14)))
def zf.r4 (N : Nat) (x : (List (List zA)) × (List Bool) × (List Bool) × Int × Int × (List Int) × Int × Int × zF × (List zA)) := zf.b4 N x.1 x.2.1 x.2.2.1 x.2.2.2.1 x.2.2.2.2.1 x.2.2.2.2.2.1 x.2.2.2.2.2.2.1 x.2.2.2.2.2.2.2.1 x.2.2.2.2.2.2.2.2.1 x.2.2.2.2.2.2.2.2.2
def zf.b2 (N : Nat) (s2 : List (List zA)) (s11 : List Bool) (s12 : List Bool) (s56 : Int) (s57 : Int) (b4 : zF) : Option (Stp ((List (List zA)) × (List Bool) × (List Bool) × Int × Int × zF)) :=
 cond (decide (s57 < s56)) (if 0 ≤ s57 then (if s57 < (s12.length : Int) then ((s12[s57.toNat]?).bind fun x3001 => (cond x3001 (some true) ((idx s11 s57).bind fun x3002 =>
  (cond x3002 ((idx s2 s57).bind fun x3003 => some (decide ((x3003.length : Int) > 0))) (some false)).bind fun g3004 => some g3004)).bind fun g3005 =>
  if 0 ≤ s57 then (if s57 < (s12.length : Int) then ((s12[s57.toNat]?).bind fun x3006 => (idx b4.zB s57).bind fun x3007 => (idx s2 s57).bind fun x3008 =>
  (zek N x3007 x3008).bind fun r3009 => (zce b4 s57).bind fun r3010 =>
  (zh (zf.r4 N) N (s2, s11, (s12.set s57.toNat g3005), s56, s57, r3010, (r3010.length : Int), 0, b4, r3009)).bind fun y3011 =>
  some (.again (y3011.1, y3011.2.1, y3011.2.2.1, y3011.2.2.2.1, (w6 (y3011.2.2.2.2.1 + 1)), y3011.2.2.2.2.2.2.2.2.1))) else none) else none) else none) else none)
  (some (.leave (s2, s11, s12, s56, s57, b4)))
def zf.r2 (N : Nat) (x : (List (List zA)) × (List Bool) × (List Bool) × Int × Int × zF) := zf.b2 N x.1 x.2.1 x.2.2.1 x.2.2.2.1 x.2.2.2.2.1 x.2.2.2.2.2
def zf (N : Nat) (a0 : zI) (a1 : zF) (a2 : List (List zA)) : Option (Int × Int) :=
 (zcp N a0 a1).bind fun r1 => (zdp ((a2.length : Int) != (a1.zB.length : Int)) 6).bind fun r2 =>
  (za3 N ([r1, r2] : List Int)).bind fun r3 => cond (r3 != 0) (some (0, r3)) ((zg (zf.r0 N) N (a2, (a2.length : Int), 0, a0, a1)).bind fun z5 =>
  zat z5 (fun z => some z) (fun y4 => (zu N y4.2.2.2.2).bind fun r6 =>
  if 0 ≤ (y4.1.length : Int) then (if (y4.1.length : Int) ≤ (y4.1.length : Int) then (cond (Nat.ble ((y4.1.length : Int).toNat * 1) zak)
  ((zh (zf.r2 N) N (y4.1, r6, (List.replicate (y4.1.length : Int).toNat (false : Bool)), (y4.1.length : Int), 0, y4.2.2.2.2)).bind fun y7 =>
  (zaf N y7.2.2.1 true).bind fun r8 => cond (decide (r8 ≥ 0)) (some (r8, 42)) (some ((y7.1.length : Int), 0))) none) else none) else none))
def zf.k (N : Nat) : Kq := ⟨66, (cvv [T6, T6] [Ty.zI, Ty.zF, (Ty.sl (Ty.sl Ty.zA))] (zf N)), go [zcp.k N, za3.k N, zu.k N, zek.k N, zce.k, zdp.k, za7.k N, zb0.k N, zaf.k N] {lits := [20, 27, 28]} [(0, .rets { slots := [(2, .val (Ty.sl (Ty.sl Ty.zA))), (3, .ptr 3 0), (4, .ptr 4 0), (34, .val T6), (35, .val T6)], boxes := [(3, Ty.zI, []), (4, Ty.zF, [])] } [(Ty.sl (Ty.sl Ty.zA)), T6, T6, Ty.zI, Ty.zF] (zg (zf.r0 N) N)), (4, .plain { slots := [(2, .val (Ty.sl (Ty.sl Ty.zA))), (4, .ptr 4 0), (11, .val (Ty.sl Ty.bool)), (12, .own 5000012 Ty.bool), (14, .ptr 14 0), (56, .val T6), (57, .val T6), (93, .val (Ty.sl T6)), (94, .val T6), (95, .val T6)], boxes := [(4, Ty.zF, []), (14, (Ty.sl Ty.zA), [])] } [(Ty.sl (Ty.sl Ty.zA)), (Ty.sl Ty.bool), (Ty.sl Ty.bool), T6, T6, (Ty.sl T6), T6, T6, Ty.zF, (Ty.sl Ty.zA)] (zh (zf.r4 N) N)), (2, .plain { slots := [(2, .val (Ty.sl (Ty.sl Ty.zA))), (4, .ptr 4 0), (11, .val (Ty.sl Ty.bool)), (12, .own 5000012 Ty.bool), (56, .val T6), (57, .val T6)], boxes := [(4, Ty.zF, [])] } [(Ty.sl (Ty.sl Ty.zA)), (Ty.sl Ty.bool), (Ty.sl Ty.bool), T6, T6, Ty.zF] (zh (zf.r2 N) N))] Proofs.Tryz.func66 (hL := ⟨⟨_, _, rfl, by kernel_rfl⟩, ⟨_, _, rfl, by kernel_rfl⟩, ⟨_, _, rfl, by kernel_rfl⟩, trivial⟩)⟩
def za8.b0 (N : Nat) (s0 : List Bool) (s1 : List Bool) (s12 : Int) (s13 : Int) : Option (Round Bool ((List Bool) × (List Bool) × Int × Int)) :=
 cond (decide (s13 < s12)) ((idx s0 s13).bind fun x1001 => (idx s1 s13).bind fun x1002 => cond (!(x1001 == x1002)) (some (.result false))
  (some (.again (s0, s1, s12, (w6 (s13 + 1)))))) (some (.leave (s0, s1, s12, s13)))
def za8.r0 (N : Nat) (x : (List Bool) × (List Bool) × Int × Int) := za8.b0 N x.1 x.2.1 x.2.2.1 x.2.2.2
def za8 (N : Nat) (a0 : List Bool) (a1 : List Bool) : Option Bool :=
 cond ((a0.length : Int) != (a1.length : Int)) (some false) ((zg (za8.r0 N) N (a0, a1, (a0.length : Int), 0)).bind fun z2 => zat z2 (fun z => some z) (fun y1 =>
  some true))
def za8.k (N : Nat) : Kq := ⟨53, (cvv [Ty.bool] [(Ty.sl Ty.bool), (Ty.sl Ty.bool)] (za8 N)), go [] {} [(0, .rets { slots := [(0, .val (Ty.sl Ty.bool)), (1, .val (Ty.sl Ty.bool)), (12, .val T6), (13, .val T6)], boxes := [] } [(Ty.sl Ty.bool), (Ty.sl Ty.bool), T6, T6] (zg (za8.r0 N) N))] Proofs.Tryz.func53 (hL := ⟨⟨_, _, rfl, by kernel_rfl⟩, trivial⟩)⟩
def zhp (N : Nat) (a0 : List zA) (a1 : zC) (a2 : zC) (a3 : List Int) : Option Bool :=
 (zej a1 a3).bind fun r1 =>
  cond (zbx [(a2.Op == r1.Op), (a2.R == r1.R), (a2.A == r1.A), (a2.B == r1.B), (a2.zM == r1.zM), (a2.Place.Based == r1.Place.Based), (a2.Place.Pointer == r1.Place.Pointer), (a2.Place.Offset == r1.Place.Offset), (a2.From.Based == r1.From.Based), (a2.From.Pointer == r1.From.Pointer), (a2.From.Offset == r1.From.Offset), (a2.zD.Kind == r1.zD.Kind), (a2.zD.Length == r1.zD.Length), (a2.zD.Scale == r1.zD.Scale), (a2.Second.Kind == r1.Second.Kind), (a2.Second.Length == r1.Second.Length), (a2.Second.Scale == r1.Second.Scale), (a2.Half == r1.Half), (a2.zK == r1.zK), (a2.Number.N == r1.Number.N), (a2.Number.Scale == r1.Number.Scale), (a2.Text == r1.Text), (a2.Other == r1.Other), (a2.Mask == r1.Mask), (a2.Target == r1.Target), (a2.Pointer == r1.Pointer), (a2.Source == r1.Source)])
  (some true) ((zbj a1).bind fun r2 =>
  (cond r2 (some (zbx [(a2.Op == 3), (a2.R == a1.R), (a2.A == a2.A), (a2.B == 0), (a2.zM == 0), (a2.Place.Based == false), (a2.Place.Pointer == 0), (a2.Place.Offset == 0), (a2.From.Based == false), (a2.From.Pointer == 0), (a2.From.Offset == 0), (a2.zD.Kind == 0), (a2.zD.Length == 0), (a2.zD.Scale == 0), (a2.Second.Kind == 0), (a2.Second.Length == 0), (a2.Second.Scale == 0), (a2.Half == false), (a2.zK == false), (a2.Number.N == 0), (a2.Number.Scale == 0), (a2.Text == (⟨#[]⟩ : ByteArray)), (a2.Other == (⟨#[]⟩ : ByteArray)), (a2.Mask == 0), (a2.Target == 0), (a2.Pointer == 0), (a2.Source == 0)]))
  (some false)).bind fun g3 => (cond g3 ((zcj N a0 a1 a2.A).bind fun r4 => some r4) (some false)).bind fun g5 => some g5)
def zhp.k (N : Nat) : Kq := ⟨116, (cvv [Ty.bool] [(Ty.sl Ty.zA), Ty.zC, Ty.zC, (Ty.sl T6)] (zhp N)), go [zbj.k, zcj.k N, zej.k] {} [] Proofs.Tryz.func116⟩
def zfx (N : Nat) (a0 : Optimization) (a1 : Int) (a2 : List Int) : Option Int :=
 (idx a0.Before.zB a1).bind fun x1 => (idx a0.Proof.Index a1).bind fun x2 => (idx a0.Proof.Facts a1).bind fun x3 => (idx a2 a1).bind fun x4 => (cond (x2 == x4)
  (some (decide (x2 < (a0.After.zB.length : Int)))) (some false)).bind fun g5 => cond (x2 == (-1))
  ((cond (!(a1 == (w6 ((a0.Before.zB.length : Int) - 1)))) ((zbj x1).bind fun r6 => some r6) (some false)).bind fun g7 =>
  (cond g7 ((zcj N x3 x1 x1.R).bind fun r8 => some r8) (some false)).bind fun g9 => (zdp (!g9) 42).bind fun r10 => some r10)
  (cond g5 ((idx a0.After.zB x2).bind fun x11 => (zhp N x3 x1 x11 a2).bind fun r12 => (zdp (!r12) 42).bind fun r13 => some r13)
  ((zdp (!g5) 42).bind fun r14 => some r14))
def zfx.k (N : Nat) : Kq := ⟨67, (cvv [T6] [Ty.Optimization, T6, (Ty.sl T6)] (zfx N)), go [zbj.k, zcj.k N, zdp.k, zhp.k N] {} [] Proofs.Tryz.func67⟩
def zad.b0 (N : Nat) (s0 : List zQ) (s1 : List zQ) (s12 : Int) (s13 : Int) : Option (Round Bool ((List zQ) × (List zQ) × Int × Int)) :=
 cond (decide (s13 < s12)) ((idx s0 s13).bind fun x1001 => (idx s1 s13).bind fun x1002 =>
  cond (!(zbx [(x1001.From == x1002.From), (x1001.To == x1002.To), (x1001.Exception == x1002.Exception), (x1001.Handler == x1002.Handler)])) (some (.result false))
  (some (.again (s0, s1, s12, (w6 (s13 + 1)))))) (some (.leave (s0, s1, s12, s13)))
def zad.r0 (N : Nat) (x : (List zQ) × (List zQ) × Int × Int) := zad.b0 N x.1 x.2.1 x.2.2.1 x.2.2.2
def zad (N : Nat) (a0 : List zQ) (a1 : List zQ) : Option Bool :=
 cond ((a0.length : Int) != (a1.length : Int)) (some false) ((zg (zad.r0 N) N (a0, a1, (a0.length : Int), 0)).bind fun z2 => zat z2 (fun z => some z)
  (fun y1 => some true))
def zad.k (N : Nat) : Kq := ⟨57, (cvv [Ty.bool] [(Ty.sl Ty.zQ), (Ty.sl Ty.zQ)] (zad N)), go [] {} [(0, .rets { slots := [(0, .val (Ty.sl Ty.zQ)), (1, .val (Ty.sl Ty.zQ)), (12, .val T6), (13, .val T6)], boxes := [] } [(Ty.sl Ty.zQ), (Ty.sl Ty.zQ), T6, T6] (zg (zad.r0 N) N))] Proofs.Tryz.func57 (hL := ⟨⟨_, _, rfl, by kernel_rfl⟩, trivial⟩)⟩
def zy.b0 (N : Nat) (s8 : Int) (s9 : List Int) (s80 : Int) (s81 : Int) (b1 : Optimization) : Option (Round (Int × Int) (Int × (List Int) × Int × Int × Optimization)) :=
 cond (decide (s81 < s80)) ((zfx N b1 s81 s9).bind fun r1001 => cond (r1001 != 0) (some (.result (s81, r1001)))
  (some (.again (s8, s9, s80, (w6 (s81 + 1)), b1)))) (some (.leave (s8, s9, s80, s81, b1)))
def zy.r0 (N : Nat) (x : Int × (List Int) × Int × Int × Optimization) := zy.b0 N x.1 x.2.1 x.2.2.1 x.2.2.2.1 x.2.2.2.2
def zy (N : Nat) (a0 : Optimization) : Option (Int × Int) :=
 (zcp N a0.Model a0.Before).bind fun r1 => (zcp N a0.Model a0.After).bind fun r2 => (za3 N ([r1, r2] : List Int)).bind fun r3 =>
  cond (r3 != 0) (some (0, r3)) ((zf N a0.Model a0.Before a0.Proof.Facts).bind fun r4 => cond (r4.2 != 0) (some (r4.1, r4.2))
  ((cond (a0.Before.Storage.Bytes.toList == a0.After.Storage.Bytes.toList) ((za8 N a0.Before.Storage.Tags a0.After.Storage.Tags).bind fun r5 => some r5)
  (some false)).bind fun g6 => (cond ((a0.Proof.Index.length : Int) != (a0.Before.zB.length : Int)) (some true) (some (!g6))).bind fun g7 => cond g7 (some (0, 6))
  ((za6 N a0.Proof.Index).bind fun r8 =>
  (zg (zy.r0 N) N ((a0.Before.zB.length : Int), r8, (a0.Before.zB.length : Int), 0, a0)).bind fun z10 => zat z10 (fun z => some z)
  (fun y9 => (idx y9.2.1 y9.1).bind fun x11 => (cond ((y9.2.2.2.2.After.zB.length : Int) != x11) (some true)
  ((za5 N y9.2.2.2.2.Before.zP y9.2.1).bind fun r12 => (zad N y9.2.2.2.2.After.zP r12).bind fun r13 => some (!r13))).bind fun g14 =>
  cond g14 (some (0, 42)) (some (y9.1, 0))))))
def zy.k (N : Nat) : Kq := ⟨23, (cvv [T6, T6] [Ty.Optimization] (zy N)), go [zcp.k N, za6.k N, za5.k N, za3.k N, za8.k N, zad.k N, zf.k N, zfx.k N] {lits := [16, 21, 22, 110]} [(0, .rets { slots := [(1, .ptr 1 0), (8, .val T6), (9, .val (Ty.sl T6)), (80, .val T6), (81, .val T6)], boxes := [(1, Ty.Optimization, [])] } [T6, (Ty.sl T6), T6, T6, Ty.Optimization] (zg (zy.r0 N) N))] Proofs.Tryz.func23 (hL := ⟨⟨_, _, rfl, by kernel_rfl⟩, trivial⟩)⟩
def zl (a0 : Int) (a1 : Int) (a2 : Int) : Option Bool :=
 (cond (decide (a1 ≤ a0)) (some (decide (a0 ≤ a2))) (some false)).bind fun g1 => some g1
def zl.k : Kq := ⟨89, (cvv [Ty.bool] [T6, T6, T6] zl), go [] {} [] Proofs.Tryz.func89⟩
def zgc (a0 : zI) : Option Int :=
 (zl a0.Registers 2 8).bind fun r1 => cond (!r1) (some 3) (some 0)
def zgc.k : Kq := ⟨85, (cvv [T6] [Ty.zI] zgc), go [zl.k] {} [] Proofs.Tryz.func85⟩
def zl0 (a0 : Storage) (a1 : Int) : Option ByteArray :=
 if 0 ≤ (w6 ((w6 (a1 * 16)) + 16)) ∧ (w6 ((w6 (a1 * 16)) + 16)) ≤ (a0.Bytes.size : Int) then (if 0 ≤ (w6 (a1 * 16)) ∧ (w6 (a1 * 16)) ≤ (w6 ((w6 (a1 * 16)) + 16)) then (some (a0.Bytes.extract (w6 (a1 * 16)).toNat (w6 ((w6 (a1 * 16)) + 16)).toNat)) else none) else none
def zl0.k : Kq := ⟨197, (cvv [Ty.str] [Ty.Storage, T6] zl0), go [] {} [] Proofs.Tryz.func197⟩
def zdh.b0 (N : Nat) (s0 : ByteArray) (s1 : Int) (s2 : Int) (s7 : Int) (s8 : Int) : Option (Stp (ByteArray × Int × Int × Int × Int)) :=
 cond (decide (s8 < s2)) ((zoc s0 (w6 (s1 + s8))).bind fun x1001 =>
  some (.again (s0, s1, s2, (w6 ((w6 (s7 * 256)) + (w6 (x1001.toNat : Int)))), (w6 (s8 + 1)))))
  (some (.leave (s0, s1, s2, s7, s8)))
def zdh.r0 (N : Nat) (x : ByteArray × Int × Int × Int × Int) := zdh.b0 N x.1 x.2.1 x.2.2.1 x.2.2.2.1 x.2.2.2.2
def zdh (N : Nat) (a0 : ByteArray) (a1 : Int) (a2 : Int) : Option Int :=
 (zh (zdh.r0 N) N (a0, a1, a2, 0, 0)).bind fun y1 => some y1.2.2.2.1
def zdh.k (N : Nat) : Kq := ⟨245, (cvv [T6] [Ty.str, T6, T6] (zdh N)), go [] {} [(0, .plain { slots := [(0, .val Ty.str), (1, .val T6), (2, .val T6), (7, .val T6), (8, .val T6)], boxes := [] } [Ty.str, T6, T6, T6, T6] (zh (zdh.r0 N) N))] Proofs.Tryz.func245 (hL := ⟨⟨_, _, rfl, by kernel_rfl⟩, trivial⟩)⟩
def zgd (a0 : Pointer) : Option Int :=
 (zl a0.Kind 0 2).bind fun r1 => cond (!r1) (some 4) ((zl a0.Address.yC 0 1099511627775).bind fun r2 => (cond (!r2) (some true)
  ((zl a0.Address.Offset 0 16777215).bind fun r3 => some (!r3))).bind fun g4 => (cond g4 (some true) ((zl a0.Authority 0 1023).bind fun r5 =>
  some (!r5))).bind fun g6 => cond g6 (some 3) ((cond (a0.Kind != 1) (some (a0.Authority != 0)) (some false)).bind fun g7 => cond g7 (some 5) (some 0)))
def zgd.k : Kq := ⟨246, (cvv [T6] [Ty.Pointer] zgd), go [zl.k] {} [] Proofs.Tryz.func246⟩
def zmj (N : Nat) (a0 : ByteArray) : Option (Pointer × Int) :=
 cond ((a0.size : Int) != 16) (some ((⟨0, (⟨0, 0⟩ : Address), 0⟩ : Pointer), 18)) ((zoc a0 1).bind fun x1 => cond ((x1.toNat : Int) != 0)
  (some ((⟨0, (⟨0, 0⟩ : Address), 0⟩ : Pointer), 5)) ((zoc a0 0).bind fun x2 => (zdh N a0 2 2).bind fun r3 => (zdh N a0 4 6).bind fun r4 =>
  (zdh N a0 10 6).bind fun r5 => (zgd (⟨(w6 (x2.toNat : Int)), (⟨r4, r5⟩ : Address), r3⟩ : Pointer)).bind fun r6 => cond (r6 != 0)
  (some ((⟨0, (⟨0, 0⟩ : Address), 0⟩ : Pointer), r6)) (some ((⟨(w6 (x2.toNat : Int)), (⟨r4, r5⟩ : Address), r3⟩ : Pointer), 0))))
def zmj.k (N : Nat) : Kq := ⟨196, (cvv [Ty.Pointer, T6] [Ty.str] (zmj N)), go [zdh.k N, zgd.k] {} [] Proofs.Tryz.func196⟩
def zc7.b0 (N : Nat) (s4 : Int) (s5 : Int) (b1 : Storage) : Option (Round (Int × Int) (Int × Int × Storage)) :=
 cond (decide (s5 < s4)) ((idx b1.Tags s5).bind fun x1001 => cond x1001 ((zl0 b1 s5).bind fun r1002 => (zmj N r1002).bind fun r1003 => cond (r1003.2 != 0)
  (some (.result (s5, 22))) (some (.again (s4, (w6 (s5 + 1)), b1)))) (some (.again (s4, (w6 (s5 + 1)), b1)))) (some (.leave (s4, s5, b1)))
def zc7.r0 (N : Nat) (x : Int × Int × Storage) := zc7.b0 N x.1 x.2.1 x.2.2
def zc7 (N : Nat) (a0 : Storage) : Option (Int × Int) :=
 cond (decide ((a0.Bytes.size : Int) > 1024)) (some (0, 2)) (cond (((a0.Bytes.size : Int).tmod 16) != 0) (some (0, 18))
  (cond ((a0.Tags.length : Int) != (w6 ((a0.Bytes.size : Int).tdiv 16))) (some (0, 6))
  ((zg (zc7.r0 N) N ((w6 ((a0.Bytes.size : Int).tdiv 16)), 0, a0)).bind fun z2 => zat z2 (fun z => some z) (fun y1 => some (y1.1, 0)))))
def zc7.k (N : Nat) : Kq := ⟨143, (cvv [T6, T6] [Ty.Storage] (zc7 N)), go [zmj.k N, zl0.k] {lits := [39]} [(0, .rets { slots := [(1, .ptr 1 0), (4, .val T6), (5, .val T6)], boxes := [(1, Ty.Storage, [])] } [T6, T6, Ty.Storage] (zg (zc7.r0 N) N))] Proofs.Tryz.func143 (hL := ⟨⟨_, _, rfl, by kernel_rfl⟩, trivial⟩)⟩
def zkc (N : Nat) (a0 : Storage) : Option Int :=
 (zc7 N a0).bind fun r1 => some r1.2
def zkc.k (N : Nat) : Kq := ⟨86, (cvv [T6] [Ty.Storage] (zkc N)), go [zc7.k N] {} [] Proofs.Tryz.func86⟩
def zbt.b0 (N : Nat) (s3 : List Int) (s4 : Int) (b1 : Storage) : Option (Stp ((List Int) × Int × Storage)) :=
 cond (decide (s4 < (b1.Tags.length : Int))) ((idx b1.Tags s4).bind fun x1001 =>
  cond x1001 (cond (Nat.ble ((s3.length + ([(w6 (s4 * 16))] : List Int).length) * 8) zak)
  (some (.again ((s3 ++ ([(w6 (s4 * 16))] : List Int)), (w6 (s4 + 1)), b1))) none) (some (.again (s3, (w6 (s4 + 1)), b1))))
  (some (.leave (s3, s4, b1)))
def zbt.r0 (N : Nat) (x : (List Int) × Int × Storage) := zbt.b0 N x.1 x.2.1 x.2.2
def zbt (N : Nat) (a0 : Storage) : Option ((List Int)) :=
 (zh (zbt.r0 N) N ([], 0, a0)).bind fun y1 => some y1.1
def zbt.k (N : Nat) : Kq := ⟨87, (cvv [(Ty.sl T6)] [Ty.Storage] (zbt N)), go [] {lits := [20]} [(0, .plain { slots := [(1, .ptr 1 0), (3, .own 5000003 T6), (4, .val T6)], boxes := [(1, Ty.Storage, [])] } [(Ty.sl T6), T6, Ty.Storage] (zh (zbt.r0 N) N))] Proofs.Tryz.func87 (hL := ⟨⟨_, _, rfl, by kernel_rfl⟩, trivial⟩)⟩
def zeb (a0 : zC) : Option zN :=
 cond (a0.Op == 0) (some (⟨true, false, false, true, false, false, false, false, false, false, false, false, false, false, 1, 0⟩ : zN)) (cond (a0.Op == 1)
  (some (⟨true, false, false, true, false, true, false, false, false, false, false, false, false, false, 1, 0⟩ : zN)) (cond (a0.Op == 2)
  (some (⟨true, false, false, false, false, false, true, false, false, false, false, false, false, false, 0, 0⟩ : zN)) (cond (a0.Op == 3)
  (some (⟨true, true, false, false, false, false, false, false, false, false, false, false, false, false, 0, 0⟩ : zN)) (cond (a0.Op == 4)
  (cond a0.zK (some (⟨true, true, false, true, false, false, false, true, false, false, false, false, false, false, 1, 1⟩ : zN))
  (some (⟨true, true, true, false, false, false, false, true, false, false, false, false, false, false, 1, 0⟩ : zN))) (cond (a0.Op == 5)
  (some (⟨false, true, true, false, false, false, false, false, false, false, false, false, false, false, 0, 0⟩ : zN)) (cond (a0.Op == 6)
  (some (⟨false, false, false, false, false, false, false, false, true, true, false, false, false, false, 0, 0⟩ : zN)) (cond (a0.Op == 7)
  (some (⟨false, true, true, false, false, false, false, false, true, true, false, false, false, false, 0, 0⟩ : zN)) ((cond (a0.Op == 8) (some (a0.Op == 8))
  (some (a0.Op == 18))).bind fun q1 => cond q1 (some (⟨false, false, false, false, false, false, false, false, false, true, false, false, false, false, 0, 0⟩ : zN))
  ((cond (a0.Op == 9) (some (a0.Op == 9)) (some (a0.Op == 11))).bind fun q2 =>
  cond q2 (some (⟨false, false, false, true, true, false, false, false, false, false, false, false, false, false, 2, 2⟩ : zN)) ((cond (a0.Op == 10) (some (a0.Op == 10))
  (some (a0.Op == 12))).bind fun q3 => cond q3 (some (⟨false, false, false, true, false, false, false, false, false, false, true, false, false, false, 2, 0⟩ : zN))
  (cond (a0.Op == 13) (some (⟨false, false, false, false, false, false, false, false, false, false, true, true, false, false, 0, 0⟩ : zN)) (cond (a0.Op == 14)
  (some (⟨false, false, false, true, false, false, false, false, false, false, false, false, true, false, 3, 0⟩ : zN)) (cond (a0.Op == 15)
  (some (⟨false, false, false, false, false, false, false, false, false, false, false, false, true, true, 0, 0⟩ : zN)) (cond (a0.Op == 16)
  (some (⟨true, false, false, false, false, false, false, false, false, false, false, false, true, false, 0, 0⟩ : zN)) (cond (a0.Op == 17)
  (some (⟨false, false, false, false, false, false, false, false, false, false, false, false, true, false, 0, 0⟩ : zN)) ((cond (a0.Op == 20) (some (a0.Op == 20))
  (cond (a0.Op == 21) (some (a0.Op == 21)) (some (a0.Op == 22)))).bind fun q4 =>
  cond q4 (some (⟨true, false, false, false, false, false, false, false, false, false, false, false, false, false, 0, 0⟩ : zN)) (cond (a0.Op == 23)
  (some (⟨false, false, false, true, false, false, false, false, false, false, false, false, false, false, 2, 0⟩ : zN)) (cond (a0.Op == 24)
  (some (⟨false, false, false, false, false, false, false, false, false, false, true, false, false, false, 0, 0⟩ : zN))
  (some (⟨false, false, false, false, false, false, false, false, false, false, false, false, false, false, 0, 0⟩ : zN))))))))))))))))))))
def zeb.k : Kq := ⟨144, (cvv [Ty.zN] [Ty.zC] zeb), go [] {bj := [32, 36, 40, 59]} [] Proofs.Tryz.func144⟩
def zhh (a0 : zC) (a1 : zN) : Option Bool :=
 (cond (!a1.R) (some (a0.R != 0)) (some false)).bind fun g1 => (cond g1 (some true) ((cond (!a1.A) (some (a0.A != 0)) (some false)).bind fun g2 => some g2)).bind fun g3 =>
  (cond g3 (some true) ((cond (!a1.B) (some (a0.B != 0)) (some false)).bind fun g4 => some g4)).bind fun g5 => (cond g5 (some true) ((cond (!a1.zM)
  (some (a0.zM != 0)) (some false)).bind fun g6 => some g6)).bind fun g7 => (cond g7 (some true) ((cond (!a1.Place)
  (some (!(zbx [(a0.Place.Based == false), (a0.Place.Pointer == 0), (a0.Place.Offset == 0)]))) (some false)).bind fun g8 => some g8)).bind fun g9 => (cond g9 (some true)
  ((cond (!a1.From) (some (!(zbx [(a0.From.Based == false), (a0.From.Pointer == 0), (a0.From.Offset == 0)]))) (some false)).bind fun g10 => some g10)).bind fun g11 =>
  (cond g11 (some true) ((cond (a1.zD == 0) (some (!(zbx [(a0.zD.Kind == 0), (a0.zD.Length == 0), (a0.zD.Scale == 0)]))) (some false)).bind fun g12 =>
  some g12)).bind fun g13 => (cond g13 (some true) ((cond (a1.Second == 0) (some (!(zbx [(a0.Second.Kind == 0), (a0.Second.Length == 0), (a0.Second.Scale == 0)])))
  (some false)).bind fun g14 => some g14)).bind fun g15 => (cond g15 (some true) ((cond (!a1.Half) (some a0.Half) (some false)).bind fun g16 => some g16)).bind fun g17 =>
  (cond g17 (some true) ((cond (a0.Op != 4) (some a0.zK) (some false)).bind fun g18 => some g18)).bind fun g19 => (cond g19 (some true) ((cond (!a1.Number)
  (some (!(zbx [(a0.Number.N == 0), (a0.Number.Scale == 0)]))) (some false)).bind fun g20 => some g20)).bind fun g21 => (cond g21 (some true) ((cond (!a1.Text)
  (some (!(a0.Text.toList == (⟨#[]⟩ : ByteArray).toList))) (some false)).bind fun g22 => some g22)).bind fun g23 => (cond g23 (some true) ((cond (!a1.Other)
  (some (!(a0.Other.toList == (⟨#[]⟩ : ByteArray).toList))) (some false)).bind fun g24 => some g24)).bind fun g25 => (cond g25 (some true) ((cond (!a1.Mask) (some (a0.Mask != 0))
  (some false)).bind fun g26 => some g26)).bind fun g27 => (cond g27 (some true) ((cond (!a1.Target) (some (a0.Target != 0)) (some false)).bind fun g28 => some g28)).bind fun g29 =>
  (cond g29 (some true) ((cond (!a1.Pointer) (some (a0.Pointer != 0)) (some false)).bind fun g30 => some g30)).bind fun g31 => (cond g31 (some true) ((cond (!a1.Source)
  (some (a0.Source != 0)) (some false)).bind fun g32 => some g32)).bind fun g33 => (cond g33 (some true) ((cond (!a0.Place.Based) (some (a0.Place.Pointer != 0))
  (some false)).bind fun g34 => some g34)).bind fun g35 => (cond g35 (some true) ((cond (!a0.From.Based) (some (a0.From.Pointer != 0)) (some false)).bind fun g36 =>
  some g36)).bind fun g37 => some g37
def zhh.k : Kq := ⟨145, (cvv [Ty.bool] [Ty.zC, Ty.zN] zhh), go [] {} [] Proofs.Tryz.func145⟩
def zjq (a0 : zI) (a1 : zC) : Option Bool :=
 (cond (a1.Op == 7) (some (!a0.yB)) (some false)).bind fun g1 => (cond g1 (some true) ((cond a1.zK (some (!a0.zZ)) (some false)).bind fun g2 =>
  some g2)).bind fun g3 => some g3
def zjq.k : Kq := ⟨146, (cvv [Ty.bool] [Ty.zI, Ty.zC] zjq), go [] {} [] Proofs.Tryz.func146⟩
def zck (a0 : Int) : Option Bool :=
 (zl a0 1 3).bind fun r1 => some r1
def zck.k : Kq := ⟨119, (cvv [Ty.bool] [T6] zck), go [zl.k] {} [] Proofs.Tryz.func119⟩
def zc4 (a0 : Bool) : Option Int :=
 cond a0 (some 1) (some 0)
def zc4.k : Kq := ⟨70, (cvv [T6] [Ty.bool] zc4), go [] {} [] Proofs.Tryz.func70⟩
def zf2 (a0 : DataType) : Option Int :=
 (zl a0.Kind 0 4).bind fun r1 => cond (!r1) (some 4) (cond (a0.Kind == 0) ((zl a0.Length 1 256).bind fun r2 => cond (!r2) (some 18)
  ((zck a0.Kind).bind fun r3 => cond r3 ((zl a0.Scale 0 a0.Length).bind fun r4 => (zc4 (!r4)).bind fun r5 => some (w6 (3 * r5)))
  ((zl a0.Scale 0 0).bind fun r6 => (zc4 (!r6)).bind fun r7 => some (w6 (3 * r7))))) ((cond (a0.Kind == 1) (some (a0.Kind == 1))
  (some (a0.Kind == 2))).bind fun q8 => cond q8 ((zl a0.Length 1 15).bind fun r9 => cond (!r9) (some 18) ((zck a0.Kind).bind fun r10 =>
  cond r10 ((zl a0.Scale 0 a0.Length).bind fun r11 => (zc4 (!r11)).bind fun r12 => some (w6 (3 * r12))) ((zl a0.Scale 0 0).bind fun r13 =>
  (zc4 (!r13)).bind fun r14 => some (w6 (3 * r14))))) (cond (a0.Kind == 3) ((cond (a0.Length == 4) (some true) (some (a0.Length == 9))).bind fun g15 =>
  cond (!g15) (some 18) ((zck a0.Kind).bind fun r16 => cond r16 ((zl a0.Scale 0 a0.Length).bind fun r17 => (zc4 (!r17)).bind fun r18 =>
  some (w6 (3 * r18))) ((zl a0.Scale 0 0).bind fun r19 => (zc4 (!r19)).bind fun r20 => some (w6 (3 * r20))))) (cond (!(a0.Length == 0))
  (some 18) ((zck a0.Kind).bind fun r21 => cond r21 ((zl a0.Scale 0 a0.Length).bind fun r22 => (zc4 (!r22)).bind fun r23 =>
  some (w6 (3 * r23))) ((zl a0.Scale 0 0).bind fun r24 => (zc4 (!r24)).bind fun r25 => some (w6 (3 * r25))))))))
def zf2.k : Kq := ⟨118, (cvv [T6] [Ty.DataType] zf2), go [zc4.k, zl.k, zck.k] {bj := [19]} [] Proofs.Tryz.func118⟩
def zgx (a0 : DataType) (a1 : Int) : Option Int :=
 cond (a1 == 0) (some 0) ((zf2 a0).bind fun r1 => cond (r1 != 0) (some r1) ((cond (a1 == 1) ((zck a0.Kind).bind fun r2 => some (!r2))
  (some false)).bind fun g3 => (cond g3 (some true) ((cond (a1 == 2) (some (a0.Kind != 0)) (some false)).bind fun g4 => some g4)).bind fun g5 => (cond g5 (some true)
  ((cond (a1 == 3) (some (a0.Kind == 4)) (some false)).bind fun g6 => some g6)).bind fun g7 => cond g7 (some 17) (some 0)))
def zgx.k : Kq := ⟨147, (cvv [T6] [Ty.DataType, T6] zgx), go [zf2.k, zck.k] {} [] Proofs.Tryz.func147⟩
def zem (a0 : zI) (a1 : Int) : Option Bool :=
 (zl a1 0 (w6 (a0.Registers - 1))).bind fun r1 => some r1
def zem.k : Kq := ⟨198, (cvv [Ty.bool] [Ty.zI, T6] zem), go [zl.k] {} [] Proofs.Tryz.func198⟩
def zen (a0 : zI) (a1 : zC) : Option Bool :=
 (zeb a1).bind fun r1 => (cond (!r1.R) (some true) ((zem a0 a1.R).bind fun r2 => some r2)).bind fun g3 => (cond g3 ((cond (!r1.A) (some true)
  ((zem a0 a1.A).bind fun r4 => some r4)).bind fun g5 => some g5) (some false)).bind fun g6 => (cond g6 ((cond (!r1.B) (some true)
  ((zem a0 a1.B).bind fun r7 => some r7)).bind fun g8 => some g8) (some false)).bind fun g9 => some g9
def zen.k : Kq := ⟨148, (cvv [Ty.bool] [Ty.zI, Ty.zC] zen), go [zeb.k, zem.k] {} [] Proofs.Tryz.func148⟩
def zeo (a0 : Storage) (a1 : Int) : Option Bool :=
 (zl a1 0 (w6 ((a0.Bytes.size : Int) - 16))).bind fun r1 => (cond r1 (some ((a1.tmod 16) == 0)) (some false)).bind fun g2 => some g2
def zeo.k : Kq := ⟨149, (cvv [Ty.bool] [Ty.Storage, T6] zeo), go [zl.k] {} [] Proofs.Tryz.func149⟩
def zdl (a0 : DataType) : Option Int :=
 cond (a0.Kind == 1) (some (w6 ((w6 (a0.Length.tdiv 2)) + 1))) (cond (a0.Kind == 3) ((zc4 (a0.Length == 9)).bind fun r1 =>
  some (w6 (2 + (w6 (2 * r1))))) (cond (a0.Kind == 4) (some 16) (some a0.Length)))
def zdl.k : Kq := ⟨95, (cvv [T6] [Ty.DataType] zdl), go [zc4.k] {} [] Proofs.Tryz.func95⟩
def zfj (a0 : Storage) (a1 : Int) (a2 : Int) : Option Bool :=
 (zl a1 0 (a0.Bytes.size : Int)).bind fun r1 => (cond r1 ((zl a2 0 (w6 ((a0.Bytes.size : Int) - a1))).bind fun r2 => some r2)
  (some false)).bind fun g3 => some g3
def zfj.k : Kq := ⟨120, (cvv [Ty.bool] [Ty.Storage, T6, T6] zfj), go [zl.k] {lits := [10]} [] Proofs.Tryz.func120⟩
def zd1 (a0 : zF) (a1 : zL) (a2 : Int) : Option Bool :=
 cond a1.Based ((zeo a0.Storage a1.Pointer).bind fun r1 => (cond r1 ((zl a1.Offset 0 256).bind fun r2 => some r2) (some false)).bind fun g3 => some g3)
  ((zfj a0.Storage a1.Offset a2).bind fun r4 => some r4)
def zd1.k : Kq := ⟨150, (cvv [Ty.bool] [Ty.zF, Ty.zL, T6] zd1), go [zl.k, zfj.k, zeo.k] {} [] Proofs.Tryz.func150⟩
def zec (a0 : Number) : Option Int :=
 (zl a0.N (-999999999999999) 999999999999999).bind fun r1 => (cond r1 ((zl a0.Scale 0 15).bind fun r2 => some r2) (some false)).bind fun g3 =>
  (zc4 (!g3)).bind fun r4 => some (w6 (3 * r4))
def zec.k : Kq := ⟨151, (cvv [T6] [Ty.Number] zec), go [zc4.k, zl.k] {} [] Proofs.Tryz.func151⟩
def zde (a0 : zI) (a1 : zF) (a2 : zC) : Option Int :=
 (zl a2.Op 0 26).bind fun r1 => cond (!r1) (some 4) ((zeb a2).bind fun r2 => (zhh a2 r2).bind fun r3 => cond r3 (some 5)
  ((zjq a0 a2).bind fun r4 => cond r4 (some 39) ((zgx a2.zD r2.zD).bind fun r5 => cond (r5 != 0) (some r5)
  ((zgx a2.Second r2.Second).bind fun r6 => cond (r6 != 0) (some r6) (cond (a2.Op == 4) (((zen a0 a2).bind fun r7 => cond (!r7) (some (!r7))
  ((cond r2.Target ((zl a2.Target 0 (w6 ((a1.zB.length : Int) - 1))).bind fun r8 => some (!r8)) (some false)).bind fun g9 => cond g9 (some g9)
  ((cond r2.Mask ((zl a2.Mask 1 7).bind fun r10 => some (!r10)) (some false)).bind fun g11 => some g11))).bind fun q12 => cond q12 (some 3)
  (((cond r2.Pointer ((zeo a1.Storage a2.Pointer).bind fun r13 => some (!r13)) (some false)).bind fun g14 => cond g14 (some g14)
  ((cond r2.Source ((zeo a1.Storage a2.Source).bind fun r15 => some (!r15)) (some false)).bind fun g16 => some g16)).bind fun q17 => cond q17 (some 3)
  ((cond r2.Place ((zdl a2.Second).bind fun r18 => (zd1 a1 a2.Place r18).bind fun r19 => some (!r19)) (some false)).bind fun g20 => cond g20 (cond g20 (some 3)
  ((cond r2.zM ((zl a2.zM 0 4).bind fun r21 => some (!r21)) (some false)).bind fun g22 => cond g22 (some 3) ((zec a2.Number).bind fun r23 =>
  (cond r2.Number (some (r23 != 0)) (some false)).bind fun g24 => cond g24 (some r23) ((cond (decide ((a2.Text.size : Int) > 256)) (some true)
  (some (decide ((a2.Other.size : Int) > 256)))).bind fun g25 => cond g25 (some 2) (some 0))))) ((cond r2.From ((zdl a2.Second).bind fun r26 =>
  (zd1 a1 a2.From r26).bind fun r27 => some (!r27)) (some false)).bind fun g28 => cond g28 (some 3) ((cond r2.zM ((zl a2.zM 0 4).bind fun r29 =>
  some (!r29)) (some false)).bind fun g30 => cond g30 (some 3) ((zec a2.Number).bind fun r31 => (cond r2.Number (some (r31 != 0)) (some false)).bind fun g32 =>
  cond g32 (some r31) ((cond (decide ((a2.Text.size : Int) > 256)) (some true) (some (decide ((a2.Other.size : Int) > 256)))).bind fun g33 => cond g33 (some 2) (some 0))))))))
  (((zen a0 a2).bind fun r34 => cond (!r34) (some (!r34))
  ((cond r2.Target ((zl a2.Target 0 (w6 ((a1.zB.length : Int) - 1))).bind fun r35 => some (!r35)) (some false)).bind fun g36 => cond g36 (some g36)
  ((cond r2.Mask ((zl a2.Mask 1 7).bind fun r37 => some (!r37)) (some false)).bind fun g38 => some g38))).bind fun q39 => cond q39 (some 3)
  (((cond r2.Pointer ((zeo a1.Storage a2.Pointer).bind fun r40 => some (!r40)) (some false)).bind fun g41 => cond g41 (some g41)
  ((cond r2.Source ((zeo a1.Storage a2.Source).bind fun r42 => some (!r42)) (some false)).bind fun g43 => some g43)).bind fun q44 => cond q44 (some 3)
  ((cond r2.Place ((zdl a2.zD).bind fun r45 => (zd1 a1 a2.Place r45).bind fun r46 => some (!r46)) (some false)).bind fun g47 => cond g47 (cond g47 (some 3)
  ((cond r2.zM ((zl a2.zM 0 4).bind fun r48 => some (!r48)) (some false)).bind fun g49 => cond g49 (some 3) ((zec a2.Number).bind fun r50 =>
  (cond r2.Number (some (r50 != 0)) (some false)).bind fun g51 => cond g51 (some r50) ((cond (decide ((a2.Text.size : Int) > 256)) (some true)
  (some (decide ((a2.Other.size : Int) > 256)))).bind fun g52 => cond g52 (some 2) (some 0))))) ((cond r2.From ((zdl a2.Second).bind fun r53 =>
  (zd1 a1 a2.From r53).bind fun r54 => some (!r54)) (some false)).bind fun g55 => cond g55 (some 3) ((cond r2.zM ((zl a2.zM 0 4).bind fun r56 =>
  some (!r56)) (some false)).bind fun g57 => cond g57 (some 3) ((zec a2.Number).bind fun r58 => (cond r2.Number (some (r58 != 0)) (some false)).bind fun g59 =>
  cond g59 (some r58) ((cond (decide ((a2.Text.size : Int) > 256)) (some true) (some (decide ((a2.Other.size : Int) > 256)))).bind fun g60 => cond g60 (some 2) (some 0)))))))))))))
def zde.k : Kq := ⟨88, (cvv [T6] [Ty.zI, Ty.zF, Ty.zC] zde), go [zl.k, zdl.k, zeb.k, zhh.k, zjq.k, zgx.k, zen.k, zeo.k, zd1.k, zec.k] {lits := [101, 113], bj := [47, 72]} [] Proofs.Tryz.func88⟩
def zw.b1 (N : Nat) (s8 : Int) (b2 : zI) (b3 : zF) : Option (Round (Int × Int) (Int × zI × zF)) :=
 cond (decide (s8 < (b3.zB.length : Int))) ((idx b3.zB s8).bind fun x2001 => (zde b2 b3 x2001).bind fun r2002 => cond (r2002 != 0)
  (some (.result (s8, r2002))) (some (.again ((w6 (s8 + 1)), b2, b3)))) (some (.leave (s8, b2, b3)))
def zw.r1 (N : Nat) (x : Int × zI × zF) := zw.b1 N x.1 x.2.1 x.2.2
def zw.b3 (N : Nat) (s10 : Int) (b3 : zF) : Option (Round (Int × Int) (Int × zF)) :=
 cond (decide (s10 < (b3.zP.length : Int))) ((idx b3.zP s10).bind fun x4001 => (cond (decide (x4001.From < 0)) (some true)
  (some (decide (x4001.From > x4001.To)))).bind fun g4002 => (cond g4002 (some true) (some (decide (x4001.To > (b3.zB.length : Int))))).bind fun g4003 =>
  (cond g4003 (some true) ((zl x4001.Exception 0 999).bind fun r4004 => some (!r4004))).bind fun g4005 => (cond g4005 (some true)
  ((zl x4001.Handler 0 (w6 ((b3.zB.length : Int) - 1))).bind fun r4006 => some (!r4006))).bind fun g4007 => cond g4007 (some (.result (s10, 3)))
  (some (.again ((w6 (s10 + 1)), b3)))) (some (.leave (s10, b3)))
def zw.r3 (N : Nat) (x : Int × zF) := zw.b3 N x.1 x.2
def zw (N : Nat) (a0 : zI) (a1 : zF) : Option (Int × Int) :=
 (zgc a0).bind fun r1 => cond (r1 != 0) (some (0, r1)) ((zkc N a1.Storage).bind fun r2 => cond (r2 != 0) (some (0, r2))
  ((zbt N a1.Storage).bind fun r3 => cond (decide ((r3.length : Int) > 0)) (some (0, 22)) (cond ((a1.zB.length : Int) == 0) (some (0, 1))
  ((cond (decide ((a1.zB.length : Int) > 240)) (some true) (some (decide ((a1.zP.length : Int) > 40)))).bind fun g4 => cond g4 (some (0, 2))
  ((zg (zw.r1 N) N (0, a0, a1)).bind fun z6 => zat z6 (fun z => some z) (fun y5 => (zg (zw.r3 N) N (0, y5.2.2)).bind fun z8 => zat z8 (fun z =>
  some z) (fun y7 => some ((y7.2.zB.length : Int), 0))))))))
def zw.k (N : Nat) : Kq := ⟨35, (cvv [T6, T6] [Ty.zI, Ty.zF] (zw N)), go [zgc.k, zkc.k N, zbt.k N, zde.k, zl.k] {lits := [26]} [(1, .rets { slots := [(2, .ptr 2 0), (3, .ptr 3 0), (8, .val T6)], boxes := [(2, Ty.zI, []), (3, Ty.zF, [])] } [T6, Ty.zI, Ty.zF] (zg (zw.r1 N) N)), (3, .rets { slots := [(3, .ptr 3 0), (10, .val T6)], boxes := [(3, Ty.zF, [])] } [T6, Ty.zF] (zg (zw.r3 N) N))] Proofs.Tryz.func35 (hL := ⟨⟨_, _, rfl, by kernel_rfl⟩, ⟨_, _, rfl, by kernel_rfl⟩, trivial⟩)⟩
def zfi (N : Nat) (a0 : zI) (a1 : zF) : Option Int :=
 (zw N a0 a1).bind fun r1 => some r1.2
def zfi.k (N : Nat) : Kq := ⟨11, (cvv [T6] [Ty.zI, Ty.zF] (zfi N)), go [zw.k N] {} [] Proofs.Tryz.func11⟩
def zam.b0 (N : Nat) (s3 : List Bool) (s4 : Int) (b1 : zF) : Option (Stp ((List Bool) × Int × zF)) :=
 cond (decide (s4 < (b1.zP.length : Int))) ((idx b1.zP s4).bind fun x1001 =>
  if 0 ≤ x1001.Handler then (if x1001.Handler < (s3.length : Int) then ((s3[x1001.Handler.toNat]?).bind fun x1002 =>
  some (.again ((s3.set x1001.Handler.toNat true), (w6 (s4 + 1)), b1))) else none) else none) (some (.leave (s3, s4, b1)))
def zam.r0 (N : Nat) (x : (List Bool) × Int × zF) := zam.b0 N x.1 x.2.1 x.2.2
def zam.b2 (N : Nat) (s3 : List Bool) (s5 : Int) (b1 : zF) : Option (Stp ((List Bool) × Int × zF)) :=
 cond (decide ((w6 (s5 + 1)) < (s3.length : Int)))
  (if 0 ≤ (w6 (s5 + 1)) then (if (w6 (s5 + 1)) < (s3.length : Int) then ((s3[(w6 (s5 + 1)).toNat]?).bind fun x3001 =>
  (cond x3001 (some true) ((idx b1.zB s5).bind fun x3002 => some (x3002.Op == 18))).bind fun g3003 =>
  if 0 ≤ (w6 (s5 + 1)) then (if (w6 (s5 + 1)) < (s3.length : Int) then ((s3[(w6 (s5 + 1)).toNat]?).bind fun x3004 =>
  some (.again ((s3.set ((w6 (s5 + 1)).toNat) g3003), (w6 (s5 + 1)), b1))) else none) else none) else none) else none) (some (.leave (s3, s5, b1)))
def zam.r2 (N : Nat) (x : (List Bool) × Int × zF) := zam.b2 N x.1 x.2.1 x.2.2
def zam (N : Nat) (a0 : zF) : Option ((List Bool)) :=
 if 0 ≤ (a0.zB.length : Int) then (if (a0.zB.length : Int) ≤ (a0.zB.length : Int) then (cond (Nat.ble ((a0.zB.length : Int).toNat * 1) zak)
  (if 0 ≤ (0 : Int) then (if (0 : Int) < ((List.replicate (a0.zB.length : Int).toNat (false : Bool)).length : Int) then (((List.replicate (a0.zB.length : Int).toNat (false : Bool))[(0 : Int).toNat]?).bind fun x1 =>
  (zh (zam.r0 N) N (((List.replicate (a0.zB.length : Int).toNat (false : Bool)).set ((0 : Int).toNat) true), 0, a0)).bind fun y2 =>
  (zh (zam.r2 N) N (y2.1, 0, y2.2.2)).bind fun y3 => some y3.1) else none) else none) none) else none) else none
def zam.k (N : Nat) : Kq := ⟨36, (ctv [.val Ty.zF] [(Ty.sl Ty.bool)] [] [0] [Ty.zF] (zam N)), go [] {} [(0, .plain { slots := [(1, .ptr 1 0), (3, .own 5000003 Ty.bool), (4, .val T6)], boxes := [(1, Ty.zF, [])] } [(Ty.sl Ty.bool), T6, Ty.zF] (zh (zam.r0 N) N)), (2, .plain { slots := [(1, .ptr 1 0), (3, .own 5000003 Ty.bool), (5, .val T6)], boxes := [(1, Ty.zF, [])] } [(Ty.sl Ty.bool), T6, Ty.zF] (zh (zam.r2 N) N))] Proofs.Tryz.func36 (hL := ⟨⟨_, _, rfl, by kernel_rfl⟩, ⟨_, _, rfl, by kernel_rfl⟩, trivial⟩)⟩
def zev (a0 : Int) : Option Bool :=
 (cond (a0 == 6) (some true) (some (a0 == 7))).bind fun g1 => (cond g1 (some true) (some (a0 == 8))).bind fun g2 => (cond g2 (some true) (some (a0 == 18))).bind fun g3 => some g3
def zev.k : Kq := ⟨64, (cvv [Ty.bool] [T6] zev), go [] {} [] Proofs.Tryz.func64⟩
def zgb (a0 : zF) (a1 : Int) : Option ((List Int)) :=
 (idx a0.zB a1).bind fun x1 => (cond (decide ((w6 (a1 + 1)) < (a0.zB.length : Int))) (some (x1.Op != 8)) (some false)).bind fun g2 =>
  (cond g2 (some (x1.Op != 18)) (some false)).bind fun g3 => (cond g3 (some (x1.Op != 19)) (some false)).bind fun g4 => (cond g4 (some (x1.Op != 20)) (some false)).bind fun g5 =>
  (cond g5 (some (x1.Op != 26)) (some false)).bind fun g6 => cond g6 (cond (Nat.ble (([(w6 (a1 + 1))] : List Int).length * 8) zak)
  ((zev x1.Op).bind fun r7 => cond r7 (cond (Nat.ble ((([(w6 (a1 + 1))] : List Int).length + ([x1.Target] : List Int).length) * 8) zak)
  (some (([(w6 (a1 + 1))] : List Int) ++ ([x1.Target] : List Int))) none) (some ([(w6 (a1 + 1))] : List Int))) none)
  ((zev x1.Op).bind fun r8 => cond r8 (cond (Nat.ble (([x1.Target] : List Int).length * 8) zak) (some ([x1.Target] : List Int)) none) (some []))
def zgb.k : Kq := ⟨39, (ctv [.val Ty.zF, .val T6] [(Ty.sl T6)] [] [0] [Ty.zF, T6] zgb), go [zev.k] {lits := [46, 54]} [] Proofs.Tryz.func39⟩
def zcr.b0 (N : Nat) (s0 : List Int) (s1 : Int) (s5 : Int) : Option (Round Int ((List Int) × Int × Int)) :=
 cond (decide (s5 < (s0.length : Int))) ((idx s0 s5).bind fun x1001 => cond (x1001 == s1) (some (.result s5)) (some (.again (s0, s1, (w6 (s5 + 1))))))
  (some (.leave (s0, s1, s5)))
def zcr.r0 (N : Nat) (x : (List Int) × Int × Int) := zcr.b0 N x.1 x.2.1 x.2.2
def zcr (N : Nat) (a0 : List Int) (a1 : Int) : Option Int :=
 (zg (zcr.r0 N) N (a0, a1, 0)).bind fun z2 => zat z2 (fun z => some z) (fun y1 => some (-1))
def zcr.k (N : Nat) : Kq := ⟨63, (cvv [T6] [(Ty.sl T6), T6] (zcr N)), go [] {} [(0, .rets { slots := [(0, .val (Ty.sl T6)), (1, .val T6), (5, .val T6)], boxes := [] } [(Ty.sl T6), T6, T6] (zg (zcr.r0 N) N))] Proofs.Tryz.func63 (hL := ⟨⟨_, _, rfl, by kernel_rfl⟩, trivial⟩)⟩
def zcc.b0 (N : Nat) (s0 : List zA) (s1 : Int) (s5 : List zA) (s6 : Int) : Option (Stp ((List zA) × Int × (List zA) × Int)) :=
 cond (decide (s6 < (s0.length : Int))) ((idx s0 s6).bind fun x1001 => cond (x1001.Register != s1) ((idx s0 s6).bind fun x1002 =>
  cond (Nat.ble ((s5.length + ([x1002] : List zA).length) * 40) zak) (some (.again (s0, s1, (s5 ++ ([x1002] : List zA)), (w6 (s6 + 1))))) none)
  (some (.again (s0, s1, s5, (w6 (s6 + 1)))))) (some (.leave (s0, s1, s5, s6)))
def zcc.r0 (N : Nat) (x : (List zA) × Int × (List zA) × Int) := zcc.b0 N x.1 x.2.1 x.2.2.1 x.2.2.2
def zcc (N : Nat) (a0 : List zA) (a1 : Int) : Option ((List zA)) :=
 (zh (zcc.r0 N) N (a0, a1, [], 0)).bind fun y1 => some y1.2.2.1
def zcc.k (N : Nat) : Kq := ⟨90, (cvv [(Ty.sl Ty.zA)] [(Ty.sl Ty.zA), T6] (zcc N)), go [] {lits := [25]} [(0, .plain { slots := [(0, .val (Ty.sl Ty.zA)), (1, .val T6), (5, .own 5000005 Ty.zA), (6, .val T6)], boxes := [] } [(Ty.sl Ty.zA), T6, (Ty.sl Ty.zA), T6] (zh (zcc.r0 N) N))] Proofs.Tryz.func90 (hL := ⟨⟨_, _, rfl, by kernel_rfl⟩, trivial⟩)⟩
def zcd.b0 (N : Nat) (s0 : List zA) (s3 : List zA) (s4 : Int) : Option (Stp ((List zA) × (List zA) × Int)) :=
 cond (decide (s4 < (s0.length : Int))) ((idx s0 s4).bind fun x1001 => cond (x1001.Offset == (-1)) ((idx s0 s4).bind fun x1002 =>
  cond (Nat.ble ((s3.length + ([x1002] : List zA).length) * 40) zak) (some (.again (s0, (s3 ++ ([x1002] : List zA)), (w6 (s4 + 1))))) none)
  (some (.again (s0, s3, (w6 (s4 + 1)))))) (some (.leave (s0, s3, s4)))
def zcd.r0 (N : Nat) (x : (List zA) × (List zA) × Int) := zcd.b0 N x.1 x.2.1 x.2.2
def zcd (N : Nat) (a0 : List zA) : Option ((List zA)) :=
 (zh (zcd.r0 N) N (a0, [], 0)).bind fun y1 => some y1.2.1
def zcd.k (N : Nat) : Kq := ⟨91, (cvv [(Ty.sl Ty.zA)] [(Ty.sl Ty.zA)] (zcd N)), go [] {lits := [22]} [(0, .plain { slots := [(0, .val (Ty.sl Ty.zA)), (3, .own 5000003 Ty.zA), (4, .val T6)], boxes := [] } [(Ty.sl Ty.zA), (Ty.sl Ty.zA), T6] (zh (zcd.r0 N) N))] Proofs.Tryz.func91 (hL := ⟨⟨_, _, rfl, by kernel_rfl⟩, trivial⟩)⟩
def zch.b0 (N : Nat) (s0 : List zA) (s5 : Int) (b3 : zA) : Option (Round Bool ((List zA) × Int × zA)) :=
 cond (decide (s5 < (s0.length : Int))) ((idx s0 s5).bind fun x1001 =>
  cond (zbx [(x1001.Register == b3.Register), (x1001.zD.Kind == b3.zD.Kind), (x1001.zD.Length == b3.zD.Length), (x1001.zD.Scale == b3.zD.Scale), (x1001.Offset == b3.Offset)])
  (some (.result true)) (some (.again (s0, (w6 (s5 + 1)), b3)))) (some (.leave (s0, s5, b3)))
def zch.r0 (N : Nat) (x : (List zA) × Int × zA) := zch.b0 N x.1 x.2.1 x.2.2
def zch (N : Nat) (a0 : List zA) (a1 : zA) : Option Bool :=
 (zg (zch.r0 N) N (a0, 0, a1)).bind fun z2 => zat z2 (fun z => some z) (fun y1 => some false)
def zch.k (N : Nat) : Kq := ⟨93, (cvv [Ty.bool] [(Ty.sl Ty.zA), Ty.zA] (zch N)), go [] {} [(0, .rets { slots := [(0, .val (Ty.sl Ty.zA)), (3, .ptr 3 0), (5, .val T6)], boxes := [(3, Ty.zA, [])] } [(Ty.sl Ty.zA), T6, Ty.zA] (zg (zch.r0 N) N))] Proofs.Tryz.func93 (hL := ⟨⟨_, _, rfl, by kernel_rfl⟩, trivial⟩)⟩
def zb4.b0 (N : Nat) (s5 : List Int) (s6 : List Int) (s7 : Int) : Option (Round Bool ((List Int) × (List Int) × Int)) :=
 cond (decide (s7 < (s5.length : Int))) (if 0 ≤ s7 then (if s7 < (s5.length : Int) then ((s5[s7.toNat]?).bind fun x1001 =>
  if 0 ≤ s7 then (if s7 < (s6.length : Int) then ((s6[s7.toNat]?).bind fun x1002 => cond (x1001 != x1002)
  (if 0 ≤ s7 then (if s7 < (s5.length : Int) then ((s5[s7.toNat]?).bind fun x1003 => if 0 ≤ s7 then (if s7 < (s6.length : Int) then ((s6[s7.toNat]?).bind fun x1004 =>
  some (.result (decide (x1003 < x1004)))) else none) else none) else none) else none)
  (some (.again (s5, s6, (w6 (s7 + 1)))))) else none) else none) else none) else none) (some (.leave (s5, s6, s7)))
def zb4.r0 (N : Nat) (x : (List Int) × (List Int) × Int) := zb4.b0 N x.1 x.2.1 x.2.2
def zb4 (N : Nat) (a0 : zA) (a1 : zA) : Option Bool :=
 (zg (zb4.r0 N) N (([a0.Register, a0.Offset, a0.zD.Kind, a0.zD.Length, a0.zD.Scale] : List Int), ([a1.Register, a1.Offset, a1.zD.Kind, a1.zD.Length, a1.zD.Scale] : List Int), 0)).bind fun z2 =>
  zat z2 (fun z => some z) (fun y1 => some false)
def zb4.k (N : Nat) : Kq := ⟨152, (cvv [Ty.bool] [Ty.zA, Ty.zA] (zb4 N)), go [] {} [(0, .rets { slots := [(5, .own 5000005 T6), (6, .own 5000006 T6), (7, .val T6)], boxes := [] } [(Ty.sl T6), (Ty.sl T6), T6] (zg (zb4.r0 N) N))] Proofs.Tryz.func152 (hL := ⟨⟨_, _, rfl, by kernel_rfl⟩, trivial⟩)⟩
def zcu.b0 (N : Nat) (s0 : List zA) (s5 : List zA) (s6 : Bool) (s7 : Int) (b3 : zA) : Option (Stp ((List zA) × (List zA) × Bool × Int × zA)) :=
 cond (decide (s7 < (s0.length : Int))) ((cond (!s6) ((idx s0 s7).bind fun x1001 => (zb4 N b3 x1001).bind fun r1002 => some r1002) (some false)).bind fun g1003 =>
  cond g1003 (cond (Nat.ble ((s5.length + ([b3] : List zA).length) * 40) zak) ((idx s0 s7).bind fun x1004 =>
  cond (Nat.ble (((s5 ++ ([b3] : List zA)).length + ([x1004] : List zA).length) * 40) zak)
  (some (.again (s0, ((s5 ++ ([b3] : List zA)) ++ ([x1004] : List zA)), true, (w6 (s7 + 1)), b3))) none) none) ((idx s0 s7).bind fun x1005 =>
  cond (Nat.ble ((s5.length + ([x1005] : List zA).length) * 40) zak) (some (.again (s0, (s5 ++ ([x1005] : List zA)), s6, (w6 (s7 + 1)), b3))) none))
  (some (.leave (s0, s5, s6, s7, b3)))
def zcu.r0 (N : Nat) (x : (List zA) × (List zA) × Bool × Int × zA) := zcu.b0 N x.1 x.2.1 x.2.2.1 x.2.2.2.1 x.2.2.2.2
def zcu (N : Nat) (a0 : List zA) (a1 : zA) : Option ((List zA)) :=
 (zch N a0 a1).bind fun r1 => cond r1 (some a0) ((zh (zcu.r0 N) N (a0, [], false, 0, a1)).bind fun y2 => cond (!y2.2.2.1)
  (cond (Nat.ble ((y2.2.1.length + ([y2.2.2.2.2] : List zA).length) * 40) zak) (some (y2.2.1 ++ ([y2.2.2.2.2] : List zA))) none) (some y2.2.1))
def zcu.k (N : Nat) : Kq := ⟨92, (cvv [(Ty.sl Ty.zA)] [(Ty.sl Ty.zA), Ty.zA] (zcu N)), go [zch.k N, zb4.k N] {lits := [30, 37, 43]} [(0, .plain { slots := [(0, .val (Ty.sl Ty.zA)), (3, .ptr 3 0), (5, .own 5000005 Ty.zA), (6, .val Ty.bool), (7, .val T6)], boxes := [(3, Ty.zA, [])] } [(Ty.sl Ty.zA), (Ty.sl Ty.zA), Ty.bool, T6, Ty.zA] (zh (zcu.r0 N) N))] Proofs.Tryz.func92 (hL := ⟨⟨_, _, rfl, by kernel_rfl⟩, trivial⟩)⟩
def zcv.b0 (N : Nat) (s0 : List zA) (s1 : Int) (s2 : Int) (s7 : List zA) (s8 : Int) : Option (Stp ((List zA) × Int × Int × (List zA) × Int)) :=
 cond (decide (s8 < (s0.length : Int))) ((idx s0 s8).bind fun x1001 => (cond (x1001.Offset == (-1)) (some true) ((zdl x1001.zD).bind fun r1002 =>
  some (decide ((w6 (x1001.Offset + r1002)) ≤ s1)))).bind fun g1003 => (cond g1003 (some true)
  (some (decide ((w6 (s1 + s2)) ≤ x1001.Offset)))).bind fun g1004 => cond g1004 (cond (Nat.ble ((s7.length + ([x1001] : List zA).length) * 40) zak)
  (some (.again (s0, s1, s2, (s7 ++ ([x1001] : List zA)), (w6 (s8 + 1))))) none) (some (.again (s0, s1, s2, s7, (w6 (s8 + 1))))))
  (some (.leave (s0, s1, s2, s7, s8)))
def zcv.r0 (N : Nat) (x : (List zA) × Int × Int × (List zA) × Int) := zcv.b0 N x.1 x.2.1 x.2.2.1 x.2.2.2.1 x.2.2.2.2
def zcv (N : Nat) (a0 : List zA) (a1 : Int) (a2 : Int) : Option ((List zA)) :=
 (zh (zcv.r0 N) N (a0, a1, a2, [], 0)).bind fun y1 => some y1.2.2.2.1
def zcv.k (N : Nat) : Kq := ⟨94, (cvv [(Ty.sl Ty.zA)] [(Ty.sl Ty.zA), T6, T6] (zcv N)), go [zdl.k] {lits := [43]} [(0, .plain { slots := [(0, .val (Ty.sl Ty.zA)), (1, .val T6), (2, .val T6), (7, .own 5000007 Ty.zA), (8, .val T6)], boxes := [] } [(Ty.sl Ty.zA), T6, T6, (Ty.sl Ty.zA), T6] (zh (zcv.r0 N) N))] Proofs.Tryz.func94 (hL := ⟨⟨_, _, rfl, by kernel_rfl⟩, trivial⟩)⟩
def zas.b1 (N : Nat) (s1 : List zA) (s8 : List zA) (s9 : Int) (b2 : zC) : Option (Stp ((List zA) × (List zA) × Int × zC)) :=
 cond (decide (s9 < (s1.length : Int))) ((idx s1 s9).bind fun x2001 => (zch N s1 (⟨x2001.Register, b2.zD, b2.Place.Offset⟩ : zA)).bind fun r2002 =>
  cond r2002 ((idx s1 s9).bind fun x2003 => (idx s1 s9).bind fun x2004 => (zcu N s8 (⟨b2.R, x2003.zD, x2004.Offset⟩ : zA)).bind fun r2005 =>
  some (.again (s1, r2005, (w6 (s9 + 1)), b2))) (some (.again (s1, s8, (w6 (s9 + 1)), b2)))) (some (.leave (s1, s8, s9, b2)))
def zas.r1 (N : Nat) (x : (List zA) × (List zA) × Int × zC) := zas.b1 N x.1 x.2.1 x.2.2.1 x.2.2.2
def zas.b3 (N : Nat) (s1 : List zA) (s10 : List zA) (s11 : Int) (b2 : zC) : Option (Stp ((List zA) × (List zA) × Int × zC)) :=
 cond (decide (s11 < (s1.length : Int))) ((idx s1 s11).bind fun x4001 => cond (x4001.Register == b2.A) ((idx s1 s11).bind fun x4002 => (idx s1 s11).bind fun x4003 =>
  (zcu N s10 (⟨b2.R, x4002.zD, x4003.Offset⟩ : zA)).bind fun r4004 => some (.again (s1, r4004, (w6 (s11 + 1)), b2)))
  (some (.again (s1, s10, (w6 (s11 + 1)), b2)))) (some (.leave (s1, s10, s11, b2)))
def zas.r3 (N : Nat) (x : (List zA) × (List zA) × Int × zC) := zas.b3 N x.1 x.2.1 x.2.2.1 x.2.2.2
def zas (N : Nat) (a0 : zC) (a1 : List zA) : Option ((List zA)) :=
 (zcc N a1 a0.R).bind fun r1 => (zcd N a1).bind fun r2 => cond (a0.Op == 0) ((zcu N r1 (⟨a0.R, a0.zD, (-1)⟩ : zA)).bind fun r3 =>
  cond a0.Place.Based (some r3) ((zcu N r3 (⟨a0.R, a0.zD, a0.Place.Offset⟩ : zA)).bind fun r4 => (zh (zas.r1 N) N (a1, r4, 0, a0)).bind fun y5 =>
  some y5.2.1)) (cond (a0.Op == 4) ((zcu N r1 (⟨a0.R, a0.zD, (-1)⟩ : zA)).bind fun r6 => some r6) ((cond (a0.Op == 2) (some (a0.Op == 2))
  (some (a0.Op == 21))).bind fun q7 => cond q7 (some r1) (cond (a0.Op == 3) (cond (a0.A == a0.R) (some a1) ((zh (zas.r3 N) N (a1, r1, 0, a0)).bind fun y8 =>
  some y8.2.1)) ((cond (a0.Op == 1) (some (a0.Op == 1)) (cond (a0.Op == 9) (some (a0.Op == 9)) (some (a0.Op == 10)))).bind fun q9 => cond q9 (cond a0.Place.Based (some r2)
  ((zdl a0.zD).bind fun r10 => (zcv N a1 a0.Place.Offset r10).bind fun r11 => (cond (a0.Op == 1) ((zch N a1 (⟨a0.R, a0.zD, (-1)⟩ : zA)).bind fun r12 =>
  some r12) (some false)).bind fun g13 => cond g13 ((zcu N r11 (⟨a0.R, a0.zD, a0.Place.Offset⟩ : zA)).bind fun r14 => some r14) (some r11))) ((cond (a0.Op == 14)
  (some (a0.Op == 14)) (cond (a0.Op == 15) (some (a0.Op == 15)) (some (a0.Op == 16)))).bind fun q15 => cond q15 ((zcv N a1 a0.Pointer 16).bind fun r16 => some r16)
  (some a1))))))
def zas.k (N : Nat) : Kq := ⟨38, (cvv [(Ty.sl Ty.zA)] [Ty.zC, (Ty.sl Ty.zA)] (zas N)), go [zcc.k N, zcd.k N, zcu.k N, zch.k N, zcv.k N, zdl.k] {lits := [142], bj := [85, 128, 163]} [(1, .plain { slots := [(1, .val (Ty.sl Ty.zA)), (2, .ptr 2 0), (8, .val (Ty.sl Ty.zA)), (9, .val T6)], boxes := [(2, Ty.zC, [])] } [(Ty.sl Ty.zA), (Ty.sl Ty.zA), T6, Ty.zC] (zh (zas.r1 N) N)), (3, .plain { slots := [(1, .val (Ty.sl Ty.zA)), (2, .ptr 2 0), (10, .val (Ty.sl Ty.zA)), (11, .val T6)], boxes := [(2, Ty.zC, [])] } [(Ty.sl Ty.zA), (Ty.sl Ty.zA), T6, Ty.zC] (zh (zas.r3 N) N))] Proofs.Tryz.func38 (hL := ⟨⟨_, _, rfl, by kernel_rfl⟩, ⟨_, _, rfl, by kernel_rfl⟩, trivial⟩)⟩
def zd.b2 (N : Nat) (s2 : List (List zA)) (s9 : Int) (s10 : Int) (b3 : zI) (b4 : zF) : Option (Round (Int × Int) ((List (List zA)) × Int × Int × zI × zF)) :=
 (idx s2 s9).bind fun x3001 => cond (decide (s10 < (x3001.length : Int))) ((idx s2 s9).bind fun x3002 => (idx x3002 s10).bind fun x3003 =>
  (zl x3003.Register 0 (w6 (b3.Registers - 1))).bind fun r3004 => cond (!r3004) (some (.result (s9, 3))) ((zf2 x3003.zD).bind fun r3005 =>
  (cond (r3005 != 0) (some true) ((zck x3003.zD.Kind).bind fun r3006 => some (!r3006))).bind fun g3007 => cond g3007 (some (.result (s9, 17)))
  ((cond (x3003.Offset != (-1)) ((zdl x3003.zD).bind fun r3008 => (zfj b4.Storage x3003.Offset r3008).bind fun r3009 => some (!r3009))
  (some false)).bind fun g3010 => cond g3010 (some (.result (s9, 3))) (some (.again (s2, s9, (w6 (s10 + 1)), b3, b4)))))) (some (.leave (s2, s9, s10, b3, b4)))
def zd.r2 (N : Nat) (x : (List (List zA)) × Int × Int × zI × zF) := zd.b2 N x.1 x.2.1 x.2.2.1 x.2.2.2.1 x.2.2.2.2
def zd.b0 (N : Nat) (s2 : List (List zA)) (s9 : Int) (b3 : zI) (b4 : zF) : Option (Round (Int × Int) ((List (List zA)) × Int × zI × zF)) :=
 cond (decide (s9 < (s2.length : Int))) ((idx s2 s9).bind fun x1001 => cond (decide ((x1001.length : Int) > 60)) (some (.result (s9, 2)))
  ((zg (zd.r2 N) N (s2, s9, 0, b3, b4)).bind fun z1003 => zat z1003 (fun z => some (.result z)) (fun y1002 =>
  some (.again (y1002.1, (w6 (y1002.2.1 + 1)), y1002.2.2.2.1, y1002.2.2.2.2))))) (some (.leave (s2, s9, b3, b4)))
def zd.r0 (N : Nat) (x : (List (List zA)) × Int × zI × zF) := zd.b0 N x.1 x.2.1 x.2.2.1 x.2.2.2
def zd.b9 (N : Nat) (s2 : List (List zA)) (s12 : List Bool) (s13 : Int) (s14 : Int) (s15 : List zA) (s16 : Int) (b4 : zF) : Option (Round (Int × Int) ((List (List zA)) × (List Bool) × Int × Int × (List zA) × Int × zF)) :=
 (idx s2 s13).bind fun x10001 => cond (decide (s16 < (x10001.length : Int))) ((idx s2 s13).bind fun x10002 => (idx x10002 s16).bind fun x10003 =>
  (zch N s15 x10003).bind fun r10004 => cond (!r10004) (some (.result (s13, 42))) (some (.again (s2, s12, s13, s14, s15, (w6 (s16 + 1)), b4))))
  (some (.leave (s2, s12, s13, s14, s15, s16, b4)))
def zd.r9 (N : Nat) (x : (List (List zA)) × (List Bool) × Int × Int × (List zA) × Int × zF) := zd.b9 N x.1 x.2.1 x.2.2.1 x.2.2.2.1 x.2.2.2.2.1 x.2.2.2.2.2.1 x.2.2.2.2.2.2
def zd.b7 (N : Nat) (s2 : List (List zA)) (s12 : List Bool) (s13 : Int) (s14 : Int) (b4 : zF) : Option (Round (Int × Int) ((List (List zA)) × (List Bool) × Int × Int × zF)) :=
 cond (decide (s14 < (s2.length : Int))) ((zgb b4 s14).bind fun r8001 => (zcr N r8001 s13).bind fun r8002 => cond (r8002 == (-1))
  (some (.again (s2, s12, s13, (w6 (s14 + 1)), b4))) ((idx b4.zB s14).bind fun x8003 => (idx s2 s14).bind fun x8004 =>
  (zas N x8003 x8004).bind fun r8005 => (zg (zd.r9 N) N (s2, s12, s13, s14, r8005, 0, b4)).bind fun z8007 => zat z8007 (fun z => some (.result z))
  (fun y8006 => some (.again (y8006.1, y8006.2.1, y8006.2.2.1, (w6 (y8006.2.2.2.1 + 1)), y8006.2.2.2.2.2.2))))) (some (.leave (s2, s12, s13, s14, b4)))
def zd.r7 (N : Nat) (x : (List (List zA)) × (List Bool) × Int × Int × zF) := zd.b7 N x.1 x.2.1 x.2.2.1 x.2.2.2.1 x.2.2.2.2
def zd.b5 (N : Nat) (s2 : List (List zA)) (s12 : List Bool) (s13 : Int) (b4 : zF) : Option (Round (Int × Int) ((List (List zA)) × (List Bool) × Int × zF)) :=
 cond (decide (s13 < (s2.length : Int))) (if 0 ≤ s13 then (if s13 < (s12.length : Int) then ((s12[s13.toNat]?).bind fun x6001 => (cond x6001 ((idx s2 s13).bind fun x6002 =>
  some (decide ((x6002.length : Int) > 0))) (some false)).bind fun g6003 => cond g6003 (some (.result (s13, 42)))
  ((zg (zd.r7 N) N (s2, s12, s13, 0, b4)).bind fun z6005 => zat z6005 (fun z => some (.result z)) (fun y6004 =>
  some (.again (y6004.1, y6004.2.1, (w6 (y6004.2.2.1 + 1)), y6004.2.2.2.2))))) else none) else none) (some (.leave (s2, s12, s13, b4)))
def zd.r5 (N : Nat) (x : (List (List zA)) × (List Bool) × Int × zF) := zd.b5 N x.1 x.2.1 x.2.2.1 x.2.2.2
def zd (N : Nat) (a0 : zI) (a1 : zF) (a2 : List (List zA)) : Option (Int × Int) :=
 (zfi N a0 a1).bind fun r1 => cond (r1 != 0) (some (0, r1)) (cond ((a2.length : Int) != (a1.zB.length : Int)) (some (0, 6))
  ((zg (zd.r0 N) N (a2, 0, a0, a1)).bind fun z3 => zat z3 (fun z => some z) (fun y2 => (zam N y2.2.2.2).bind fun r4 =>
  (zg (zd.r5 N) N (y2.1, r4, 0, y2.2.2.2)).bind fun z6 => zat z6 (fun z => some z) (fun y5 => some ((y5.1.length : Int), 0)))))
def zd.k (N : Nat) : Kq := ⟨69, (cvv [T6, T6] [Ty.zI, Ty.zF, (Ty.sl (Ty.sl Ty.zA))] (zd N)), go [zfi.k N, zam.k N, zas.k N, zgb.k, zcr.k N, zl.k, zch.k N, zdl.k, zf2.k, zck.k, zfj.k] {lits := [91, 125]} [(2, .rets { slots := [(2, .val (Ty.sl (Ty.sl Ty.zA))), (3, .ptr 3 0), (4, .ptr 4 0), (9, .val T6), (10, .val T6)], boxes := [(3, Ty.zI, []), (4, Ty.zF, [])] } [(Ty.sl (Ty.sl Ty.zA)), T6, T6, Ty.zI, Ty.zF] (zg (zd.r2 N) N)), (0, .rets { slots := [(2, .val (Ty.sl (Ty.sl Ty.zA))), (3, .ptr 3 0), (4, .ptr 4 0), (9, .val T6)], boxes := [(3, Ty.zI, []), (4, Ty.zF, [])] } [(Ty.sl (Ty.sl Ty.zA)), T6, Ty.zI, Ty.zF] (zg (zd.r0 N) N)), (9, .rets { slots := [(2, .val (Ty.sl (Ty.sl Ty.zA))), (4, .ptr 4 0), (12, .own 5000012 Ty.bool), (13, .val T6), (14, .val T6), (15, .val (Ty.sl Ty.zA)), (16, .val T6)], boxes := [(4, Ty.zF, [])] } [(Ty.sl (Ty.sl Ty.zA)), (Ty.sl Ty.bool), T6, T6, (Ty.sl Ty.zA), T6, Ty.zF] (zg (zd.r9 N) N)), (7, .rets { slots := [(2, .val (Ty.sl (Ty.sl Ty.zA))), (4, .ptr 4 0), (12, .own 5000012 Ty.bool), (13, .val T6), (14, .val T6)], boxes := [(4, Ty.zF, [])] } [(Ty.sl (Ty.sl Ty.zA)), (Ty.sl Ty.bool), T6, T6, Ty.zF] (zg (zd.r7 N) N)), (5, .rets { slots := [(2, .val (Ty.sl (Ty.sl Ty.zA))), (4, .ptr 4 0), (12, .own 5000012 Ty.bool), (13, .val T6)], boxes := [(4, Ty.zF, [])] } [(Ty.sl (Ty.sl Ty.zA)), (Ty.sl Ty.bool), T6, Ty.zF] (zg (zd.r5 N) N))] Proofs.Tryz.func69 (hL := ⟨⟨_, _, rfl, by kernel_rfl⟩, ⟨_, _, rfl, by kernel_rfl⟩, ⟨_, _, rfl, by kernel_rfl⟩, ⟨_, _, rfl, by kernel_rfl⟩, ⟨_, _, rfl, by kernel_rfl⟩, trivial⟩)⟩
def zdo.b0 (N : Nat) (s0 : List Bool) (s1 : List Bool) (s5 : Int) : Option (Round Bool ((List Bool) × (List Bool) × Int)) :=
 cond (decide (s5 < (s0.length : Int))) ((idx s0 s5).bind fun x1001 => (idx s1 s5).bind fun x1002 => cond (!(x1001 == x1002)) (some (.result false))
  (some (.again (s0, s1, (w6 (s5 + 1)))))) (some (.leave (s0, s1, s5)))
def zdo.r0 (N : Nat) (x : (List Bool) × (List Bool) × Int) := zdo.b0 N x.1 x.2.1 x.2.2
def zdo (N : Nat) (a0 : List Bool) (a1 : List Bool) : Option Bool :=
 cond ((a0.length : Int) != (a1.length : Int)) (some false) ((zg (zdo.r0 N) N (a0, a1, 0)).bind fun z2 => zat z2 (fun z => some z) (fun y1 => some true))
def zdo.k (N : Nat) : Kq := ⟨107, (cvv [Ty.bool] [(Ty.sl Ty.bool), (Ty.sl Ty.bool)] (zdo N)), go [] {} [(0, .rets { slots := [(0, .val (Ty.sl Ty.bool)), (1, .val (Ty.sl Ty.bool)), (5, .val T6)], boxes := [] } [(Ty.sl Ty.bool), (Ty.sl Ty.bool), T6] (zg (zdo.r0 N) N))] Proofs.Tryz.func107 (hL := ⟨⟨_, _, rfl, by kernel_rfl⟩, trivial⟩)⟩
def zh0 (N : Nat) (a0 : Storage) (a1 : Storage) : Option Bool :=
 (cond (a0.Bytes.toList == a1.Bytes.toList) ((zdo N a0.Tags a1.Tags).bind fun r1 => some r1) (some false)).bind fun g2 => some g2
def zh0.k (N : Nat) : Kq := ⟨61, (cvv [Ty.bool] [Ty.Storage, Ty.Storage] (zh0 N)), go [zdo.k N] {} [] Proofs.Tryz.func61⟩
def zha (a0 : zC) : Option Bool :=
 (cond (a0.Op == 0) (some (!a0.Place.Based)) (some false)).bind fun g1 => some g1
def zha.k : Kq := ⟨71, (cvv [Ty.bool] [Ty.zC] zha), go [] {} [] Proofs.Tryz.func71⟩
def zgl (N : Nat) (a0 : List zA) (a1 : zC) (a2 : Int) : Option Bool :=
 (zch N a0 (⟨a2, a1.zD, a1.Place.Offset⟩ : zA)).bind fun r1 => some r1
def zgl.k (N : Nat) : Kq := ⟨72, (cvv [Ty.bool] [(Ty.sl Ty.zA), Ty.zC, T6] (zgl N)), go [zch.k N] {} [] Proofs.Tryz.func72⟩
def ze.b0 (N : Nat) (s8 : Int) (s9 : List Int) (s10 : Int) (b1 : Optimization) : Option (Stp (Int × (List Int) × Int × Optimization)) :=
 cond (decide (s10 < s8)) (if 0 ≤ s10 then (if s10 < (s9.length : Int) then ((s9[s10.toNat]?).bind fun x1001 => (idx b1.Proof.Index s10).bind fun x1002 =>
  (zc4 (x1002 != (-1))).bind fun r1003 =>
  if 0 ≤ (w6 (s10 + 1)) then (if (w6 (s10 + 1)) < (s9.length : Int) then ((s9[(w6 (s10 + 1)).toNat]?).bind fun x1004 =>
  some (.again (s8, (s9.set ((w6 (s10 + 1)).toNat)
  (w6 (x1001 + r1003))), (w6 (s10 + 1)), b1))) else none) else none) else none) else none) (some (.leave (s8, s9, s10, b1)))
def ze.r0 (N : Nat) (x : Int × (List Int) × Int × Optimization) := ze.b0 N x.1 x.2.1 x.2.2.1 x.2.2.2
end
end Go.Proofs.YtnpfkhdbmlhfhaaGreatDoor.M
