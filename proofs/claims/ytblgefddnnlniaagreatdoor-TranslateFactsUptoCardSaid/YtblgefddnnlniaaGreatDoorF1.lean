/- What the program's functions compute, each tied to its code: part 1. -/
import Derived.Test.YtblgefddnnlniaaGreatDoorF0
namespace Go.Proofs.YtblgefddnnlniaaGreatDoor.M
open Go Go.Amx
set_option linter.unusedVariables false
set_option maxRecDepth 100000
noncomputable section
def zad.r2 (N : Nat) (x : (List zM) × Int × Int × zJ × zU) := zad.b2 N x.1 x.2.1 x.2.2.1 x.2.2.2.1 x.2.2.2.2
def zad.b4 (N : Nat) (s87 : List zT) (s88 : Int) (s89 : Int) (b1 : zJ) (b2 : zU) : Option (Round (zU × Int) ((List zT) × Int × Int × zJ × zU)) :=
 cond (decide (s89 < s88)) ((idx s87 s89).bind fun x5001 => (zhq b1 x5001).bind fun r5002 => cond (r5002 != 0) (some (.result ((⟨3, s89⟩ : zU), r5002)))
  (some (.again (s87, s88, (w6 (s89 + 1)), b1, b2)))) (some (.leave (s87, s88, s89, b1, b2)))
def zad.r4 (N : Nat) (x : (List zT) × Int × Int × zJ × zU) := zad.b4 N x.1 x.2.1 x.2.2.1 x.2.2.2.1 x.2.2.2.2
def zad (N : Nat) (a0 : zJ) : Option (zU × Int) :=
 (cond (decide ((a0.zS.length : Int) > 24)) (some true) (some (decide ((a0.zA.length : Int) > 40)))).bind fun g1 => (cond g1 (some true)
  (some (decide ((a0.yA.length : Int) > 6)))).bind fun g2 => (zbp g2 2).bind fun r3 => (zbp ((a0.zA.length : Int) == 0) 1).bind fun r4 =>
  (zci N ([r3, r4] : List Int)).bind fun r5 => cond (r5 != 0) (some ((⟨0, 0⟩ : zU), r5))
  ((zaa (zad.r0 N) N ((a0.zS.length : Int), 0, a0, (⟨0, 0⟩ : zU))).bind fun z7 => zbd z7 (fun z => some z) (fun y6 =>
  (zat N y6.2.2.1.zS).bind fun r8 => cond (decide (r8.2 > 24)) (some ((⟨0, 0⟩ : zU), 30))
  ((zaa (zad.r2 N) N (y6.2.2.1.zA, (y6.2.2.1.zA.length : Int), 0, y6.2.2.1, y6.2.2.2)).bind fun z10 => zbd z10 (fun z => some z) (fun y9 =>
  (zaa (zad.r4 N) N (y9.2.2.2.1.yA, (y9.2.2.2.1.yA.length : Int), 0, y9.2.2.2.1, y9.2.2.2.2)).bind fun z12 => zbd z12 (fun z => some z) (fun y11 =>
  some ((⟨0, 0⟩ : zU), 0))))))
def zad.k (N : Nat) : Kq := ⟨110, (cvv [Ty.zU, T6] [Ty.zJ] (zad N)), go [zat.k N, zci.k N, zbp.k, zhp.k N, zb1.k N, zhq.k] {lits := [33, 38, 39]} [(0, .rets { slots := [(1, .ptr 1 0), (2, .ptr 2 0), (47, .val T6), (48, .val T6)], boxes := [(1, Ty.zJ, []), (2, Ty.zU, [])] } [T6, T6, Ty.zJ, Ty.zU] (zaa (zad.r0 N) N)), (2, .rets { slots := [(1, .ptr 1 0), (2, .ptr 2 0), (70, .val (Ty.sl Ty.zM)), (71, .val T6), (72, .val T6)], boxes := [(1, Ty.zJ, []), (2, Ty.zU, [])] } [(Ty.sl Ty.zM), T6, T6, Ty.zJ, Ty.zU] (zaa (zad.r2 N) N)), (4, .rets { slots := [(1, .ptr 1 0), (2, .ptr 2 0), (87, .val (Ty.sl Ty.zT)), (88, .val T6), (89, .val T6)], boxes := [(1, Ty.zJ, []), (2, Ty.zU, [])] } [(Ty.sl Ty.zT), T6, T6, Ty.zJ, Ty.zU] (zaa (zad.r4 N) N))] Proofs.Tryz.func110 (hL := ⟨⟨_, _, rfl, by kernel_rfl⟩, ⟨_, _, rfl, by kernel_rfl⟩, ⟨_, _, rfl, by kernel_rfl⟩, trivial⟩)⟩
def zgl (N : Nat) (a0 : zJ) : Option Int :=
 (zad N a0).bind fun r1 => some r1.2
def zgl.k (N : Nat) : Kq := ⟨78, (cvv [T6] [Ty.zJ] (zgl N)), go [zad.k N] {} [] Proofs.Tryz.func78⟩
def zdw.b0 (N : Nat) (s5 : List Int) (s6 : Int) (s7 : Int) : Option (Round Int ((List Int) × Int × Int)) :=
 cond (decide (s7 < s6)) ((idx s5 s7).bind fun x1001 => cond (x1001 != 0) (some (.result x1001)) (some (.again (s5, s6, (w6 (s7 + 1)))))) (some (.leave (s5, s6, s7)))
def zdw.r0 (N : Nat) (x : (List Int) × Int × Int) := zdw.b0 N x.1 x.2.1 x.2.2
def zdw (N : Nat) (a0 : List Int) : Option Int :=
 (zaa (zdw.r0 N) N (a0, (a0.length : Int), 0)).bind fun z2 => zbd z2 (fun z => some z) (fun y1 => some 0)
def zdw.k (N : Nat) : Kq := ⟨54, (cvv [T6] [(Ty.sl T6)] (zdw N)), go [] {} [(0, .rets { slots := [(5, .val (Ty.sl T6)), (6, .val T6), (7, .val T6)], boxes := [] } [(Ty.sl T6), T6, T6] (zaa (zdw.r0 N) N))] Proofs.Tryz.func54 (hL := ⟨⟨_, _, rfl, by kernel_rfl⟩, trivial⟩)⟩
def ze8 (N : Nat) (a0 : zJ) : Option Int :=
 (zad N a0).bind fun r1 => some r1.2
def ze8.k (N : Nat) : Kq := ⟨113, (cvv [T6] [Ty.zJ] (ze8 N)), go [zad.k N] {} [] Proofs.Tryz.func113⟩
def zjz (N : Nat) (a0 : zJ) : Option ((List Int) × Int × Int) :=
 (ze8 N a0).bind fun r1 => cond (r1 != 0) (some ([], 0, r1)) ((zat N a0.zS).bind fun r2 => some (r2.1, r2.2, 0))
def zjz.k (N : Nat) : Kq := ⟨80, (cvv [(Ty.sl T6), T6, T6] [Ty.zJ] (zjz N)), go [ze8.k N, zat.k N] {} [] Proofs.Tryz.func80⟩
def zuk : Ct U := { params := [.val Ty.str, .val T6], results := [Ty.str], outs := [], fresh := [], fn := app U [Ty.str, T6] (R := PT U [Ty.str]) (zuj) }
theorem zuk.meets : zhh (zom [] [] [] [] [] [] [] []) 163 zuk :=
 zx9 ⟨_, Proofs.Tryz.func163, rfl, by kernel_rfl⟩ (t := Ty.str) rfl rfl rfl rfl fun ds y hy E0 h0 ha μ H w us hA hm hG => by
  obtain ⟨s, n, rfl, hx⟩ := z65 hy; unfold zuj at hx; split at hx
  · rename_i hn; cases hx; have hE : some ([.sc (.string s), .sc (.int .i64 n)], []) = some (E0, h0) := ha; cases hE; cases hA with
    | cons h1 h2 =>
     cases h2 with
     | cons h2 h3 =>
      cases h3; have hu := h1.int; have hu2 := h2.int; subst hu hu2; refine ⟨_, rfl, ?_⟩; have hc := Proofs.Tryz.strings_Repeat s n.toNat w (by omega) hn.2.2; have he : ((n.toNat : Nat) : Int) = n := by omega
      rw [he] at hc; exact hc.mono fun e w' hh => ⟨_, hh.1, zxv hh.2, .sc _⟩
  · cases hx
def zuk.k : Kq := ⟨163, zuk, zuk.meets⟩
def zh8 (a0 : Int) : Option (Storage × Int) :=
 (zdj a0 0 64).bind fun r1 => cond (!r1) (some ((⟨(⟨#[]⟩ : ByteArray), []⟩ : Storage), 3)) ((zuj (⟨#[0]⟩ : ByteArray) (w6 (a0 * 16))).bind fun r2 =>
  if 0 ≤ a0 then (if a0 ≤ a0 then (cond (Nat.ble (a0.toNat * 1) zao) (some ((⟨r2, (List.replicate a0.toNat (false : Bool))⟩ : Storage), 0)) none) else none) else none)
def zh8.k : Kq := ⟨115, (cvv [Ty.Storage, T6] [T6] zh8), go [zdj.k, zuk.k] {} [] Proofs.Tryz.func115⟩
def zef.b0 (N : Nat) (s0 : Int) (s5 : List Int) (s6 : Int) : Option (Stp (Int × (List Int) × Int)) :=
 cond (decide (s6 ≥ 0)) (if 0 ≤ s6 then (if s6 < (s5.length : Int) then ((s5[s6.toNat]?).bind fun x1001 =>
  some (.again ((w6 (s0.tdiv 10)), (s5.set s6.toNat (IntKind.wrap .u8 (s0.tmod 10))), (w6 (s6 - 1))))) else none) else none)
  (some (.leave (s0, s5, s6)))
def zef.r0 (N : Nat) (x : Int × (List Int) × Int) := zef.b0 N x.1 x.2.1 x.2.2
def zef (N : Nat) (a0 : Int) (a1 : Int) : Option ((List Int)) :=
 if 0 ≤ a1 then (if a1 ≤ a1 then (cond (Nat.ble (a1.toNat * 1) zao)
  ((zd (zef.r0 N) N (a0, (List.replicate a1.toNat (0 : Int)), (w6 (a1 - 1)))).bind fun y1 => some y1.2.1) none) else none) else none
def zef.k (N : Nat) : Kq := ⟨204, (ctv [.val T6, .val T6] [(Ty.sl (Ty.int .u8))] [] [0] [T6, T6] (zef N)), go [] {} [(0, .plain { slots := [(0, .val T6), (5, .own 5000005 (Ty.int .u8)), (6, .val T6)], boxes := [] } [T6, (Ty.sl (Ty.int .u8)), T6] (zd (zef.r0 N) N))] Proofs.Tryz.func204 (hL := ⟨⟨_, _, rfl, by kernel_rfl⟩, trivial⟩)⟩
def zcs.b0 (N : Nat) (s0 : List Int) (s3 : List Int) (s4 : Int) : Option (Stp ((List Int) × (List Int) × Int)) :=
 cond (decide (s4 < (s0.length : Int))) ((idx s0 s4).bind fun x1001 => (idx s0 (w6 (s4 + 1))).bind fun x1002 =>
  cond (Nat.ble ((s3.length + ([(orI .u8 (IntKind.wrap .u8 (x1001 * 2 ^ (min (4 : Int).toNat 8))) x1002)] : List Int).length) * 1) zao)
  (some (.again (s0, (s3 ++ ([(orI .u8 (IntKind.wrap .u8 (x1001 * 2 ^ (min (4 : Int).toNat 8))) x1002)] : List Int)), (w6 (s4 + 2))))) none)
  (some (.leave (s0, s3, s4)))
def zcs.r0 (N : Nat) (x : (List Int) × (List Int) × Int) := zcs.b0 N x.1 x.2.1 x.2.2
def zcs (N : Nat) (a0 : List Int) : Option ByteArray :=
 (zd (zcs.r0 N) N (a0, [], 0)).bind fun y1 => some (zi6 y1.2.1)
def zcs.k (N : Nat) : Kq := ⟨205, (cvv [Ty.str] [(Ty.sl (Ty.int .u8))] (zcs N)), go [] {lits := [23]} [(0, .plain { slots := [(0, .val (Ty.sl (Ty.int .u8))), (3, .own 5000003 (Ty.int .u8)), (4, .val T6)], boxes := [] } [(Ty.sl (Ty.int .u8)), (Ty.sl (Ty.int .u8)), T6] (zd (zcs.r0 N) N))] Proofs.Tryz.func205 (hL := ⟨⟨_, _, rfl, by kernel_rfl⟩, trivial⟩)⟩
def zbw.b1 (N : Nat) (s5 : List Int) (s25 : Int) (s26 : Int) (b3 : Value) : Option (Stp ((List Int) × Int × Int × Value)) :=
 cond (decide (s26 < s25)) (if 0 ≤ s26 then (if s26 < (s5.length : Int) then ((s5[s26.toNat]?).bind fun x2001 =>
  if 0 ≤ s26 then (if s26 < (s5.length : Int) then ((s5[s26.toNat]?).bind fun x2002 =>
  some (.again ((s5.set s26.toNat (IntKind.wrap .u8 (x2001 + 240))), s25, (w6 (s26 + 1)), b3))) else none) else none) else none) else none)
  (some (.leave (s5, s25, s26, b3)))
def zbw.r1 (N : Nat) (x : (List Int) × Int × Int × Value) := zbw.b1 N x.1 x.2.1 x.2.2.1 x.2.2.2
def zbw.b3 (N : Nat) (s8 : List Int) (s9 : Int) (s10 : Int) : Option (Stp ((List Int) × Int × Int)) :=
 cond (decide (s9 ≥ 0)) (if 0 ≤ s9 then (if s9 < (s8.length : Int) then ((s8[s9.toNat]?).bind fun x4001 =>
  some (.again ((s8.set s9.toNat (IntKind.wrap .u8 s10)), (w6 (s9 - 1)), (s10.fdiv (2 ^ (min (8 : Int).toNat 64)))))) else none) else none)
  (some (.leave (s8, s9, s10)))
def zbw.r3 (N : Nat) (x : (List Int) × Int × Int) := zbw.b3 N x.1 x.2.1 x.2.2
def zbw (N : Nat) (a0 : DataType) (a1 : Value) : Option ByteArray :=
 (zef N (if (w6 (0 - a1.N)) > a1.N then (w6 (0 - a1.N)) else a1.N) a0.Length).bind fun r1 => cond (a0.Kind == 2)
  ((zd (zbw.r1 N) N (r1, (r1.length : Int), 0, a1)).bind fun y2 => cond (decide (y2.2.2.2.N < 0))
  (if 0 ≤ (w6 ((y2.1.length : Int) - 1)) then (if (w6 ((y2.1.length : Int) - 1)) < (y2.1.length : Int) then ((y2.1[(w6 ((y2.1.length : Int) - 1)).toNat]?).bind fun x3 =>
  if 0 ≤ (w6 ((y2.1.length : Int) - 1)) then (if (w6 ((y2.1.length : Int) - 1)) < (y2.1.length : Int) then ((y2.1[(w6 ((y2.1.length : Int) - 1)).toNat]?).bind fun x4 =>
  some (zi6 (y2.1.set ((w6 ((y2.1.length : Int) - 1)).toNat) (IntKind.wrap .u8 (x3 - 32))))) else none) else none) else none) else none) (some (zi6 y2.1)))
  (cond (a0.Kind == 1) (cond (decide (a1.N < 0)) (cond (((r1.length : Int).tmod 2) == 0) (cond (Nat.ble ((([0] : List Int).length + r1.length) * 1) zao)
  (cond (Nat.ble (((([0] : List Int) ++ r1).length + ([13] : List Int).length) * 1) zao) ((zcs N ((([0] : List Int) ++ r1) ++ ([13] : List Int))).bind fun r5 =>
  some r5) none) none) (cond (Nat.ble ((r1.length + ([13] : List Int).length) * 1) zao) ((zcs N (r1 ++ ([13] : List Int))).bind fun r6 => some r6) none))
  (cond (((r1.length : Int).tmod 2) == 0) (cond (Nat.ble ((([0] : List Int).length + r1.length) * 1) zao)
  (cond (Nat.ble (((([0] : List Int) ++ r1).length + ([15] : List Int).length) * 1) zao) ((zcs N ((([0] : List Int) ++ r1) ++ ([15] : List Int))).bind fun r7 =>
  some r7) none) none) (cond (Nat.ble ((r1.length + ([15] : List Int).length) * 1) zao) ((zcs N (r1 ++ ([15] : List Int))).bind fun r8 => some r8) none)))
  (cond (a0.Kind == 3) ((zgd a0).bind fun r9 => if 0 ≤ r9 then (if r9 ≤ r9 then (cond (Nat.ble (r9.toNat * 1) zao)
  ((zd (zbw.r3 N) N ((List.replicate r9.toNat (0 : Int)), (w6 (((List.replicate r9.toNat (0 : Int)).length : Int) - 1)), a1.N)).bind fun y10 =>
  some (zi6 y10.1)) none) else none) else none) (some a1.S)))
def zbw.k (N : Nat) : Kq := ⟨165, (cvv [Ty.str] [Ty.DataType, Ty.Value] (zbw N)), go [zgd.k, zef.k N, zcs.k N] {lits := [16, 63, 64]} [(1, .plain { slots := [(3, .ptr 3 0), (5, .own 5000005 (Ty.int .u8)), (25, .val T6), (26, .val T6)], boxes := [(3, Ty.Value, [])] } [(Ty.sl (Ty.int .u8)), T6, T6, Ty.Value] (zd (zbw.r1 N) N)), (3, .plain { slots := [(8, .own 5000008 (Ty.int .u8)), (9, .val T6), (10, .val T6)], boxes := [] } [(Ty.sl (Ty.int .u8)), T6, T6] (zd (zbw.r3 N) N))] Proofs.Tryz.func165 (hL := ⟨⟨_, _, rfl, by kernel_rfl⟩, ⟨_, _, rfl, by kernel_rfl⟩, trivial⟩)⟩
def zj1 (N : Nat) (a0 : DataType) (a1 : Value) : Option (ByteArray × Int) :=
 (zd9 N a0 a1).bind fun r1 => cond (r1 != 0) (some ((⟨#[]⟩ : ByteArray), r1)) ((zbw N a0 a1).bind fun r2 => some (r2, 0))
def zj1.k (N : Nat) : Kq := ⟨116, (cvv [Ty.str, T6] [Ty.DataType, Ty.Value] (zj1 N)), go [zd9.k N, zbw.k N] {} [] Proofs.Tryz.func116⟩
def zki (N : Nat) (a0 : Storage) (a1 : Int) (a2 : Int) : Option Int :=
 (zak N a0).bind fun r1 => cond (r1.2 != 0) (some r1.2) ((cond (decide (a1 < 0)) (some true) (some (decide (a2 < 0)))).bind fun g2 => (cond g2 (some true)
  (some (decide (a1 > (a0.Bytes.size : Int))))).bind fun g3 => (cond g3 (some true) (some (decide (a2 > (w6 ((a0.Bytes.size : Int) - a1)))))).bind fun g4 =>
  cond g4 (some 3) (some 0))
def zki.k (N : Nat) : Kq := ⟨166, (cvv [T6] [Ty.Storage, T6, T6] (zki N)), go [zak.k N] {} [] Proofs.Tryz.func166⟩
def zmv (a0 : Storage) (a1 : Int) (a2 : ByteArray) : Option Storage :=
 if 0 ≤ a1 ∧ a1 ≤ (a0.Bytes.size : Int) then (if 0 ≤ (0 : Int) ∧ (0 : Int) ≤ a1 then (if (((a0.Bytes.extract (0 : Int).toNat a1.toNat).size + a2.size : Nat) : Int) > IntKind.i64.max then none else if 0 ≤ (w6 (a1 + (a2.size : Int))) ∧ (w6 (a1 + (a2.size : Int))) ≤ (a0.Bytes.size : Int) then (if ((((a0.Bytes.extract (0 : Int).toNat a1.toNat) ++ a2).size + (a0.Bytes.extract (w6 (a1 + (a2.size : Int))).toNat a0.Bytes.size).size : Nat) : Int) > IntKind.i64.max then none else (zj8 1 a0.Tags).bind fun r1 =>
  cond (!(a2.toList == (⟨#[]⟩ : ByteArray).toList))
  (if 0 ≤ (w6 ((w6 ((w6 ((w6 (a1 + (a2.size : Int))) - 1)).tdiv 16)) + 1)) ∧ (w6 ((w6 ((w6 ((w6 (a1 + (a2.size : Int))) - 1)).tdiv 16)) + 1)) ≤ (r1.length : Int) then (if 0 ≤ (w6 (a1.tdiv 16)) ∧ (w6 (a1.tdiv 16)) ≤ (w6 ((w6 ((w6 ((w6 (a1 + (a2.size : Int))) - 1)).tdiv 16)) + 1)) then (some (⟨(((a0.Bytes.extract (0 : Int).toNat a1.toNat) ++ a2) ++ (a0.Bytes.extract (w6 (a1 + (a2.size : Int))).toNat a0.Bytes.size)), (r1.take ((w6 (a1.tdiv 16)).toNat) ++ List.replicate ((w6 ((w6 ((w6 ((w6 (a1 + (a2.size : Int))) - 1)).tdiv 16)) + 1)).toNat - (w6 (a1.tdiv 16)).toNat)
  (false : Bool) ++ r1.drop ((w6 (a1.tdiv 16)).toNat + ((w6 ((w6 ((w6 ((w6 (a1 + (a2.size : Int))) - 1)).tdiv 16)) + 1)).toNat - (w6 (a1.tdiv 16)).toNat)))⟩ : Storage)) else none) else none)
  (some (⟨(((a0.Bytes.extract (0 : Int).toNat a1.toNat) ++ a2) ++ (a0.Bytes.extract (w6 (a1 + (a2.size : Int))).toNat a0.Bytes.size)), r1⟩ : Storage))) else none) else none) else none
def zmv.k : Kq := ⟨167, (ctv [.val Ty.Storage, .val T6, .val Ty.str] [Ty.Storage] [] [1] [Ty.Storage, T6, Ty.str] zmv), go [x44.k] {} [] Proofs.Tryz.func167⟩
def zh7 (N : Nat) (a0 : Storage) (a1 : Int) (a2 : ByteArray) : Option (Storage × Int) :=
 (zki N a0 a1 (a2.size : Int)).bind fun r1 => cond (r1 != 0) (some ((⟨(⟨#[]⟩ : ByteArray), []⟩ : Storage), r1)) ((zmv a0 a1 a2).bind fun r2 => some (r2, 0))
def zh7.k (N : Nat) : Kq := ⟨117, (cvv [Ty.Storage, T6] [Ty.Storage, T6, Ty.str] (zh7 N)), go [zki.k N, zmv.k] {lits := [12]} [] Proofs.Tryz.func117⟩
def zb2.b0 (N : Nat) (s5 : List Int) (s8 : Int) (s31 : List zH) (s32 : Int) (s33 : Int) (b2 : Storage) (b7 : Storage) : Option (Round (Storage × Int) ((List Int) × Int × (List zH) × Int × Int × Storage × Storage)) :=
 cond (decide (s33 < s32)) ((idx s31 s33).bind fun x1001 => (cond (x1001.Kind != 0) (some true) (some (s8 != 0))).bind fun g1002 =>
  cond g1002 (some (.again (s5, s8, s31, s32, (w6 (s33 + 1)), b2, b7))) ((zj1 N x1001.zD x1001.Value).bind fun r1003 => cond (r1003.2 != 0)
  (some (.result ((⟨(⟨#[]⟩ : ByteArray), []⟩ : Storage), r1003.2))) ((idx s5 s33).bind fun x1004 => (zh7 N b7 x1004 r1003.1).bind fun r1005 =>
  some (.again (s5, r1005.2, s31, s32, (w6 (s33 + 1)), b2, r1005.1))))) (some (.leave (s5, s8, s31, s32, s33, b2, b7)))
def zb2.r0 (N : Nat) (x : (List Int) × Int × (List zH) × Int × Int × Storage × Storage) := zb2.b0 N x.1 x.2.1 x.2.2.1 x.2.2.2.1 x.2.2.2.2.1 x.2.2.2.2.2.1 x.2.2.2.2.2.2
def zb2 (N : Nat) (a0 : zJ) : Option (Storage × Int) :=
 (ze8 N a0).bind fun r1 => cond (r1 != 0) (some ((⟨(⟨#[]⟩ : ByteArray), []⟩ : Storage), r1)) ((zat N a0.zS).bind fun r2 =>
  (zh8 r2.2).bind fun r3 =>
  (zaa (zb2.r0 N) N (r2.1, r3.2, a0.zS, (a0.zS.length : Int), 0, (⟨(⟨#[]⟩ : ByteArray), []⟩ : Storage), r3.1)).bind fun z5 => zbd z5 (fun z =>
  some z) (fun y4 => some (y4.2.2.2.2.2.2, y4.2.1)))
def zb2.k (N : Nat) : Kq := ⟨81, (cvv [Ty.Storage, T6] [Ty.zJ] (zb2 N)), go [ze8.k N, zat.k N, zh8.k, zj1.k N, zh7.k N] {} [(0, .rets { slots := [(2, .ptr 2 0), (5, .val (Ty.sl T6)), (7, .ptr 7 0), (8, .val T6), (31, .val (Ty.sl Ty.zH)), (32, .val T6), (33, .val T6)], boxes := [(2, Ty.Storage, [1]), (7, Ty.Storage, [])] } [(Ty.sl T6), T6, (Ty.sl Ty.zH), T6, T6, Ty.Storage, Ty.Storage] (zaa (zb2.r0 N) N))] Proofs.Tryz.func81 (hL := ⟨⟨_, _, rfl, by kernel_rfl⟩, trivial⟩)⟩
def zb (a0 : zG) (a1 : zC) : Option zG :=
 cond (Nat.ble ((a0.code.length + ([a1] : List zC).length) * 224) zao)
  (some (⟨a0.zJ, a0.layout, (a0.code ++ ([a1] : List zC))⟩ : zG)) none
def zb.k : Kq := ⟨83, (ctv [.ptr Ty.zG true [4], .val Ty.zC] [] [Ty.zG] [] [Ty.zG, Ty.zC] zb), go [] {lits := [10], pk := [1000000]} [] Proofs.Tryz.func83⟩
def zc4 (a0 : zH) : Option Bool :=
 some (a0.zD.Kind != 0)
def zc4.k : Kq := ⟨168, (cvv [Ty.bool] [Ty.zH] zc4), go [] {} [] Proofs.Tryz.func168⟩
def za6 (a0 : zH) : Option Bool :=
 some (a0.Kind == 4)
def za6.k : Kq := ⟨169, (cvv [Ty.bool] [Ty.zH] za6), go [] {} [] Proofs.Tryz.func169⟩
def zd2 (a0 : zH) (a1 : zH) : Option Bool :=
 some (a0.Name.toList == a1.Base.toList)
def zd2.k : Kq := ⟨206, (ctv [.val Ty.zH, .ptr Ty.zH false []] [Ty.bool] [] [] [Ty.zH, Ty.zH] zd2), go [] {ro := [1000000], pk := [1000000]} [] Proofs.Tryz.func206⟩
def zap.b0 (N : Nat) (s0 : List zH) (s7 : Int) (s8 : Int) (b1000000 : zH) : Option (Round Int ((List zH) × Int × Int × zH)) :=
 cond (decide (s8 < s7)) ((idx s0 s8).bind fun x1001 => (zd2 x1001 b1000000).bind fun r1002 => cond r1002 (some (.result s8))
  (some (.again (s0, s7, (w6 (s8 + 1)), b1000000)))) (some (.leave (s0, s7, s8, b1000000)))
def zap.r0 (N : Nat) (x : (List zH) × Int × Int × zH) := zap.b0 N x.1 x.2.1 x.2.2.1 x.2.2.2
def zap (N : Nat) (a0 : List zH) (a1 : zH) : Option Int :=
 (zaa (zap.r0 N) N (a0, (a0.length : Int), 0, a1)).bind fun z2 => zbd z2 (fun z => some z) (fun y1 => some (-1))
def zap.k (N : Nat) : Kq := ⟨196, (ctv [.val (Ty.sl Ty.zH), .clo 206 1, .ptr Ty.zH false []] [T6] [] [] [(Ty.sl Ty.zH), Ty.zH] (zap N)), go [zd2.k] {ro := [1000000], pk := [1000000]} [(0, .rets { slots := [(0, .val (Ty.sl Ty.zH)), (1, .fn 206 [1000000]), (7, .val T6), (8, .val T6)], boxes := [(1000000, Ty.zH, [])] } [(Ty.sl Ty.zH), T6, T6, Ty.zH] (zaa (zap.r0 N) N))] Proofs.Tryz.func196 (hL := ⟨⟨_, _, rfl, by kernel_rfl⟩, trivial⟩)⟩
def zo (N : Nat) (a0 : zG) (a1 : Int) : Option zK :=
 (idx a0.zJ.zS a1).bind fun x1 => cond (x1.Kind != 2) ((idx a0.layout a1).bind fun x2 => some (⟨false, 0, x2⟩ : zK))
  ((zap N a0.zJ.zS x1).bind fun r3 => (idx a0.layout r3).bind fun x4 => some (⟨true, x4, x1.Offset⟩ : zK))
def zo.k (N : Nat) : Kq := ⟨170, (ctv [.ptr Ty.zG false [], .val T6] [Ty.zK] [] [] [Ty.zG, T6] (zo N)), go [zap.k N] {ro := [1000000], pk := [1000000]} [] Proofs.Tryz.func170⟩
def zae (N : Nat) (a0 : zG) (a1 : Int) (a2 : Int) : Option zG :=
 (idx a0.zJ.zS a2).bind fun x1 => (za6 x1).bind fun r2 =>
  cond r2 ((zb a0 (⟨2, a1, 0, 0, 0, (⟨false, 0, 0⟩ : zK), (⟨false, 0, 0⟩ : zK), (⟨0, 0, 0⟩ : DataType), (⟨0, 0, 0⟩ : DataType), false, false, (⟨x1.Value.N, x1.zD.Scale⟩ : Number), (⟨#[]⟩ : ByteArray), (⟨#[]⟩ : ByteArray), 0, 0, 0, 0⟩ : zC)).bind fun r3 =>
  some r3) ((zo N a0 a2).bind fun r4 =>
  (zb a0 (⟨0, a1, 0, 0, 0, r4, (⟨false, 0, 0⟩ : zK), x1.zD, (⟨0, 0, 0⟩ : DataType), false, false, (⟨0, 0⟩ : Number), (⟨#[]⟩ : ByteArray), (⟨#[]⟩ : ByteArray), 0, 0, 0, 0⟩ : zC)).bind fun r5 =>
  some r5)
def zae.k (N : Nat) : Kq := ⟨122, (ctv [.ptr Ty.zG true [4], .val T6, .val T6] [] [Ty.zG] [] [Ty.zG, T6, T6] (zae N)), go [zb.k, za6.k, zo.k N] {lits := [32], pk := [1000000]} [] Proofs.Tryz.func122⟩
def zbv (N : Nat) (a0 : zG) (a1 : Int) (a2 : Bool) : Option zG :=
 (zo N a0 a1).bind fun r1 => (idx a0.zJ.zS a1).bind fun x2 =>
  (zb a0 (⟨1, 0, 0, 0, 0, r1, (⟨false, 0, 0⟩ : zK), x2.zD, (⟨0, 0, 0⟩ : DataType), a2, false, (⟨0, 0⟩ : Number), (⟨#[]⟩ : ByteArray), (⟨#[]⟩ : ByteArray), 0, 0, 0, 0⟩ : zC)).bind fun r3 =>
  some r3
def zbv.k (N : Nat) : Kq := ⟨123, (ctv [.ptr Ty.zG true [4], .val T6, .val Ty.bool] [] [Ty.zG] [] [Ty.zG, T6, Ty.bool] (zbv N)), go [zb.k, zo.k N] {lits := [9], pk := [1000000]} [] Proofs.Tryz.func123⟩
def zfa (N : Nat) (a0 : zG) (a1 : zM) : Option zG :=
 (idx a1.Args 0).bind fun x1 => (idx a1.Args 1).bind fun x2 => (idx a0.zJ.zS x1).bind fun x3 => (idx a0.zJ.zS x2).bind fun x4 =>
  (zc4 x3).bind fun r5 => cond r5 ((zae N a0 0 x2).bind fun r6 => (zbv N r6 x1 (a1.Op == 1)).bind fun r7 => some r7)
  ((za6 x4).bind fun r8 => cond r8 ((zo N a0 x1).bind fun r9 =>
  (zb a0 (⟨10, 0, 0, 0, 0, r9, (⟨false, 0, 0⟩ : zK), x3.zD, (⟨0, 0, 0⟩ : DataType), false, false, (⟨0, 0⟩ : Number), x4.Value.S, (⟨#[]⟩ : ByteArray), 0, 0, 0, 0⟩ : zC)).bind fun r10 =>
  some r10) ((zo N a0 x1).bind fun r11 => (zo N a0 x2).bind fun r12 =>
  (zb a0 (⟨9, 0, 0, 0, 0, r11, r12, x3.zD, x4.zD, false, false, (⟨0, 0⟩ : Number), (⟨#[]⟩ : ByteArray), (⟨#[]⟩ : ByteArray), 0, 0, 0, 0⟩ : zC)).bind fun r13 =>
  some r13))
def zfa.k (N : Nat) : Kq := ⟨118, (ctv [.ptr Ty.zG true [4], .val Ty.zM] [] [Ty.zG] [] [Ty.zG, Ty.zM] (zfa N)), go [zb.k, zae.k N, zbv.k N, zc4.k, za6.k, zo.k N] {lits := [35, 40, 63], pk := [1000000]} [] Proofs.Tryz.func118⟩
def zdu (N : Nat) (a0 : zG) (a1 : zM) : Option zG :=
 (idx a1.Args 1).bind fun x1 => (zae N a0 0 x1).bind fun r2 => (idx a1.Args 2).bind fun x3 => (zae N r2 1 x3).bind fun r4 =>
  (idx a1.Args 0).bind fun x5 => (idx r4.zJ.zS x5).bind fun x6 =>
  (zb r4 (⟨4, 0, 0, 1, (w6 ((w6 (a1.Op - 2)) + 0)), (⟨false, 0, 0⟩ : zK), (⟨false, 0, 0⟩ : zK), x6.zD, (⟨0, 0, 0⟩ : DataType), false, false, (⟨0, 0⟩ : Number), (⟨#[]⟩ : ByteArray), (⟨#[]⟩ : ByteArray), 0, 0, 0, 0⟩ : zC)).bind fun r7 =>
  (idx a1.Args 0).bind fun x8 => (zbv N r7 x8 false).bind fun r9 => some r9
def zdu.k (N : Nat) : Kq := ⟨119, (ctv [.ptr Ty.zG true [4], .val Ty.zM] [] [Ty.zG] [] [Ty.zG, Ty.zM] (zdu N)), go [zb.k, zae.k N, zbv.k N] {pk := [1000000]} [] Proofs.Tryz.func119⟩
def ze0 (N : Nat) (a0 : zG) (a1 : Int) (a2 : Int) : Option (Bool × zG) :=
 (idx a0.zJ.zS a1).bind fun x1 => (idx a0.zJ.zS a2).bind fun x2 => (za6 x1).bind fun r3 =>
  (cond r3 ((za6 x2).bind fun r4 => some r4) (some false)).bind fun g5 =>
  cond g5 ((zb a0 (⟨13, 0, 0, 0, 0, (⟨false, 0, 0⟩ : zK), (⟨false, 0, 0⟩ : zK), (⟨0, 0, 0⟩ : DataType), (⟨0, 0, 0⟩ : DataType), false, false, (⟨0, 0⟩ : Number), x1.Value.S, x2.Value.S, 0, 0, 0, 0⟩ : zC)).bind fun r6 =>
  some (false, r6)) ((za6 x2).bind fun r7 => cond r7 ((zo N a0 a1).bind fun r8 =>
  (zb a0 (⟨12, 0, 0, 0, 0, r8, (⟨false, 0, 0⟩ : zK), x1.zD, (⟨0, 0, 0⟩ : DataType), false, false, (⟨0, 0⟩ : Number), x2.Value.S, (⟨#[]⟩ : ByteArray), 0, 0, 0, 0⟩ : zC)).bind fun r9 =>
  some (false, r9)) ((za6 x1).bind fun r10 => cond r10 ((zo N a0 a2).bind fun r11 =>
  (zb a0 (⟨12, 0, 0, 0, 0, r11, (⟨false, 0, 0⟩ : zK), x2.zD, (⟨0, 0, 0⟩ : DataType), false, false, (⟨0, 0⟩ : Number), x1.Value.S, (⟨#[]⟩ : ByteArray), 0, 0, 0, 0⟩ : zC)).bind fun r12 =>
  some (true, r12)) ((zo N a0 a1).bind fun r13 => (zo N a0 a2).bind fun r14 =>
  (zb a0 (⟨11, 0, 0, 0, 0, r13, r14, x1.zD, x2.zD, false, false, (⟨0, 0⟩ : Number), (⟨#[]⟩ : ByteArray), (⟨#[]⟩ : ByteArray), 0, 0, 0, 0⟩ : zC)).bind fun r15 =>
  some (false, r15))))
def ze0.k (N : Nat) : Kq := ⟨171, (ctv [.ptr Ty.zG true [4], .val T6, .val T6] [Ty.bool] [Ty.zG] [] [Ty.zG, T6, T6] (ze0 N)), go [zb.k, za6.k, zo.k N] {lits := [28, 33, 60, 74], pk := [1000000]} [] Proofs.Tryz.func171⟩
def zen (N : Nat) (a0 : zG) (a1 : zM) : Option zG :=
 (idx a1.Args 0).bind fun x1 => (idx a0.zJ.zS x1).bind fun x2 => (zc4 x2).bind fun r3 => cond r3 ((idx a1.Args 0).bind fun x4 =>
  (zae N a0 0 x4).bind fun r5 => (idx a1.Args 1).bind fun x6 => (zae N r5 1 x6).bind fun r7 =>
  (zb r7 (⟨5, 0, 0, 1, 0, (⟨false, 0, 0⟩ : zK), (⟨false, 0, 0⟩ : zK), (⟨0, 0, 0⟩ : DataType), (⟨0, 0, 0⟩ : DataType), false, false, (⟨0, 0⟩ : Number), (⟨#[]⟩ : ByteArray), (⟨#[]⟩ : ByteArray), 0, 0, 0, 0⟩ : zC)).bind fun r8 =>
  (cond (a1.Op == 8) (some false) (some false)).bind fun g9 => cond g9 ((idx a1.Args 2).bind fun x10 => (idx r8.zJ.zS x10).bind fun x11 =>
  (zb r8 (⟨6, 0, 0, 0, 0, (⟨false, 0, 0⟩ : zK), (⟨false, 0, 0⟩ : zK), (⟨0, 0, 0⟩ : DataType), (⟨0, 0, 0⟩ : DataType), false, false, (⟨0, 0⟩ : Number), (⟨#[]⟩ : ByteArray), (⟨#[]⟩ : ByteArray), 4, x11.Target, 0, 0⟩ : zC)).bind fun r12 =>
  some r12) (cond (a1.Op == 8) ((idx a1.Args 2).bind fun x13 => (idx r8.zJ.zS x13).bind fun x14 =>
  (zb r8 (⟨6, 0, 0, 0, 0, (⟨false, 0, 0⟩ : zK), (⟨false, 0, 0⟩ : zK), (⟨0, 0, 0⟩ : DataType), (⟨0, 0, 0⟩ : DataType), false, false, (⟨0, 0⟩ : Number), (⟨#[]⟩ : ByteArray), (⟨#[]⟩ : ByteArray), 1, x14.Target, 0, 0⟩ : zC)).bind fun r15 =>
  some r15) ((idx a1.Args 2).bind fun x16 => (idx r8.zJ.zS x16).bind fun x17 =>
  (zb r8 (⟨6, 0, 0, 0, 0, (⟨false, 0, 0⟩ : zK), (⟨false, 0, 0⟩ : zK), (⟨0, 0, 0⟩ : DataType), (⟨0, 0, 0⟩ : DataType), false, false, (⟨0, 0⟩ : Number), (⟨#[]⟩ : ByteArray), (⟨#[]⟩ : ByteArray), 2, x17.Target, 0, 0⟩ : zC)).bind fun r18 =>
  some r18))) ((idx a1.Args 0).bind fun x19 => (idx a1.Args 1).bind fun x20 => (ze0 N a0 x19 x20).bind fun r21 => (cond (a1.Op == 8) (some r21.1)
  (some false)).bind fun g22 => cond g22 ((idx a1.Args 2).bind fun x23 => (idx r21.2.zJ.zS x23).bind fun x24 =>
  (zb r21.2 (⟨6, 0, 0, 0, 0, (⟨false, 0, 0⟩ : zK), (⟨false, 0, 0⟩ : zK), (⟨0, 0, 0⟩ : DataType), (⟨0, 0, 0⟩ : DataType), false, false, (⟨0, 0⟩ : Number), (⟨#[]⟩ : ByteArray), (⟨#[]⟩ : ByteArray), 4, x24.Target, 0, 0⟩ : zC)).bind fun r25 =>
  some r25) (cond (a1.Op == 8) ((idx a1.Args 2).bind fun x26 => (idx r21.2.zJ.zS x26).bind fun x27 =>
  (zb r21.2 (⟨6, 0, 0, 0, 0, (⟨false, 0, 0⟩ : zK), (⟨false, 0, 0⟩ : zK), (⟨0, 0, 0⟩ : DataType), (⟨0, 0, 0⟩ : DataType), false, false, (⟨0, 0⟩ : Number), (⟨#[]⟩ : ByteArray), (⟨#[]⟩ : ByteArray), 1, x27.Target, 0, 0⟩ : zC)).bind fun r28 =>
  some r28) ((idx a1.Args 2).bind fun x29 => (idx r21.2.zJ.zS x29).bind fun x30 =>
  (zb r21.2 (⟨6, 0, 0, 0, 0, (⟨false, 0, 0⟩ : zK), (⟨false, 0, 0⟩ : zK), (⟨0, 0, 0⟩ : DataType), (⟨0, 0, 0⟩ : DataType), false, false, (⟨0, 0⟩ : Number), (⟨#[]⟩ : ByteArray), (⟨#[]⟩ : ByteArray), 2, x30.Target, 0, 0⟩ : zC)).bind fun r31 =>
  some r31)))
def zen.k (N : Nat) : Kq := ⟨120, (ctv [.ptr Ty.zG true [4], .val Ty.zM] [] [Ty.zG] [] [Ty.zG, Ty.zM] (zen N)), go [zb.k, zae.k N, zc4.k, ze0.k N] {pk := [1000000]} [] Proofs.Tryz.func120⟩
def zd1 (N : Nat) (a0 : zG) (a1 : zM) : Option zG :=
 (idx a1.Args 0).bind fun x1 => (idx a0.layout x1).bind fun x2 => cond (a1.Op == 10) ((idx a1.Args 1).bind fun x3 => (zo N a0 x3).bind fun r4 =>
  (idx a1.Args 1).bind fun x5 => (idx a0.zJ.zS x5).bind fun x6 =>
  (zb a0 (⟨14, 0, 0, 0, 0, r4, (⟨false, 0, 0⟩ : zK), x6.zD, (⟨0, 0, 0⟩ : DataType), false, false, (⟨0, 0⟩ : Number), (⟨#[]⟩ : ByteArray), (⟨#[]⟩ : ByteArray), 0, 0, x2, 0⟩ : zC)).bind fun r7 =>
  some r7) (cond (a1.Op == 11) ((idx a1.Args 1).bind fun x8 => (idx a0.layout x8).bind fun x9 =>
  (zb a0 (⟨15, 0, 0, 0, 0, (⟨false, 0, 0⟩ : zK), (⟨false, 0, 0⟩ : zK), (⟨0, 0, 0⟩ : DataType), (⟨0, 0, 0⟩ : DataType), false, false, (⟨0, 0⟩ : Number), (⟨#[]⟩ : ByteArray), (⟨#[]⟩ : ByteArray), 0, 0, x2, x9⟩ : zC)).bind fun r10 =>
  some r10) (cond (a1.Op == 12)
  ((zb a0 (⟨17, 0, 0, 0, 0, (⟨false, 0, 0⟩ : zK), (⟨false, 0, 0⟩ : zK), (⟨0, 0, 0⟩ : DataType), (⟨0, 0, 0⟩ : DataType), false, false, (⟨0, 0⟩ : Number), (⟨#[]⟩ : ByteArray), (⟨#[]⟩ : ByteArray), 0, 0, x2, 0⟩ : zC)).bind fun r11 =>
  (idx a1.Args 1).bind fun x12 => (zae N r11 0 x12).bind fun r13 =>
  (zb r13 (⟨16, 0, 0, 0, 0, (⟨false, 0, 0⟩ : zK), (⟨false, 0, 0⟩ : zK), (⟨0, 0, 0⟩ : DataType), (⟨0, 0, 0⟩ : DataType), false, false, (⟨0, 0⟩ : Number), (⟨#[]⟩ : ByteArray), (⟨#[]⟩ : ByteArray), 0, 0, x2, 0⟩ : zC)).bind fun r14 =>
  some r14) (some a0)))
def zd1.k (N : Nat) : Kq := ⟨121, (ctv [.ptr Ty.zG true [4], .val Ty.zM] [] [Ty.zG] [] [Ty.zG, Ty.zM] (zd1 N)), go [zb.k, zae.k N, zo.k N] {lits := [26], pk := [1000000]} [] Proofs.Tryz.func121⟩
def ze1 (N : Nat) (a0 : zG) (a1 : Int) : Option zG :=
 (idx a0.zJ.zS a1).bind fun x1 => (zc4 x1).bind fun r2 => cond r2 ((zae N a0 0 a1).bind fun r3 =>
  (zb r3 (⟨22, 0, 0, 0, 0, (⟨false, 0, 0⟩ : zK), (⟨false, 0, 0⟩ : zK), (⟨0, 0, 0⟩ : DataType), (⟨0, 0, 0⟩ : DataType), false, false, (⟨0, 0⟩ : Number), (⟨#[]⟩ : ByteArray), (⟨#[]⟩ : ByteArray), 0, 0, 0, 0⟩ : zC)).bind fun r4 =>
  some r4) ((za6 x1).bind fun r5 =>
  cond r5 ((zb a0 (⟨24, 0, 0, 0, 0, (⟨false, 0, 0⟩ : zK), (⟨false, 0, 0⟩ : zK), (⟨0, 0, 0⟩ : DataType), (⟨0, 0, 0⟩ : DataType), false, false, (⟨0, 0⟩ : Number), x1.Value.S, (⟨#[]⟩ : ByteArray), 0, 0, 0, 0⟩ : zC)).bind fun r6 =>
  some r6) ((zo N a0 a1).bind fun r7 =>
  (zb a0 (⟨23, 0, 0, 0, 0, r7, (⟨false, 0, 0⟩ : zK), x1.zD, (⟨0, 0, 0⟩ : DataType), false, false, (⟨0, 0⟩ : Number), (⟨#[]⟩ : ByteArray), (⟨#[]⟩ : ByteArray), 0, 0, 0, 0⟩ : zC)).bind fun r8 =>
  some r8))
def ze1.k (N : Nat) : Kq := ⟨124, (ctv [.ptr Ty.zG true [4], .val T6] [] [Ty.zG] [] [Ty.zG, T6] (ze1 N)), go [zb.k, zae.k N, zc4.k, za6.k, zo.k N] {lits := [16], pk := [1000000]} [] Proofs.Tryz.func124⟩
def zdg (N : Nat) (a0 : zG) (a1 : zM) : Option zG :=
 (zb a0 (⟨25, 0, 0, 0, 0, (⟨false, 0, 0⟩ : zK), (⟨false, 0, 0⟩ : zK), (⟨0, 0, 0⟩ : DataType), (⟨0, 0, 0⟩ : DataType), false, false, (⟨0, 0⟩ : Number), (⟨#[]⟩ : ByteArray), (⟨#[]⟩ : ByteArray), 0, 0, 0, 0⟩ : zC)).bind fun r1 =>
  (cond (a1.Op == 0) (some (a1.Op == 0)) (some (a1.Op == 1))).bind fun q2 => cond q2 ((zfa N r1 a1).bind fun r3 => some r3) ((cond (a1.Op == 2)
  (some (a1.Op == 2)) (cond (a1.Op == 3) (some (a1.Op == 3)) (cond (a1.Op == 4) (some (a1.Op == 4)) (cond (a1.Op == 5) (some (a1.Op == 5)) (some (a1.Op == 6)))))).bind fun q4 =>
  cond q4 ((zdu N r1 a1).bind fun r5 => some r5) ((cond (a1.Op == 7) (some (a1.Op == 7)) (some (a1.Op == 8))).bind fun q6 =>
  cond q6 ((zen N r1 a1).bind fun r7 => some r7) (cond (a1.Op == 9) ((idx a1.Args 0).bind fun x8 => (idx r1.zJ.zS x8).bind fun x9 =>
  (zb r1 (⟨8, 0, 0, 0, 0, (⟨false, 0, 0⟩ : zK), (⟨false, 0, 0⟩ : zK), (⟨0, 0, 0⟩ : DataType), (⟨0, 0, 0⟩ : DataType), false, false, (⟨0, 0⟩ : Number), (⟨#[]⟩ : ByteArray), (⟨#[]⟩ : ByteArray), 0, x9.Target, 0, 0⟩ : zC)).bind fun r10 =>
  some r10) (cond (a1.Op == 13) ((idx a1.Args 0).bind fun x11 => (idx r1.zJ.zS x11).bind fun x12 =>
  (zb r1 (⟨18, 0, 0, 0, 0, (⟨false, 0, 0⟩ : zK), (⟨false, 0, 0⟩ : zK), (⟨0, 0, 0⟩ : DataType), (⟨0, 0, 0⟩ : DataType), false, false, (⟨0, 0⟩ : Number), (⟨#[]⟩ : ByteArray), (⟨#[]⟩ : ByteArray), 0, x12.Target, 0, 0⟩ : zC)).bind fun r13 =>
  some r13) ((cond (a1.Op == 10) (some (a1.Op == 10)) (cond (a1.Op == 11) (some (a1.Op == 11)) (some (a1.Op == 12)))).bind fun q14 =>
  cond q14 ((zd1 N r1 a1).bind fun r15 => some r15) (cond (a1.Op == 14)
  ((zb r1 (⟨19, 0, 0, 0, 0, (⟨false, 0, 0⟩ : zK), (⟨false, 0, 0⟩ : zK), (⟨0, 0, 0⟩ : DataType), (⟨0, 0, 0⟩ : DataType), false, false, (⟨0, 0⟩ : Number), (⟨#[]⟩ : ByteArray), (⟨#[]⟩ : ByteArray), 0, 0, 0, 0⟩ : zC)).bind fun r16 =>
  some r16) (cond (a1.Op == 15) ((idx a1.Args 0).bind fun x17 => (zae N r1 0 x17).bind fun r18 =>
  (zb r18 (⟨20, 0, 0, 0, 0, (⟨false, 0, 0⟩ : zK), (⟨false, 0, 0⟩ : zK), (⟨0, 0, 0⟩ : DataType), (⟨0, 0, 0⟩ : DataType), false, false, (⟨0, 0⟩ : Number), (⟨#[]⟩ : ByteArray), (⟨#[]⟩ : ByteArray), 0, 0, 0, 0⟩ : zC)).bind fun r19 =>
  some r19) (cond (a1.Op == 16)
  ((zb r1 (⟨21, 0, 0, 0, 0, (⟨false, 0, 0⟩ : zK), (⟨false, 0, 0⟩ : zK), (⟨0, 0, 0⟩ : DataType), (⟨0, 0, 0⟩ : DataType), false, false, (⟨0, 0⟩ : Number), (⟨#[]⟩ : ByteArray), (⟨#[]⟩ : ByteArray), 0, 0, 0, 0⟩ : zC)).bind fun r20 =>
  (idx a1.Args 0).bind fun x21 => (zbv N r20 x21 false).bind fun r22 => some r22) (cond (a1.Op == 17) ((idx a1.Args 0).bind fun x23 =>
  (ze1 N r1 x23).bind fun r24 => some r24) (cond (a1.Op == 18)
  ((zb r1 (⟨26, 0, 0, 0, 0, (⟨false, 0, 0⟩ : zK), (⟨false, 0, 0⟩ : zK), (⟨0, 0, 0⟩ : DataType), (⟨0, 0, 0⟩ : DataType), false, false, (⟨0, 0⟩ : Number), (⟨#[]⟩ : ByteArray), (⟨#[]⟩ : ByteArray), 0, 0, 0, 0⟩ : zC)).bind fun r25 =>
  some r25) (some r1)))))))))))
def zdg.k (N : Nat) : Kq := ⟨82, (ctv [.ptr Ty.zG true [4], .val Ty.zM] [] [Ty.zG] [] [Ty.zG, Ty.zM] (zdg N)), go [zb.k, zfa.k N, zdu.k N, zen.k N, zd1.k N, zae.k N, zbv.k N, ze1.k N] {pk := [1000000], bj := [9, 15, 24, 64]} [] Proofs.Tryz.func82⟩
def zc7.b0 (N : Nat) (s1 : List Int) (s5 : List zP) (s8 : List zT) (s9 : Int) (s10 : Int) : Option (Stp ((List Int) × (List zP) × (List zT) × Int × Int)) :=
 cond (decide (s10 < s9)) ((idx s8 s10).bind fun x1001 => (idx s1 x1001.From).bind fun x1002 => (idx s1 x1001.To).bind fun x1003 => (idx s1 x1001.Handler).bind fun x1004 =>
  cond (Nat.ble ((s5.length + ([(⟨x1002, x1003, x1001.Exception, x1004⟩ : zP)] : List zP).length) * 32) zao)
  (some (.again (s1, (s5 ++ ([(⟨x1002, x1003, x1001.Exception, x1004⟩ : zP)] : List zP)), s8, s9, (w6 (s10 + 1))))) none) (some (.leave (s1, s5, s8, s9, s10)))
def zc7.r0 (N : Nat) (x : (List Int) × (List zP) × (List zT) × Int × Int) := zc7.b0 N x.1 x.2.1 x.2.2.1 x.2.2.2.1 x.2.2.2.2
def zc7 (N : Nat) (a0 : List zT) (a1 : List Int) : Option ((List zP)) :=
 (zd (zc7.r0 N) N (a1, [], a0, (a0.length : Int), 0)).bind fun y1 => some y1.2.1
def zc7.k (N : Nat) : Kq := ⟨85, (cvv [(Ty.sl Ty.zP)] [(Ty.sl Ty.zT), (Ty.sl T6)] (zc7 N)), go [] {lits := [33]} [(0, .plain { slots := [(1, .val (Ty.sl T6)), (5, .own 5000005 Ty.zP), (8, .val (Ty.sl Ty.zT)), (9, .val T6), (10, .val T6)], boxes := [] } [(Ty.sl T6), (Ty.sl Ty.zP), (Ty.sl Ty.zT), T6, T6] (zd (zc7.r0 N) N))] Proofs.Tryz.func85 (hL := ⟨⟨_, _, rfl, by kernel_rfl⟩, trivial⟩)⟩
def za4.b0 (N : Nat) (s13 : List Int) (s55 : List zM) (s56 : Int) (s57 : Int) (b2 : zJ) (b4 : zF) (b5 : zX) (b11 : Storage) (b53 : zG) : Option (Stp ((List Int) × (List zM) × Int × Int × zJ × zF × zX × Storage × zG)) :=
 cond (decide (s57 < s56)) ((idx s55 s57).bind fun x1001 => cond (Nat.ble ((s13.length + ([(b53.code.length : Int)] : List Int).length) * 8) zao)
  ((zdg N b53 x1001).bind fun r1002 =>
  some (.again ((s13 ++ ([(b53.code.length : Int)] : List Int)), s55, s56, (w6 (s57 + 1)), b2, b4, b5, b11, r1002))) none)
  (some (.leave (s13, s55, s56, s57, b2, b4, b5, b11, b53)))
def za4.r0 (N : Nat) (x : (List Int) × (List zM) × Int × Int × zJ × zF × zX × Storage × zG) := za4.b0 N x.1 x.2.1 x.2.2.1 x.2.2.2.1 x.2.2.2.2.1 x.2.2.2.2.2.1 x.2.2.2.2.2.2.1 x.2.2.2.2.2.2.2.1 x.2.2.2.2.2.2.2.2
def za4.b2 (N : Nat) (s13 : List Int) (s88 : Int) (s89 : Int) (b2 : zJ) (b4 : zF) (b5 : zX) (b11 : Storage) (b53 : zG) : Option (Stp ((List Int) × Int × Int × zJ × zF × zX × Storage × zG)) :=
 cond (decide (s89 < s88)) (if 0 ≤ s89 then (if s89 < (b53.code.length : Int) then ((b53.code[s89.toNat]?).bind fun x3001 => (zch x3001.Op).bind fun r3002 =>
  cond r3002 (if 0 ≤ x3001.Target then (if x3001.Target < (s13.length : Int) then ((s13[x3001.Target.toNat]?).bind fun x3003 =>
  if 0 ≤ s89 then (if s89 < (b53.code.length : Int) then ((b53.code[s89.toNat]?).bind fun x3004 =>
  some (.again (s13, s88, (w6 (s89 + 1)), b2, b4, b5, b11, (⟨b53.zJ, b53.layout, (b53.code.set s89.toNat (⟨x3004.Op, x3004.R, x3004.A, x3004.B, x3004.zO, x3004.Place, x3004.From, x3004.zD, x3004.Second, x3004.Half, x3004.zN, x3004.Number, x3004.Text, x3004.Other, x3004.Mask, x3003, x3004.Pointer, x3004.Source⟩ : zC))⟩ : zG)))) else none) else none) else none) else none)
  (some (.again (s13, s88, (w6 (s89 + 1)), b2, b4, b5, b11, b53)))) else none) else none) (some (.leave (s13, s88, s89, b2, b4, b5, b11, b53)))
def za4.r2 (N : Nat) (x : (List Int) × Int × Int × zJ × zF × zX × Storage × zG) := za4.b2 N x.1 x.2.1 x.2.2.1 x.2.2.2.1 x.2.2.2.2.1 x.2.2.2.2.2.1 x.2.2.2.2.2.2.1 x.2.2.2.2.2.2.2
def za4 (N : Nat) (a0 : zJ) (a1 : zI) : Option (zF × zX × Int) :=
 (zgl N a0).bind fun r1 => (zc6 a1).bind fun r2 => (zdw N ([r1, r2] : List Int)).bind fun r3 => cond (r3 != 0)
  (some ((⟨(⟨(⟨#[]⟩ : ByteArray), []⟩ : Storage), [], []⟩ : zF), (⟨[]⟩ : zX), r3)) ((zjz N a0).bind fun r4 => cond (r4.2.2 != 0)
  (some ((⟨(⟨(⟨#[]⟩ : ByteArray), []⟩ : Storage), [], []⟩ : zF), (⟨[]⟩ : zX), r4.2.2)) ((zb2 N a0).bind fun r5 => cond (r5.2 != 0)
  (some ((⟨(⟨(⟨#[]⟩ : ByteArray), []⟩ : Storage), [], []⟩ : zF), (⟨[]⟩ : zX), r5.2))
  ((zd (za4.r0 N) N ([], a0.zA, (a0.zA.length : Int), 0, a0, (⟨(⟨(⟨#[]⟩ : ByteArray), []⟩ : Storage), [], []⟩ : zF), (⟨[]⟩ : zX), r5.1, (⟨a0, r4.1, []⟩ : zG))).bind fun y6 =>
  cond (Nat.ble ((y6.1.length + ([(y6.2.2.2.2.2.2.2.2.code.length : Int)] : List Int).length) * 8) zao)
  ((zb y6.2.2.2.2.2.2.2.2 (⟨26, 0, 0, 0, 0, (⟨false, 0, 0⟩ : zK), (⟨false, 0, 0⟩ : zK), (⟨0, 0, 0⟩ : DataType), (⟨0, 0, 0⟩ : DataType), false, false, (⟨0, 0⟩ : Number), (⟨#[]⟩ : ByteArray), (⟨#[]⟩ : ByteArray), 0, 0, 0, 0⟩ : zC)).bind fun r7 =>
  (zd (za4.r2 N) N ((y6.1 ++ ([(y6.2.2.2.2.2.2.2.2.code.length : Int)] : List Int)), (r7.code.length : Int), 0, y6.2.2.2.2.1, y6.2.2.2.2.2.1, y6.2.2.2.2.2.2.1, y6.2.2.2.2.2.2.2.1, r7)).bind fun y8 =>
  (zc7 N y8.2.2.2.1.yA y8.1).bind fun r9 => some ((⟨y8.2.2.2.2.2.2.1, y8.2.2.2.2.2.2.2.code, r9⟩ : zF), (⟨y8.1⟩ : zX), 0)) none)))
def za4.k (N : Nat) : Kq := ⟨27, (cvv [Ty.zF, Ty.zX, T6] [Ty.zJ, Ty.zI] (za4 N)), go [zdw.k N, zgl.k N, zc6.k, zjz.k N, zb2.k N, zdg.k N, zb.k, zch.k, zc7.k N] {pre := [(26, [13])], lits := [19, 21, 22, 66, 67, 78, 79]} [(0, .plain { slots := [(2, .ptr 2 0), (4, .ptr 4 0), (5, .ptr 5 0), (11, .ptr 11 0), (12, .ptr 53 0), (13, .own 5000013 T6), (55, .val (Ty.sl Ty.zM)), (56, .val T6), (57, .val T6)], boxes := [(2, Ty.zJ, []), (4, Ty.zF, [1, 2, 3]), (5, Ty.zX, [0]), (11, Ty.Storage, []), (53, Ty.zG, [4])] } [(Ty.sl T6), (Ty.sl Ty.zM), T6, T6, Ty.zJ, Ty.zF, Ty.zX, Ty.Storage, Ty.zG] (zd (za4.r0 N) N)), (2, .plain { slots := [(2, .ptr 2 0), (4, .ptr 4 0), (5, .ptr 5 0), (11, .ptr 11 0), (12, .ptr 53 0), (13, .own 5000013 T6), (87, .ofbox 12 53 4), (88, .val T6), (89, .val T6)], boxes := [(2, Ty.zJ, []), (4, Ty.zF, [1, 2, 3]), (5, Ty.zX, [0]), (11, Ty.Storage, []), (53, Ty.zG, [4])] } [(Ty.sl T6), T6, T6, Ty.zJ, Ty.zF, Ty.zX, Ty.Storage, Ty.zG] (zd (za4.r2 N) N))] Proofs.Tryz.func27 (hL := ⟨⟨_, _, rfl, by kernel_rfl⟩, ⟨_, _, rfl, by kernel_rfl⟩, trivial⟩)⟩
def zkb (N : Nat)  : Option Bool :=
 (zl7 N).bind fun r1 => (zbc N (⟨2, false, false⟩ : zI) r1).bind fun r2 => (zl8).bind fun r3 =>
  (za4 N r3 (⟨2, false, false⟩ : zI)).bind fun r4 => (cond (r2.2.2 == 0) (some ((r2.1.zA.length : Int) == 3)) (some false)).bind fun g5 =>
  (cond g5 ((idx r2.1.zA 1).bind fun x6 =>
  some (zc2 [(x6.Op == 3), (x6.R == 1), (x6.A == 0), (x6.B == 0), (x6.zO == 0), (x6.Place.Based == false), (x6.Place.Pointer == 0), (x6.Place.Offset == 0), (x6.From.Based == false), (x6.From.Pointer == 0), (x6.From.Offset == 0), (x6.zD.Kind == 0), (x6.zD.Length == 0), (x6.zD.Scale == 0), (x6.Second.Kind == 0), (x6.Second.Length == 0), (x6.Second.Scale == 0), (x6.Half == false), (x6.zN == false), (x6.Number.N == 0), (x6.Number.Scale == 0), (x6.Text == (⟨#[]⟩ : ByteArray)), (x6.Other == (⟨#[]⟩ : ByteArray)), (x6.Mask == 0), (x6.Target == 0), (x6.Pointer == 0), (x6.Source == 0)]))
  (some false)).bind fun g7 => (cond g7 (some (r4.2.2 == 0)) (some false)).bind fun g8 => (cond g8 (some ((r4.2.1.Starts.length : Int) == 4)) (some false)).bind fun g9 => some g9
def zkb.k (N : Nat) : Kq := ⟨7, (cvv [Ty.bool] [] (zkb N)), go [zbc.k N, zl7.k N, za4.k N, zl8.k] {lits := [9, 15]} [] Proofs.Tryz.func7⟩
def zf0 (a0 : Storage) : Option Bool :=
 (cond (decide ((a0.Bytes.size : Int) ≤ 1072)) (some (decide ((a0.Tags.length : Int) ≤ 67))) (some false)).bind fun g1 => some g1
def zf0.k : Kq := ⟨29, (cvv [Ty.bool] [Ty.Storage] zf0), go [] {} [] Proofs.Tryz.func29⟩
def zdr.b0 (N : Nat) (s3 : Int) (b1 : zF) : Option (Round Bool (Int × zF)) :=
 (cond (decide (s3 < (b1.zA.length : Int))) (some (decide (s3 < 244))) (some false)).bind fun g1001 => cond g1001 ((idx b1.zA s3).bind fun x1002 =>
  (cond (decide ((x1002.Text.size : Int) > 300)) (some true) ((idx b1.zA s3).bind fun x1003 => some (decide ((x1003.Other.size : Int) > 300)))).bind fun g1004 =>
  cond g1004 (some (.result false)) (some (.again ((w6 (s3 + 1)), b1)))) (some (.leave (s3, b1)))
def zdr.r0 (N : Nat) (x : Int × zF) := zdr.b0 N x.1 x.2
def zdr (N : Nat) (a0 : zF) : Option Bool :=
 (zaa (zdr.r0 N) N (0, a0)).bind fun z2 => zbd z2 (fun z => some z) (fun y1 => (zf0 y1.2.Storage).bind fun r3 =>
  (cond r3 (some (decide ((y1.2.zA.length : Int) < 244))) (some false)).bind fun g4 => (cond g4 (some (decide ((y1.2.zQ.length : Int) < 44)))
  (some false)).bind fun g5 => some g5)
def zdr.k (N : Nat) : Kq := ⟨8, (cvv [Ty.bool] [Ty.zF] (zdr N)), go [zf0.k] {} [(0, .rets { slots := [(1, .ptr 1 0), (3, .val T6)], boxes := [(1, Ty.zF, [])] } [T6, Ty.zF] (zaa (zdr.r0 N) N))] Proofs.Tryz.func8 (hL := ⟨⟨_, _, rfl, by kernel_rfl⟩, trivial⟩)⟩
def zif (a0 : List Bool) : Option ((List Bool)) :=
 cond (Nat.ble (a0.length * 1) zao) (some a0) none
def zif.k : Kq := ⟨90, (ctv [.val (Ty.sl Ty.bool)] [(Ty.sl Ty.bool)] [] [0] [(Ty.sl Ty.bool)] zif), go [] {} [] Proofs.Tryz.func90⟩
def zhv (a0 : Storage) : Option Storage :=
 (zif a0.Tags).bind fun r1 => some (⟨a0.Bytes, r1⟩ : Storage)
def zhv.k : Kq := ⟨34, (ctv [.val Ty.Storage] [Ty.Storage] [] [1] [Ty.Storage] zhv), go [zif.k] {} [] Proofs.Tryz.func34⟩
def zhk (a0 : zF) : Option zF :=
 (zhv a0.Storage).bind fun r1 => cond (Nat.ble (a0.zA.length * 224) zao) (cond (Nat.ble (a0.zQ.length * 32) zao)
  (some (⟨r1, a0.zA, a0.zQ⟩ : zF)) none) none
def zhk.k : Kq := ⟨10, (cvv [Ty.zF] [Ty.zF] zhk), go [zhv.k] {} [] Proofs.Tryz.func10⟩
def zk (a0 : Int) (a1 : Int) (a2 : Int) : Option Bool :=
 (cond (decide (a1 ≤ a0)) (some (decide (a0 ≤ a2))) (some false)).bind fun g1 => some g1
def zk.k : Kq := ⟨64, (cvv [Ty.bool] [T6, T6, T6] zk), go [] {} [] Proofs.Tryz.func64⟩
def zgx (a0 : zI) : Option Int :=
 (zk a0.Registers 2 8).bind fun r1 => cond (!r1) (some 3) (some 0)
def zgx.k : Kq := ⟨91, (cvv [T6] [Ty.zI] zgx), go [zk.k] {} [] Proofs.Tryz.func91⟩
def zla (a0 : Storage) (a1 : Int) : Option ByteArray :=
 if 0 ≤ (w6 ((w6 (a1 * 16)) + 16)) ∧ (w6 ((w6 (a1 * 16)) + 16)) ≤ (a0.Bytes.size : Int) then (if 0 ≤ (w6 (a1 * 16)) ∧ (w6 (a1 * 16)) ≤ (w6 ((w6 (a1 * 16)) + 16)) then (some (a0.Bytes.extract (w6 (a1 * 16)).toNat (w6 ((w6 (a1 * 16)) + 16)).toNat)) else none) else none
def zla.k : Kq := ⟨180, (cvv [Ty.str] [Ty.Storage, T6] zla), go [] {} [] Proofs.Tryz.func180⟩
def zc1.b0 (N : Nat) (s0 : ByteArray) (s1 : Int) (s2 : Int) (s7 : Int) (s8 : Int) : Option (Stp (ByteArray × Int × Int × Int × Int)) :=
 cond (decide (s8 < s2)) ((znk s0 (w6 (s1 + s8))).bind fun x1001 =>
  some (.again (s0, s1, s2, (w6 ((w6 (s7 * 256)) + (w6 (x1001.toNat : Int)))), (w6 (s8 + 1)))))
  (some (.leave (s0, s1, s2, s7, s8)))
def zc1.r0 (N : Nat) (x : ByteArray × Int × Int × Int × Int) := zc1.b0 N x.1 x.2.1 x.2.2.1 x.2.2.2.1 x.2.2.2.2
def zc1 (N : Nat) (a0 : ByteArray) (a1 : Int) (a2 : Int) : Option Int :=
 (zd (zc1.r0 N) N (a0, a1, a2, 0, 0)).bind fun y1 => some y1.2.2.2.1
def zc1.k (N : Nat) : Kq := ⟨217, (cvv [T6] [Ty.str, T6, T6] (zc1 N)), go [] {} [(0, .plain { slots := [(0, .val Ty.str), (1, .val T6), (2, .val T6), (7, .val T6), (8, .val T6)], boxes := [] } [Ty.str, T6, T6, T6, T6] (zd (zc1.r0 N) N))] Proofs.Tryz.func217 (hL := ⟨⟨_, _, rfl, by kernel_rfl⟩, trivial⟩)⟩
def zfz (a0 : Pointer) : Option Int :=
 (zk a0.Kind 0 2).bind fun r1 => cond (!r1) (some 4) ((zk a0.Address.yC 0 1099511627775).bind fun r2 => (cond (!r2) (some true)
  ((zk a0.Address.Offset 0 16777215).bind fun r3 => some (!r3))).bind fun g4 => (cond g4 (some true) ((zk a0.Authority 0 1023).bind fun r5 =>
  some (!r5))).bind fun g6 => cond g6 (some 3) ((cond (a0.Kind != 1) (some (a0.Authority != 0)) (some false)).bind fun g7 => cond g7 (some 5) (some 0)))
def zfz.k : Kq := ⟨218, (cvv [T6] [Ty.Pointer] zfz), go [zk.k] {} [] Proofs.Tryz.func218⟩
def zlu (N : Nat) (a0 : ByteArray) : Option (Pointer × Int) :=
 cond ((a0.size : Int) != 16) (some ((⟨0, (⟨0, 0⟩ : Address), 0⟩ : Pointer), 18)) ((znk a0 1).bind fun x1 => cond ((x1.toNat : Int) != 0)
  (some ((⟨0, (⟨0, 0⟩ : Address), 0⟩ : Pointer), 5)) ((znk a0 0).bind fun x2 => (zc1 N a0 2 2).bind fun r3 => (zc1 N a0 4 6).bind fun r4 =>
  (zc1 N a0 10 6).bind fun r5 => (zfz (⟨(w6 (x2.toNat : Int)), (⟨r4, r5⟩ : Address), r3⟩ : Pointer)).bind fun r6 => cond (r6 != 0)
  (some ((⟨0, (⟨0, 0⟩ : Address), 0⟩ : Pointer), r6)) (some ((⟨(w6 (x2.toNat : Int)), (⟨r4, r5⟩ : Address), r3⟩ : Pointer), 0))))
def zlu.k (N : Nat) : Kq := ⟨179, (cvv [Ty.Pointer, T6] [Ty.str] (zlu N)), go [zc1.k N, zfz.k] {} [] Proofs.Tryz.func179⟩
def zcq.b0 (N : Nat) (s4 : Int) (s5 : Int) (b1 : Storage) : Option (Round (Int × Int) (Int × Int × Storage)) :=
 cond (decide (s5 < s4)) ((idx b1.Tags s5).bind fun x1001 => cond x1001 ((zla b1 s5).bind fun r1002 => (zlu N r1002).bind fun r1003 => cond (r1003.2 != 0)
  (some (.result (s5, 22))) (some (.again (s4, (w6 (s5 + 1)), b1)))) (some (.again (s4, (w6 (s5 + 1)), b1)))) (some (.leave (s4, s5, b1)))
def zcq.r0 (N : Nat) (x : Int × Int × Storage) := zcq.b0 N x.1 x.2.1 x.2.2
def zcq (N : Nat) (a0 : Storage) : Option (Int × Int) :=
 cond (decide ((a0.Bytes.size : Int) > 1024)) (some (0, 2)) (cond (((a0.Bytes.size : Int).tmod 16) != 0) (some (0, 18))
  (cond ((a0.Tags.length : Int) != (w6 ((a0.Bytes.size : Int).tdiv 16))) (some (0, 6))
  ((zaa (zcq.r0 N) N ((w6 ((a0.Bytes.size : Int).tdiv 16)), 0, a0)).bind fun z2 => zbd z2 (fun z => some z) (fun y1 => some (y1.1, 0)))))
def zcq.k (N : Nat) : Kq := ⟨133, (cvv [T6, T6] [Ty.Storage] (zcq N)), go [zlu.k N, zla.k] {lits := [39]} [(0, .rets { slots := [(1, .ptr 1 0), (4, .val T6), (5, .val T6)], boxes := [(1, Ty.Storage, [])] } [T6, T6, Ty.Storage] (zaa (zcq.r0 N) N))] Proofs.Tryz.func133 (hL := ⟨⟨_, _, rfl, by kernel_rfl⟩, trivial⟩)⟩
def zkx (N : Nat) (a0 : Storage) : Option Int :=
 (zcq N a0).bind fun r1 => some r1.2
def zkx.k (N : Nat) : Kq := ⟨92, (cvv [T6] [Ty.Storage] (zkx N)), go [zcq.k N] {} [] Proofs.Tryz.func92⟩
def zbs.b0 (N : Nat) (s3 : List Int) (s4 : Int) (b1 : Storage) : Option (Stp ((List Int) × Int × Storage)) :=
 cond (decide (s4 < (b1.Tags.length : Int))) ((idx b1.Tags s4).bind fun x1001 =>
  cond x1001 (cond (Nat.ble ((s3.length + ([(w6 (s4 * 16))] : List Int).length) * 8) zao)
  (some (.again ((s3 ++ ([(w6 (s4 * 16))] : List Int)), (w6 (s4 + 1)), b1))) none) (some (.again (s3, (w6 (s4 + 1)), b1))))
  (some (.leave (s3, s4, b1)))
def zbs.r0 (N : Nat) (x : (List Int) × Int × Storage) := zbs.b0 N x.1 x.2.1 x.2.2
def zbs (N : Nat) (a0 : Storage) : Option ((List Int)) :=
 (zd (zbs.r0 N) N ([], 0, a0)).bind fun y1 => some y1.1
def zbs.k (N : Nat) : Kq := ⟨93, (cvv [(Ty.sl T6)] [Ty.Storage] (zbs N)), go [] {lits := [20]} [(0, .plain { slots := [(1, .ptr 1 0), (3, .own 5000003 T6), (4, .val T6)], boxes := [(1, Ty.Storage, [])] } [(Ty.sl T6), T6, Ty.Storage] (zd (zbs.r0 N) N))] Proofs.Tryz.func93 (hL := ⟨⟨_, _, rfl, by kernel_rfl⟩, trivial⟩)⟩
def zdx (a0 : zC) : Option zL :=
 cond (a0.Op == 0) (some (⟨true, false, false, true, false, false, false, false, false, false, false, false, false, false, 1, 0⟩ : zL)) (cond (a0.Op == 1)
  (some (⟨true, false, false, true, false, true, false, false, false, false, false, false, false, false, 1, 0⟩ : zL)) (cond (a0.Op == 2)
  (some (⟨true, false, false, false, false, false, true, false, false, false, false, false, false, false, 0, 0⟩ : zL)) (cond (a0.Op == 3)
  (some (⟨true, true, false, false, false, false, false, false, false, false, false, false, false, false, 0, 0⟩ : zL)) (cond (a0.Op == 4)
  (cond a0.zN (some (⟨true, true, false, true, false, false, false, true, false, false, false, false, false, false, 1, 1⟩ : zL))
  (some (⟨true, true, true, false, false, false, false, true, false, false, false, false, false, false, 1, 0⟩ : zL))) (cond (a0.Op == 5)
  (some (⟨false, true, true, false, false, false, false, false, false, false, false, false, false, false, 0, 0⟩ : zL)) (cond (a0.Op == 6)
  (some (⟨false, false, false, false, false, false, false, false, true, true, false, false, false, false, 0, 0⟩ : zL)) (cond (a0.Op == 7)
  (some (⟨false, true, true, false, false, false, false, false, true, true, false, false, false, false, 0, 0⟩ : zL)) ((cond (a0.Op == 8) (some (a0.Op == 8))
  (some (a0.Op == 18))).bind fun q1 => cond q1 (some (⟨false, false, false, false, false, false, false, false, false, true, false, false, false, false, 0, 0⟩ : zL))
  ((cond (a0.Op == 9) (some (a0.Op == 9)) (some (a0.Op == 11))).bind fun q2 =>
  cond q2 (some (⟨false, false, false, true, true, false, false, false, false, false, false, false, false, false, 2, 2⟩ : zL)) ((cond (a0.Op == 10) (some (a0.Op == 10))
  (some (a0.Op == 12))).bind fun q3 => cond q3 (some (⟨false, false, false, true, false, false, false, false, false, false, true, false, false, false, 2, 0⟩ : zL))
  (cond (a0.Op == 13) (some (⟨false, false, false, false, false, false, false, false, false, false, true, true, false, false, 0, 0⟩ : zL)) (cond (a0.Op == 14)
  (some (⟨false, false, false, true, false, false, false, false, false, false, false, false, true, false, 3, 0⟩ : zL)) (cond (a0.Op == 15)
  (some (⟨false, false, false, false, false, false, false, false, false, false, false, false, true, true, 0, 0⟩ : zL)) (cond (a0.Op == 16)
  (some (⟨true, false, false, false, false, false, false, false, false, false, false, false, true, false, 0, 0⟩ : zL)) (cond (a0.Op == 17)
  (some (⟨false, false, false, false, false, false, false, false, false, false, false, false, true, false, 0, 0⟩ : zL)) ((cond (a0.Op == 20) (some (a0.Op == 20))
  (cond (a0.Op == 21) (some (a0.Op == 21)) (some (a0.Op == 22)))).bind fun q4 =>
  cond q4 (some (⟨true, false, false, false, false, false, false, false, false, false, false, false, false, false, 0, 0⟩ : zL)) (cond (a0.Op == 23)
  (some (⟨false, false, false, true, false, false, false, false, false, false, false, false, false, false, 2, 0⟩ : zL)) (cond (a0.Op == 24)
  (some (⟨false, false, false, false, false, false, false, false, false, false, true, false, false, false, 0, 0⟩ : zL))
  (some (⟨false, false, false, false, false, false, false, false, false, false, false, false, false, false, 0, 0⟩ : zL))))))))))))))))))))
def zdx.k : Kq := ⟨134, (cvv [Ty.zL] [Ty.zC] zdx), go [] {bj := [32, 36, 40, 59]} [] Proofs.Tryz.func134⟩
def zgw (a0 : zC) (a1 : zL) : Option Bool :=
 (cond (!a1.R) (some (a0.R != 0)) (some false)).bind fun g1 => (cond g1 (some true) ((cond (!a1.A) (some (a0.A != 0)) (some false)).bind fun g2 => some g2)).bind fun g3 =>
  (cond g3 (some true) ((cond (!a1.B) (some (a0.B != 0)) (some false)).bind fun g4 => some g4)).bind fun g5 => (cond g5 (some true) ((cond (!a1.zO)
  (some (a0.zO != 0)) (some false)).bind fun g6 => some g6)).bind fun g7 => (cond g7 (some true) ((cond (!a1.Place)
  (some (!(zc2 [(a0.Place.Based == false), (a0.Place.Pointer == 0), (a0.Place.Offset == 0)]))) (some false)).bind fun g8 => some g8)).bind fun g9 => (cond g9 (some true)
  ((cond (!a1.From) (some (!(zc2 [(a0.From.Based == false), (a0.From.Pointer == 0), (a0.From.Offset == 0)]))) (some false)).bind fun g10 => some g10)).bind fun g11 =>
  (cond g11 (some true) ((cond (a1.zD == 0) (some (!(zc2 [(a0.zD.Kind == 0), (a0.zD.Length == 0), (a0.zD.Scale == 0)]))) (some false)).bind fun g12 =>
  some g12)).bind fun g13 => (cond g13 (some true) ((cond (a1.Second == 0) (some (!(zc2 [(a0.Second.Kind == 0), (a0.Second.Length == 0), (a0.Second.Scale == 0)])))
  (some false)).bind fun g14 => some g14)).bind fun g15 => (cond g15 (some true) ((cond (!a1.Half) (some a0.Half) (some false)).bind fun g16 => some g16)).bind fun g17 =>
  (cond g17 (some true) ((cond (a0.Op != 4) (some a0.zN) (some false)).bind fun g18 => some g18)).bind fun g19 => (cond g19 (some true) ((cond (!a1.Number)
  (some (!(zc2 [(a0.Number.N == 0), (a0.Number.Scale == 0)]))) (some false)).bind fun g20 => some g20)).bind fun g21 => (cond g21 (some true) ((cond (!a1.Text)
  (some (!(a0.Text.toList == (⟨#[]⟩ : ByteArray).toList))) (some false)).bind fun g22 => some g22)).bind fun g23 => (cond g23 (some true) ((cond (!a1.Other)
  (some (!(a0.Other.toList == (⟨#[]⟩ : ByteArray).toList))) (some false)).bind fun g24 => some g24)).bind fun g25 => (cond g25 (some true) ((cond (!a1.Mask) (some (a0.Mask != 0))
  (some false)).bind fun g26 => some g26)).bind fun g27 => (cond g27 (some true) ((cond (!a1.Target) (some (a0.Target != 0)) (some false)).bind fun g28 => some g28)).bind fun g29 =>
  (cond g29 (some true) ((cond (!a1.Pointer) (some (a0.Pointer != 0)) (some false)).bind fun g30 => some g30)).bind fun g31 => (cond g31 (some true) ((cond (!a1.Source)
  (some (a0.Source != 0)) (some false)).bind fun g32 => some g32)).bind fun g33 => (cond g33 (some true) ((cond (!a0.Place.Based) (some (a0.Place.Pointer != 0))
  (some false)).bind fun g34 => some g34)).bind fun g35 => (cond g35 (some true) ((cond (!a0.From.Based) (some (a0.From.Pointer != 0)) (some false)).bind fun g36 =>
  some g36)).bind fun g37 => some g37
def zgw.k : Kq := ⟨135, (cvv [Ty.bool] [Ty.zC, Ty.zL] zgw), go [] {} [] Proofs.Tryz.func135⟩
def zi0 (a0 : zI) (a1 : zC) : Option Bool :=
 (cond (a1.Op == 7) (some (!a0.yB)) (some false)).bind fun g1 => (cond g1 (some true) ((cond a1.zN (some (!a0.zZ)) (some false)).bind fun g2 =>
  some g2)).bind fun g3 => some g3
def zi0.k : Kq := ⟨136, (cvv [Ty.bool] [Ty.zI, Ty.zC] zi0), go [] {} [] Proofs.Tryz.func136⟩
def zcy (a0 : Int) : Option Bool :=
 (zk a0 1 3).bind fun r1 => some r1
def zcy.k : Kq := ⟨66, (cvv [Ty.bool] [T6] zcy), go [zk.k] {} [] Proofs.Tryz.func66⟩
def zda (a0 : Bool) : Option Int :=
 cond a0 (some 1) (some 0)
def zda.k : Kq := ⟨50, (cvv [T6] [Ty.bool] zda), go [] {} [] Proofs.Tryz.func50⟩
def zhl (a0 : DataType) : Option Int :=
 (zk a0.Kind 0 4).bind fun r1 => cond (!r1) (some 4) (cond (a0.Kind == 0) ((zk a0.Length 1 256).bind fun r2 => cond (!r2) (some 18)
  ((zcy a0.Kind).bind fun r3 => cond r3 ((zk a0.Scale 0 a0.Length).bind fun r4 => (zda (!r4)).bind fun r5 => some (w6 (3 * r5)))
  ((zk a0.Scale 0 0).bind fun r6 => (zda (!r6)).bind fun r7 => some (w6 (3 * r7))))) ((cond (a0.Kind == 1) (some (a0.Kind == 1))
  (some (a0.Kind == 2))).bind fun q8 => cond q8 ((zk a0.Length 1 15).bind fun r9 => cond (!r9) (some 18) ((zcy a0.Kind).bind fun r10 =>
  cond r10 ((zk a0.Scale 0 a0.Length).bind fun r11 => (zda (!r11)).bind fun r12 => some (w6 (3 * r12))) ((zk a0.Scale 0 0).bind fun r13 =>
  (zda (!r13)).bind fun r14 => some (w6 (3 * r14))))) (cond (a0.Kind == 3) ((cond (a0.Length == 4) (some true) (some (a0.Length == 9))).bind fun g15 =>
  cond (!g15) (some 18) ((zcy a0.Kind).bind fun r16 => cond r16 ((zk a0.Scale 0 a0.Length).bind fun r17 => (zda (!r17)).bind fun r18 =>
  some (w6 (3 * r18))) ((zk a0.Scale 0 0).bind fun r19 => (zda (!r19)).bind fun r20 => some (w6 (3 * r20))))) (cond (!(a0.Length == 0))
  (some 18) ((zcy a0.Kind).bind fun r21 => cond r21 ((zk a0.Scale 0 a0.Length).bind fun r22 => (zda (!r22)).bind fun r23 =>
  some (w6 (3 * r23))) ((zk a0.Scale 0 0).bind fun r24 => (zda (!r24)).bind fun r25 => some (w6 (3 * r25))))))))
def zhl.k : Kq := ⟨65, (cvv [T6] [Ty.DataType] zhl), go [zda.k, zk.k, zcy.k] {bj := [19]} [] Proofs.Tryz.func65⟩
def zgi (a0 : DataType) (a1 : Int) : Option Int :=
 cond (a1 == 0) (some 0) ((zhl a0).bind fun r1 => cond (r1 != 0) (some r1) ((cond (a1 == 1) ((zcy a0.Kind).bind fun r2 => some (!r2))
  (some false)).bind fun g3 => (cond g3 (some true) ((cond (a1 == 2) (some (a0.Kind != 0)) (some false)).bind fun g4 => some g4)).bind fun g5 => (cond g5 (some true)
  ((cond (a1 == 3) (some (a0.Kind == 4)) (some false)).bind fun g6 => some g6)).bind fun g7 => cond g7 (some 17) (some 0)))
def zgi.k : Kq := ⟨137, (cvv [T6] [Ty.DataType, T6] zgi), go [zhl.k, zcy.k] {} [] Proofs.Tryz.func137⟩
def zd6 (a0 : zI) (a1 : Int) : Option Bool :=
 (zk a1 0 (w6 (a0.Registers - 1))).bind fun r1 => some r1
def zd6.k : Kq := ⟨181, (cvv [Ty.bool] [Ty.zI, T6] zd6), go [zk.k] {} [] Proofs.Tryz.func181⟩
def zd7 (a0 : zI) (a1 : zC) : Option Bool :=
 (zdx a1).bind fun r1 => (cond (!r1.R) (some true) ((zd6 a0 a1.R).bind fun r2 => some r2)).bind fun g3 => (cond g3 ((cond (!r1.A) (some true)
  ((zd6 a0 a1.A).bind fun r4 => some r4)).bind fun g5 => some g5) (some false)).bind fun g6 => (cond g6 ((cond (!r1.B) (some true)
  ((zd6 a0 a1.B).bind fun r7 => some r7)).bind fun g8 => some g8) (some false)).bind fun g9 => some g9
def zd7.k : Kq := ⟨138, (cvv [Ty.bool] [Ty.zI, Ty.zC] zd7), go [zdx.k, zd6.k] {} [] Proofs.Tryz.func138⟩
def zd8 (a0 : Storage) (a1 : Int) : Option Bool :=
 (zk a1 0 (w6 ((a0.Bytes.size : Int) - 16))).bind fun r1 => (cond r1 (some ((a1.tmod 16) == 0)) (some false)).bind fun g2 => some g2
def zd8.k : Kq := ⟨139, (cvv [Ty.bool] [Ty.Storage, T6] zd8), go [zk.k] {} [] Proofs.Tryz.func139⟩
def zds (a0 : DataType) : Option Int :=
 cond (a0.Kind == 1) (some (w6 ((w6 (a0.Length.tdiv 2)) + 1))) (cond (a0.Kind == 3) ((zda (a0.Length == 9)).bind fun r1 =>
  some (w6 (2 + (w6 (2 * r1))))) (cond (a0.Kind == 4) (some 16) (some a0.Length)))
def zds.k : Kq := ⟨68, (cvv [T6] [Ty.DataType] zds), go [zda.k] {} [] Proofs.Tryz.func68⟩
def ziw (a0 : Storage) (a1 : Int) (a2 : Int) : Option Bool :=
 (zk a1 0 (a0.Bytes.size : Int)).bind fun r1 => (cond r1 ((zk a2 0 (w6 ((a0.Bytes.size : Int) - a1))).bind fun r2 => some r2)
  (some false)).bind fun g3 => some g3
def ziw.k : Kq := ⟨67, (cvv [Ty.bool] [Ty.Storage, T6, T6] ziw), go [zk.k] {lits := [10]} [] Proofs.Tryz.func67⟩
def zdk (a0 : zF) (a1 : zK) (a2 : Int) : Option Bool :=
 cond a1.Based ((zd8 a0.Storage a1.Pointer).bind fun r1 => (cond r1 ((zk a1.Offset 0 256).bind fun r2 => some r2) (some false)).bind fun g3 => some g3)
  ((ziw a0.Storage a1.Offset a2).bind fun r4 => some r4)
def zdk.k : Kq := ⟨140, (cvv [Ty.bool] [Ty.zF, Ty.zK, T6] zdk), go [zk.k, ziw.k, zd8.k] {} [] Proofs.Tryz.func140⟩
def zdy (a0 : Number) : Option Int :=
 (zk a0.N (-999999999999999) 999999999999999).bind fun r1 => (cond r1 ((zk a0.Scale 0 15).bind fun r2 => some r2) (some false)).bind fun g3 =>
  (zda (!g3)).bind fun r4 => some (w6 (3 * r4))
def zdy.k : Kq := ⟨141, (cvv [T6] [Ty.Number] zdy), go [zda.k, zk.k] {} [] Proofs.Tryz.func141⟩
def zcx (a0 : zI) (a1 : zF) (a2 : zC) : Option Int :=
 (zk a2.Op 0 26).bind fun r1 => cond (!r1) (some 4) ((zdx a2).bind fun r2 => (zgw a2 r2).bind fun r3 => cond r3 (some 5)
  ((zi0 a0 a2).bind fun r4 => cond r4 (some 39) ((zgi a2.zD r2.zD).bind fun r5 => cond (r5 != 0) (some r5)
  ((zgi a2.Second r2.Second).bind fun r6 => cond (r6 != 0) (some r6) (cond (a2.Op == 4) (((zd7 a0 a2).bind fun r7 => cond (!r7) (some (!r7))
  ((cond r2.Target ((zk a2.Target 0 (w6 ((a1.zA.length : Int) - 1))).bind fun r8 => some (!r8)) (some false)).bind fun g9 => cond g9 (some g9)
  ((cond r2.Mask ((zk a2.Mask 1 7).bind fun r10 => some (!r10)) (some false)).bind fun g11 => some g11))).bind fun q12 => cond q12 (some 3)
  (((cond r2.Pointer ((zd8 a1.Storage a2.Pointer).bind fun r13 => some (!r13)) (some false)).bind fun g14 => cond g14 (some g14)
  ((cond r2.Source ((zd8 a1.Storage a2.Source).bind fun r15 => some (!r15)) (some false)).bind fun g16 => some g16)).bind fun q17 => cond q17 (some 3)
  ((cond r2.Place ((zds a2.Second).bind fun r18 => (zdk a1 a2.Place r18).bind fun r19 => some (!r19)) (some false)).bind fun g20 => cond g20 (cond g20 (some 3)
  ((cond r2.zO ((zk a2.zO 0 4).bind fun r21 => some (!r21)) (some false)).bind fun g22 => cond g22 (some 3) ((zdy a2.Number).bind fun r23 =>
  (cond r2.Number (some (r23 != 0)) (some false)).bind fun g24 => cond g24 (some r23) ((cond (decide ((a2.Text.size : Int) > 256)) (some true)
  (some (decide ((a2.Other.size : Int) > 256)))).bind fun g25 => cond g25 (some 2) (some 0))))) ((cond r2.From ((zds a2.Second).bind fun r26 =>
  (zdk a1 a2.From r26).bind fun r27 => some (!r27)) (some false)).bind fun g28 => cond g28 (some 3) ((cond r2.zO ((zk a2.zO 0 4).bind fun r29 =>
  some (!r29)) (some false)).bind fun g30 => cond g30 (some 3) ((zdy a2.Number).bind fun r31 => (cond r2.Number (some (r31 != 0)) (some false)).bind fun g32 =>
  cond g32 (some r31) ((cond (decide ((a2.Text.size : Int) > 256)) (some true) (some (decide ((a2.Other.size : Int) > 256)))).bind fun g33 => cond g33 (some 2) (some 0))))))))
  (((zd7 a0 a2).bind fun r34 => cond (!r34) (some (!r34))
  ((cond r2.Target ((zk a2.Target 0 (w6 ((a1.zA.length : Int) - 1))).bind fun r35 => some (!r35)) (some false)).bind fun g36 => cond g36 (some g36)
  ((cond r2.Mask ((zk a2.Mask 1 7).bind fun r37 => some (!r37)) (some false)).bind fun g38 => some g38))).bind fun q39 => cond q39 (some 3)
  (((cond r2.Pointer ((zd8 a1.Storage a2.Pointer).bind fun r40 => some (!r40)) (some false)).bind fun g41 => cond g41 (some g41)
  ((cond r2.Source ((zd8 a1.Storage a2.Source).bind fun r42 => some (!r42)) (some false)).bind fun g43 => some g43)).bind fun q44 => cond q44 (some 3)
  ((cond r2.Place ((zds a2.zD).bind fun r45 => (zdk a1 a2.Place r45).bind fun r46 => some (!r46)) (some false)).bind fun g47 => cond g47 (cond g47 (some 3)
  ((cond r2.zO ((zk a2.zO 0 4).bind fun r48 => some (!r48)) (some false)).bind fun g49 => cond g49 (some 3) ((zdy a2.Number).bind fun r50 =>
  (cond r2.Number (some (r50 != 0)) (some false)).bind fun g51 => cond g51 (some r50) ((cond (decide ((a2.Text.size : Int) > 256)) (some true)
  (some (decide ((a2.Other.size : Int) > 256)))).bind fun g52 => cond g52 (some 2) (some 0))))) ((cond r2.From ((zds a2.Second).bind fun r53 =>
  (zdk a1 a2.From r53).bind fun r54 => some (!r54)) (some false)).bind fun g55 => cond g55 (some 3) ((cond r2.zO ((zk a2.zO 0 4).bind fun r56 =>
  some (!r56)) (some false)).bind fun g57 => cond g57 (some 3) ((zdy a2.Number).bind fun r58 => (cond r2.Number (some (r58 != 0)) (some false)).bind fun g59 =>
  cond g59 (some r58) ((cond (decide ((a2.Text.size : Int) > 256)) (some true) (some (decide ((a2.Other.size : Int) > 256)))).bind fun g60 => cond g60 (some 2) (some 0)))))))))))))
def zcx.k : Kq := ⟨94, (cvv [T6] [Ty.zI, Ty.zF, Ty.zC] zcx), go [zk.k, zds.k, zdx.k, zgw.k, zi0.k, zgi.k, zd7.k, zd8.k, zdk.k, zdy.k] {lits := [101, 113], bj := [47, 72]} [] Proofs.Tryz.func94⟩
def zx.b1 (N : Nat) (s8 : Int) (b2 : zI) (b3 : zF) : Option (Round (Int × Int) (Int × zI × zF)) :=
 cond (decide (s8 < (b3.zA.length : Int))) ((idx b3.zA s8).bind fun x2001 => (zcx b2 b3 x2001).bind fun r2002 => cond (r2002 != 0)
  (some (.result (s8, r2002))) (some (.again ((w6 (s8 + 1)), b2, b3)))) (some (.leave (s8, b2, b3)))
def zx.r1 (N : Nat) (x : Int × zI × zF) := zx.b1 N x.1 x.2.1 x.2.2
def zx.b3 (N : Nat) (s10 : Int) (b3 : zF) : Option (Round (Int × Int) (Int × zF)) :=
 cond (decide (s10 < (b3.zQ.length : Int))) ((idx b3.zQ s10).bind fun x4001 => (cond (decide (x4001.From < 0)) (some true)
  (some (decide (x4001.From > x4001.To)))).bind fun g4002 => (cond g4002 (some true) (some (decide (x4001.To > (b3.zA.length : Int))))).bind fun g4003 =>
  (cond g4003 (some true) ((zk x4001.Exception 0 999).bind fun r4004 => some (!r4004))).bind fun g4005 => (cond g4005 (some true)
  ((zk x4001.Handler 0 (w6 ((b3.zA.length : Int) - 1))).bind fun r4006 => some (!r4006))).bind fun g4007 => cond g4007 (some (.result (s10, 3)))
  (some (.again ((w6 (s10 + 1)), b3)))) (some (.leave (s10, b3)))
def zx.r3 (N : Nat) (x : Int × zF) := zx.b3 N x.1 x.2
def zx (N : Nat) (a0 : zI) (a1 : zF) : Option (Int × Int) :=
 (zgx a0).bind fun r1 => cond (r1 != 0) (some (0, r1)) ((zkx N a1.Storage).bind fun r2 => cond (r2 != 0) (some (0, r2))
  ((zbs N a1.Storage).bind fun r3 => cond (decide ((r3.length : Int) > 0)) (some (0, 22)) (cond ((a1.zA.length : Int) == 0) (some (0, 1))
  ((cond (decide ((a1.zA.length : Int) > 240)) (some true) (some (decide ((a1.zQ.length : Int) > 40)))).bind fun g4 => cond g4 (some (0, 2))
  ((zaa (zx.r1 N) N (0, a0, a1)).bind fun z6 => zbd z6 (fun z => some z) (fun y5 => (zaa (zx.r3 N) N (0, y5.2.2)).bind fun z8 => zbd z8 (fun z =>
  some z) (fun y7 => some ((y7.2.zA.length : Int), 0))))))))
def zx.k (N : Nat) : Kq := ⟨35, (cvv [T6, T6] [Ty.zI, Ty.zF] (zx N)), go [zk.k, zgx.k, zkx.k N, zbs.k N, zcx.k] {lits := [26]} [(1, .rets { slots := [(2, .ptr 2 0), (3, .ptr 3 0), (8, .val T6)], boxes := [(2, Ty.zI, []), (3, Ty.zF, [])] } [T6, Ty.zI, Ty.zF] (zaa (zx.r1 N) N)), (3, .rets { slots := [(3, .ptr 3 0), (10, .val T6)], boxes := [(3, Ty.zF, [])] } [T6, Ty.zF] (zaa (zx.r3 N) N))] Proofs.Tryz.func35 (hL := ⟨⟨_, _, rfl, by kernel_rfl⟩, ⟨_, _, rfl, by kernel_rfl⟩, trivial⟩)⟩
def ziv (N : Nat) (a0 : zI) (a1 : zF) : Option Int :=
 (zx N a0 a1).bind fun r1 => some r1.2
def ziv.k (N : Nat) : Kq := ⟨11, (cvv [T6] [Ty.zI, Ty.zF] (ziv N)), go [zx.k N] {} [] Proofs.Tryz.func11⟩
def zaj.b0 (N : Nat) (s3 : List Bool) (s4 : Int) (b1 : zF) : Option (Stp ((List Bool) × Int × zF)) :=
 cond (decide (s4 < (b1.zQ.length : Int))) ((idx b1.zQ s4).bind fun x1001 =>
  if 0 ≤ x1001.Handler then (if x1001.Handler < (s3.length : Int) then ((s3[x1001.Handler.toNat]?).bind fun x1002 =>
  some (.again ((s3.set x1001.Handler.toNat true), (w6 (s4 + 1)), b1))) else none) else none) (some (.leave (s3, s4, b1)))
def zaj.r0 (N : Nat) (x : (List Bool) × Int × zF) := zaj.b0 N x.1 x.2.1 x.2.2
def zaj.b2 (N : Nat) (s3 : List Bool) (s5 : Int) (b1 : zF) : Option (Stp ((List Bool) × Int × zF)) :=
 cond (decide ((w6 (s5 + 1)) < (s3.length : Int)))
  (if 0 ≤ (w6 (s5 + 1)) then (if (w6 (s5 + 1)) < (s3.length : Int) then ((s3[(w6 (s5 + 1)).toNat]?).bind fun x3001 =>
  (cond x3001 (some true) ((idx b1.zA s5).bind fun x3002 => some (x3002.Op == 18))).bind fun g3003 =>
  if 0 ≤ (w6 (s5 + 1)) then (if (w6 (s5 + 1)) < (s3.length : Int) then ((s3[(w6 (s5 + 1)).toNat]?).bind fun x3004 =>
  some (.again ((s3.set ((w6 (s5 + 1)).toNat) g3003), (w6 (s5 + 1)), b1))) else none) else none) else none) else none) (some (.leave (s3, s5, b1)))
def zaj.r2 (N : Nat) (x : (List Bool) × Int × zF) := zaj.b2 N x.1 x.2.1 x.2.2
def zaj (N : Nat) (a0 : zF) : Option ((List Bool)) :=
 if 0 ≤ (a0.zA.length : Int) then (if (a0.zA.length : Int) ≤ (a0.zA.length : Int) then (cond (Nat.ble ((a0.zA.length : Int).toNat * 1) zao)
  (if 0 ≤ (0 : Int) then (if (0 : Int) < ((List.replicate (a0.zA.length : Int).toNat (false : Bool)).length : Int) then (((List.replicate (a0.zA.length : Int).toNat (false : Bool))[(0 : Int).toNat]?).bind fun x1 =>
  (zd (zaj.r0 N) N (((List.replicate (a0.zA.length : Int).toNat (false : Bool)).set ((0 : Int).toNat) true), 0, a0)).bind fun y2 =>
  (zd (zaj.r2 N) N (y2.1, 0, y2.2.2)).bind fun y3 => some y3.1) else none) else none) none) else none) else none
def zaj.k (N : Nat) : Kq := ⟨36, (ctv [.val Ty.zF] [(Ty.sl Ty.bool)] [] [0] [Ty.zF] (zaj N)), go [] {} [(0, .plain { slots := [(1, .ptr 1 0), (3, .own 5000003 Ty.bool), (4, .val T6)], boxes := [(1, Ty.zF, [])] } [(Ty.sl Ty.bool), T6, Ty.zF] (zd (zaj.r0 N) N)), (2, .plain { slots := [(1, .ptr 1 0), (3, .own 5000003 Ty.bool), (5, .val T6)], boxes := [(1, Ty.zF, [])] } [(Ty.sl Ty.bool), T6, Ty.zF] (zd (zaj.r2 N) N))] Proofs.Tryz.func36 (hL := ⟨⟨_, _, rfl, by kernel_rfl⟩, ⟨_, _, rfl, by kernel_rfl⟩, trivial⟩)⟩
def zfy (a0 : Int) : Option Bool :=
 (cond (a0 == 6) (some true) (some (a0 == 7))).bind fun g1 => (cond g1 (some true) (some (a0 == 8))).bind fun g2 => (cond g2 (some true) (some (a0 == 18))).bind fun g3 => some g3
def zfy.k : Kq := ⟨53, (cvv [Ty.bool] [T6] zfy), go [] {} [] Proofs.Tryz.func53⟩
def zd5 (a0 : zF) (a1 : Int) : Option ((List Int)) :=
 (idx a0.zA a1).bind fun x1 => (cond (decide ((w6 (a1 + 1)) < (a0.zA.length : Int))) (some (x1.Op != 8)) (some false)).bind fun g2 =>
  (cond g2 (some (x1.Op != 18)) (some false)).bind fun g3 => (cond g3 (some (x1.Op != 19)) (some false)).bind fun g4 => (cond g4 (some (x1.Op != 20)) (some false)).bind fun g5 =>
  (cond g5 (some (x1.Op != 26)) (some false)).bind fun g6 => cond g6 (cond (Nat.ble (([(w6 (a1 + 1))] : List Int).length * 8) zao)
  ((zfy x1.Op).bind fun r7 => cond r7 (cond (Nat.ble ((([(w6 (a1 + 1))] : List Int).length + ([x1.Target] : List Int).length) * 8) zao)
  (some (([(w6 (a1 + 1))] : List Int) ++ ([x1.Target] : List Int))) none) (some ([(w6 (a1 + 1))] : List Int))) none)
  ((zfy x1.Op).bind fun r8 => cond r8 (cond (Nat.ble (([x1.Target] : List Int).length * 8) zao) (some ([x1.Target] : List Int)) none) (some []))
def zd5.k : Kq := ⟨39, (ctv [.val Ty.zF, .val T6] [(Ty.sl T6)] [] [0] [Ty.zF, T6] zd5), go [zfy.k] {lits := [46, 54]} [] Proofs.Tryz.func39⟩
def zm.b4 (N : Nat) (s3 : List Bool) (s4 : Bool) (s5 : Int) (s6 : List Int) (s7 : Int) (b1 : zF) : Option (Stp ((List Bool) × Bool × Int × (List Int) × Int × zF)) :=
 (cond (decide (s7 < (s6.length : Int))) (if 0 ≤ s5 then (if s5 < (s3.length : Int) then ((s3[s5.toNat]?).bind fun x5001 => some x5001) else none) else none)
  (some false)).bind fun g5002 => cond g5002 ((cond s4 (some true) (if 0 ≤ s7 then (if s7 < (s6.length : Int) then ((s6[s7.toNat]?).bind fun x5003 =>
  if 0 ≤ x5003 then (if x5003 < (s3.length : Int) then ((s3[x5003.toNat]?).bind fun x5004 => some (!x5004)) else none) else none) else none) else none)).bind fun g5005 =>
  if 0 ≤ s7 then (if s7 < (s6.length : Int) then ((s6[s7.toNat]?).bind fun x5006 => if 0 ≤ x5006 then (if x5006 < (s3.length : Int) then ((s3[x5006.toNat]?).bind fun x5007 =>
  some (.again ((s3.set x5006.toNat true), g5005, s5, s6, (w6 (s7 + 1)), b1))) else none) else none) else none) else none) (some (.leave (s3, s4, s5, s6, s7, b1)))
def zm.r4 (N : Nat) (x : (List Bool) × Bool × Int × (List Int) × Int × zF) := zm.b4 N x.1 x.2.1 x.2.2.1 x.2.2.2.1 x.2.2.2.2.1 x.2.2.2.2.2
def zm.b2 (N : Nat) (s3 : List Bool) (s4 : Bool) (s5 : Int) (b1 : zF) : Option (Stp ((List Bool) × Bool × Int × zF)) :=
 cond (decide (s5 < (s3.length : Int))) ((zd5 b1 s5).bind fun r3001 => (zd (zm.r4 N) N (s3, s4, s5, r3001, 0, b1)).bind fun y3002 =>
  some (.again (y3002.1, y3002.2.1, (w6 (y3002.2.2.1 + 1)), y3002.2.2.2.2.2))) (some (.leave (s3, s4, s5, b1)))
def zm.r2 (N : Nat) (x : (List Bool) × Bool × Int × zF) := zm.b2 N x.1 x.2.1 x.2.2.1 x.2.2.2
def zm.b0 (N : Nat) (s3 : List Bool) (s4 : Bool) (b1 : zF) : Option (Stp ((List Bool) × Bool × zF)) :=
 cond s4 ((zd (zm.r2 N) N (s3, false, 0, b1)).bind fun y1001 => some (.again (y1001.1, y1001.2.1, y1001.2.2.2))) (some (.leave (s3, s4, b1)))
def zm.r0 (N : Nat) (x : (List Bool) × Bool × zF) := zm.b0 N x.1 x.2.1 x.2.2
def zm (N : Nat) (a0 : zF) : Option ((List Bool)) :=
 (zaj N a0).bind fun r1 => (zd (zm.r0 N) N (r1, true, a0)).bind fun y2 => some y2.1
def zm.k (N : Nat) : Kq := ⟨37, (cvv [(Ty.sl Ty.bool)] [Ty.zF] (zm N)), go [zaj.k N, zd5.k] {} [(4, .plain { slots := [(1, .ptr 1 0), (3, .own 5000003 Ty.bool), (4, .val Ty.bool), (5, .val T6), (6, .own 5000006 T6), (7, .val T6)], boxes := [(1, Ty.zF, [])] } [(Ty.sl Ty.bool), Ty.bool, T6, (Ty.sl T6), T6, Ty.zF] (zd (zm.r4 N) N)), (2, .plain { slots := [(1, .ptr 1 0), (3, .own 5000003 Ty.bool), (4, .val Ty.bool), (5, .val T6)], boxes := [(1, Ty.zF, [])] } [(Ty.sl Ty.bool), Ty.bool, T6, Ty.zF] (zd (zm.r2 N) N)), (0, .plain { slots := [(1, .ptr 1 0), (3, .own 5000003 Ty.bool), (4, .val Ty.bool)], boxes := [(1, Ty.zF, [])] } [(Ty.sl Ty.bool), Ty.bool, Ty.zF] (zd (zm.r0 N) N))] Proofs.Tryz.func37 (hL := ⟨⟨_, _, rfl, by kernel_rfl⟩, ⟨_, _, rfl, by kernel_rfl⟩, ⟨_, _, rfl, by kernel_rfl⟩, trivial⟩)⟩
def zby.b0 (N : Nat) (s0 : List zB) (s1 : Int) (s5 : List zB) (s6 : Int) : Option (Stp ((List zB) × Int × (List zB) × Int)) :=
 cond (decide (s6 < (s0.length : Int))) ((idx s0 s6).bind fun x1001 => cond (x1001.Register != s1) ((idx s0 s6).bind fun x1002 =>
  cond (Nat.ble ((s5.length + ([x1002] : List zB).length) * 40) zao) (some (.again (s0, s1, (s5 ++ ([x1002] : List zB)), (w6 (s6 + 1))))) none)
  (some (.again (s0, s1, s5, (w6 (s6 + 1)))))) (some (.leave (s0, s1, s5, s6)))
def zby.r0 (N : Nat) (x : (List zB) × Int × (List zB) × Int) := zby.b0 N x.1 x.2.1 x.2.2.1 x.2.2.2
def zby (N : Nat) (a0 : List zB) (a1 : Int) : Option ((List zB)) :=
 (zd (zby.r0 N) N (a0, a1, [], 0)).bind fun y1 => some y1.2.2.1
def zby.k (N : Nat) : Kq := ⟨95, (cvv [(Ty.sl Ty.zB)] [(Ty.sl Ty.zB), T6] (zby N)), go [] {lits := [25]} [(0, .plain { slots := [(0, .val (Ty.sl Ty.zB)), (1, .val T6), (5, .own 5000005 Ty.zB), (6, .val T6)], boxes := [] } [(Ty.sl Ty.zB), T6, (Ty.sl Ty.zB), T6] (zd (zby.r0 N) N))] Proofs.Tryz.func95 (hL := ⟨⟨_, _, rfl, by kernel_rfl⟩, trivial⟩)⟩
def zbz.b0 (N : Nat) (s0 : List zB) (s3 : List zB) (s4 : Int) : Option (Stp ((List zB) × (List zB) × Int)) :=
 cond (decide (s4 < (s0.length : Int))) ((idx s0 s4).bind fun x1001 => cond (x1001.Offset == (-1)) ((idx s0 s4).bind fun x1002 =>
  cond (Nat.ble ((s3.length + ([x1002] : List zB).length) * 40) zao) (some (.again (s0, (s3 ++ ([x1002] : List zB)), (w6 (s4 + 1))))) none)
  (some (.again (s0, s3, (w6 (s4 + 1)))))) (some (.leave (s0, s3, s4)))
def zbz.r0 (N : Nat) (x : (List zB) × (List zB) × Int) := zbz.b0 N x.1 x.2.1 x.2.2
def zbz (N : Nat) (a0 : List zB) : Option ((List zB)) :=
 (zd (zbz.r0 N) N (a0, [], 0)).bind fun y1 => some y1.2.1
def zbz.k (N : Nat) : Kq := ⟨96, (cvv [(Ty.sl Ty.zB)] [(Ty.sl Ty.zB)] (zbz N)), go [] {lits := [22]} [(0, .plain { slots := [(0, .val (Ty.sl Ty.zB)), (3, .own 5000003 Ty.zB), (4, .val T6)], boxes := [] } [(Ty.sl Ty.zB), (Ty.sl Ty.zB), T6] (zd (zbz.r0 N) N))] Proofs.Tryz.func96 (hL := ⟨⟨_, _, rfl, by kernel_rfl⟩, trivial⟩)⟩
def zcd.b0 (N : Nat) (s0 : List zB) (s5 : Int) (b3 : zB) : Option (Round Bool ((List zB) × Int × zB)) :=
 cond (decide (s5 < (s0.length : Int))) ((idx s0 s5).bind fun x1001 =>
  cond (zc2 [(x1001.Register == b3.Register), (x1001.zD.Kind == b3.zD.Kind), (x1001.zD.Length == b3.zD.Length), (x1001.zD.Scale == b3.zD.Scale), (x1001.Offset == b3.Offset)])
  (some (.result true)) (some (.again (s0, (w6 (s5 + 1)), b3)))) (some (.leave (s0, s5, b3)))
def zcd.r0 (N : Nat) (x : (List zB) × Int × zB) := zcd.b0 N x.1 x.2.1 x.2.2
def zcd (N : Nat) (a0 : List zB) (a1 : zB) : Option Bool :=
 (zaa (zcd.r0 N) N (a0, 0, a1)).bind fun z2 => zbd z2 (fun z => some z) (fun y1 => some false)
def zcd.k (N : Nat) : Kq := ⟨70, (cvv [Ty.bool] [(Ty.sl Ty.zB), Ty.zB] (zcd N)), go [] {} [(0, .rets { slots := [(0, .val (Ty.sl Ty.zB)), (3, .ptr 3 0), (5, .val T6)], boxes := [(3, Ty.zB, [])] } [(Ty.sl Ty.zB), T6, Ty.zB] (zaa (zcd.r0 N) N))] Proofs.Tryz.func70 (hL := ⟨⟨_, _, rfl, by kernel_rfl⟩, trivial⟩)⟩
def zbr.b0 (N : Nat) (s5 : List Int) (s6 : List Int) (s7 : Int) : Option (Round Bool ((List Int) × (List Int) × Int)) :=
 cond (decide (s7 < (s5.length : Int))) (if 0 ≤ s7 then (if s7 < (s5.length : Int) then ((s5[s7.toNat]?).bind fun x1001 =>
  if 0 ≤ s7 then (if s7 < (s6.length : Int) then ((s6[s7.toNat]?).bind fun x1002 => cond (x1001 != x1002)
  (if 0 ≤ s7 then (if s7 < (s5.length : Int) then ((s5[s7.toNat]?).bind fun x1003 => if 0 ≤ s7 then (if s7 < (s6.length : Int) then ((s6[s7.toNat]?).bind fun x1004 =>
  some (.result (decide (x1003 < x1004)))) else none) else none) else none) else none)
  (some (.again (s5, s6, (w6 (s7 + 1)))))) else none) else none) else none) else none) (some (.leave (s5, s6, s7)))
def zbr.r0 (N : Nat) (x : (List Int) × (List Int) × Int) := zbr.b0 N x.1 x.2.1 x.2.2
def zbr (N : Nat) (a0 : zB) (a1 : zB) : Option Bool :=
 (zaa (zbr.r0 N) N (([a0.Register, a0.Offset, a0.zD.Kind, a0.zD.Length, a0.zD.Scale] : List Int), ([a1.Register, a1.Offset, a1.zD.Kind, a1.zD.Length, a1.zD.Scale] : List Int), 0)).bind fun z2 =>
  zbd z2 (fun z => some z) (fun y1 => some false)
def zbr.k (N : Nat) : Kq := ⟨142, (cvv [Ty.bool] [Ty.zB, Ty.zB] (zbr N)), go [] {} [(0, .rets { slots := [(5, .own 5000005 T6), (6, .own 5000006 T6), (7, .val T6)], boxes := [] } [(Ty.sl T6), (Ty.sl T6), T6] (zaa (zbr.r0 N) N))] Proofs.Tryz.func142 (hL := ⟨⟨_, _, rfl, by kernel_rfl⟩, trivial⟩)⟩
def zcb.b0 (N : Nat) (s0 : List zB) (s5 : List zB) (s6 : Bool) (s7 : Int) (b3 : zB) : Option (Stp ((List zB) × (List zB) × Bool × Int × zB)) :=
 cond (decide (s7 < (s0.length : Int))) ((cond (!s6) ((idx s0 s7).bind fun x1001 => (zbr N b3 x1001).bind fun r1002 => some r1002) (some false)).bind fun g1003 =>
  cond g1003 (cond (Nat.ble ((s5.length + ([b3] : List zB).length) * 40) zao) ((idx s0 s7).bind fun x1004 =>
  cond (Nat.ble (((s5 ++ ([b3] : List zB)).length + ([x1004] : List zB).length) * 40) zao)
  (some (.again (s0, ((s5 ++ ([b3] : List zB)) ++ ([x1004] : List zB)), true, (w6 (s7 + 1)), b3))) none) none) ((idx s0 s7).bind fun x1005 =>
  cond (Nat.ble ((s5.length + ([x1005] : List zB).length) * 40) zao) (some (.again (s0, (s5 ++ ([x1005] : List zB)), s6, (w6 (s7 + 1)), b3))) none))
  (some (.leave (s0, s5, s6, s7, b3)))
def zcb.r0 (N : Nat) (x : (List zB) × (List zB) × Bool × Int × zB) := zcb.b0 N x.1 x.2.1 x.2.2.1 x.2.2.2.1 x.2.2.2.2
def zcb (N : Nat) (a0 : List zB) (a1 : zB) : Option ((List zB)) :=
 (zcd N a0 a1).bind fun r1 => cond r1 (some a0) ((zd (zcb.r0 N) N (a0, [], false, 0, a1)).bind fun y2 => cond (!y2.2.2.1)
  (cond (Nat.ble ((y2.2.1.length + ([y2.2.2.2.2] : List zB).length) * 40) zao) (some (y2.2.1 ++ ([y2.2.2.2.2] : List zB))) none) (some y2.2.1))
def zcb.k (N : Nat) : Kq := ⟨97, (cvv [(Ty.sl Ty.zB)] [(Ty.sl Ty.zB), Ty.zB] (zcb N)), go [zcd.k N, zbr.k N] {lits := [30, 37, 43]} [(0, .plain { slots := [(0, .val (Ty.sl Ty.zB)), (3, .ptr 3 0), (5, .own 5000005 Ty.zB), (6, .val Ty.bool), (7, .val T6)], boxes := [(3, Ty.zB, [])] } [(Ty.sl Ty.zB), (Ty.sl Ty.zB), Ty.bool, T6, Ty.zB] (zd (zcb.r0 N) N))] Proofs.Tryz.func97 (hL := ⟨⟨_, _, rfl, by kernel_rfl⟩, trivial⟩)⟩
def zcc.b0 (N : Nat) (s0 : List zB) (s1 : Int) (s2 : Int) (s7 : List zB) (s8 : Int) : Option (Stp ((List zB) × Int × Int × (List zB) × Int)) :=
 cond (decide (s8 < (s0.length : Int))) ((idx s0 s8).bind fun x1001 => (cond (x1001.Offset == (-1)) (some true) ((zds x1001.zD).bind fun r1002 =>
  some (decide ((w6 (x1001.Offset + r1002)) ≤ s1)))).bind fun g1003 => (cond g1003 (some true)
  (some (decide ((w6 (s1 + s2)) ≤ x1001.Offset)))).bind fun g1004 => cond g1004 (cond (Nat.ble ((s7.length + ([x1001] : List zB).length) * 40) zao)
  (some (.again (s0, s1, s2, (s7 ++ ([x1001] : List zB)), (w6 (s8 + 1))))) none) (some (.again (s0, s1, s2, s7, (w6 (s8 + 1))))))
  (some (.leave (s0, s1, s2, s7, s8)))
def zcc.r0 (N : Nat) (x : (List zB) × Int × Int × (List zB) × Int) := zcc.b0 N x.1 x.2.1 x.2.2.1 x.2.2.2.1 x.2.2.2.2
def zcc (N : Nat) (a0 : List zB) (a1 : Int) (a2 : Int) : Option ((List zB)) :=
 (zd (zcc.r0 N) N (a0, a1, a2, [], 0)).bind fun y1 => some y1.2.2.2.1
def zcc.k (N : Nat) : Kq := ⟨98, (cvv [(Ty.sl Ty.zB)] [(Ty.sl Ty.zB), T6, T6] (zcc N)), go [zds.k] {lits := [43]} [(0, .plain { slots := [(0, .val (Ty.sl Ty.zB)), (1, .val T6), (2, .val T6), (7, .own 5000007 Ty.zB), (8, .val T6)], boxes := [] } [(Ty.sl Ty.zB), T6, T6, (Ty.sl Ty.zB), T6] (zd (zcc.r0 N) N))] Proofs.Tryz.func98 (hL := ⟨⟨_, _, rfl, by kernel_rfl⟩, trivial⟩)⟩
def zas.b1 (N : Nat) (s1 : List zB) (s8 : List zB) (s9 : Int) (b2 : zC) : Option (Stp ((List zB) × (List zB) × Int × zC)) :=
 cond (decide (s9 < (s1.length : Int))) ((idx s1 s9).bind fun x2001 => (zcd N s1 (⟨x2001.Register, b2.zD, b2.Place.Offset⟩ : zB)).bind fun r2002 =>
  cond r2002 ((idx s1 s9).bind fun x2003 => (idx s1 s9).bind fun x2004 => (zcb N s8 (⟨b2.R, x2003.zD, x2004.Offset⟩ : zB)).bind fun r2005 =>
  some (.again (s1, r2005, (w6 (s9 + 1)), b2))) (some (.again (s1, s8, (w6 (s9 + 1)), b2)))) (some (.leave (s1, s8, s9, b2)))
def zas.r1 (N : Nat) (x : (List zB) × (List zB) × Int × zC) := zas.b1 N x.1 x.2.1 x.2.2.1 x.2.2.2
def zas.b3 (N : Nat) (s1 : List zB) (s10 : List zB) (s11 : Int) (b2 : zC) : Option (Stp ((List zB) × (List zB) × Int × zC)) :=
 cond (decide (s11 < (s1.length : Int))) ((idx s1 s11).bind fun x4001 => cond (x4001.Register == b2.A) ((idx s1 s11).bind fun x4002 => (idx s1 s11).bind fun x4003 =>
  (zcb N s10 (⟨b2.R, x4002.zD, x4003.Offset⟩ : zB)).bind fun r4004 => some (.again (s1, r4004, (w6 (s11 + 1)), b2)))
  (some (.again (s1, s10, (w6 (s11 + 1)), b2)))) (some (.leave (s1, s10, s11, b2)))
def zas.r3 (N : Nat) (x : (List zB) × (List zB) × Int × zC) := zas.b3 N x.1 x.2.1 x.2.2.1 x.2.2.2
def zas (N : Nat) (a0 : zC) (a1 : List zB) : Option ((List zB)) :=
 (zby N a1 a0.R).bind fun r1 => (zbz N a1).bind fun r2 => cond (a0.Op == 0) ((zcb N r1 (⟨a0.R, a0.zD, (-1)⟩ : zB)).bind fun r3 =>
  cond a0.Place.Based (some r3) ((zcb N r3 (⟨a0.R, a0.zD, a0.Place.Offset⟩ : zB)).bind fun r4 => (zd (zas.r1 N) N (a1, r4, 0, a0)).bind fun y5 =>
  some y5.2.1)) (cond (a0.Op == 4) ((zcb N r1 (⟨a0.R, a0.zD, (-1)⟩ : zB)).bind fun r6 => some r6) ((cond (a0.Op == 2) (some (a0.Op == 2))
  (some (a0.Op == 21))).bind fun q7 => cond q7 (some r1) (cond (a0.Op == 3) (cond (a0.A == a0.R) (some a1) ((zd (zas.r3 N) N (a1, r1, 0, a0)).bind fun y8 =>
  some y8.2.1)) ((cond (a0.Op == 1) (some (a0.Op == 1)) (cond (a0.Op == 9) (some (a0.Op == 9)) (some (a0.Op == 10)))).bind fun q9 => cond q9 (cond a0.Place.Based (some r2)
  ((zds a0.zD).bind fun r10 => (zcc N a1 a0.Place.Offset r10).bind fun r11 => (cond (a0.Op == 1) ((zcd N a1 (⟨a0.R, a0.zD, (-1)⟩ : zB)).bind fun r12 =>
  some r12) (some false)).bind fun g13 => cond g13 ((zcb N r11 (⟨a0.R, a0.zD, a0.Place.Offset⟩ : zB)).bind fun r14 => some r14) (some r11))) ((cond (a0.Op == 14)
  (some (a0.Op == 14)) (cond (a0.Op == 15) (some (a0.Op == 15)) (some (a0.Op == 16)))).bind fun q15 => cond q15 ((zcc N a1 a0.Pointer 16).bind fun r16 => some r16)
  (some a1))))))
def zas.k (N : Nat) : Kq := ⟨38, (cvv [(Ty.sl Ty.zB)] [Ty.zC, (Ty.sl Ty.zB)] (zas N)), go [zds.k, zcd.k N, zby.k N, zbz.k N, zcb.k N, zcc.k N] {lits := [142], bj := [85, 128, 163]} [(1, .plain { slots := [(1, .val (Ty.sl Ty.zB)), (2, .ptr 2 0), (8, .val (Ty.sl Ty.zB)), (9, .val T6)], boxes := [(2, Ty.zC, [])] } [(Ty.sl Ty.zB), (Ty.sl Ty.zB), T6, Ty.zC] (zd (zas.r1 N) N)), (3, .plain { slots := [(1, .val (Ty.sl Ty.zB)), (2, .ptr 2 0), (10, .val (Ty.sl Ty.zB)), (11, .val T6)], boxes := [(2, Ty.zC, [])] } [(Ty.sl Ty.zB), (Ty.sl Ty.zB), T6, Ty.zC] (zd (zas.r3 N) N))] Proofs.Tryz.func38 (hL := ⟨⟨_, _, rfl, by kernel_rfl⟩, ⟨_, _, rfl, by kernel_rfl⟩, trivial⟩)⟩
def zc9.b0 (N : Nat) (s0 : List zB) (s1 : List zB) (s5 : List zB) (s6 : Int) : Option (Stp ((List zB) × (List zB) × (List zB) × Int)) :=
 cond (decide (s6 < (s0.length : Int))) ((idx s0 s6).bind fun x1001 => (zcd N s1 x1001).bind fun r1002 => cond r1002 ((idx s0 s6).bind fun x1003 =>
  cond (Nat.ble ((s5.length + ([x1003] : List zB).length) * 40) zao) (some (.again (s0, s1, (s5 ++ ([x1003] : List zB)), (w6 (s6 + 1))))) none)
  (some (.again (s0, s1, s5, (w6 (s6 + 1)))))) (some (.leave (s0, s1, s5, s6)))
def zc9.r0 (N : Nat) (x : (List zB) × (List zB) × (List zB) × Int) := zc9.b0 N x.1 x.2.1 x.2.2.1 x.2.2.2
def zc9 (N : Nat) (a0 : List zB) (a1 : List zB) : Option ((List zB)) :=
 (zd (zc9.r0 N) N (a0, a1, [], 0)).bind fun y1 => some y1.2.2.1
def zc9.k (N : Nat) : Kq := ⟨40, (cvv [(Ty.sl Ty.zB)] [(Ty.sl Ty.zB), (Ty.sl Ty.zB)] (zc9 N)), go [zcd.k N] {lits := [24]} [(0, .plain { slots := [(0, .val (Ty.sl Ty.zB)), (1, .val (Ty.sl Ty.zB)), (5, .own 5000005 Ty.zB), (6, .val T6)], boxes := [] } [(Ty.sl Ty.zB), (Ty.sl Ty.zB), (Ty.sl Ty.zB), T6] (zd (zc9.r0 N) N))] Proofs.Tryz.func40 (hL := ⟨⟨_, _, rfl, by kernel_rfl⟩, trivial⟩)⟩
def zf.b0 (N : Nat) (s4 : Int) (s5 : List Bool) (s6 : List Bool) (s7 : List Bool) (s8 : List (List zB)) (s9 : Int) (b1 : zF) : Option (Stp (Int × (List Bool) × (List Bool) × (List Bool) × (List (List zB)) × Int × zF)) :=
 cond (decide (s9 < s4)) (if 0 ≤ s9 then (if s9 < (s5.length : Int) then ((s5[s9.toNat]?).bind fun x1001 => (cond x1001 (some true) ((idx s6 s9).bind fun x1002 =>
  some (!x1002))).bind fun g1003 => if 0 ≤ s9 then (if s9 < (s7.length : Int) then ((s7[s9.toNat]?).bind fun x1004 =>
  some (.again (s4, s5, s6, (s7.set s9.toNat g1003), s8, (w6 (s9 + 1)), b1))) else none) else none) else none) else none) (some (.leave (s4, s5, s6, s7, s8, s9, b1)))
def zf.r0 (N : Nat) (x : Int × (List Bool) × (List Bool) × (List Bool) × (List (List zB)) × Int × zF) := zf.b0 N x.1 x.2.1 x.2.2.1 x.2.2.2.1 x.2.2.2.2.1 x.2.2.2.2.2.1 x.2.2.2.2.2.2
def zf.b6 (N : Nat) (s4 : Int) (s5 : List Bool) (s6 : List Bool) (s7 : List Bool) (s8 : List (List zB)) (s10 : Bool) (s11 : Int) (s12 : List zB) (s13 : List Int) (s14 : Int) (b1 : zF) : Option (Stp (Int × (List Bool) × (List Bool) × (List Bool) × (List (List zB)) × Bool × Int × (List zB) × (List Int) × Int × zF)) :=
 cond (decide (s14 < (s13.length : Int))) (if 0 ≤ s14 then (if s14 < (s13.length : Int) then ((s13[s14.toNat]?).bind fun x7001 =>
  if 0 ≤ x7001 then (if x7001 < (s5.length : Int) then ((s5[x7001.toNat]?).bind fun x7002 => (cond x7002 (some true) ((idx s6 x7001).bind fun x7003 =>
  some (!x7003))).bind fun g7004 => cond g7004 (some (.again (s4, s5, s6, s7, s8, s10, s11, s12, s13, (w6 (s14 + 1)), b1)))
  (if 0 ≤ x7001 then (if x7001 < (s7.length : Int) then ((s7[x7001.toNat]?).bind fun x7005 =>
  cond x7005 (if 0 ≤ x7001 then (if x7001 < (s8.length : Int) then ((s8[x7001.toNat]?).bind fun x7006 => (zc9 N x7006 s12).bind fun r7007 =>
  if 0 ≤ x7001 then (if x7001 < (s7.length : Int) then ((s7[x7001.toNat]?).bind fun x7008 => (cond (!x7008) (some true)
  (if 0 ≤ x7001 then (if x7001 < (s8.length : Int) then ((s8[x7001.toNat]?).bind fun x7009 =>
  some ((r7007.length : Int) != (x7009.length : Int))) else none) else none)).bind fun g7010 =>
  cond g7010 (if 0 ≤ x7001 then (if x7001 < (s8.length : Int) then ((s8[x7001.toNat]?).bind fun x7011 =>
  if 0 ≤ x7001 then (if x7001 < (s7.length : Int) then ((s7[x7001.toNat]?).bind fun x7012 =>
  some (.again (s4, s5, s6, (s7.set x7001.toNat true), (s8.set x7001.toNat r7007), true, s11, s12, s13, (w6 (s14 + 1)), b1))) else none) else none) else none) else none)
  (some (.again (s4, s5, s6, s7, s8, s10, s11, s12, s13, (w6 (s14 + 1)), b1)))) else none) else none) else none) else none)
  (if 0 ≤ x7001 then (if x7001 < (s7.length : Int) then ((s7[x7001.toNat]?).bind fun x7013 => (cond (!x7013) (some true)
  (if 0 ≤ x7001 then (if x7001 < (s8.length : Int) then ((s8[x7001.toNat]?).bind fun x7014 =>
  some ((s12.length : Int) != (x7014.length : Int))) else none) else none)).bind fun g7015 =>
  cond g7015 (if 0 ≤ x7001 then (if x7001 < (s8.length : Int) then ((s8[x7001.toNat]?).bind fun x7016 =>
  if 0 ≤ x7001 then (if x7001 < (s7.length : Int) then ((s7[x7001.toNat]?).bind fun x7017 =>
  some (.again (s4, s5, s6, (s7.set x7001.toNat true), (s8.set x7001.toNat s12), true, s11, s12, s13, (w6 (s14 + 1)), b1))) else none) else none) else none) else none)
  (some (.again (s4, s5, s6, s7, s8, s10, s11, s12, s13, (w6 (s14 + 1)), b1)))) else none) else none)) else none) else none)) else none) else none) else none) else none)
  (some (.leave (s4, s5, s6, s7, s8, s10, s11, s12, s13, s14, b1)))
def zf.r6 (N : Nat) (x : Int × (List Bool) × (List Bool) × (List Bool) × (List (List zB)) × Bool × Int × (List zB) × (List Int) × Int × zF) := zf.b6 N x.1 x.2.1 x.2.2.1 x.2.2.2.1 x.2.2.2.2.1 x.2.2.2.2.2.1 x.2.2.2.2.2.2.1 x.2.2.2.2.2.2.2.1 x.2.2.2.2.2.2.2.2.1 x.2.2.2.2.2.2.2.2.2.1 x.2.2.2.2.2.2.2.2.2.2
def zf.b4 (N : Nat) (s4 : Int) (s5 : List Bool) (s6 : List Bool) (s7 : List Bool) (s8 : List (List zB)) (s10 : Bool) (s11 : Int) (b1 : zF) : Option (Stp (Int × (List Bool) × (List Bool) × (List Bool) × (List (List zB)) × Bool × Int × zF)) :=
 cond (decide (s11 < s4)) (if 0 ≤ s11 then (if s11 < (s7.length : Int) then ((s7[s11.toNat]?).bind fun x5001 => cond (!x5001)
  (some (.again (s4, s5, s6, s7, s8, s10, (w6 (s11 + 1)), b1))) ((idx b1.zA s11).bind fun x5002 =>
  if 0 ≤ s11 then (if s11 < (s8.length : Int) then ((s8[s11.toNat]?).bind fun x5003 => (zas N x5002 x5003).bind fun r5004 => (zd5 b1 s11).bind fun r5005 =>
  (zd (zf.r6 N) N (s4, s5, s6, s7, s8, s10, s11, r5004, r5005, 0, b1)).bind fun y5006 =>
  some (.again (y5006.1, y5006.2.1, y5006.2.2.1, y5006.2.2.2.1, y5006.2.2.2.2.1, y5006.2.2.2.2.2.1, (w6 (y5006.2.2.2.2.2.2.1 + 1)), y5006.2.2.2.2.2.2.2.2.2.2))) else none) else none)) else none) else none)
  (some (.leave (s4, s5, s6, s7, s8, s10, s11, b1)))
def zf.r4 (N : Nat) (x : Int × (List Bool) × (List Bool) × (List Bool) × (List (List zB)) × Bool × Int × zF) := zf.b4 N x.1 x.2.1 x.2.2.1 x.2.2.2.1 x.2.2.2.2.1 x.2.2.2.2.2.1 x.2.2.2.2.2.2.1 x.2.2.2.2.2.2.2
def zf.b2 (N : Nat) (s4 : Int) (s5 : List Bool) (s6 : List Bool) (s7 : List Bool) (s8 : List (List zB)) (s10 : Bool) (b1 : zF) : Option (Stp (Int × (List Bool) × (List Bool) × (List Bool) × (List (List zB)) × Bool × zF)) :=
 cond s10 ((zd (zf.r4 N) N (s4, s5, s6, s7, s8, false, 0, b1)).bind fun y3001 =>
  some (.again (y3001.1, y3001.2.1, y3001.2.2.1, y3001.2.2.2.1, y3001.2.2.2.2.1, y3001.2.2.2.2.2.1, y3001.2.2.2.2.2.2.2))) (some (.leave (s4, s5, s6, s7, s8, s10, b1)))
def zf.r2 (N : Nat) (x : Int × (List Bool) × (List Bool) × (List Bool) × (List (List zB)) × Bool × zF) := zf.b2 N x.1 x.2.1 x.2.2.1 x.2.2.2.1 x.2.2.2.2.1 x.2.2.2.2.2.1 x.2.2.2.2.2.2
def zf.b8 (N : Nat) (s4 : Int) (s8 : List (List zB)) (s17 : Bool) (s18 : Int) : Option (Stp (Int × (List (List zB)) × Bool × Int)) :=
 cond (decide (s18 < s4)) ((cond s17 (if 0 ≤ s18 then (if s18 < (s8.length : Int) then ((s8[s18.toNat]?).bind fun x9001 =>
  some (decide ((x9001.length : Int) ≤ 60))) else none) else none) (some false)).bind fun g9002 => some (.again (s4, s8, g9002, (w6 (s18 + 1)))))
  (some (.leave (s4, s8, s17, s18)))
def zf.r8 (N : Nat) (x : Int × (List (List zB)) × Bool × Int) := zf.b8 N x.1 x.2.1 x.2.2.1 x.2.2.2
def zf (N : Nat) (a0 : zF) : Option ((List (List zB)) × Bool) :=
 (zaj N a0).bind fun r1 => (zm N a0).bind fun r2 =>
  if 0 ≤ (a0.zA.length : Int) then (if (a0.zA.length : Int) ≤ (a0.zA.length : Int) then (cond (Nat.ble ((a0.zA.length : Int).toNat * 1) zao)
  (if 0 ≤ (a0.zA.length : Int) then (if (a0.zA.length : Int) ≤ (a0.zA.length : Int) then (cond (Nat.ble ((a0.zA.length : Int).toNat * 24) zao)
  ((zd (zf.r0 N) N ((a0.zA.length : Int), r1, r2, (List.replicate (a0.zA.length : Int).toNat (false : Bool)), (List.replicate (a0.zA.length : Int).toNat ([] : List zB)), 0, a0)).bind fun y3 =>
  (zd (zf.r2 N) N (y3.1, y3.2.1, y3.2.2.1, y3.2.2.2.1, y3.2.2.2.2.1, true, y3.2.2.2.2.2.2)).bind fun y4 =>
  (zd (zf.r8 N) N (y4.1, y4.2.2.2.2.1, true, 0)).bind fun y5 => some (y5.2.1, y5.2.2.1)) none) else none) else none) none) else none) else none
def zf.k (N : Nat) : Kq := ⟨12, (cvv [(Ty.sl (Ty.sl Ty.zB)), Ty.bool] [Ty.zF] (zf N)), go [zaj.k N, zm.k N, zas.k N, zd5.k, zc9.k N] {} [(0, .plain { slots := [(1, .ptr 1 0), (4, .val T6), (5, .own 5000005 Ty.bool), (6, .val (Ty.sl Ty.bool)), (7, .own 5000007 Ty.bool), (8, .own 5000008 (Ty.sl Ty.zB)), (9, .val T6)], boxes := [(1, Ty.zF, [])] } [T6, (Ty.sl Ty.bool), (Ty.sl Ty.bool), (Ty.sl Ty.bool), (Ty.sl (Ty.sl Ty.zB)), T6, Ty.zF] (zd (zf.r0 N) N)), (6, .plain { slots := [(1, .ptr 1 0), (4, .val T6), (5, .own 5000005 Ty.bool), (6, .val (Ty.sl Ty.bool)), (7, .own 5000007 Ty.bool), (8, .own 5000008 (Ty.sl Ty.zB)), (10, .val Ty.bool), (11, .val T6), (12, .val (Ty.sl Ty.zB)), (13, .own 5000013 T6), (14, .val T6)], boxes := [(1, Ty.zF, [])] } [T6, (Ty.sl Ty.bool), (Ty.sl Ty.bool), (Ty.sl Ty.bool), (Ty.sl (Ty.sl Ty.zB)), Ty.bool, T6, (Ty.sl Ty.zB), (Ty.sl T6), T6, Ty.zF] (zd (zf.r6 N) N)), (4, .plain { slots := [(1, .ptr 1 0), (4, .val T6), (5, .own 5000005 Ty.bool), (6, .val (Ty.sl Ty.bool)), (7, .own 5000007 Ty.bool), (8, .own 5000008 (Ty.sl Ty.zB)), (10, .val Ty.bool), (11, .val T6)], boxes := [(1, Ty.zF, [])] } [T6, (Ty.sl Ty.bool), (Ty.sl Ty.bool), (Ty.sl Ty.bool), (Ty.sl (Ty.sl Ty.zB)), Ty.bool, T6, Ty.zF] (zd (zf.r4 N) N)), (2, .plain { slots := [(1, .ptr 1 0), (4, .val T6), (5, .own 5000005 Ty.bool), (6, .val (Ty.sl Ty.bool)), (7, .own 5000007 Ty.bool), (8, .own 5000008 (Ty.sl Ty.zB)), (10, .val Ty.bool)], boxes := [(1, Ty.zF, [])] } [T6, (Ty.sl Ty.bool), (Ty.sl Ty.bool), (Ty.sl Ty.bool), (Ty.sl (Ty.sl Ty.zB)), Ty.bool, Ty.zF] (zd (zf.r2 N) N)), (8, .plain { slots := [(4, .val T6), (8, .own 5000008 (Ty.sl Ty.zB)), (17, .val Ty.bool), (18, .val T6)], boxes := [] } [T6, (Ty.sl (Ty.sl Ty.zB)), Ty.bool, T6] (zd (zf.r8 N) N))] Proofs.Tryz.func12 (hL := ⟨⟨_, _, rfl, by kernel_rfl⟩, ⟨_, _, rfl, by kernel_rfl⟩, ⟨_, _, rfl, by kernel_rfl⟩, ⟨_, _, rfl, by kernel_rfl⟩, ⟨_, _, rfl, by kernel_rfl⟩, trivial⟩)⟩
def zaf.b2 (N : Nat) (s0 : List (List zB)) (s1 : List (List zB)) (s5 : Int) (s6 : Int) : Option (Round Bool ((List (List zB)) × (List (List zB)) × Int × Int)) :=
 (idx s0 s5).bind fun x3001 => cond (decide (s6 < (x3001.length : Int))) ((idx s0 s5).bind fun x3002 => (idx x3002 s6).bind fun x3003 => (idx s1 s5).bind fun x3004 =>
  (idx x3004 s6).bind fun x3005 =>
  cond (!(zc2 [(x3003.Register == x3005.Register), (x3003.zD.Kind == x3005.zD.Kind), (x3003.zD.Length == x3005.zD.Length), (x3003.zD.Scale == x3005.zD.Scale), (x3003.Offset == x3005.Offset)]))
  (some (.result false)) (some (.again (s0, s1, s5, (w6 (s6 + 1)))))) (some (.leave (s0, s1, s5, s6)))
def zaf.r2 (N : Nat) (x : (List (List zB)) × (List (List zB)) × Int × Int) := zaf.b2 N x.1 x.2.1 x.2.2.1 x.2.2.2
def zaf.b0 (N : Nat) (s0 : List (List zB)) (s1 : List (List zB)) (s5 : Int) : Option (Round Bool ((List (List zB)) × (List (List zB)) × Int)) :=
 cond (decide (s5 < (s0.length : Int))) ((idx s0 s5).bind fun x1001 => (idx s1 s5).bind fun x1002 => cond ((x1001.length : Int) != (x1002.length : Int)) (some (.result false))
  ((zaa (zaf.r2 N) N (s0, s1, s5, 0)).bind fun z1004 => zbd z1004 (fun z => some (.result z)) (fun y1003 =>
  some (.again (y1003.1, y1003.2.1, (w6 (y1003.2.2.1 + 1))))))) (some (.leave (s0, s1, s5)))
def zaf.r0 (N : Nat) (x : (List (List zB)) × (List (List zB)) × Int) := zaf.b0 N x.1 x.2.1 x.2.2
def zaf (N : Nat) (a0 : List (List zB)) (a1 : List (List zB)) : Option Bool :=
 cond ((a0.length : Int) != (a1.length : Int)) (some false) ((zaa (zaf.r0 N) N (a0, a1, 0)).bind fun z2 => zbd z2 (fun z => some z) (fun y1 => some true))
def zaf.k (N : Nat) : Kq := ⟨13, (cvv [Ty.bool] [(Ty.sl (Ty.sl Ty.zB)), (Ty.sl (Ty.sl Ty.zB))] (zaf N)), go [] {} [(2, .rets { slots := [(0, .val (Ty.sl (Ty.sl Ty.zB))), (1, .val (Ty.sl (Ty.sl Ty.zB))), (5, .val T6), (6, .val T6)], boxes := [] } [(Ty.sl (Ty.sl Ty.zB)), (Ty.sl (Ty.sl Ty.zB)), T6, T6] (zaa (zaf.r2 N) N)), (0, .rets { slots := [(0, .val (Ty.sl (Ty.sl Ty.zB))), (1, .val (Ty.sl (Ty.sl Ty.zB))), (5, .val T6)], boxes := [] } [(Ty.sl (Ty.sl Ty.zB)), (Ty.sl (Ty.sl Ty.zB)), T6] (zaa (zaf.r0 N) N))] Proofs.Tryz.func13 (hL := ⟨⟨_, _, rfl, by kernel_rfl⟩, ⟨_, _, rfl, by kernel_rfl⟩, trivial⟩)⟩
def zeh (N : Nat) (a0 : zI) (a1 : zF) : Option Bool :=
 (zkb N).bind fun r1 => cond (!r1) (some false) ((zdr N a1).bind fun r2 => cond (!r2) (some true) ((zhk a1).bind fun r3 =>
  (zcp N a0 r3).bind fun r4 => (ziv N a0 a1).bind fun r5 => cond (r5 != 0) ((cond (r4.2 == r5) (some ((r4.1.length : Int) == 0)) (some false)).bind fun g6 =>
  some g6) ((zf N a1).bind fun r7 => cond (!r7.2) ((cond (r4.2 == 2) (some ((r4.1.length : Int) == 0)) (some false)).bind fun g8 => some g8) ((cond (r4.2 == 0)
  ((zaf N r4.1 r7.1).bind fun r9 => some r9) (some false)).bind fun g10 => some g10))))
def zeh.k (N : Nat) : Kq := ⟨3, (cvv [Ty.bool] [Ty.zI, Ty.zF] (zeh N)), go [zkb.k N, zdr.k N, zcp.k N, zhk.k, ziv.k N, zf.k N, zaf.k N] {lits := [18]} [] Proofs.Tryz.func3⟩
end
end Go.Proofs.YtblgefddnnlniaaGreatDoor.M
