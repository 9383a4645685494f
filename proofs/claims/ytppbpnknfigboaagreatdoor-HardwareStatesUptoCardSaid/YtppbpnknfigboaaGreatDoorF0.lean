/- What the program's functions compute, each tied to its code: part 0. -/
import Derived.Test.YtppbpnknfigboaaGreatDoorU
namespace Go.Proofs.YtppbpnknfigboaaGreatDoor.M
open Go Go.Amx
set_option linter.unusedVariables false
set_option maxRecDepth 100000
noncomputable section
def zfj.b0 (N : Nat) (s0 : Int) (s1 : Int) (s5 : List Int) (s6 : Int) : Option (Stp (Int × Int × (List Int) × Int)) :=
 cond (decide (s6 < s1)) (cond (Nat.ble ((s5.length + ([s0] : List Int).length) * 1) zax) (some (.again (s0, s1, (s5 ++ ([s0] : List Int)), (w6 (s6 + 1))))) none)
  (some (.leave (s0, s1, s5, s6)))
def zfj.r0 (N : Nat) (x : Int × Int × (List Int) × Int) := zfj.b0 N x.1 x.2.1 x.2.2.1 x.2.2.2
def zfj (N : Nat) (a0 : Int) (a1 : Int) : Option ByteArray :=
 (zac (zfj.r0 N) N (a0, a1, [], 0)).bind fun y1 => some (zhb y1.2.2.1)
def zfj.k (N : Nat) : Kq := ⟨89, (cvv [Ty.str] [(Ty.int .u8), T6] (zfj N)), go [] {lits := [14]} [(0, .plain { slots := [(0, .val (Ty.int .u8)), (1, .val T6), (5, .own 5000005 (Ty.int .u8)), (6, .val T6)], boxes := [] } [(Ty.int .u8), T6, (Ty.sl (Ty.int .u8)), T6] (zac (zfj.r0 N) N))] Proofs.Tryz.func89 (hL := ⟨⟨_, _, rfl, by kernel_rfl⟩, trivial⟩)⟩
def zm8 (N : Nat)  : Option HwCode :=
 (zfj N 0 16).bind fun r1 =>
  some (⟨(⟨r1, ([false] : List Bool)⟩ : Storage), ([(⟨2, 0, 0, 0, 0, (⟨false, 0, 0⟩ : HwPlace), (⟨false, 0, 0⟩ : HwPlace), (⟨0, 0, 0⟩ : DataType), (⟨0, 0, 0⟩ : DataType), false, false, (⟨15, 1⟩ : Number), (⟨#[]⟩ : ByteArray), (⟨#[]⟩ : ByteArray), 0, 0, 0, 0⟩ : HwInstruction), (⟨1, 0, 0, 0, 0, (⟨false, 0, 0⟩ : HwPlace), (⟨false, 0, 0⟩ : HwPlace), (⟨1, 3, 0⟩ : DataType), (⟨0, 0, 0⟩ : DataType), true, false, (⟨0, 0⟩ : Number), (⟨#[]⟩ : ByteArray), (⟨#[]⟩ : ByteArray), 0, 0, 0, 0⟩ : HwInstruction), (⟨0, 1, 0, 0, 0, (⟨false, 0, 0⟩ : HwPlace), (⟨false, 0, 0⟩ : HwPlace), (⟨1, 3, 0⟩ : DataType), (⟨0, 0, 0⟩ : DataType), false, false, (⟨0, 0⟩ : Number), (⟨#[]⟩ : ByteArray), (⟨#[]⟩ : ByteArray), 0, 0, 0, 0⟩ : HwInstruction), (⟨22, 1, 0, 0, 0, (⟨false, 0, 0⟩ : HwPlace), (⟨false, 0, 0⟩ : HwPlace), (⟨0, 0, 0⟩ : DataType), (⟨0, 0, 0⟩ : DataType), false, false, (⟨0, 0⟩ : Number), (⟨#[]⟩ : ByteArray), (⟨#[]⟩ : ByteArray), 0, 0, 0, 0⟩ : HwInstruction)] : List HwInstruction), []⟩ : HwCode)
def zm8.k (N : Nat) : Kq := ⟨45, (cvv [Ty.HwCode] [] (zm8 N)), go [zfj.k N] {} [] Proofs.Tryz.func45⟩
def zn (a0 : Int) (a1 : Int) (a2 : Int) : Option Bool :=
 (cond (decide (a1 ≤ a0)) (some (decide (a0 ≤ a2))) (some false)).bind fun g1 => some g1
def zn.k : Kq := ⟨58, (cvv [Ty.bool] [T6, T6, T6] zn), go [] {} [] Proofs.Tryz.func58⟩
def zw (a0 : Bool) (a1 : Int) : Option Int :=
 cond a0 (some a1) (some 0)
def zw.k : Kq := ⟨49, (cvv [T6] [Ty.bool, T6] zw), go [] {} [] Proofs.Tryz.func49⟩
def zd3 (a0 : HwModel) : Option Int :=
 (zn a0.Registers 2 8).bind fun r1 => (zw (!r1) 3).bind fun r2 => some r2
def zd3.k : Kq := ⟨17, (cvv [T6] [Ty.HwModel] zd3), go [zw.k, zn.k] {} [] Proofs.Tryz.func17⟩
def zav.b0 (N : Nat) (s0 : ByteArray) (s3 : Int) (s6 : Int) (s7 : Int) : Option (Stp (ByteArray × Int × Int × Int)) :=
 cond (decide (s7 < s6)) ((zhn s0 s7).bind fun x1001 => some (.again (s0, (orI .i64 (w6 (s3 * 2 ^ (min (8 : Int).toNat 64)))
  (w6 (x1001.toNat : Int))), s6, (w6 (s7 + 1))))) (some (.leave (s0, s3, s6, s7)))
def zav.r0 (N : Nat) (x : ByteArray × Int × Int × Int) := zav.b0 N x.1 x.2.1 x.2.2.1 x.2.2.2
def zav (N : Nat) (a0 : ByteArray) : Option Int :=
 (zac (zav.r0 N) N (a0, 0, (a0.size : Int), 0)).bind fun y1 => some y1.2.1
def zav.k (N : Nat) : Kq := ⟨135, (cvv [T6] [Ty.str] (zav N)), go [] {} [(0, .plain { slots := [(0, .val Ty.str), (3, .val T6), (6, .val T6), (7, .val T6)], boxes := [] } [Ty.str, T6, T6, T6] (zac (zav.r0 N) N))] Proofs.Tryz.func135 (hL := ⟨⟨_, _, rfl, by kernel_rfl⟩, trivial⟩)⟩
def zd9 (a0 : Int) (a1 : Int) (a2 : Int) : Option Bool :=
 (cond (decide (a1 ≤ a0)) (some (decide (a0 ≤ a2))) (some false)).bind fun g1 => some g1
def zd9.k : Kq := ⟨201, (cvv [Ty.bool] [T6, T6, T6] zd9), go [] {} [] Proofs.Tryz.func201⟩
def zcg (a0 : Pointer) : Option Int :=
 (zd9 a0.Kind 0 2).bind fun r1 => cond (!r1) (some 4) (((zd9 a0.Address.Segment 0 1099511627775).bind fun r2 => cond (!r2) (some (!r2))
  ((zd9 a0.Address.Offset 0 16777215).bind fun r3 => cond (!r3) (some (!r3)) ((zd9 a0.Authority 0 1023).bind fun r4 => some (!r4)))).bind fun q5 =>
  cond q5 (some 3) ((cond (a0.Authority != 0) (some (a0.Kind != 1)) (some false)).bind fun g6 => cond g6 (some 5) (some 0)))
def zcg.k : Kq := ⟨136, (cvv [T6] [Ty.Pointer] zcg), go [zd9.k] {bj := [8]} [] Proofs.Tryz.func136⟩
def zdd (N : Nat) (a0 : ByteArray) : Option (Pointer × Int) :=
 cond ((a0.size : Int) != 16) (some ((⟨0, (⟨0, 0⟩ : Address), 0⟩ : Pointer), 18)) ((zhn a0 1).bind fun x1 => cond ((x1.toNat : Int) != 0)
  (some ((⟨0, (⟨0, 0⟩ : Address), 0⟩ : Pointer), 5)) ((zhn a0 0).bind fun x2 =>
  if 0 ≤ (4 : Int) ∧ (4 : Int) ≤ (a0.size : Int) then (if 0 ≤ (2 : Int) ∧ (2 : Int) ≤ (4 : Int) then ((zav N (a0.extract (2 : Int).toNat (4 : Int).toNat)).bind fun r3 =>
  if 0 ≤ (10 : Int) ∧ (10 : Int) ≤ (a0.size : Int) then (if 0 ≤ (4 : Int) ∧ (4 : Int) ≤ (10 : Int) then ((zav N (a0.extract (4 : Int).toNat (10 : Int).toNat)).bind fun r4 =>
  if 0 ≤ (10 : Int) ∧ (10 : Int) ≤ (a0.size : Int) then ((zav N (a0.extract (10 : Int).toNat a0.size)).bind fun r5 =>
  (zcg (⟨(w6 (x2.toNat : Int)), (⟨r4, r5⟩ : Address), r3⟩ : Pointer)).bind fun r6 => cond (r6 != 0)
  (some ((⟨0, (⟨0, 0⟩ : Address), 0⟩ : Pointer), r6))
  (some ((⟨(w6 (x2.toNat : Int)), (⟨r4, r5⟩ : Address), r3⟩ : Pointer), 0))) else none) else none) else none) else none) else none))
def zdd.k (N : Nat) : Kq := ⟨90, (cvv [Ty.Pointer, T6] [Ty.str] (zdd N)), go [zav.k N, zcg.k] {} [] Proofs.Tryz.func90⟩
def zg.b1 (N : Nat) (s27 : List Bool) (s28 : Int) (s29 : Int) (b1 : Storage) : Option (Round (Int × Int) ((List Bool) × Int × Int × Storage)) :=
 cond (decide (s29 < s28)) ((idx s27 s29).bind fun x2001 => cond (!x2001) (some (.again (s27, s28, (w6 (s29 + 1)), b1)))
  (if 0 ≤ (w6 ((w6 (s29 * 16)) + 16)) ∧ (w6 ((w6 (s29 * 16)) + 16)) ≤ (b1.Bytes.size : Int) then (if 0 ≤ (w6 (s29 * 16)) ∧ (w6 (s29 * 16)) ≤ (w6 ((w6 (s29 * 16)) + 16)) then ((zdd N (b1.Bytes.extract (w6 (s29 * 16)).toNat (w6 ((w6 (s29 * 16)) + 16)).toNat)).bind fun r2002 =>
  cond (r2002.2 != 0) (some (.result (s29, 22))) (some (.again (s27, s28, (w6 (s29 + 1)), b1)))) else none) else none)) (some (.leave (s27, s28, s29, b1)))
def zg.r1 (N : Nat) (x : (List Bool) × Int × Int × Storage) := zg.b1 N x.1 x.2.1 x.2.2.1 x.2.2.2
def zg (N : Nat) (a0 : Storage) : Option (Int × Int) :=
 cond (decide ((a0.Bytes.size : Int) > 1024)) (some (0, 2)) (cond (((a0.Bytes.size : Int).tmod 16) != 0) (some (0, 18))
  (cond ((a0.Tags.length : Int) != (w6 ((a0.Bytes.size : Int).tdiv 16))) (some (0, 6))
  ((zk (zg.r1 N) N (a0.Tags, (a0.Tags.length : Int), 0, a0)).bind fun z2 => zbe z2 (fun z => some z) (fun y1 => some ((y1.2.2.2.Tags.length : Int), 0)))))
def zg.k (N : Nat) : Kq := ⟨47, (cvv [T6, T6] [Ty.Storage] (zg N)), go [zdd.k N] {} [(1, .rets { slots := [(1, .ptr 1 0), (27, .val (Ty.sl Ty.bool)), (28, .val T6), (29, .val T6)], boxes := [(1, Ty.Storage, [])] } [(Ty.sl Ty.bool), T6, T6, Ty.Storage] (zk (zg.r1 N) N))] Proofs.Tryz.func47 (hL := ⟨⟨_, _, rfl, by kernel_rfl⟩, trivial⟩)⟩
def zao.b0 (N : Nat) (s0 : List Bool) (s1 : Bool) (s7 : Int) (s8 : Int) : Option (Round Int ((List Bool) × Bool × Int × Int)) :=
 cond (decide (s8 < s7)) ((idx s0 s8).bind fun x1001 => cond (s1 == x1001) (some (.result s8)) (some (.again (s0, s1, s7, (w6 (s8 + 1))))))
  (some (.leave (s0, s1, s7, s8)))
def zao.r0 (N : Nat) (x : (List Bool) × Bool × Int × Int) := zao.b0 N x.1 x.2.1 x.2.2.1 x.2.2.2
def zao (N : Nat) (a0 : List Bool) (a1 : Bool) : Option Int :=
 (zk (zao.r0 N) N (a0, a1, (a0.length : Int), 0)).bind fun z2 => zbe z2 (fun z => some z) (fun y1 => some (-1))
def zao.k (N : Nat) : Kq := ⟨91, (cvv [T6] [(Ty.sl Ty.bool), Ty.bool] (zao N)), go [] {} [(0, .rets { slots := [(0, .val (Ty.sl Ty.bool)), (1, .val Ty.bool), (7, .val T6), (8, .val T6)], boxes := [] } [(Ty.sl Ty.bool), Ty.bool, T6, T6] (zk (zao.r0 N) N))] Proofs.Tryz.func91 (hL := ⟨⟨_, _, rfl, by kernel_rfl⟩, trivial⟩)⟩
def zdo (N : Nat) (a0 : List Bool) (a1 : Bool) : Option Bool :=
 (zao N a0 a1).bind fun r1 => some (decide (r1 ≥ 0))
def zdo.k (N : Nat) : Kq := ⟨50, (cvv [Ty.bool] [(Ty.sl Ty.bool), Ty.bool] (zdo N)), go [zao.k N] {} [] Proofs.Tryz.func50⟩
def zq.b0 (N : Nat) (s5 : List Int) (s6 : Int) (s7 : Int) : Option (Round Int ((List Int) × Int × Int)) :=
 cond (decide (s7 < s6)) ((idx s5 s7).bind fun x1001 => cond (x1001 != 0) (some (.result x1001)) (some (.again (s5, s6, (w6 (s7 + 1)))))) (some (.leave (s5, s6, s7)))
def zq.r0 (N : Nat) (x : (List Int) × Int × Int) := zq.b0 N x.1 x.2.1 x.2.2
def zq (N : Nat) (a0 : List Int) : Option Int :=
 (zk (zq.r0 N) N (a0, (a0.length : Int), 0)).bind fun z2 => zbe z2 (fun z => some z) (fun y1 => some 0)
def zq.k (N : Nat) : Kq := ⟨48, (cvv [T6] [(Ty.sl T6)] (zq N)), go [] {} [(0, .rets { slots := [(5, .val (Ty.sl T6)), (6, .val T6), (7, .val T6)], boxes := [] } [(Ty.sl T6), T6, T6] (zk (zq.r0 N) N))] Proofs.Tryz.func48 (hL := ⟨⟨_, _, rfl, by kernel_rfl⟩, trivial⟩)⟩
def zat (a0 : HwInstruction) : Option hardware_form :=
 (idx zx6 a0.Op).bind fun x1 => (cond (a0.Op == 4) (some a0.InStorage) (some false)).bind fun g2 =>
  cond g2 (some (⟨(orI .i64 (orI .i64 (zxf .i64 x1.fields 4) 8) 64), x1.types⟩ : hardware_form)) (some x1)
def zat.k : Kq := ⟨94, (cvv [Ty.hardware_form] [Ty.HwInstruction] zat), go [] {} [] Proofs.Tryz.func94⟩
def za8 (a0 : Int) (a1 : Int) (a2 : Int) : Option Int :=
 cond ((zd .i64 a2 a0) == 0) (some 0) (some a1)
def za8.k : Kq := ⟨137, (ctv [.val T6, .ptr T6 true [], .ptr T6 false []] [] [T6] [] [T6, T6, T6] za8), go [] {ro := [1000001], pk := [1000000, 1000001]} [] Proofs.Tryz.func137⟩
def ze7 (a0 : HwPlace) (a1 : Bool) : Option HwPlace :=
 cond (!a1) (some (⟨false, 0, 0⟩ : HwPlace)) (cond (!a0.Based) (some (⟨a0.Based, 0, a0.Offset⟩ : HwPlace)) (some a0))
def ze7.k : Kq := ⟨138, (cvv [Ty.HwPlace] [Ty.HwPlace, Ty.bool] ze7), go [] {} [] Proofs.Tryz.func138⟩
def zgr (a0 : HwInstruction) : Option HwInstruction :=
 (zat a0).bind fun r1 => (za8 1 a0.R r1.fields).bind fun r2 => (za8 2 a0.A r1.fields).bind fun r3 =>
  (za8 4 a0.B r1.fields).bind fun r4 => (za8 2048 a0.Mask r1.fields).bind fun r5 => (za8 4096 a0.Target r1.fields).bind fun r6 =>
  (za8 8192 a0.Pointer r1.fields).bind fun r7 => (za8 16384 a0.Source r1.fields).bind fun r8 =>
  (za8 32768 a0.Calculation r1.fields).bind fun r9 => (ze7 (⟨a0.Place.Based, a0.Place.Pointer, a0.Place.Offset⟩ : HwPlace)
  ((zd .i64 r1.fields 8) != 0)).bind fun r10 => (ze7 (⟨a0.From.Based, a0.From.Pointer, a0.From.Offset⟩ : HwPlace) ((zd .i64 r1.fields 16) != 0)).bind fun r11 =>
  cond ((zd .i64 r1.fields 32) == 0) (cond ((zd .i64 r1.fields 64) == 0) (cond ((zd .i64 r1.fields 256) == 0) (cond ((zd .i64 r1.fields 512) == 0)
  (cond ((zd .i64 r1.fields 1024) == 0) ((cond a0.Half (some ((zd .i64 r1.fields 128) != 0)) (some false)).bind fun g12 => (cond a0.InStorage (some (a0.Op == 4))
  (some false)).bind fun g13 =>
  some (⟨a0.Op, r2, r3, r4, r9, r10, r11, (⟨0, 0, 0⟩ : DataType), (⟨0, 0, 0⟩ : DataType), g12, g13, (⟨0, 0⟩ : Number), (⟨#[]⟩ : ByteArray), (⟨#[]⟩ : ByteArray), r5, r6, r7, r8⟩ : HwInstruction))
  ((cond a0.Half (some ((zd .i64 r1.fields 128) != 0)) (some false)).bind fun g14 => (cond a0.InStorage (some (a0.Op == 4)) (some false)).bind fun g15 =>
  some (⟨a0.Op, r2, r3, r4, r9, r10, r11, (⟨0, 0, 0⟩ : DataType), (⟨0, 0, 0⟩ : DataType), g14, g15, (⟨0, 0⟩ : Number), (⟨#[]⟩ : ByteArray), a0.Other, r5, r6, r7, r8⟩ : HwInstruction)))
  (cond ((zd .i64 r1.fields 1024) == 0) ((cond a0.Half (some ((zd .i64 r1.fields 128) != 0)) (some false)).bind fun g16 => (cond a0.InStorage (some (a0.Op == 4))
  (some false)).bind fun g17 =>
  some (⟨a0.Op, r2, r3, r4, r9, r10, r11, (⟨0, 0, 0⟩ : DataType), (⟨0, 0, 0⟩ : DataType), g16, g17, (⟨0, 0⟩ : Number), a0.Text, (⟨#[]⟩ : ByteArray), r5, r6, r7, r8⟩ : HwInstruction))
  ((cond a0.Half (some ((zd .i64 r1.fields 128) != 0)) (some false)).bind fun g18 => (cond a0.InStorage (some (a0.Op == 4)) (some false)).bind fun g19 =>
  some (⟨a0.Op, r2, r3, r4, r9, r10, r11, (⟨0, 0, 0⟩ : DataType), (⟨0, 0, 0⟩ : DataType), g18, g19, (⟨0, 0⟩ : Number), a0.Text, a0.Other, r5, r6, r7, r8⟩ : HwInstruction))))
  (cond ((zd .i64 r1.fields 512) == 0) (cond ((zd .i64 r1.fields 1024) == 0) ((cond a0.Half (some ((zd .i64 r1.fields 128) != 0)) (some false)).bind fun g20 =>
  (cond a0.InStorage (some (a0.Op == 4)) (some false)).bind fun g21 =>
  some (⟨a0.Op, r2, r3, r4, r9, r10, r11, (⟨0, 0, 0⟩ : DataType), (⟨0, 0, 0⟩ : DataType), g20, g21, (⟨a0.Number.N, a0.Number.Scale⟩ : Number), (⟨#[]⟩ : ByteArray), (⟨#[]⟩ : ByteArray), r5, r6, r7, r8⟩ : HwInstruction))
  ((cond a0.Half (some ((zd .i64 r1.fields 128) != 0)) (some false)).bind fun g22 => (cond a0.InStorage (some (a0.Op == 4)) (some false)).bind fun g23 =>
  some (⟨a0.Op, r2, r3, r4, r9, r10, r11, (⟨0, 0, 0⟩ : DataType), (⟨0, 0, 0⟩ : DataType), g22, g23, (⟨a0.Number.N, a0.Number.Scale⟩ : Number), (⟨#[]⟩ : ByteArray), a0.Other, r5, r6, r7, r8⟩ : HwInstruction)))
  (cond ((zd .i64 r1.fields 1024) == 0) ((cond a0.Half (some ((zd .i64 r1.fields 128) != 0)) (some false)).bind fun g24 => (cond a0.InStorage (some (a0.Op == 4))
  (some false)).bind fun g25 =>
  some (⟨a0.Op, r2, r3, r4, r9, r10, r11, (⟨0, 0, 0⟩ : DataType), (⟨0, 0, 0⟩ : DataType), g24, g25, (⟨a0.Number.N, a0.Number.Scale⟩ : Number), a0.Text, (⟨#[]⟩ : ByteArray), r5, r6, r7, r8⟩ : HwInstruction))
  ((cond a0.Half (some ((zd .i64 r1.fields 128) != 0)) (some false)).bind fun g26 => (cond a0.InStorage (some (a0.Op == 4)) (some false)).bind fun g27 =>
  some (⟨a0.Op, r2, r3, r4, r9, r10, r11, (⟨0, 0, 0⟩ : DataType), (⟨0, 0, 0⟩ : DataType), g26, g27, (⟨a0.Number.N, a0.Number.Scale⟩ : Number), a0.Text, a0.Other, r5, r6, r7, r8⟩ : HwInstruction)))))
  (cond ((zd .i64 r1.fields 256) == 0) (cond ((zd .i64 r1.fields 512) == 0) (cond ((zd .i64 r1.fields 1024) == 0) ((cond a0.Half (some ((zd .i64 r1.fields 128) != 0))
  (some false)).bind fun g28 => (cond a0.InStorage (some (a0.Op == 4)) (some false)).bind fun g29 =>
  some (⟨a0.Op, r2, r3, r4, r9, r10, r11, (⟨0, 0, 0⟩ : DataType), (⟨a0.Second.Kind, a0.Second.Length, a0.Second.Scale⟩ : DataType), g28, g29, (⟨0, 0⟩ : Number), (⟨#[]⟩ : ByteArray), (⟨#[]⟩ : ByteArray), r5, r6, r7, r8⟩ : HwInstruction))
  ((cond a0.Half (some ((zd .i64 r1.fields 128) != 0)) (some false)).bind fun g30 => (cond a0.InStorage (some (a0.Op == 4)) (some false)).bind fun g31 =>
  some (⟨a0.Op, r2, r3, r4, r9, r10, r11, (⟨0, 0, 0⟩ : DataType), (⟨a0.Second.Kind, a0.Second.Length, a0.Second.Scale⟩ : DataType), g30, g31, (⟨0, 0⟩ : Number), (⟨#[]⟩ : ByteArray), a0.Other, r5, r6, r7, r8⟩ : HwInstruction)))
  (cond ((zd .i64 r1.fields 1024) == 0) ((cond a0.Half (some ((zd .i64 r1.fields 128) != 0)) (some false)).bind fun g32 => (cond a0.InStorage (some (a0.Op == 4))
  (some false)).bind fun g33 =>
  some (⟨a0.Op, r2, r3, r4, r9, r10, r11, (⟨0, 0, 0⟩ : DataType), (⟨a0.Second.Kind, a0.Second.Length, a0.Second.Scale⟩ : DataType), g32, g33, (⟨0, 0⟩ : Number), a0.Text, (⟨#[]⟩ : ByteArray), r5, r6, r7, r8⟩ : HwInstruction))
  ((cond a0.Half (some ((zd .i64 r1.fields 128) != 0)) (some false)).bind fun g34 => (cond a0.InStorage (some (a0.Op == 4)) (some false)).bind fun g35 =>
  some (⟨a0.Op, r2, r3, r4, r9, r10, r11, (⟨0, 0, 0⟩ : DataType), (⟨a0.Second.Kind, a0.Second.Length, a0.Second.Scale⟩ : DataType), g34, g35, (⟨0, 0⟩ : Number), a0.Text, a0.Other, r5, r6, r7, r8⟩ : HwInstruction))))
  (cond ((zd .i64 r1.fields 512) == 0) (cond ((zd .i64 r1.fields 1024) == 0) ((cond a0.Half (some ((zd .i64 r1.fields 128) != 0)) (some false)).bind fun g36 =>
  (cond a0.InStorage (some (a0.Op == 4)) (some false)).bind fun g37 =>
  some (⟨a0.Op, r2, r3, r4, r9, r10, r11, (⟨0, 0, 0⟩ : DataType), (⟨a0.Second.Kind, a0.Second.Length, a0.Second.Scale⟩ : DataType), g36, g37, (⟨a0.Number.N, a0.Number.Scale⟩ : Number), (⟨#[]⟩ : ByteArray), (⟨#[]⟩ : ByteArray), r5, r6, r7, r8⟩ : HwInstruction))
  ((cond a0.Half (some ((zd .i64 r1.fields 128) != 0)) (some false)).bind fun g38 => (cond a0.InStorage (some (a0.Op == 4)) (some false)).bind fun g39 =>
  some (⟨a0.Op, r2, r3, r4, r9, r10, r11, (⟨0, 0, 0⟩ : DataType), (⟨a0.Second.Kind, a0.Second.Length, a0.Second.Scale⟩ : DataType), g38, g39, (⟨a0.Number.N, a0.Number.Scale⟩ : Number), (⟨#[]⟩ : ByteArray), a0.Other, r5, r6, r7, r8⟩ : HwInstruction)))
  (cond ((zd .i64 r1.fields 1024) == 0) ((cond a0.Half (some ((zd .i64 r1.fields 128) != 0)) (some false)).bind fun g40 => (cond a0.InStorage (some (a0.Op == 4))
  (some false)).bind fun g41 =>
  some (⟨a0.Op, r2, r3, r4, r9, r10, r11, (⟨0, 0, 0⟩ : DataType), (⟨a0.Second.Kind, a0.Second.Length, a0.Second.Scale⟩ : DataType), g40, g41, (⟨a0.Number.N, a0.Number.Scale⟩ : Number), a0.Text, (⟨#[]⟩ : ByteArray), r5, r6, r7, r8⟩ : HwInstruction))
  ((cond a0.Half (some ((zd .i64 r1.fields 128) != 0)) (some false)).bind fun g42 => (cond a0.InStorage (some (a0.Op == 4)) (some false)).bind fun g43 =>
  some (⟨a0.Op, r2, r3, r4, r9, r10, r11, (⟨0, 0, 0⟩ : DataType), (⟨a0.Second.Kind, a0.Second.Length, a0.Second.Scale⟩ : DataType), g42, g43, (⟨a0.Number.N, a0.Number.Scale⟩ : Number), a0.Text, a0.Other, r5, r6, r7, r8⟩ : HwInstruction))))))
  (cond ((zd .i64 r1.fields 64) == 0) (cond ((zd .i64 r1.fields 256) == 0) (cond ((zd .i64 r1.fields 512) == 0) (cond ((zd .i64 r1.fields 1024) == 0)
  ((cond a0.Half (some ((zd .i64 r1.fields 128) != 0)) (some false)).bind fun g44 => (cond a0.InStorage (some (a0.Op == 4)) (some false)).bind fun g45 =>
  some (⟨a0.Op, r2, r3, r4, r9, r10, r11, (⟨a0.Type_.Kind, a0.Type_.Length, a0.Type_.Scale⟩ : DataType), (⟨0, 0, 0⟩ : DataType), g44, g45, (⟨0, 0⟩ : Number), (⟨#[]⟩ : ByteArray), (⟨#[]⟩ : ByteArray), r5, r6, r7, r8⟩ : HwInstruction))
  ((cond a0.Half (some ((zd .i64 r1.fields 128) != 0)) (some false)).bind fun g46 => (cond a0.InStorage (some (a0.Op == 4)) (some false)).bind fun g47 =>
  some (⟨a0.Op, r2, r3, r4, r9, r10, r11, (⟨a0.Type_.Kind, a0.Type_.Length, a0.Type_.Scale⟩ : DataType), (⟨0, 0, 0⟩ : DataType), g46, g47, (⟨0, 0⟩ : Number), (⟨#[]⟩ : ByteArray), a0.Other, r5, r6, r7, r8⟩ : HwInstruction)))
  (cond ((zd .i64 r1.fields 1024) == 0) ((cond a0.Half (some ((zd .i64 r1.fields 128) != 0)) (some false)).bind fun g48 => (cond a0.InStorage (some (a0.Op == 4))
  (some false)).bind fun g49 =>
  some (⟨a0.Op, r2, r3, r4, r9, r10, r11, (⟨a0.Type_.Kind, a0.Type_.Length, a0.Type_.Scale⟩ : DataType), (⟨0, 0, 0⟩ : DataType), g48, g49, (⟨0, 0⟩ : Number), a0.Text, (⟨#[]⟩ : ByteArray), r5, r6, r7, r8⟩ : HwInstruction))
  ((cond a0.Half (some ((zd .i64 r1.fields 128) != 0)) (some false)).bind fun g50 => (cond a0.InStorage (some (a0.Op == 4)) (some false)).bind fun g51 =>
  some (⟨a0.Op, r2, r3, r4, r9, r10, r11, (⟨a0.Type_.Kind, a0.Type_.Length, a0.Type_.Scale⟩ : DataType), (⟨0, 0, 0⟩ : DataType), g50, g51, (⟨0, 0⟩ : Number), a0.Text, a0.Other, r5, r6, r7, r8⟩ : HwInstruction))))
  (cond ((zd .i64 r1.fields 512) == 0) (cond ((zd .i64 r1.fields 1024) == 0) ((cond a0.Half (some ((zd .i64 r1.fields 128) != 0)) (some false)).bind fun g52 =>
  (cond a0.InStorage (some (a0.Op == 4)) (some false)).bind fun g53 =>
  some (⟨a0.Op, r2, r3, r4, r9, r10, r11, (⟨a0.Type_.Kind, a0.Type_.Length, a0.Type_.Scale⟩ : DataType), (⟨0, 0, 0⟩ : DataType), g52, g53, (⟨a0.Number.N, a0.Number.Scale⟩ : Number), (⟨#[]⟩ : ByteArray), (⟨#[]⟩ : ByteArray), r5, r6, r7, r8⟩ : HwInstruction))
  ((cond a0.Half (some ((zd .i64 r1.fields 128) != 0)) (some false)).bind fun g54 => (cond a0.InStorage (some (a0.Op == 4)) (some false)).bind fun g55 =>
  some (⟨a0.Op, r2, r3, r4, r9, r10, r11, (⟨a0.Type_.Kind, a0.Type_.Length, a0.Type_.Scale⟩ : DataType), (⟨0, 0, 0⟩ : DataType), g54, g55, (⟨a0.Number.N, a0.Number.Scale⟩ : Number), (⟨#[]⟩ : ByteArray), a0.Other, r5, r6, r7, r8⟩ : HwInstruction)))
  (cond ((zd .i64 r1.fields 1024) == 0) ((cond a0.Half (some ((zd .i64 r1.fields 128) != 0)) (some false)).bind fun g56 => (cond a0.InStorage (some (a0.Op == 4))
  (some false)).bind fun g57 =>
  some (⟨a0.Op, r2, r3, r4, r9, r10, r11, (⟨a0.Type_.Kind, a0.Type_.Length, a0.Type_.Scale⟩ : DataType), (⟨0, 0, 0⟩ : DataType), g56, g57, (⟨a0.Number.N, a0.Number.Scale⟩ : Number), a0.Text, (⟨#[]⟩ : ByteArray), r5, r6, r7, r8⟩ : HwInstruction))
  ((cond a0.Half (some ((zd .i64 r1.fields 128) != 0)) (some false)).bind fun g58 => (cond a0.InStorage (some (a0.Op == 4)) (some false)).bind fun g59 =>
  some (⟨a0.Op, r2, r3, r4, r9, r10, r11, (⟨a0.Type_.Kind, a0.Type_.Length, a0.Type_.Scale⟩ : DataType), (⟨0, 0, 0⟩ : DataType), g58, g59, (⟨a0.Number.N, a0.Number.Scale⟩ : Number), a0.Text, a0.Other, r5, r6, r7, r8⟩ : HwInstruction)))))
  (cond ((zd .i64 r1.fields 256) == 0) (cond ((zd .i64 r1.fields 512) == 0) (cond ((zd .i64 r1.fields 1024) == 0) ((cond a0.Half (some ((zd .i64 r1.fields 128) != 0))
  (some false)).bind fun g60 => (cond a0.InStorage (some (a0.Op == 4)) (some false)).bind fun g61 =>
  some (⟨a0.Op, r2, r3, r4, r9, r10, r11, (⟨a0.Type_.Kind, a0.Type_.Length, a0.Type_.Scale⟩ : DataType), (⟨a0.Second.Kind, a0.Second.Length, a0.Second.Scale⟩ : DataType), g60, g61, (⟨0, 0⟩ : Number), (⟨#[]⟩ : ByteArray), (⟨#[]⟩ : ByteArray), r5, r6, r7, r8⟩ : HwInstruction))
  ((cond a0.Half (some ((zd .i64 r1.fields 128) != 0)) (some false)).bind fun g62 => (cond a0.InStorage (some (a0.Op == 4)) (some false)).bind fun g63 =>
  some (⟨a0.Op, r2, r3, r4, r9, r10, r11, (⟨a0.Type_.Kind, a0.Type_.Length, a0.Type_.Scale⟩ : DataType), (⟨a0.Second.Kind, a0.Second.Length, a0.Second.Scale⟩ : DataType), g62, g63, (⟨0, 0⟩ : Number), (⟨#[]⟩ : ByteArray), a0.Other, r5, r6, r7, r8⟩ : HwInstruction)))
  (cond ((zd .i64 r1.fields 1024) == 0) ((cond a0.Half (some ((zd .i64 r1.fields 128) != 0)) (some false)).bind fun g64 => (cond a0.InStorage (some (a0.Op == 4))
  (some false)).bind fun g65 =>
  some (⟨a0.Op, r2, r3, r4, r9, r10, r11, (⟨a0.Type_.Kind, a0.Type_.Length, a0.Type_.Scale⟩ : DataType), (⟨a0.Second.Kind, a0.Second.Length, a0.Second.Scale⟩ : DataType), g64, g65, (⟨0, 0⟩ : Number), a0.Text, (⟨#[]⟩ : ByteArray), r5, r6, r7, r8⟩ : HwInstruction))
  ((cond a0.Half (some ((zd .i64 r1.fields 128) != 0)) (some false)).bind fun g66 => (cond a0.InStorage (some (a0.Op == 4)) (some false)).bind fun g67 =>
  some (⟨a0.Op, r2, r3, r4, r9, r10, r11, (⟨a0.Type_.Kind, a0.Type_.Length, a0.Type_.Scale⟩ : DataType), (⟨a0.Second.Kind, a0.Second.Length, a0.Second.Scale⟩ : DataType), g66, g67, (⟨0, 0⟩ : Number), a0.Text, a0.Other, r5, r6, r7, r8⟩ : HwInstruction))))
  (cond ((zd .i64 r1.fields 512) == 0) (cond ((zd .i64 r1.fields 1024) == 0) ((cond a0.Half (some ((zd .i64 r1.fields 128) != 0)) (some false)).bind fun g68 =>
  (cond a0.InStorage (some (a0.Op == 4)) (some false)).bind fun g69 =>
  some (⟨a0.Op, r2, r3, r4, r9, r10, r11, (⟨a0.Type_.Kind, a0.Type_.Length, a0.Type_.Scale⟩ : DataType), (⟨a0.Second.Kind, a0.Second.Length, a0.Second.Scale⟩ : DataType), g68, g69, (⟨a0.Number.N, a0.Number.Scale⟩ : Number), (⟨#[]⟩ : ByteArray), (⟨#[]⟩ : ByteArray), r5, r6, r7, r8⟩ : HwInstruction))
  ((cond a0.Half (some ((zd .i64 r1.fields 128) != 0)) (some false)).bind fun g70 => (cond a0.InStorage (some (a0.Op == 4)) (some false)).bind fun g71 =>
  some (⟨a0.Op, r2, r3, r4, r9, r10, r11, (⟨a0.Type_.Kind, a0.Type_.Length, a0.Type_.Scale⟩ : DataType), (⟨a0.Second.Kind, a0.Second.Length, a0.Second.Scale⟩ : DataType), g70, g71, (⟨a0.Number.N, a0.Number.Scale⟩ : Number), (⟨#[]⟩ : ByteArray), a0.Other, r5, r6, r7, r8⟩ : HwInstruction)))
  (cond ((zd .i64 r1.fields 1024) == 0) ((cond a0.Half (some ((zd .i64 r1.fields 128) != 0)) (some false)).bind fun g72 => (cond a0.InStorage (some (a0.Op == 4))
  (some false)).bind fun g73 =>
  some (⟨a0.Op, r2, r3, r4, r9, r10, r11, (⟨a0.Type_.Kind, a0.Type_.Length, a0.Type_.Scale⟩ : DataType), (⟨a0.Second.Kind, a0.Second.Length, a0.Second.Scale⟩ : DataType), g72, g73, (⟨a0.Number.N, a0.Number.Scale⟩ : Number), a0.Text, (⟨#[]⟩ : ByteArray), r5, r6, r7, r8⟩ : HwInstruction))
  ((cond a0.Half (some ((zd .i64 r1.fields 128) != 0)) (some false)).bind fun g74 => (cond a0.InStorage (some (a0.Op == 4)) (some false)).bind fun g75 =>
  some (⟨a0.Op, r2, r3, r4, r9, r10, r11, (⟨a0.Type_.Kind, a0.Type_.Length, a0.Type_.Scale⟩ : DataType), (⟨a0.Second.Kind, a0.Second.Length, a0.Second.Scale⟩ : DataType), g74, g75, (⟨a0.Number.N, a0.Number.Scale⟩ : Number), a0.Text, a0.Other, r5, r6, r7, r8⟩ : HwInstruction))))))
def zgr.k : Kq := ⟨92, (cvv [Ty.HwInstruction] [Ty.HwInstruction] zgr), go [zat.k, za8.k, ze7.k] {} [] Proofs.Tryz.func92⟩
def zfq (a0 : HwModel) (a1 : HwInstruction) : Option Bool :=
 (cond (a1.Op != 7) (some true) (some a0.Fused)).bind fun g1 => (cond g1 ((cond (a1.Op != 4) (some true) (some (!a1.InStorage))).bind fun g2 => (cond g2 (some true)
  (some a0.Memory)).bind fun g3 => some g3) (some false)).bind fun g4 => some g4
def zfq.k : Kq := ⟨63, (cvv [Ty.bool] [Ty.HwModel, Ty.HwInstruction] zfq), go [] {} [] Proofs.Tryz.func63⟩
def zch (a0 : Int) (a1 : Int) (a2 : Int) : Option Bool :=
 (cond (decide (a1 ≤ a0)) (some (decide (a0 ≤ a2))) (some false)).bind fun g1 => some g1
def zch.k : Kq := ⟨119, (cvv [Ty.bool] [T6, T6, T6] zch), go [] {} [] Proofs.Tryz.func119⟩
def zab (a0 : Bool) (a1 : Int) : Option Int :=
 cond a0 (some a1) (some 0)
def zab.k : Kq := ⟨118, (cvv [T6] [Ty.bool, T6] zab), go [] {} [] Proofs.Tryz.func118⟩
def zm.b0 (N : Nat) (s5 : List Int) (s6 : Int) (s7 : Int) : Option (Round Int ((List Int) × Int × Int)) :=
 cond (decide (s7 < s6)) ((idx s5 s7).bind fun x1001 => cond (x1001 != 0) (some (.result x1001)) (some (.again (s5, s6, (w6 (s7 + 1)))))) (some (.leave (s5, s6, s7)))
def zm.r0 (N : Nat) (x : (List Int) × Int × Int) := zm.b0 N x.1 x.2.1 x.2.2
def zm (N : Nat) (a0 : List Int) : Option Int :=
 (zk (zm.r0 N) N (a0, (a0.length : Int), 0)).bind fun z2 => zbe z2 (fun z => some z) (fun y1 => some 0)
def zm.k (N : Nat) : Kq := ⟨265, (cvv [T6] [(Ty.sl T6)] (zm N)), go [] {} [(0, .rets { slots := [(5, .val (Ty.sl T6)), (6, .val T6), (7, .val T6)], boxes := [] } [(Ty.sl T6), T6, T6] (zk (zm.r0 N) N))] Proofs.Tryz.func265 (hL := ⟨⟨_, _, rfl, by kernel_rfl⟩, trivial⟩)⟩
def zaj (N : Nat) (a0 : DataType) : Option Int :=
 cond (a0.Kind == 0) ((zch a0.Length 1 256).bind fun r1 => (zab (!r1) 18).bind fun r2 => (zab (!(a0.Scale == 0)) 3).bind fun r3 =>
  (zm N ([r2, r3] : List Int)).bind fun r4 => some r4) ((cond (a0.Kind == 1) (some (a0.Kind == 1)) (some (a0.Kind == 2))).bind fun q5 =>
  cond q5 ((zch a0.Length 1 15).bind fun r6 => (zch a0.Scale 0 a0.Length).bind fun r7 => (zab (!r6) 18).bind fun r8 => (zab (!r7) 3).bind fun r9 =>
  (zm N ([r8, r9] : List Int)).bind fun r10 => some r10) (cond (a0.Kind == 3) ((cond (a0.Length == 4) (some true) (some (a0.Length == 9))).bind fun g11 =>
  (zch a0.Scale 0 a0.Length).bind fun r12 => (zab (!g11) 18).bind fun r13 => (zab (!r12) 3).bind fun r14 =>
  (zm N ([r13, r14] : List Int)).bind fun r15 => some r15) (cond (a0.Kind == 4) ((zab (!(a0.Length == 0)) 18).bind fun r16 =>
  (zab (!(a0.Scale == 0)) 3).bind fun r17 => (zm N ([r16, r17] : List Int)).bind fun r18 => some r18) (some 4))))
def zaj.k (N : Nat) : Kq := ⟨202, (cvv [T6] [Ty.DataType] (zaj N)), go [zab.k, zch.k, zm.k N] {lits := [48, 51, 52], bj := [15]} [] Proofs.Tryz.func202⟩
def zdi (N : Nat) (a0 : DataType) (a1 : Int) : Option Int :=
 (cond (a0.Kind == 4) (some true) ((cond (a1 == 1) (some (a0.Kind == 0)) (some false)).bind fun g1 => some g1)).bind fun g2 => (cond g2 (some true) ((cond (a1 == 2)
  (some (a0.Kind != 0)) (some false)).bind fun g3 => some g3)).bind fun g4 => (zaj N (⟨a0.Kind, a0.Length, a0.Scale⟩ : DataType)).bind fun r5 =>
  (zw g4 17).bind fun r6 => (zq N ([r5, r6] : List Int)).bind fun r7 => some r7
def zdi.k (N : Nat) : Kq := ⟨139, (cvv [T6] [Ty.DataType, T6] (zdi N)), go [zq.k N, zw.k, zaj.k N] {lits := [28, 30, 31]} [] Proofs.Tryz.func139⟩
def zet (N : Nat) (a0 : HwInstruction) (a1 : hardware_form) : Option Int :=
 cond ((zd .i64 a1.fields 32) != 0) ((zdi N (⟨a0.Type_.Kind, a0.Type_.Length, a0.Type_.Scale⟩ : DataType) a1.types).bind fun r1 => cond (r1 != 0) (some r1)
  (cond ((zd .i64 a1.fields 64) != 0) ((zdi N (⟨a0.Second.Kind, a0.Second.Length, a0.Second.Scale⟩ : DataType) a1.types).bind fun r2 => some r2) (some 0)))
  (cond ((zd .i64 a1.fields 64) != 0) ((zdi N (⟨a0.Second.Kind, a0.Second.Length, a0.Second.Scale⟩ : DataType) a1.types).bind fun r3 => some r3) (some 0))
def zet.k (N : Nat) : Kq := ⟨93, (cvv [T6] [Ty.HwInstruction, Ty.hardware_form] (zet N)), go [zdi.k N] {} [] Proofs.Tryz.func93⟩
def zj.b0 (N : Nat) (s3 : List Int) (s4 : Int) (s16 : List Int) (s17 : Int) (s18 : Int) : Option (Stp ((List Int) × Int × (List Int) × Int × Int)) :=
 cond (decide (s18 < s17)) (if 0 ≤ s18 then (if s18 < (s16.length : Int) then ((s16[s18.toNat]?).bind fun x1001 =>
  if s18 < 0 then none else cond ((zd .i64 s4 (w6 (1 * 2 ^ (min s18.toNat 64)))) != 0) (cond (Nat.ble ((s3.length + ([x1001] : List Int).length) * 8) zax)
  (some (.again ((s3 ++ ([x1001] : List Int)), s4, s16, s17, (w6 (s18 + 1))))) none)
  (some (.again (s3, s4, s16, s17, (w6 (s18 + 1)))))) else none) else none) (some (.leave (s3, s4, s16, s17, s18)))
def zj.r0 (N : Nat) (x : (List Int) × Int × (List Int) × Int × Int) := zj.b0 N x.1 x.2.1 x.2.2.1 x.2.2.2.1 x.2.2.2.2
def zj (N : Nat) (a0 : HwInstruction) : Option ((List Int)) :=
 (zat a0).bind fun r1 =>
  (zac (zj.r0 N) N ([], r1.fields, ([a0.R, a0.A, a0.B] : List Int), (([a0.R, a0.A, a0.B] : List Int).length : Int), 0)).bind fun y2 => some y2.1
def zj.k (N : Nat) : Kq := ⟨65, (cvv [(Ty.sl T6)] [Ty.HwInstruction] (zj N)), go [zat.k] {lits := [30]} [(0, .plain { slots := [(3, .own 5000003 T6), (4, .val T6), (16, .own 5000016 T6), (17, .val T6), (18, .val T6)], boxes := [] } [(Ty.sl T6), T6, (Ty.sl T6), T6, T6] (zac (zj.r0 N) N))] Proofs.Tryz.func65 (hL := ⟨⟨_, _, rfl, by kernel_rfl⟩, trivial⟩)⟩
def zd2 (a0 : Int) (a1 : HwModel) : Option Bool :=
 (zn a0 0 (w6 (a1.Registers - 1))).bind fun r1 => some (!r1)
def zd2.k : Kq := ⟨140, (ctv [.val T6, .ptr Ty.HwModel false []] [Ty.bool] [] [] [T6, Ty.HwModel] zd2), go [zn.k] {ro := [1000000], pk := [1000000]} [] Proofs.Tryz.func140⟩
def zr.b0 (N : Nat) (s0 : List Int) (s7 : Int) (s8 : Int) (b1000000 : HwModel) : Option (Round Int ((List Int) × Int × Int × HwModel)) :=
 cond (decide (s8 < s7)) ((idx s0 s8).bind fun x1001 => (zd2 x1001 b1000000).bind fun r1002 => cond r1002 (some (.result s8))
  (some (.again (s0, s7, (w6 (s8 + 1)), b1000000)))) (some (.leave (s0, s7, s8, b1000000)))
def zr.r0 (N : Nat) (x : (List Int) × Int × Int × HwModel) := zr.b0 N x.1 x.2.1 x.2.2.1 x.2.2.2
def zr (N : Nat) (a0 : List Int) (a1 : HwModel) : Option Int :=
 (zk (zr.r0 N) N (a0, (a0.length : Int), 0, a1)).bind fun z2 => zbe z2 (fun z => some z) (fun y1 => some (-1))
def zr.k (N : Nat) : Kq := ⟨106, (ctv [.val (Ty.sl T6), .clo 140 1, .ptr Ty.HwModel false []] [T6] [] [] [(Ty.sl T6), Ty.HwModel] (zr N)), go [zd2.k] {ro := [1000000], pk := [1000000]} [(0, .rets { slots := [(0, .val (Ty.sl T6)), (1, .fn 140 [1000000]), (7, .val T6), (8, .val T6)], boxes := [(1000000, Ty.HwModel, [])] } [(Ty.sl T6), T6, T6, Ty.HwModel] (zk (zr.r0 N) N))] Proofs.Tryz.func106 (hL := ⟨⟨_, _, rfl, by kernel_rfl⟩, trivial⟩)⟩
def zbp (N : Nat) (a0 : List Int) (a1 : HwModel) : Option Bool :=
 (zr N a0 a1).bind fun r1 => some (decide (r1 ≥ 0))
def zbp.k (N : Nat) : Kq := ⟨64, (ctv [.val (Ty.sl T6), .clo 140 1, .ptr Ty.HwModel false []] [Ty.bool] [] [] [(Ty.sl T6), Ty.HwModel] (zbp N)), go [zr.k N] {ro := [1000000], pk := [1000000]} [] Proofs.Tryz.func64⟩
def zcc (a0 : Storage) (a1 : Int) : Option Bool :=
 (cond (decide (a1 ≥ 0)) (some ((a1.tmod 16) == 0)) (some false)).bind fun g1 => (cond g1 (some (decide (a1 < (a0.Bytes.size : Int)))) (some false)).bind fun g2 => some g2
def zcc.k : Kq := ⟨141, (cvv [Ty.bool] [Ty.Storage, T6] zcc), go [] {} [] Proofs.Tryz.func141⟩
def zd4 (a0 : DataType) : Option Int :=
 cond (a0.Kind == 1) (some (w6 ((w6 (a0.Length.tdiv 2)) + 1))) (cond (a0.Kind == 3)
  (some (w6 (2 + (w6 ((w6 (a0.Length.tdiv 9)) * 2))))) (cond (a0.Kind == 4) (some 16) (some a0.Length)))
def zd4.k : Kq := ⟨267, (cvv [T6] [Ty.DataType] zd4), go [] {} [] Proofs.Tryz.func267⟩
def zg8 (N : Nat) (a0 : DataType) : Option (Int × Int) :=
 (zaj N a0).bind fun r1 => cond (r1 != 0) (some (0, r1)) ((zd4 a0).bind fun r2 => some (r2, 0))
def zg8.k (N : Nat) : Kq := ⟨266, (cvv [T6, T6] [Ty.DataType] (zg8 N)), go [zaj.k N, zd4.k] {} [] Proofs.Tryz.func266⟩
def zdl (N : Nat) (a0 : DataType) : Option Int :=
 (zg8 N a0).bind fun r1 => some r1.1
def zdl.k (N : Nat) : Kq := ⟨203, (cvv [T6] [Ty.DataType] (zdl N)), go [zg8.k N] {} [] Proofs.Tryz.func203⟩
def zbv (N : Nat) (a0 : Storage) (a1 : HwPlace) (a2 : DataType) : Option Bool :=
 cond a1.Based ((zcc a0 a1.Pointer).bind fun r1 => (cond r1 ((zn a1.Offset 0 256).bind fun r2 => some r2) (some false)).bind fun g3 => some g3)
  ((zdl N a2).bind fun r4 => (zn a1.Offset 0 (w6 ((a0.Bytes.size : Int) - r4))).bind fun r5 => some r5)
def zbv.k (N : Nat) : Kq := ⟨142, (cvv [Ty.bool] [Ty.Storage, Ty.HwPlace, Ty.DataType] (zbv N)), go [zn.k, zcc.k, zdl.k N] {} [] Proofs.Tryz.func142⟩
def ze9 (N : Nat) (a0 : HwModel) (a1 : HwCode) (a2 : HwInstruction) : Option Bool :=
 (zat a2).bind fun r1 => (zj N a2).bind fun r2 => (zbp N r2 (⟨a0.Registers, a0.Fused, a0.Memory⟩ : HwModel)).bind fun r3 =>
  cond r3 (some false) ((cond ((zd .i64 r1.fields 8) != 0) (some (a2.Op == 4)) (some false)).bind fun g4 => cond g4 ((cond ((zd .i64 r1.fields 4096) != 0)
  ((zn a2.Target 0 (w6 ((a1.Instructions.length : Int) - 1))).bind fun r5 => some (!r5)) (some false)).bind fun g6 => (cond g6 (some true)
  ((cond ((zd .i64 r1.fields 2048) != 0) ((zn a2.Mask 1 7).bind fun r7 => some (!r7)) (some false)).bind fun g8 => some g8)).bind fun g9 => (cond g9 (some true)
  ((cond ((zd .i64 r1.fields 8192) != 0) ((zcc (⟨a1.Storage.Bytes, a1.Storage.Tags⟩ : Storage) a2.Pointer).bind fun r10 => some (!r10)) (some false)).bind fun g11 =>
  some g11)).bind fun g12 => (cond g12 (some true) ((cond ((zd .i64 r1.fields 16384) != 0)
  ((zcc (⟨a1.Storage.Bytes, a1.Storage.Tags⟩ : Storage) a2.Source).bind fun r13 => some (!r13)) (some false)).bind fun g14 => some g14)).bind fun g15 =>
  (cond g15 (some true) ((cond ((zd .i64 r1.fields 8) != 0) ((zbv N (⟨a1.Storage.Bytes, a1.Storage.Tags⟩ : Storage)
  (⟨a2.Place.Based, a2.Place.Pointer, a2.Place.Offset⟩ : HwPlace) (⟨a2.Second.Kind, a2.Second.Length, a2.Second.Scale⟩ : DataType)).bind fun r16 => some (!r16))
  (some false)).bind fun g17 => some g17)).bind fun g18 => (cond g18 (some true) ((cond ((zd .i64 r1.fields 16) != 0)
  ((zbv N (⟨a1.Storage.Bytes, a1.Storage.Tags⟩ : Storage) (⟨a2.From.Based, a2.From.Pointer, a2.From.Offset⟩ : HwPlace)
  (⟨a2.Second.Kind, a2.Second.Length, a2.Second.Scale⟩ : DataType)).bind fun r19 => some (!r19)) (some false)).bind fun g20 => some g20)).bind fun g21 => (cond g21 (some true)
  ((cond ((zd .i64 r1.fields 32768) != 0) ((zn a2.Calculation 0 4).bind fun r22 => some (!r22)) (some false)).bind fun g23 => some g23)).bind fun g24 => some (!g24))
  ((cond ((zd .i64 r1.fields 4096) != 0) ((zn a2.Target 0 (w6 ((a1.Instructions.length : Int) - 1))).bind fun r25 => some (!r25))
  (some false)).bind fun g26 => (cond g26 (some true) ((cond ((zd .i64 r1.fields 2048) != 0) ((zn a2.Mask 1 7).bind fun r27 => some (!r27)) (some false)).bind fun g28 =>
  some g28)).bind fun g29 => (cond g29 (some true) ((cond ((zd .i64 r1.fields 8192) != 0)
  ((zcc (⟨a1.Storage.Bytes, a1.Storage.Tags⟩ : Storage) a2.Pointer).bind fun r30 => some (!r30)) (some false)).bind fun g31 => some g31)).bind fun g32 =>
  (cond g32 (some true) ((cond ((zd .i64 r1.fields 16384) != 0) ((zcc (⟨a1.Storage.Bytes, a1.Storage.Tags⟩ : Storage) a2.Source).bind fun r33 => some (!r33))
  (some false)).bind fun g34 => some g34)).bind fun g35 => (cond g35 (some true) ((cond ((zd .i64 r1.fields 8) != 0)
  ((zbv N (⟨a1.Storage.Bytes, a1.Storage.Tags⟩ : Storage) (⟨a2.Place.Based, a2.Place.Pointer, a2.Place.Offset⟩ : HwPlace)
  (⟨a2.Type_.Kind, a2.Type_.Length, a2.Type_.Scale⟩ : DataType)).bind fun r36 => some (!r36)) (some false)).bind fun g37 => some g37)).bind fun g38 => (cond g38 (some true)
  ((cond ((zd .i64 r1.fields 16) != 0) ((zbv N (⟨a1.Storage.Bytes, a1.Storage.Tags⟩ : Storage) (⟨a2.From.Based, a2.From.Pointer, a2.From.Offset⟩ : HwPlace)
  (⟨a2.Second.Kind, a2.Second.Length, a2.Second.Scale⟩ : DataType)).bind fun r39 => some (!r39)) (some false)).bind fun g40 => some g40)).bind fun g41 => (cond g41 (some true)
  ((cond ((zd .i64 r1.fields 32768) != 0) ((zn a2.Calculation 0 4).bind fun r42 => some (!r42)) (some false)).bind fun g43 => some g43)).bind fun g44 => some (!g44)))
def ze9.k (N : Nat) : Kq := ⟨95, (cvv [Ty.bool] [Ty.HwModel, Ty.HwCode, Ty.HwInstruction] (ze9 N)), go [zn.k, zbp.k N, zj.k N, zat.k, zcc.k, zbv.k N] {lits := [13]} [] Proofs.Tryz.func95⟩
def z7 (a0 : Number) : Option Int :=
 (zch a0.N (-999999999999999) 999999999999999).bind fun r1 => (cond (!r1) (some true) ((zch a0.Scale 0 15).bind fun r2 => some (!r2))).bind fun g3 =>
  (zab g3 3).bind fun r4 => some r4
def z7.k : Kq := ⟨78, (cvv [T6] [Ty.Number] z7), go [zab.k, zch.k] {} [] Proofs.Tryz.func78⟩
def zbh (N : Nat) (a0 : HwModel) (a1 : HwCode) (a2 : HwInstruction) : Option Int :=
 (zn a2.Op 0 26).bind fun r1 => cond (!r1) (some 4)
  ((zgr (⟨a2.Op, a2.R, a2.A, a2.B, a2.Calculation, (⟨a2.Place.Based, a2.Place.Pointer, a2.Place.Offset⟩ : HwPlace), (⟨a2.From.Based, a2.From.Pointer, a2.From.Offset⟩ : HwPlace), (⟨a2.Type_.Kind, a2.Type_.Length, a2.Type_.Scale⟩ : DataType), (⟨a2.Second.Kind, a2.Second.Length, a2.Second.Scale⟩ : DataType), a2.Half, a2.InStorage, (⟨a2.Number.N, a2.Number.Scale⟩ : Number), a2.Text, a2.Other, a2.Mask, a2.Target, a2.Pointer, a2.Source⟩ : HwInstruction)).bind fun r2 =>
  (zw (!(zdz [(r2.Op == a2.Op), (r2.R == a2.R), (r2.A == a2.A), (r2.B == a2.B), (r2.Calculation == a2.Calculation), (r2.Place.Based == a2.Place.Based), (r2.Place.Pointer == a2.Place.Pointer), (r2.Place.Offset == a2.Place.Offset), (r2.From.Based == a2.From.Based), (r2.From.Pointer == a2.From.Pointer), (r2.From.Offset == a2.From.Offset), (r2.Type_.Kind == a2.Type_.Kind), (r2.Type_.Length == a2.Type_.Length), (r2.Type_.Scale == a2.Type_.Scale), (r2.Second.Kind == a2.Second.Kind), (r2.Second.Length == a2.Second.Length), (r2.Second.Scale == a2.Second.Scale), (r2.Half == a2.Half), (r2.InStorage == a2.InStorage), (r2.Number.N == a2.Number.N), (r2.Number.Scale == a2.Number.Scale), (r2.Text == a2.Text), (r2.Other == a2.Other), (r2.Mask == a2.Mask), (r2.Target == a2.Target), (r2.Pointer == a2.Pointer), (r2.Source == a2.Source)])) 5).bind fun r3 =>
  (zfq a0 (⟨a2.Op, a2.R, a2.A, a2.B, a2.Calculation, (⟨a2.Place.Based, a2.Place.Pointer, a2.Place.Offset⟩ : HwPlace), (⟨a2.From.Based, a2.From.Pointer, a2.From.Offset⟩ : HwPlace), (⟨a2.Type_.Kind, a2.Type_.Length, a2.Type_.Scale⟩ : DataType), (⟨a2.Second.Kind, a2.Second.Length, a2.Second.Scale⟩ : DataType), a2.Half, a2.InStorage, (⟨a2.Number.N, a2.Number.Scale⟩ : Number), a2.Text, a2.Other, a2.Mask, a2.Target, a2.Pointer, a2.Source⟩ : HwInstruction)).bind fun r4 =>
  (zw (!r4) 39).bind fun r5 =>
  (zat (⟨a2.Op, a2.R, a2.A, a2.B, a2.Calculation, (⟨a2.Place.Based, a2.Place.Pointer, a2.Place.Offset⟩ : HwPlace), (⟨a2.From.Based, a2.From.Pointer, a2.From.Offset⟩ : HwPlace), (⟨a2.Type_.Kind, a2.Type_.Length, a2.Type_.Scale⟩ : DataType), (⟨a2.Second.Kind, a2.Second.Length, a2.Second.Scale⟩ : DataType), a2.Half, a2.InStorage, (⟨a2.Number.N, a2.Number.Scale⟩ : Number), a2.Text, a2.Other, a2.Mask, a2.Target, a2.Pointer, a2.Source⟩ : HwInstruction)).bind fun r6 =>
  (zet N (⟨a2.Op, a2.R, a2.A, a2.B, a2.Calculation, (⟨a2.Place.Based, a2.Place.Pointer, a2.Place.Offset⟩ : HwPlace), (⟨a2.From.Based, a2.From.Pointer, a2.From.Offset⟩ : HwPlace), (⟨a2.Type_.Kind, a2.Type_.Length, a2.Type_.Scale⟩ : DataType), (⟨a2.Second.Kind, a2.Second.Length, a2.Second.Scale⟩ : DataType), a2.Half, a2.InStorage, (⟨a2.Number.N, a2.Number.Scale⟩ : Number), a2.Text, a2.Other, a2.Mask, a2.Target, a2.Pointer, a2.Source⟩ : HwInstruction)
  (⟨r6.fields, r6.types⟩ : hardware_form)).bind fun r7 => (zq N ([r3, r5, r7] : List Int)).bind fun r8 => cond (r8 != 0) (some r8)
  ((ze9 N (⟨a0.Registers, a0.Fused, a0.Memory⟩ : HwModel) (⟨(⟨a1.Storage.Bytes, a1.Storage.Tags⟩ : Storage), a1.Instructions, a1.Traps⟩ : HwCode)
  (⟨a2.Op, a2.R, a2.A, a2.B, a2.Calculation, (⟨a2.Place.Based, a2.Place.Pointer, a2.Place.Offset⟩ : HwPlace), (⟨a2.From.Based, a2.From.Pointer, a2.From.Offset⟩ : HwPlace), (⟨a2.Type_.Kind, a2.Type_.Length, a2.Type_.Scale⟩ : DataType), (⟨a2.Second.Kind, a2.Second.Length, a2.Second.Scale⟩ : DataType), a2.Half, a2.InStorage, (⟨a2.Number.N, a2.Number.Scale⟩ : Number), a2.Text, a2.Other, a2.Mask, a2.Target, a2.Pointer, a2.Source⟩ : HwInstruction)).bind fun r9 =>
  (zw (!r9) 3).bind fun r10 => (z7 (⟨a2.Number.N, a2.Number.Scale⟩ : Number)).bind fun r11 => (cond (decide ((a2.Text.size : Int) > 256)) (some true)
  (some (decide ((a2.Other.size : Int) > 256)))).bind fun g12 => (zw g12 2).bind fun r13 => (zq N ([r10, r11, r13] : List Int)).bind fun r14 => some r14))
def zbh.k (N : Nat) : Kq := ⟨51, (cvv [T6] [Ty.HwModel, Ty.HwCode, Ty.HwInstruction] (zbh N)), go [zq.k N, zw.k, zn.k, zfq.k, z7.k, zgr.k, zet.k N, zat.k, ze9.k N] {lits := [16, 21, 24, 25, 26, 36, 39, 50, 51]} [] Proofs.Tryz.func51⟩
def ze6 (a0 : HwCode) (a1 : HwTrap) : Option Int :=
 (zn a1.From 0 a1.To).bind fun r1 => (cond r1 (some (decide (a1.To ≤ (a0.Instructions.length : Int)))) (some false)).bind fun g2 =>
  (cond g2 ((zn a1.Exception 0 999).bind fun r3 => some r3) (some false)).bind fun g4 =>
  (cond g4 ((zn a1.Handler 0 (w6 ((a0.Instructions.length : Int) - 1))).bind fun r5 => some r5) (some false)).bind fun g6 =>
  (zw (!g6) 3).bind fun r7 => some r7
def ze6.k : Kq := ⟨52, (cvv [T6] [Ty.HwCode, Ty.HwTrap] ze6), go [zw.k, zn.k] {} [] Proofs.Tryz.func52⟩
def ze.b0 (N : Nat) (s57 : List HwInstruction) (s58 : Int) (s59 : Int) (b2 : HwModel) (b3 : HwCode) : Option (Round (Int × Int) ((List HwInstruction) × Int × Int × HwModel × HwCode)) :=
 cond (decide (s59 < s58)) ((idx s57 s59).bind fun x1001 =>
  (zbh N b2 b3 (⟨x1001.Op, x1001.R, x1001.A, x1001.B, x1001.Calculation, (⟨x1001.Place.Based, x1001.Place.Pointer, x1001.Place.Offset⟩ : HwPlace), (⟨x1001.From.Based, x1001.From.Pointer, x1001.From.Offset⟩ : HwPlace), (⟨x1001.Type_.Kind, x1001.Type_.Length, x1001.Type_.Scale⟩ : DataType), (⟨x1001.Second.Kind, x1001.Second.Length, x1001.Second.Scale⟩ : DataType), x1001.Half, x1001.InStorage, (⟨x1001.Number.N, x1001.Number.Scale⟩ : Number), x1001.Text, x1001.Other, x1001.Mask, x1001.Target, x1001.Pointer, x1001.Source⟩ : HwInstruction)).bind fun r1002 =>
  cond (r1002 != 0) (some (.result (s59, r1002))) (some (.again (s57, s58, (w6 (s59 + 1)), b2, b3)))) (some (.leave (s57, s58, s59, b2, b3)))
def ze.r0 (N : Nat) (x : (List HwInstruction) × Int × Int × HwModel × HwCode) := ze.b0 N x.1 x.2.1 x.2.2.1 x.2.2.2.1 x.2.2.2.2
def ze.b2 (N : Nat) (s74 : List HwTrap) (s75 : Int) (s76 : Int) (b3 : HwCode) : Option (Round (Int × Int) ((List HwTrap) × Int × Int × HwCode)) :=
 cond (decide (s76 < s75)) ((idx s74 s76).bind fun x3001 => (ze6 b3 x3001).bind fun r3002 => cond (r3002 != 0) (some (.result (s76, r3002)))
  (some (.again (s74, s75, (w6 (s76 + 1)), b3)))) (some (.leave (s74, s75, s76, b3)))
def ze.r2 (N : Nat) (x : (List HwTrap) × Int × Int × HwCode) := ze.b2 N x.1 x.2.1 x.2.2.1 x.2.2.2
def ze (N : Nat) (a0 : HwModel) (a1 : HwCode) : Option (Int × Int) :=
 (zd3 (⟨a0.Registers, a0.Fused, a0.Memory⟩ : HwModel)).bind fun r1 => cond (r1 != 0) (some (0, r1))
  ((zg N (⟨a1.Storage.Bytes, a1.Storage.Tags⟩ : Storage)).bind fun r2 => cond (r2.2 != 0) (some (0, r2.2))
  ((zdo N a1.Storage.Tags true).bind fun r3 => (zw r3 22).bind fun r4 => (zw ((a1.Instructions.length : Int) == 0) 1).bind fun r5 =>
  (cond (decide ((a1.Instructions.length : Int) > 240)) (some true) (some (decide ((a1.Traps.length : Int) > 40)))).bind fun g6 => (zw g6 2).bind fun r7 =>
  (zq N ([r4, r5, r7] : List Int)).bind fun r8 => cond (r8 != 0) (some (0, r8))
  ((zk (ze.r0 N) N (a1.Instructions, (a1.Instructions.length : Int), 0, (⟨a0.Registers, a0.Fused, a0.Memory⟩ : HwModel), (⟨(⟨a1.Storage.Bytes, a1.Storage.Tags⟩ : Storage), a1.Instructions, a1.Traps⟩ : HwCode))).bind fun z10 =>
  zbe z10 (fun z => some z) (fun y9 => (zk (ze.r2 N) N (y9.2.2.2.2.Traps, (y9.2.2.2.2.Traps.length : Int), 0, y9.2.2.2.2)).bind fun z12 => zbe z12 (fun z =>
  some z) (fun y11 => some ((y11.2.2.2.Instructions.length : Int), 0))))))
def ze.k (N : Nat) : Kq := ⟨14, (cvv [T6, T6] [Ty.HwModel, Ty.HwCode] (ze N)), go [zd3.k, zg.k N, zq.k N, zw.k, zdo.k N, zbh.k N, ze6.k] {lits := [33, 34, 39, 50, 51]} [(0, .rets { slots := [(2, .ptr 2 0), (3, .ptr 3 0), (57, .val (Ty.sl Ty.HwInstruction)), (58, .val T6), (59, .val T6)], boxes := [(2, Ty.HwModel, []), (3, Ty.HwCode, [])] } [(Ty.sl Ty.HwInstruction), T6, T6, Ty.HwModel, Ty.HwCode] (zk (ze.r0 N) N)), (2, .rets { slots := [(3, .ptr 3 0), (74, .val (Ty.sl Ty.HwTrap)), (75, .val T6), (76, .val T6)], boxes := [(3, Ty.HwCode, [])] } [(Ty.sl Ty.HwTrap), T6, T6, Ty.HwCode] (zk (ze.r2 N) N))] Proofs.Tryz.func14 (hL := ⟨⟨_, _, rfl, by kernel_rfl⟩, ⟨_, _, rfl, by kernel_rfl⟩, trivial⟩)⟩
def zbw (N : Nat) (a0 : HwModel) (a1 : HwCode) : Option Int :=
 (ze N (⟨a0.Registers, a0.Fused, a0.Memory⟩ : HwModel) (⟨(⟨a1.Storage.Bytes, a1.Storage.Tags⟩ : Storage), a1.Instructions, a1.Traps⟩ : HwCode)).bind fun r1 =>
  some r1.2
def zbw.k (N : Nat) : Kq := ⟨60, (cvv [T6] [Ty.HwModel, Ty.HwCode] (zbw N)), go [ze.k N] {} [] Proofs.Tryz.func60⟩
def x76 : Ct U := { params := [.val (Ty.sl Ty.bool)], results := [(Ty.sl Ty.bool)], outs := [], fresh := [0], fn := app U [(Ty.sl Ty.bool)] (R := PT U [(Ty.sl Ty.bool)]) (zge 1) }
theorem x76.meets : zf2 (zns [] [] [] [] [] [] [] []) 76 x76 :=
 zlf zqy (zp5 (l := []) rfl zbq) (zpk (l := []) rfl zbq) (Lp := pick []) Proofs.Tryz.func76 (by kernel_rfl) (zp7 (l := []) rfl zbq) (fun y => by kernel_rfl) (e := 4) (t := Ty.bool) rfl rfl rfl rfl rfl rfl rfl (by kernel_rfl) rfl rfl rfl rfl rfl rfl (fun xs => by kernel_rfl) fun ds y h => by
  obtain ⟨xs, rfl, hx⟩ := zto h; refine ⟨xs, rfl, fun b hb => ?_⟩; cases b with
  | true =>
   have := hb rfl; subst this; exact Eq.trans (by kernel_rfl) hx
  | false => exact Eq.trans (b := cond (Nat.ble ((0 + xs.length) * 1) zax) (some xs) none) (by kernel_rfl) (by rw [Nat.zero_add]; exact hx)
def x76.k : Kq := ⟨76, x76, x76.meets⟩
def zc0 (N : Nat) (a0 : HwModel) (a1 : HwCode) : Option (HwState × Int) :=
 (zbw N (⟨a0.Registers, a0.Fused, a0.Memory⟩ : HwModel) (⟨(⟨a1.Storage.Bytes, a1.Storage.Tags⟩ : Storage), a1.Instructions, a1.Traps⟩ : HwCode)).bind fun r1 =>
  cond (r1 != 0) (some ((⟨[], 0, (⟨(⟨#[]⟩ : ByteArray), []⟩ : Storage), 0, [], [], 0, 0, 0, 0⟩ : HwState), r1)) ((zge 1 a1.Storage.Tags).bind fun r2 =>
  if 0 ≤ a0.Registers then (if a0.Registers ≤ a0.Registers then (cond (Nat.ble (a0.Registers.toNat * 16) zax)
  (some ((⟨(List.replicate a0.Registers.toNat ((⟨0, 0⟩ : Number) : Number)), 0, (⟨a1.Storage.Bytes, r2⟩ : Storage), 0, [], [], 0, 0, 0, 0⟩ : HwState), 0)) none) else none) else none)
def zc0.k (N : Nat) : Kq := ⟨34, (cvv [Ty.HwState, T6] [Ty.HwModel, Ty.HwCode] (zc0 N)), go [zbw.k N, x76.k] {} [] Proofs.Tryz.func34⟩
def zgf (N : Nat) (a0 : Storage) (a1 : Int) : Option Int :=
 (zg N a0).bind fun r1 => cond (r1.2 != 0) (some r1.2) ((cond (decide (a1 < 0)) (some true) (some (decide (a1 ≥ (a0.Bytes.size : Int))))).bind fun g2 =>
  (cond g2 (some true) (some ((a1.tmod 16) != 0))).bind fun g3 => cond g3 (some 3) (some 0))
def zgf.k (N : Nat) : Kq := ⟨186, (cvv [T6] [Ty.Storage, T6] (zgf N)), go [zg.k N] {} [] Proofs.Tryz.func186⟩
def zcr (N : Nat) (a0 : Storage) (a1 : Int) : Option (Pointer × Int) :=
 (zgf N a0 a1).bind fun r1 => cond (r1 != 0) (some ((⟨0, (⟨0, 0⟩ : Address), 0⟩ : Pointer), r1)) ((idx a0.Tags (w6 (a1.tdiv 16))).bind fun x2 => cond (!x2)
  (some ((⟨0, (⟨0, 0⟩ : Address), 0⟩ : Pointer), 22))
  (if 0 ≤ (w6 (a1 + 16)) ∧ (w6 (a1 + 16)) ≤ (a0.Bytes.size : Int) then (if 0 ≤ a1 ∧ a1 ≤ (w6 (a1 + 16)) then ((zdd N (a0.Bytes.extract a1.toNat (w6 (a1 + 16)).toNat)).bind fun r3 =>
  some (r3.1, r3.2)) else none) else none))
def zcr.k (N : Nat) : Kq := ⟨123, (cvv [Ty.Pointer, T6] [Ty.Storage, T6] (zcr N)), go [zdd.k N, zgf.k N] {} [] Proofs.Tryz.func123⟩
def zf (a0 : hardware_machine) (a1 : Bool) (a2 : Int) : Option (Bool × hardware_machine) :=
 (cond a1 (some (a0.raised == 0)) (some false)).bind fun g1 => cond g1 (some ((a2 == 0), (⟨a0.HwState, a0.code, a2⟩ : hardware_machine))) (some ((a0.raised == 0), a0))
def zf.k : Kq := ⟨206, (ctv [.ptr Ty.hardware_machine true [], .val Ty.bool, .val T6] [Ty.bool] [Ty.hardware_machine] [] [Ty.hardware_machine, Ty.bool, T6] zf), go [] {pk := [1000000]} [] Proofs.Tryz.func206⟩
def zaz (N : Nat) (a0 : hardware_machine) (a1 : Int) : Option (Pointer × Bool × hardware_machine) :=
 (zcr N a0.HwState.Storage a1).bind fun r1 => (zf a0 (r1.2 != 0) 4).bind fun r2 => some (r1.1, r2.1, r2.2)
def zaz.k (N : Nat) : Kq := ⟨218, (ctv [.ptr Ty.hardware_machine true [], .val T6] [Ty.Pointer, Ty.bool] [Ty.hardware_machine] [] [Ty.hardware_machine, T6] (zaz N)), go [zcr.k N, zf.k] {pk := [1000000]} [] Proofs.Tryz.func218⟩
def zbd (N : Nat) (a0 : hardware_machine) (a1 : HwPlace) (a2 : Int) : Option (Int × Bool × hardware_machine) :=
 cond (!a1.Based) (some (a1.Offset, true, a0)) ((zaz N a0 a1.Pointer).bind fun r1 => cond (!r1.2.1) (some (0, false, r1.2.2))
  ((zf r1.2.2 (decide ((w6 (r1.1.Address.Offset + a1.Offset)) > (w6 ((r1.2.2.HwState.Storage.Bytes.size : Int) - a2)))) 5).bind fun r2 =>
  some ((w6 (r1.1.Address.Offset + a1.Offset)), r2.1, r2.2)))
def zbd.k (N : Nat) : Kq := ⟨216, (ctv [.ptr Ty.hardware_machine true [], .val Ty.HwPlace, .val T6] [T6, Ty.bool] [Ty.hardware_machine] [] [Ty.hardware_machine, Ty.HwPlace, T6] (zbd N)), go [zf.k, zaz.k N] {pk := [1000000]} [] Proofs.Tryz.func216⟩
def zaq (N : Nat) (a0 : hardware_machine) (a1 : HwPlace) (a2 : DataType) : Option (ByteArray × Bool × hardware_machine) :=
 (zdl N a2).bind fun r1 => (zbd N a0 a1 r1).bind fun r2 => cond (!r2.2.1) (some ((⟨#[]⟩ : ByteArray), false, r2.2.2))
  (if 0 ≤ (w6 (r2.1 + r1)) ∧ (w6 (r2.1 + r1)) ≤ (r2.2.2.HwState.Storage.Bytes.size : Int) then (if 0 ≤ r2.1 ∧ r2.1 ≤ (w6 (r2.1 + r1)) then (some ((r2.2.2.HwState.Storage.Bytes.extract r2.1.toNat (w6 (r2.1 + r1)).toNat), true, r2.2.2)) else none) else none)
def zaq.k (N : Nat) : Kq := ⟨204, (ctv [.ptr Ty.hardware_machine true [], .val Ty.HwPlace, .val Ty.DataType] [Ty.str, Ty.bool] [Ty.hardware_machine] [] [Ty.hardware_machine, Ty.HwPlace, Ty.DataType] (zaq N)), go [zdl.k N, zbd.k N] {pk := [1000000]} [] Proofs.Tryz.func204⟩
def zcz.b0 (N : Nat) (s3 : Int) (s12 : List Int) (s13 : Int) (s14 : Int) : Option (Stp (Int × (List Int) × Int × Int)) :=
 cond (decide (s14 < s13)) (if 0 ≤ s14 then (if s14 < (s12.length : Int) then ((s12[s14.toNat]?).bind fun x1001 =>
  some (.again ((orI .i64 (w6 (s3 * 2 ^ (min (8 : Int).toNat 64))) (w6 x1001)), s12, s13, (w6 (s14 + 1))))) else none) else none)
  (some (.leave (s3, s12, s13, s14)))
def zcz.r0 (N : Nat) (x : Int × (List Int) × Int × Int) := zcz.b0 N x.1 x.2.1 x.2.2.1 x.2.2.2
def zcz (N : Nat) (a0 : ByteArray) : Option Int :=
 (zhn a0 0).bind fun x1 =>
  if 0 ≤ (1 : Int) ∧ (1 : Int) ≤ (a0.size : Int) then ((zac (zcz.r0 N) N ((w6 (IntKind.wrap .i8 (x1.toNat : Int))), (zhz (a0.extract (1 : Int).toNat a0.size)), ((zhz (a0.extract (1 : Int).toNat a0.size)).length : Int), 0)).bind fun y2 =>
  some y2.1) else none
def zcz.k (N : Nat) : Kq := ⟨268, (cvv [T6] [Ty.str] (zcz N)), go [] {} [(0, .plain { slots := [(3, .val T6), (12, .own 5000012 (Ty.int .u8)), (13, .val T6), (14, .val T6)], boxes := [] } [T6, (Ty.sl (Ty.int .u8)), T6, T6] (zac (zcz.r0 N) N))] Proofs.Tryz.func268 (hL := ⟨⟨_, _, rfl, by kernel_rfl⟩, trivial⟩)⟩
def zec.b0 (N : Nat) (s3 : Int) (s5 : Int) (s6 : Int) : Option (Stp (Int × Int × Int)) :=
 cond (decide (s6 < s5)) (some (.again ((w6 (s3 * 10)), s5, (w6 (s6 + 1))))) (some (.leave (s3, s5, s6)))
def zec.r0 (N : Nat) (x : Int × Int × Int) := zec.b0 N x.1 x.2.1 x.2.2
def zec (N : Nat) (a0 : Int) : Option Int :=
 (zac (zec.r0 N) N (1, (if 18 < a0 then 18 else a0), 0)).bind fun y1 => some y1.1
def zec.k (N : Nat) : Kq := ⟨315, (cvv [T6] [T6] (zec N)), go [] {} [(0, .plain { slots := [(3, .val T6), (5, .val T6), (6, .val T6)], boxes := [] } [T6, T6, T6] (zac (zec.r0 N) N))] Proofs.Tryz.func315 (hL := ⟨⟨_, _, rfl, by kernel_rfl⟩, trivial⟩)⟩
def zdh (N : Nat) (a0 : DataType) (a1 : Value) : Option Int :=
 (zaj N a0).bind fun r1 => (zab (a0.Kind == 4) 17).bind fun r2 => (zm N ([r1, r2] : List Int)).bind fun r3 => cond (r3 != 0) (some r3)
  (cond (a0.Kind == 0) ((zab (a1.N != 0) 5).bind fun r4 => (zab ((a1.S.size : Int) != a0.Length) 18).bind fun r5 =>
  (zm N ([r4, r5] : List Int)).bind fun r6 => some r6) ((zec N a0.Length).bind fun r7 =>
  (zab (!(a1.S.toList == (⟨#[]⟩ : ByteArray).toList)) 5).bind fun r8 => (zch a1.N (w6 (0 - (w6 (r7 - 1))))
  (w6 (r7 - 1))).bind fun r9 => (zab (!r9) 19).bind fun r10 => (zm N ([r8, r10] : List Int)).bind fun r11 => some r11))
def zdh.k (N : Nat) : Kq := ⟨269, (cvv [T6] [Ty.DataType, Ty.Value] (zdh N)), go [zab.k, zch.k, zaj.k N, zm.k N, zec.k N] {lits := [8, 12, 13, 24, 31, 32, 41, 49, 50]} [] Proofs.Tryz.func269⟩
def zdp.b0 (N : Nat) (s1 : ByteArray) (s4 : List Int) (s5 : List Int) (s10 : Int) (s11 : Int) (b2 : DataType) : Option (Stp (ByteArray × (List Int) × (List Int) × Int × Int × DataType)) :=
 cond (decide (s11 < s10)) ((zhn s1 s11).bind fun x1001 => (zhn s1 s11).bind fun x1002 => cond (b2.Kind == 1)
  (cond (Nat.ble ((s4.length + ([((x1001.toNat : Int).fdiv (2 ^ (min (4 : Int).toNat 8))), (zd .u8 (x1002.toNat : Int) 15)] : List Int).length) * 1) zax)
  (cond (Nat.ble ((s5.length + ([s11, s11] : List Int).length) * 8) zax)
  (some (.again (s1, (s4 ++ ([((x1001.toNat : Int).fdiv (2 ^ (min (4 : Int).toNat 8))), (zd .u8 (x1002.toNat : Int) 15)] : List Int)), (s5 ++ ([s11, s11] : List Int)), s10, (w6 (s11 + 1)), b2))) none) none)
  (cond (Nat.ble ((s4.length + ([(zd .u8 (x1002.toNat : Int) 15)] : List Int).length) * 1) zax) (cond (Nat.ble ((s5.length + ([s11] : List Int).length) * 8) zax)
  (some (.again (s1, (s4 ++ ([(zd .u8 (x1002.toNat : Int) 15)] : List Int)), (s5 ++ ([s11] : List Int)), s10, (w6 (s11 + 1)), b2))) none) none))
  (some (.leave (s1, s4, s5, s10, s11, b2)))
def zdp.r0 (N : Nat) (x : ByteArray × (List Int) × (List Int) × Int × Int × DataType) := zdp.b0 N x.1 x.2.1 x.2.2.1 x.2.2.2.1 x.2.2.2.2.1 x.2.2.2.2.2
def zdp (N : Nat) (a0 : DataType) (a1 : ByteArray) : Option ((List Int) × (List Int)) :=
 (zac (zdp.r0 N) N (a1, [], [], (a1.size : Int), 0, a0)).bind fun y1 => cond (y1.2.2.2.2.2.Kind == 2)
  ((zhn y1.1 (w6 ((y1.1.size : Int) - 1))).bind fun x2 =>
  cond (Nat.ble ((y1.2.1.length + ([((x2.toNat : Int).fdiv (2 ^ (min (4 : Int).toNat 8)))] : List Int).length) * 1) zax)
  (cond (Nat.ble ((y1.2.2.1.length + ([(w6 ((y1.1.size : Int) - 1))] : List Int).length) * 8) zax)
  (some ((y1.2.1 ++ ([((x2.toNat : Int).fdiv (2 ^ (min (4 : Int).toNat 8)))] : List Int)), (y1.2.2.1 ++ ([(w6 ((y1.1.size : Int) - 1))] : List Int)))) none) none)
  (some (y1.2.1, y1.2.2.1))
def zdp.k (N : Nat) : Kq := ⟨316, (cvv [(Ty.sl (Ty.int .u8)), (Ty.sl T6)] [Ty.DataType, Ty.str] (zdp N)), go [] {lits := [24, 28, 37, 42, 55, 61]} [(0, .plain { slots := [(1, .val Ty.str), (2, .ptr 2 0), (4, .own 5000004 (Ty.int .u8)), (5, .own 5000005 T6), (10, .val T6), (11, .val T6)], boxes := [(2, Ty.DataType, [])] } [Ty.str, (Ty.sl (Ty.int .u8)), (Ty.sl T6), T6, T6, Ty.DataType] (zac (zdp.r0 N) N))] Proofs.Tryz.func316 (hL := ⟨⟨_, _, rfl, by kernel_rfl⟩, trivial⟩)⟩
def zcp.b0 (N : Nat) (s7 : List Int) (s8 : List Int) (s9 : Int) (s10 : Int) (s24 : List Int) (s25 : Int) (s26 : Int) (b2 : DataType) : Option (Round (Int × Int × Int) ((List Int) × (List Int) × Int × Int × (List Int) × Int × Int × DataType)) :=
 cond (decide (s26 < s25)) ((idx s24 s26).bind fun x1001 => (cond (decide (x1001 > 9)) (some true) ((cond (decide (x1001 > 0))
  (some (decide (s26 < (w6 (s9 - b2.Length))))) (some false)).bind fun g1002 => some g1002)).bind fun g1003 => cond g1003 ((idx s8 s26).bind fun x1004 =>
  some (.result (0, x1004, 21)))
  (some (.again (s7, s8, s9, (w6 ((w6 (s10 * 10)) + (w6 x1001))), s24, s25, (w6 (s26 + 1)), b2))))
  (some (.leave (s7, s8, s9, s10, s24, s25, s26, b2)))
def zcp.r0 (N : Nat) (x : (List Int) × (List Int) × Int × Int × (List Int) × Int × Int × DataType) := zcp.b0 N x.1 x.2.1 x.2.2.1 x.2.2.2.1 x.2.2.2.2.1 x.2.2.2.2.2.1 x.2.2.2.2.2.2.1 x.2.2.2.2.2.2.2
def zcp (N : Nat) (a0 : DataType) (a1 : ByteArray) : Option (Int × Int × Int) :=
 (zdp N a0 a1).bind fun r1 =>
  if 0 ≤ (w6 ((r1.1.length : Int) - 1)) ∧ (w6 ((r1.1.length : Int) - 1)) ≤ (r1.1.length : Int) then (if 0 ≤ (0 : Int) ∧ (0 : Int) ≤ (w6 ((r1.1.length : Int) - 1)) then ((zk (zcp.r0 N) N (r1.1, r1.2, (w6 ((r1.1.length : Int) - 1)), 0, ((r1.1.take (w6 ((r1.1.length : Int) - 1)).toNat).drop (0 : Int).toNat), (((r1.1.take (w6 ((r1.1.length : Int) - 1)).toNat).drop (0 : Int).toNat).length : Int), 0, a0)).bind fun z3 =>
  zbe z3 (fun z => some z) (fun y2 => (idx y2.1 y2.2.2.1).bind fun x4 => cond (decide (x4 < 10)) ((idx y2.2.1 y2.2.2.1).bind fun x5 => some (0, x5, 21))
  ((idx y2.1 y2.2.2.1).bind fun x6 => (cond (x6 == 11) (some true) ((idx y2.1 y2.2.2.1).bind fun x7 => some (x7 == 13))).bind fun g8 =>
  cond g8 (some ((w6 (0 - y2.2.2.2.1)), 0, 0)) (some (y2.2.2.2.1, 0, 0))))) else none) else none
def zcp.k (N : Nat) : Kq := ⟨270, (cvv [T6, T6, T6] [Ty.DataType, Ty.str] (zcp N)), go [zdp.k N] {} [(0, .rets { slots := [(2, .ptr 2 0), (7, .val (Ty.sl (Ty.int .u8))), (8, .val (Ty.sl T6)), (9, .val T6), (10, .val T6), (24, .val (Ty.sl (Ty.int .u8))), (25, .val T6), (26, .val T6)], boxes := [(2, Ty.DataType, [])] } [(Ty.sl (Ty.int .u8)), (Ty.sl T6), T6, T6, (Ty.sl (Ty.int .u8)), T6, T6, Ty.DataType] (zk (zcp.r0 N) N))] Proofs.Tryz.func270 (hL := ⟨⟨_, _, rfl, by kernel_rfl⟩, trivial⟩)⟩
def ziz (N : Nat) (a0 : DataType) (a1 : ByteArray) : Option (Value × Int × Int) :=
 (zaj N a0).bind fun r1 => (zab (a0.Kind == 4) 17).bind fun r2 => (zm N ([r1, r2] : List Int)).bind fun r3 => cond (r3 == 0)
  ((zd4 a0).bind fun r4 => (zab ((a1.size : Int) != r4) 18).bind fun r5 => cond (r5 != 0) (some ((⟨0, (⟨#[]⟩ : ByteArray)⟩ : Value), 0, r5)) (cond (a0.Kind == 0)
  (some ((⟨0, a1⟩ : Value), 0, 0)) (cond (a0.Kind == 3) ((zcz N a1).bind fun r6 => (zdh N (⟨a0.Kind, a0.Length, a0.Scale⟩ : DataType)
  (⟨r6, (⟨#[]⟩ : ByteArray)⟩ : Value)).bind fun r7 => cond (r7 != 0) (some ((⟨0, (⟨#[]⟩ : ByteArray)⟩ : Value), 0, r7)) (some ((⟨r6, (⟨#[]⟩ : ByteArray)⟩ : Value), 0, 0)))
  ((zcp N a0 a1).bind fun r8 => some ((⟨r8.1, (⟨#[]⟩ : ByteArray)⟩ : Value), r8.2.1, r8.2.2))))) (cond (r3 != 0) (some ((⟨0, (⟨#[]⟩ : ByteArray)⟩ : Value), 0, r3))
  (cond (a0.Kind == 0) (some ((⟨0, a1⟩ : Value), 0, 0)) (cond (a0.Kind == 3) ((zcz N a1).bind fun r9 =>
  (zdh N a0 (⟨r9, (⟨#[]⟩ : ByteArray)⟩ : Value)).bind fun r10 => cond (r10 != 0) (some ((⟨0, (⟨#[]⟩ : ByteArray)⟩ : Value), 0, r10))
  (some ((⟨r9, (⟨#[]⟩ : ByteArray)⟩ : Value), 0, 0))) ((zcp N a0 a1).bind fun r11 => some ((⟨r11.1, (⟨#[]⟩ : ByteArray)⟩ : Value), r11.2.1, r11.2.2)))))
def ziz.k (N : Nat) : Kq := ⟨205, (cvv [Ty.Value, T6, T6] [Ty.DataType, Ty.str] (ziz N)), go [zab.k, zaj.k N, zm.k N, zd4.k, zcz.k N, zdh.k N, zcp.k N] {lits := [13, 17, 18]} [] Proofs.Tryz.func205⟩
def zcs (N : Nat) (a0 : hardware_machine) (a1 : HwPlace) (a2 : DataType) : Option (Number × Bool × hardware_machine) :=
 (zaq N a0 a1 a2).bind fun r1 => cond (!r1.2.1) (some ((⟨0, 0⟩ : Number), false, r1.2.2)) ((ziz N a2 r1.1).bind fun r2 =>
  (zf r1.2.2 (r2.2.2 != 0) 1).bind fun r3 => some ((⟨r2.1.N, a2.Scale⟩ : Number), r3.1, r3.2))
def zcs.k (N : Nat) : Kq := ⟨146, (ctv [.ptr Ty.hardware_machine true [], .val Ty.HwPlace, .val Ty.DataType] [Ty.Number, Ty.bool] [Ty.hardware_machine] [] [Ty.hardware_machine, Ty.HwPlace, Ty.DataType] (zcs N)), go [zaq.k N, ziz.k N, zf.k] {pk := [1000000]} [] Proofs.Tryz.func146⟩
def ztc : Ct U := { params := [.val (Ty.sl Ty.Number)], results := [(Ty.sl Ty.Number)], outs := [], fresh := [0], fn := app U [(Ty.sl Ty.Number)] (R := PT U [(Ty.sl Ty.Number)]) (zge 16) }
theorem ztc.meets : zf2 (zns [] [] [] [] [] [] [] []) 207 ztc :=
 zlf zqy (zp5 (l := []) rfl zbq) (zpk (l := []) rfl zbq) (Lp := pick []) Proofs.Tryz.func207 (by kernel_rfl) (zp7 (l := []) rfl zbq) (fun y => by kernel_rfl) (e := 84) (t := Ty.Number) rfl rfl rfl rfl rfl rfl rfl (by kernel_rfl) rfl rfl rfl rfl rfl rfl (fun xs => by kernel_rfl) fun ds y h => by
  obtain ⟨xs, rfl, hx⟩ := zto h; refine ⟨xs, rfl, fun b hb => ?_⟩; cases b with
  | true =>
   have := hb rfl; subst this; exact Eq.trans (by kernel_rfl) hx
  | false => exact Eq.trans (b := cond (Nat.ble ((0 + xs.length) * 16) zax) (some xs) none) (by kernel_rfl) (by rw [Nat.zero_add]; exact hx)
def ztc.k : Kq := ⟨207, ztc, ztc.meets⟩
def za9 (a0 : hardware_machine) (a1 : Int) (a2 : Number) : Option hardware_machine :=
 (zge 16 a0.HwState.Registers).bind fun r1 => if 0 ≤ a1 then (if a1 < (r1.length : Int) then ((r1[a1.toNat]?).bind fun x2 =>
  some (⟨(⟨(r1.set a1.toNat a2), a0.HwState.Condition, a0.HwState.Storage, a0.HwState.At, a0.HwState.Stack, a0.HwState.Lines, a0.HwState.Status, a0.HwState.Exception, a0.HwState.Marks, a0.HwState.Steps⟩ : HwState), a0.code, a0.raised⟩ : hardware_machine)) else none) else none
def za9.k : Kq := ⟨147, (ctv [.ptr Ty.hardware_machine true [], .val T6, .val Ty.Number] [] [Ty.hardware_machine] [] [Ty.hardware_machine, T6, Ty.Number] za9), go [ztc.k] {pk := [1000000]} [] Proofs.Tryz.func147⟩
def zes (a0 : DataType) : Option Bool :=
 (cond (a0.Kind == 1) (some true) (some (a0.Kind == 2))).bind fun g1 => (cond g1 (some true) (some (a0.Kind == 3))).bind fun g2 => some g2
def zes.k : Kq := ⟨271, (cvv [Ty.bool] [Ty.DataType] zes), go [] {} [] Proofs.Tryz.func271⟩
def za6 (a0 : Int) : Option A4_u64 :=
 some (⟨a0, 0, 0, 0⟩ : A4_u64)
def za6.k : Kq := ⟨318, (cvv [Ty.A4_u64] [(Ty.int .u64)] za6), go [] {} [] Proofs.Tryz.func318⟩
def zh8 (a0 : Int) (a1 : Int) : Option (Int × Int) :=
 some ((IntKind.wrap .u64 ((IntKind.wrap .u64 ((IntKind.wrap .u64 ((a0.fdiv (2 ^ (min (32 : Int).toNat 64))) * (a1.fdiv (2 ^ (min (32 : Int).toNat 64))))) + ((IntKind.wrap .u64 ((IntKind.wrap .u64 ((a0.fdiv (2 ^ (min (32 : Int).toNat 64))) * (zd .u64 a1 4294967295))) + ((IntKind.wrap .u64 ((zd .u64 a0 4294967295) * (zd .u64 a1 4294967295))).fdiv (2 ^ (min (32 : Int).toNat 64))))).fdiv (2 ^ (min (32 : Int).toNat 64))))) + ((IntKind.wrap .u64 ((zd .u64 (IntKind.wrap .u64 ((IntKind.wrap .u64 ((a0.fdiv (2 ^ (min (32 : Int).toNat 64))) * (zd .u64 a1 4294967295))) + ((IntKind.wrap .u64 ((zd .u64 a0 4294967295) * (zd .u64 a1 4294967295))).fdiv (2 ^ (min (32 : Int).toNat 64))))) 4294967295) + (IntKind.wrap .u64 ((zd .u64 a0 4294967295) * (a1.fdiv (2 ^ (min (32 : Int).toNat 64))))))).fdiv (2 ^ (min (32 : Int).toNat 64))))), (IntKind.wrap .u64 (a0 * a1)))
def zh8.k : Kq := ⟨342, (cvv [(Ty.int .u64), (Ty.int .u64)] [(Ty.int .u64), (Ty.int .u64)] zh8), go [] {} [] Proofs.Tryz.func342⟩
def zbc.b0 (N : Nat) (s1 : Int) (s6 : Int) (s12 : Int) (b2 : A4_u64) (b4 : A4_u64) (b5 : A4_u64) : Option (Stp (Int × Int × Int × A4_u64 × A4_u64 × A4_u64)) :=
 cond (decide (s12 < 4)) (if 0 ≤ s12 then (if s12 < 4 then ((zh8 (zag [b2.e0, b2.e1, b2.e2, b2.e3] s12.toNat) s1).bind fun r1001 =>
  if 0 ≤ s12 then (if s12 < 4 then (some (.again (s1, (IntKind.wrap .u64 (r1001.1 + (((r1001.2.toNat + s6.toNat + (0 : Int).toNat) / 2 ^ 64 : Nat) : Int))), (w6 (s12 + 1)), b2, b4, (⟨(if s12.toNat = 0 then (((r1001.2.toNat + s6.toNat + (0 : Int).toNat) % 2 ^ 64 : Nat) : Int) else b5.e0), (if s12.toNat = 1 then (((r1001.2.toNat + s6.toNat + (0 : Int).toNat) % 2 ^ 64 : Nat) : Int) else b5.e1), (if s12.toNat = 2 then (((r1001.2.toNat + s6.toNat + (0 : Int).toNat) % 2 ^ 64 : Nat) : Int) else b5.e2), (if s12.toNat = 3 then (((r1001.2.toNat + s6.toNat + (0 : Int).toNat) % 2 ^ 64 : Nat) : Int) else b5.e3)⟩ : A4_u64)))) else none) else none) else none) else none)
  (some (.leave (s1, s6, s12, b2, b4, b5)))
def zbc.r0 (N : Nat) (x : Int × Int × Int × A4_u64 × A4_u64 × A4_u64) := zbc.b0 N x.1 x.2.1 x.2.2.1 x.2.2.2.1 x.2.2.2.2.1 x.2.2.2.2.2
def zbc (N : Nat) (a0 : A4_u64) (a1 : Int) : Option A4_u64 :=
 (zac (zbc.r0 N) N (a1, 0, 0, a0, (⟨0, 0, 0, 0⟩ : A4_u64), (⟨0, 0, 0, 0⟩ : A4_u64))).bind fun y1 => some y1.2.2.2.2.2
def zbc.k (N : Nat) : Kq := ⟨345, (cvv [Ty.A4_u64] [Ty.A4_u64, (Ty.int .u64)] (zbc N)), go [zh8.k] {X := [(347, 0)]} [(0, .plain { slots := [(1, .val (Ty.int .u64)), (2, .ptr 2 0), (4, .ptr 4 0), (5, .ptr 5 0), (6, .val (Ty.int .u64)), (12, .val T6)], boxes := [(2, Ty.A4_u64, []), (4, Ty.A4_u64, []), (5, Ty.A4_u64, [])] } [(Ty.int .u64), (Ty.int .u64), T6, Ty.A4_u64, Ty.A4_u64, Ty.A4_u64] (zac (zbc.r0 N) N))] Proofs.Tryz.func345 (hL := ⟨⟨_, _, rfl, by kernel_rfl⟩, trivial⟩) (hX := all_cons (z08) (zbq))⟩
def zp.b0 (N : Nat) (s5 : Int) (s6 : Int) (b2 : A4_u64) (b4 : A4_u64) : Option (Stp (Int × Int × A4_u64 × A4_u64)) :=
 cond (decide (s6 < s5)) ((zbc N b2 10).bind fun r1001 => some (.again (s5, (w6 (s6 + 1)), r1001, b4))) (some (.leave (s5, s6, b2, b4)))
def zp.r0 (N : Nat) (x : Int × Int × A4_u64 × A4_u64) := zp.b0 N x.1 x.2.1 x.2.2.1 x.2.2.2
def zp (N : Nat) (a0 : A4_u64) (a1 : Int) : Option A4_u64 :=
 (zac (zp.r0 N) N (a1, 0, a0, (⟨0, 0, 0, 0⟩ : A4_u64))).bind fun y1 => some y1.2.2.1
def zp.k (N : Nat) : Kq := ⟨319, (cvv [Ty.A4_u64] [Ty.A4_u64, T6] (zp N)), go [zbc.k N] {} [(0, .plain { slots := [(2, .ptr 2 0), (4, .ptr 4 0), (5, .val T6), (6, .val T6)], boxes := [(2, Ty.A4_u64, []), (4, Ty.A4_u64, [])] } [T6, T6, Ty.A4_u64, Ty.A4_u64] (zac (zp.r0 N) N))] Proofs.Tryz.func319 (hL := ⟨⟨_, _, rfl, by kernel_rfl⟩, trivial⟩)⟩
def zcl (N : Nat) (a0 : Number) (a1 : Int) : Option A4_u64 :=
 (za6 (IntKind.wrap .u64 (if (w6 (0 - a0.N)) > a0.N then (w6 (0 - a0.N)) else a0.N))).bind fun r1 =>
  (zp N r1 a1).bind fun r2 => some r2
def zcl.k (N : Nat) : Kq := ⟨317, (cvv [Ty.A4_u64] [Ty.Number, T6] (zcl N)), go [za6.k, zp.k N] {lits := [12]} [] Proofs.Tryz.func317⟩
def zl5 (N : Nat) (a0 : Number) : Option numeric_fraction :=
 (zcl N (⟨a0.N, a0.Scale⟩ : Number) 0).bind fun r1 => (za6 1).bind fun r2 => (zp N r2 a0.Scale).bind fun r3 =>
  some (⟨(decide (a0.N < 0)), r1, r3⟩ : numeric_fraction)
def zl5.k (N : Nat) : Kq := ⟨272, (cvv [Ty.numeric_fraction] [Ty.Number] (zl5 N)), go [zcl.k N, za6.k, zp.k N] {lits := [8]} [] Proofs.Tryz.func272⟩
def zas.b0 (N : Nat) (s6 : Int) (s8 : Int) (b2 : A4_u64) (b3 : A4_u64) (b4 : A4_u64) (b5 : A4_u64) : Option (Stp (Int × Int × A4_u64 × A4_u64 × A4_u64 × A4_u64)) :=
 cond (decide (s8 < 4))
  (if 0 ≤ s8 then (if s8 < 4 then (if 0 ≤ s8 then (if s8 < 4 then (if s6.toNat > 1 then none else if 0 ≤ s8 then (if s8 < 4 then (some (.again (((((zag [b2.e0, b2.e1, b2.e2, b2.e3] s8.toNat).toNat + (zag [b3.e0, b3.e1, b3.e2, b3.e3] s8.toNat).toNat + s6.toNat) / 2 ^ 64 : Nat) : Int), (w6 (s8 + 1)), b2, b3, b4, (⟨(if s8.toNat = 0 then ((((zag [b2.e0, b2.e1, b2.e2, b2.e3] s8.toNat).toNat + (zag [b3.e0, b3.e1, b3.e2, b3.e3] s8.toNat).toNat + s6.toNat) % 2 ^ 64 : Nat) : Int) else b5.e0), (if s8.toNat = 1 then ((((zag [b2.e0, b2.e1, b2.e2, b2.e3] s8.toNat).toNat + (zag [b3.e0, b3.e1, b3.e2, b3.e3] s8.toNat).toNat + s6.toNat) % 2 ^ 64 : Nat) : Int) else b5.e1), (if s8.toNat = 2 then ((((zag [b2.e0, b2.e1, b2.e2, b2.e3] s8.toNat).toNat + (zag [b3.e0, b3.e1, b3.e2, b3.e3] s8.toNat).toNat + s6.toNat) % 2 ^ 64 : Nat) : Int) else b5.e2), (if s8.toNat = 3 then ((((zag [b2.e0, b2.e1, b2.e2, b2.e3] s8.toNat).toNat + (zag [b3.e0, b3.e1, b3.e2, b3.e3] s8.toNat).toNat + s6.toNat) % 2 ^ 64 : Nat) : Int) else b5.e3)⟩ : A4_u64)))) else none) else none) else none) else none) else none) else none)
  (some (.leave (s6, s8, b2, b3, b4, b5)))
def zas.r0 (N : Nat) (x : Int × Int × A4_u64 × A4_u64 × A4_u64 × A4_u64) := zas.b0 N x.1 x.2.1 x.2.2.1 x.2.2.2.1 x.2.2.2.2.1 x.2.2.2.2.2
def zas (N : Nat) (a0 : A4_u64) (a1 : A4_u64) : Option A4_u64 :=
 (zac (zas.r0 N) N (0, 0, a0, a1, (⟨0, 0, 0, 0⟩ : A4_u64), (⟨0, 0, 0, 0⟩ : A4_u64))).bind fun y1 => some y1.2.2.2.2.2
def zas.k (N : Nat) : Kq := ⟨321, (cvv [Ty.A4_u64] [Ty.A4_u64, Ty.A4_u64] (zas N)), go [] {X := [(347, 0)]} [(0, .plain { slots := [(2, .ptr 2 0), (3, .ptr 3 0), (4, .ptr 4 0), (5, .ptr 5 0), (6, .val (Ty.int .u64)), (8, .val T6)], boxes := [(2, Ty.A4_u64, []), (3, Ty.A4_u64, []), (4, Ty.A4_u64, []), (5, Ty.A4_u64, [])] } [(Ty.int .u64), T6, Ty.A4_u64, Ty.A4_u64, Ty.A4_u64, Ty.A4_u64] (zac (zas.r0 N) N))] Proofs.Tryz.func321 (hL := ⟨⟨_, _, rfl, by kernel_rfl⟩, trivial⟩) (hX := all_cons (z08) (zbq))⟩
def zy.b0 (N : Nat) (s5 : Int) (b2 : A4_u64) (b3 : A4_u64) : Option (Round Int (Int × A4_u64 × A4_u64)) :=
 cond (decide (s5 ≥ 0))
  (if 0 ≤ s5 then (if s5 < 4 then (if 0 ≤ s5 then (if s5 < 4 then (cond (decide ((zag [b2.e0, b2.e1, b2.e2, b2.e3] s5.toNat) < (zag [b3.e0, b3.e1, b3.e2, b3.e3] s5.toNat)))
  (some (.result (-1)))
  (if 0 ≤ s5 then (if s5 < 4 then (if 0 ≤ s5 then (if s5 < 4 then (cond (decide ((zag [b2.e0, b2.e1, b2.e2, b2.e3] s5.toNat) > (zag [b3.e0, b3.e1, b3.e2, b3.e3] s5.toNat)))
  (some (.result 1)) (some (.again ((w6 (s5 - 1)), b2, b3)))) else none) else none) else none) else none)) else none) else none) else none) else none)
  (some (.leave (s5, b2, b3)))
def zy.r0 (N : Nat) (x : Int × A4_u64 × A4_u64) := zy.b0 N x.1 x.2.1 x.2.2
def zy (N : Nat) (a0 : A4_u64) (a1 : A4_u64) : Option Int :=
 (zk (zy.r0 N) N (3, a0, a1)).bind fun z2 => zbe z2 (fun z => some z) (fun y1 => some 0)
def zy.k (N : Nat) : Kq := ⟨278, (cvv [T6] [Ty.A4_u64, Ty.A4_u64] (zy N)), go [] {} [(0, .rets { slots := [(2, .ptr 2 0), (3, .ptr 3 0), (5, .val T6)], boxes := [(2, Ty.A4_u64, []), (3, Ty.A4_u64, [])] } [T6, Ty.A4_u64, Ty.A4_u64] (zk (zy.r0 N) N))] Proofs.Tryz.func278 (hL := ⟨⟨_, _, rfl, by kernel_rfl⟩, trivial⟩)⟩
def za2.b0 (N : Nat) (s6 : Int) (s8 : Int) (b2 : A4_u64) (b3 : A4_u64) (b4 : A4_u64) (b5 : A4_u64) : Option (Stp (Int × Int × A4_u64 × A4_u64 × A4_u64 × A4_u64)) :=
 cond (decide (s8 < 4))
  (if 0 ≤ s8 then (if s8 < 4 then (if 0 ≤ s8 then (if s8 < 4 then (if s6.toNat > 1 then none else if 0 ≤ s8 then (if s8 < 4 then (some (.again (((if (zag [b2.e0, b2.e1, b2.e2, b2.e3] s8.toNat).toNat < (zag [b3.e0, b3.e1, b3.e2, b3.e3] s8.toNat).toNat + s6.toNat then 1 else 0 : Nat) : Int), (w6 (s8 + 1)), b2, b3, b4, (⟨(if s8.toNat = 0 then ((((zag [b2.e0, b2.e1, b2.e2, b2.e3] s8.toNat).toNat + 2 ^ 64 - (zag [b3.e0, b3.e1, b3.e2, b3.e3] s8.toNat).toNat - s6.toNat) % 2 ^ 64 : Nat) : Int) else b5.e0), (if s8.toNat = 1 then ((((zag [b2.e0, b2.e1, b2.e2, b2.e3] s8.toNat).toNat + 2 ^ 64 - (zag [b3.e0, b3.e1, b3.e2, b3.e3] s8.toNat).toNat - s6.toNat) % 2 ^ 64 : Nat) : Int) else b5.e1), (if s8.toNat = 2 then ((((zag [b2.e0, b2.e1, b2.e2, b2.e3] s8.toNat).toNat + 2 ^ 64 - (zag [b3.e0, b3.e1, b3.e2, b3.e3] s8.toNat).toNat - s6.toNat) % 2 ^ 64 : Nat) : Int) else b5.e2), (if s8.toNat = 3 then ((((zag [b2.e0, b2.e1, b2.e2, b2.e3] s8.toNat).toNat + 2 ^ 64 - (zag [b3.e0, b3.e1, b3.e2, b3.e3] s8.toNat).toNat - s6.toNat) % 2 ^ 64 : Nat) : Int) else b5.e3)⟩ : A4_u64)))) else none) else none) else none) else none) else none) else none)
  (some (.leave (s6, s8, b2, b3, b4, b5)))
def za2.r0 (N : Nat) (x : Int × Int × A4_u64 × A4_u64 × A4_u64 × A4_u64) := za2.b0 N x.1 x.2.1 x.2.2.1 x.2.2.2.1 x.2.2.2.2.1 x.2.2.2.2.2
def za2 (N : Nat) (a0 : A4_u64) (a1 : A4_u64) : Option A4_u64 :=
 (zac (za2.r0 N) N (0, 0, a0, a1, (⟨0, 0, 0, 0⟩ : A4_u64), (⟨0, 0, 0, 0⟩ : A4_u64))).bind fun y1 => some y1.2.2.2.2.2
def za2.k (N : Nat) : Kq := ⟨346, (cvv [Ty.A4_u64] [Ty.A4_u64, Ty.A4_u64] (za2 N)), go [] {X := [(355, 1)]} [(0, .plain { slots := [(2, .ptr 2 0), (3, .ptr 3 0), (4, .ptr 4 0), (5, .ptr 5 0), (6, .val (Ty.int .u64)), (8, .val T6)], boxes := [(2, Ty.A4_u64, []), (3, Ty.A4_u64, []), (4, Ty.A4_u64, []), (5, Ty.A4_u64, [])] } [(Ty.int .u64), T6, Ty.A4_u64, Ty.A4_u64, Ty.A4_u64, Ty.A4_u64] (zac (za2.r0 N) N))] Proofs.Tryz.func346 (hL := ⟨⟨_, _, rfl, by kernel_rfl⟩, trivial⟩) (hX := all_cons (z3z) (zbq))⟩
def zay.b0 (N : Nat) (s6 : Int) (b2 : A4_u64) (b3 : A4_u64) (b4 : A4_u64) (b5 : A4_u64) : Option (Stp (Int × A4_u64 × A4_u64 × A4_u64 × A4_u64)) :=
 cond (decide (s6 ≥ 0)) ((zas N b5 b5).bind fun r1001 =>
  if 0 ≤ (w6 (s6.tdiv 64)) then (if (w6 (s6.tdiv 64)) < 4 then (if (s6.tmod 64) < 0 then none else (zy N (⟨(if 0 = 0 then (orI .u64 (zag [r1001.e0, r1001.e1, r1001.e2, r1001.e3] 0)
  (zd .u64 (((zag [b2.e0, b2.e1, b2.e2, b2.e3] ((w6 (s6.tdiv 64)).toNat)) : Int).fdiv (2 ^ (min (s6.tmod 64).toNat 64))) 1)) else r1001.e0), (if 0 = 1 then (orI .u64 (zag [r1001.e0, r1001.e1, r1001.e2, r1001.e3] 0)
  (zd .u64 (((zag [b2.e0, b2.e1, b2.e2, b2.e3] ((w6 (s6.tdiv 64)).toNat)) : Int).fdiv (2 ^ (min (s6.tmod 64).toNat 64))) 1)) else r1001.e1), (if 0 = 2 then (orI .u64 (zag [r1001.e0, r1001.e1, r1001.e2, r1001.e3] 0)
  (zd .u64 (((zag [b2.e0, b2.e1, b2.e2, b2.e3] ((w6 (s6.tdiv 64)).toNat)) : Int).fdiv (2 ^ (min (s6.tmod 64).toNat 64))) 1)) else r1001.e2), (if 0 = 3 then (orI .u64 (zag [r1001.e0, r1001.e1, r1001.e2, r1001.e3] 0)
  (zd .u64 (((zag [b2.e0, b2.e1, b2.e2, b2.e3] ((w6 (s6.tdiv 64)).toNat)) : Int).fdiv (2 ^ (min (s6.tmod 64).toNat 64))) 1)) else r1001.e3)⟩ : A4_u64) b3).bind fun r1002 =>
  cond (decide (r1002 ≥ 0)) ((za2 N (⟨(if 0 = 0 then (orI .u64 (zag [r1001.e0, r1001.e1, r1001.e2, r1001.e3] 0)
  (zd .u64 (((zag [b2.e0, b2.e1, b2.e2, b2.e3] ((w6 (s6.tdiv 64)).toNat)) : Int).fdiv (2 ^ (min (s6.tmod 64).toNat 64))) 1)) else r1001.e0), (if 0 = 1 then (orI .u64 (zag [r1001.e0, r1001.e1, r1001.e2, r1001.e3] 0)
  (zd .u64 (((zag [b2.e0, b2.e1, b2.e2, b2.e3] ((w6 (s6.tdiv 64)).toNat)) : Int).fdiv (2 ^ (min (s6.tmod 64).toNat 64))) 1)) else r1001.e1), (if 0 = 2 then (orI .u64 (zag [r1001.e0, r1001.e1, r1001.e2, r1001.e3] 0)
  (zd .u64 (((zag [b2.e0, b2.e1, b2.e2, b2.e3] ((w6 (s6.tdiv 64)).toNat)) : Int).fdiv (2 ^ (min (s6.tmod 64).toNat 64))) 1)) else r1001.e2), (if 0 = 3 then (orI .u64 (zag [r1001.e0, r1001.e1, r1001.e2, r1001.e3] 0)
  (zd .u64 (((zag [b2.e0, b2.e1, b2.e2, b2.e3] ((w6 (s6.tdiv 64)).toNat)) : Int).fdiv (2 ^ (min (s6.tmod 64).toNat 64))) 1)) else r1001.e3)⟩ : A4_u64) b3).bind fun r1003 =>
  if 0 ≤ (w6 (s6.tdiv 64)) then (if (w6 (s6.tdiv 64)) < 4 then (if (s6.tmod 64) < 0 then none else if 0 ≤ (w6 (s6.tdiv 64)) then (if (w6 (s6.tdiv 64)) < 4 then (some (.again ((w6 (s6 - 1)), b2, b3, (⟨(if (w6 (s6.tdiv 64)).toNat = 0 then (orI .u64 (zag [b4.e0, b4.e1, b4.e2, b4.e3] ((w6 (s6.tdiv 64)).toNat))
  (IntKind.wrap .u64 (1 * 2 ^ (min (s6.tmod 64).toNat 64)))) else b4.e0), (if (w6 (s6.tdiv 64)).toNat = 1 then (orI .u64 (zag [b4.e0, b4.e1, b4.e2, b4.e3] ((w6 (s6.tdiv 64)).toNat))
  (IntKind.wrap .u64 (1 * 2 ^ (min (s6.tmod 64).toNat 64)))) else b4.e1), (if (w6 (s6.tdiv 64)).toNat = 2 then (orI .u64 (zag [b4.e0, b4.e1, b4.e2, b4.e3] ((w6 (s6.tdiv 64)).toNat))
  (IntKind.wrap .u64 (1 * 2 ^ (min (s6.tmod 64).toNat 64)))) else b4.e2), (if (w6 (s6.tdiv 64)).toNat = 3 then (orI .u64 (zag [b4.e0, b4.e1, b4.e2, b4.e3] ((w6 (s6.tdiv 64)).toNat))
  (IntKind.wrap .u64 (1 * 2 ^ (min (s6.tmod 64).toNat 64)))) else b4.e3)⟩ : A4_u64), r1003))) else none) else none) else none) else none)
  (some (.again ((w6 (s6 - 1)), b2, b3, b4, (⟨(if 0 = 0 then (orI .u64 (zag [r1001.e0, r1001.e1, r1001.e2, r1001.e3] 0)
  (zd .u64 (((zag [b2.e0, b2.e1, b2.e2, b2.e3] ((w6 (s6.tdiv 64)).toNat)) : Int).fdiv (2 ^ (min (s6.tmod 64).toNat 64))) 1)) else r1001.e0), (if 0 = 1 then (orI .u64 (zag [r1001.e0, r1001.e1, r1001.e2, r1001.e3] 0)
  (zd .u64 (((zag [b2.e0, b2.e1, b2.e2, b2.e3] ((w6 (s6.tdiv 64)).toNat)) : Int).fdiv (2 ^ (min (s6.tmod 64).toNat 64))) 1)) else r1001.e1), (if 0 = 2 then (orI .u64 (zag [r1001.e0, r1001.e1, r1001.e2, r1001.e3] 0)
  (zd .u64 (((zag [b2.e0, b2.e1, b2.e2, b2.e3] ((w6 (s6.tdiv 64)).toNat)) : Int).fdiv (2 ^ (min (s6.tmod 64).toNat 64))) 1)) else r1001.e2), (if 0 = 3 then (orI .u64 (zag [r1001.e0, r1001.e1, r1001.e2, r1001.e3] 0)
  (zd .u64 (((zag [b2.e0, b2.e1, b2.e2, b2.e3] ((w6 (s6.tdiv 64)).toNat)) : Int).fdiv (2 ^ (min (s6.tmod 64).toNat 64))) 1)) else r1001.e3)⟩ : A4_u64))))) else none) else none)
  (some (.leave (s6, b2, b3, b4, b5)))
def zay.r0 (N : Nat) (x : Int × A4_u64 × A4_u64 × A4_u64 × A4_u64) := zay.b0 N x.1 x.2.1 x.2.2.1 x.2.2.2.1 x.2.2.2.2
def zay (N : Nat) (a0 : A4_u64) (a1 : A4_u64) : Option (A4_u64 × A4_u64) :=
 (zac (zay.r0 N) N (255, a0, a1, (⟨0, 0, 0, 0⟩ : A4_u64), (⟨0, 0, 0, 0⟩ : A4_u64))).bind fun y1 => some (y1.2.2.2.1, y1.2.2.2.2)
def zay.k (N : Nat) : Kq := ⟨320, (cvv [Ty.A4_u64, Ty.A4_u64] [Ty.A4_u64, Ty.A4_u64] (zay N)), go [zy.k N, zas.k N, za2.k N] {} [(0, .plain { slots := [(2, .ptr 2 0), (3, .ptr 3 0), (4, .ptr 4 0), (5, .ptr 5 0), (6, .val T6)], boxes := [(2, Ty.A4_u64, []), (3, Ty.A4_u64, []), (4, Ty.A4_u64, []), (5, Ty.A4_u64, [])] } [T6, Ty.A4_u64, Ty.A4_u64, Ty.A4_u64, Ty.A4_u64] (zac (zay.r0 N) N))] Proofs.Tryz.func320 (hL := ⟨⟨_, _, rfl, by kernel_rfl⟩, trivial⟩)⟩
def zdq (N : Nat) (a0 : numeric_fraction) (a1 : DataType) (a2 : Bool) : Option (Value × Int) :=
 (zp N a0.amount a1.Scale).bind fun r1 => (zay N r1 (⟨a0.division.e0, a0.division.e1, a0.division.e2, a0.division.e3⟩ : A4_u64)).bind fun r2 =>
  (cond a2 ((zas N r2.2 r2.2).bind fun r3 => (zy N r3 (⟨a0.division.e0, a0.division.e1, a0.division.e2, a0.division.e3⟩ : A4_u64)).bind fun r4 =>
  some (decide (r4 ≥ 0))) (some false)).bind fun g5 => cond g5 ((za6 1).bind fun r6 => (zas N r2.1 r6).bind fun r7 => (za6 1).bind fun r8 =>
  (zp N r8 a1.Length).bind fun r9 => (zy N r7 r9).bind fun r10 => cond (decide (r10 ≥ 0)) (some ((⟨0, (⟨#[]⟩ : ByteArray)⟩ : Value), 19))
  (cond a0.below (some ((⟨(w6 (0 - (w6 (zag [r7.e0, r7.e1, r7.e2, r7.e3] 0)))), (⟨#[]⟩ : ByteArray)⟩ : Value), 0))
  (some ((⟨(w6 (zag [r7.e0, r7.e1, r7.e2, r7.e3] 0)), (⟨#[]⟩ : ByteArray)⟩ : Value), 0)))) ((za6 1).bind fun r11 =>
  (zp N r11 a1.Length).bind fun r12 => (zy N r2.1 r12).bind fun r13 => cond (decide (r13 ≥ 0)) (some ((⟨0, (⟨#[]⟩ : ByteArray)⟩ : Value), 19))
  (cond a0.below (some ((⟨(w6 (0 - (w6 (zag [r2.1.e0, r2.1.e1, r2.1.e2, r2.1.e3] 0)))), (⟨#[]⟩ : ByteArray)⟩ : Value), 0))
  (some ((⟨(w6 (zag [r2.1.e0, r2.1.e1, r2.1.e2, r2.1.e3] 0)), (⟨#[]⟩ : ByteArray)⟩ : Value), 0))))
def zdq.k (N : Nat) : Kq := ⟨273, (cvv [Ty.Value, T6] [Ty.numeric_fraction, Ty.DataType, Ty.bool] (zdq N)), go [zy.k N, za6.k, zp.k N, zay.k N, zas.k N] {lits := [16, 26, 33, 36, 39]} [] Proofs.Tryz.func273⟩
def zg4 (N : Nat) (a0 : Number) (a1 : DataType) (a2 : Bool) : Option (Value × Int) :=
 (z7 a0).bind fun r1 => (zaj N a1).bind fun r2 => (zes a1).bind fun r3 => (zab (!r3) 17).bind fun r4 =>
  (zm N ([r1, r2, r4] : List Int)).bind fun r5 => cond (r5 != 0) (some ((⟨0, (⟨#[]⟩ : ByteArray)⟩ : Value), r5))
  ((zl5 N (⟨a0.N, a0.Scale⟩ : Number)).bind fun r6 =>
  (zdq N (⟨r6.below, (⟨r6.amount.e0, r6.amount.e1, r6.amount.e2, r6.amount.e3⟩ : A4_u64), (⟨r6.division.e0, r6.division.e1, r6.division.e2, r6.division.e3⟩ : A4_u64)⟩ : numeric_fraction)
  (⟨a1.Kind, a1.Length, a1.Scale⟩ : DataType) a2).bind fun r7 => some (r7.1, r7.2))
def zg4.k (N : Nat) : Kq := ⟨208, (cvv [Ty.Value, T6] [Ty.Number, Ty.DataType, Ty.bool] (zg4 N)), go [z7.k, zab.k, zaj.k N, zm.k N, zes.k, zl5.k N, zdq.k N] {lits := [10, 12, 16, 17, 24]} [] Proofs.Tryz.func208⟩
def zdr.b0 (N : Nat) (s0 : Int) (s5 : List Int) (s6 : Int) : Option (Stp (Int × (List Int) × Int)) :=
 cond (decide (s6 ≥ 0)) (if 0 ≤ s6 then (if s6 < (s5.length : Int) then ((s5[s6.toNat]?).bind fun x1001 =>
  some (.again ((w6 (s0.tdiv 10)), (s5.set s6.toNat (IntKind.wrap .u8 (s0.tmod 10))), (w6 (s6 - 1))))) else none) else none)
  (some (.leave (s0, s5, s6)))
def zdr.r0 (N : Nat) (x : Int × (List Int) × Int) := zdr.b0 N x.1 x.2.1 x.2.2
def zdr (N : Nat) (a0 : Int) (a1 : Int) : Option ((List Int)) :=
 if 0 ≤ a1 then (if a1 ≤ a1 then (cond (Nat.ble (a1.toNat * 1) zax)
  ((zac (zdr.r0 N) N (a0, (List.replicate a1.toNat (0 : Int)), (w6 (a1 - 1)))).bind fun y1 => some y1.2.1) none) else none) else none
def zdr.k (N : Nat) : Kq := ⟨322, (ctv [.val T6, .val T6] [(Ty.sl (Ty.int .u8))] [] [0] [T6, T6] (zdr N)), go [] {} [(0, .plain { slots := [(0, .val T6), (5, .own 5000005 (Ty.int .u8)), (6, .val T6)], boxes := [] } [T6, (Ty.sl (Ty.int .u8)), T6] (zac (zdr.r0 N) N))] Proofs.Tryz.func322 (hL := ⟨⟨_, _, rfl, by kernel_rfl⟩, trivial⟩)⟩
def zb3.b0 (N : Nat) (s0 : List Int) (s3 : List Int) (s4 : Int) : Option (Stp ((List Int) × (List Int) × Int)) :=
 cond (decide (s4 < (s0.length : Int))) ((idx s0 s4).bind fun x1001 => (idx s0 (w6 (s4 + 1))).bind fun x1002 =>
  cond (Nat.ble ((s3.length + ([(orI .u8 (IntKind.wrap .u8 (x1001 * 2 ^ (min (4 : Int).toNat 8))) x1002)] : List Int).length) * 1) zax)
  (some (.again (s0, (s3 ++ ([(orI .u8 (IntKind.wrap .u8 (x1001 * 2 ^ (min (4 : Int).toNat 8))) x1002)] : List Int)), (w6 (s4 + 2))))) none)
  (some (.leave (s0, s3, s4)))
def zb3.r0 (N : Nat) (x : (List Int) × (List Int) × Int) := zb3.b0 N x.1 x.2.1 x.2.2
def zb3 (N : Nat) (a0 : List Int) : Option ByteArray :=
 (zac (zb3.r0 N) N (a0, [], 0)).bind fun y1 => some (zhb y1.2.1)
def zb3.k (N : Nat) : Kq := ⟨323, (cvv [Ty.str] [(Ty.sl (Ty.int .u8))] (zb3 N)), go [] {lits := [23]} [(0, .plain { slots := [(0, .val (Ty.sl (Ty.int .u8))), (3, .own 5000003 (Ty.int .u8)), (4, .val T6)], boxes := [] } [(Ty.sl (Ty.int .u8)), (Ty.sl (Ty.int .u8)), T6] (zac (zb3.r0 N) N))] Proofs.Tryz.func323 (hL := ⟨⟨_, _, rfl, by kernel_rfl⟩, trivial⟩)⟩
def za5.b1 (N : Nat) (s5 : List Int) (s25 : Int) (s26 : Int) (b3 : Value) : Option (Stp ((List Int) × Int × Int × Value)) :=
 cond (decide (s26 < s25)) (if 0 ≤ s26 then (if s26 < (s5.length : Int) then ((s5[s26.toNat]?).bind fun x2001 =>
  if 0 ≤ s26 then (if s26 < (s5.length : Int) then ((s5[s26.toNat]?).bind fun x2002 =>
  some (.again ((s5.set s26.toNat (IntKind.wrap .u8 (x2001 + 240))), s25, (w6 (s26 + 1)), b3))) else none) else none) else none) else none)
  (some (.leave (s5, s25, s26, b3)))
def za5.r1 (N : Nat) (x : (List Int) × Int × Int × Value) := za5.b1 N x.1 x.2.1 x.2.2.1 x.2.2.2
def za5.b3 (N : Nat) (s8 : List Int) (s9 : Int) (s10 : Int) : Option (Stp ((List Int) × Int × Int)) :=
 cond (decide (s9 ≥ 0)) (if 0 ≤ s9 then (if s9 < (s8.length : Int) then ((s8[s9.toNat]?).bind fun x4001 =>
  some (.again ((s8.set s9.toNat (IntKind.wrap .u8 s10)), (w6 (s9 - 1)), (s10.fdiv (2 ^ (min (8 : Int).toNat 64)))))) else none) else none)
  (some (.leave (s8, s9, s10)))
def za5.r3 (N : Nat) (x : (List Int) × Int × Int) := za5.b3 N x.1 x.2.1 x.2.2
def za5 (N : Nat) (a0 : DataType) (a1 : Value) : Option ByteArray :=
 (zdr N (if (w6 (0 - a1.N)) > a1.N then (w6 (0 - a1.N)) else a1.N) a0.Length).bind fun r1 => cond (a0.Kind == 2)
  ((zac (za5.r1 N) N (r1, (r1.length : Int), 0, (⟨a1.N, a1.S⟩ : Value))).bind fun y2 => cond (decide (y2.2.2.2.N < 0))
  (if 0 ≤ (w6 ((y2.1.length : Int) - 1)) then (if (w6 ((y2.1.length : Int) - 1)) < (y2.1.length : Int) then ((y2.1[(w6 ((y2.1.length : Int) - 1)).toNat]?).bind fun x3 =>
  if 0 ≤ (w6 ((y2.1.length : Int) - 1)) then (if (w6 ((y2.1.length : Int) - 1)) < (y2.1.length : Int) then ((y2.1[(w6 ((y2.1.length : Int) - 1)).toNat]?).bind fun x4 =>
  some (zhb (y2.1.set ((w6 ((y2.1.length : Int) - 1)).toNat) (IntKind.wrap .u8 (x3 - 32))))) else none) else none) else none) else none) (some (zhb y2.1)))
  (cond (a0.Kind == 1) (cond (decide (a1.N < 0)) (cond (((r1.length : Int).tmod 2) == 0) (cond (Nat.ble ((([0] : List Int).length + r1.length) * 1) zax)
  (cond (Nat.ble (((([0] : List Int) ++ r1).length + ([13] : List Int).length) * 1) zax) ((zb3 N ((([0] : List Int) ++ r1) ++ ([13] : List Int))).bind fun r5 =>
  some r5) none) none) (cond (Nat.ble ((r1.length + ([13] : List Int).length) * 1) zax) ((zb3 N (r1 ++ ([13] : List Int))).bind fun r6 => some r6) none))
  (cond (((r1.length : Int).tmod 2) == 0) (cond (Nat.ble ((([0] : List Int).length + r1.length) * 1) zax)
  (cond (Nat.ble (((([0] : List Int) ++ r1).length + ([15] : List Int).length) * 1) zax) ((zb3 N ((([0] : List Int) ++ r1) ++ ([15] : List Int))).bind fun r7 =>
  some r7) none) none) (cond (Nat.ble ((r1.length + ([15] : List Int).length) * 1) zax) ((zb3 N (r1 ++ ([15] : List Int))).bind fun r8 => some r8) none)))
  (cond (a0.Kind == 3) ((zd4 (⟨a0.Kind, a0.Length, a0.Scale⟩ : DataType)).bind fun r9 => if 0 ≤ r9 then (if r9 ≤ r9 then (cond (Nat.ble (r9.toNat * 1) zax)
  ((zac (za5.r3 N) N ((List.replicate r9.toNat (0 : Int)), (w6 (((List.replicate r9.toNat (0 : Int)).length : Int) - 1)), a1.N)).bind fun y10 =>
  some (zhb y10.1)) none) else none) else none) (some a1.S)))
def za5.k (N : Nat) : Kq := ⟨274, (cvv [Ty.str] [Ty.DataType, Ty.Value] (za5 N)), go [zd4.k, zdr.k N, zb3.k N] {lits := [16, 63, 64]} [(1, .plain { slots := [(3, .ptr 3 0), (5, .own 5000005 (Ty.int .u8)), (25, .val T6), (26, .val T6)], boxes := [(3, Ty.Value, [])] } [(Ty.sl (Ty.int .u8)), T6, T6, Ty.Value] (zac (za5.r1 N) N)), (3, .plain { slots := [(8, .own 5000008 (Ty.int .u8)), (9, .val T6), (10, .val T6)], boxes := [] } [(Ty.sl (Ty.int .u8)), T6, T6] (zac (za5.r3 N) N))] Proofs.Tryz.func274 (hL := ⟨⟨_, _, rfl, by kernel_rfl⟩, ⟨_, _, rfl, by kernel_rfl⟩, trivial⟩)⟩
def ziy (N : Nat) (a0 : DataType) (a1 : Value) : Option (ByteArray × Int) :=
 (zdh N a0 a1).bind fun r1 => cond (r1 != 0) (some ((⟨#[]⟩ : ByteArray), r1)) ((za5 N (⟨a0.Kind, a0.Length, a0.Scale⟩ : DataType)
  (⟨a1.N, a1.S⟩ : Value)).bind fun r2 => some (r2, 0))
def ziy.k (N : Nat) : Kq := ⟨209, (cvv [Ty.str, T6] [Ty.DataType, Ty.Value] (ziy N)), go [zdh.k N, za5.k N] {} [] Proofs.Tryz.func209⟩
def zjh (N : Nat) (a0 : Storage) (a1 : Int) (a2 : Int) : Option Int :=
 (zg N a0).bind fun r1 => cond (r1.2 != 0) (some r1.2) ((cond (decide (a1 < 0)) (some true) (some (decide (a2 < 0)))).bind fun g2 => (cond g2 (some true)
  (some (decide (a1 > (a0.Bytes.size : Int))))).bind fun g3 => (cond g3 (some true) (some (decide (a2 > (w6 ((a0.Bytes.size : Int) - a1)))))).bind fun g4 =>
  cond g4 (some 3) (some 0))
def zjh.k (N : Nat) : Kq := ⟨284, (cvv [T6] [Ty.Storage, T6, T6] (zjh N)), go [zg.k N] {} [] Proofs.Tryz.func284⟩
def zit (a0 : Storage) (a1 : Int) (a2 : ByteArray) : Option Storage :=
 if 0 ≤ a1 ∧ a1 ≤ (a0.Bytes.size : Int) then (if 0 ≤ (0 : Int) ∧ (0 : Int) ≤ a1 then (if (((a0.Bytes.extract (0 : Int).toNat a1.toNat).size + a2.size : Nat) : Int) > IntKind.i64.max then none else if 0 ≤ (w6 (a1 + (a2.size : Int))) ∧ (w6 (a1 + (a2.size : Int))) ≤ (a0.Bytes.size : Int) then (if ((((a0.Bytes.extract (0 : Int).toNat a1.toNat) ++ a2).size + (a0.Bytes.extract (w6 (a1 + (a2.size : Int))).toNat a0.Bytes.size).size : Nat) : Int) > IntKind.i64.max then none else (zge 1 a0.Tags).bind fun r1 =>
  cond (!(a2.toList == (⟨#[]⟩ : ByteArray).toList))
  (if 0 ≤ (w6 ((w6 ((w6 ((w6 (a1 + (a2.size : Int))) - 1)).tdiv 16)) + 1)) ∧ (w6 ((w6 ((w6 ((w6 (a1 + (a2.size : Int))) - 1)).tdiv 16)) + 1)) ≤ (r1.length : Int) then (if 0 ≤ (w6 (a1.tdiv 16)) ∧ (w6 (a1.tdiv 16)) ≤ (w6 ((w6 ((w6 ((w6 (a1 + (a2.size : Int))) - 1)).tdiv 16)) + 1)) then (some (⟨(((a0.Bytes.extract (0 : Int).toNat a1.toNat) ++ a2) ++ (a0.Bytes.extract (w6 (a1 + (a2.size : Int))).toNat a0.Bytes.size)), (r1.take ((w6 (a1.tdiv 16)).toNat) ++ List.replicate ((w6 ((w6 ((w6 ((w6 (a1 + (a2.size : Int))) - 1)).tdiv 16)) + 1)).toNat - (w6 (a1.tdiv 16)).toNat)
  (false : Bool) ++ r1.drop ((w6 (a1.tdiv 16)).toNat + ((w6 ((w6 ((w6 ((w6 (a1 + (a2.size : Int))) - 1)).tdiv 16)) + 1)).toNat - (w6 (a1.tdiv 16)).toNat)))⟩ : Storage)) else none) else none)
  (some (⟨(((a0.Bytes.extract (0 : Int).toNat a1.toNat) ++ a2) ++ (a0.Bytes.extract (w6 (a1 + (a2.size : Int))).toNat a0.Bytes.size)), r1⟩ : Storage))) else none) else none) else none
def zit.k : Kq := ⟨281, (ctv [.val Ty.Storage, .val T6, .val Ty.str] [Ty.Storage] [] [1] [Ty.Storage, T6, Ty.str] zit), go [x76.k] {} [] Proofs.Tryz.func281⟩
def zg3 (N : Nat) (a0 : Storage) (a1 : Int) (a2 : ByteArray) : Option (Storage × Int) :=
 (zjh N a0 a1 (a2.size : Int)).bind fun r1 => cond (r1 != 0) (some ((⟨(⟨#[]⟩ : ByteArray), []⟩ : Storage), r1)) ((zit a0 a1 a2).bind fun r2 => some (r2, 0))
def zg3.k (N : Nat) : Kq := ⟨228, (cvv [Ty.Storage, T6] [Ty.Storage, T6, Ty.str] (zg3 N)), go [zit.k, zjh.k N] {lits := [12]} [] Proofs.Tryz.func228⟩
def zcd (N : Nat) (a0 : hardware_machine) (a1 : HwPlace) (a2 : ByteArray) : Option hardware_machine :=
 (zbd N a0 a1 (a2.size : Int)).bind fun r1 => cond r1.2.1 ((zg3 N r1.2.2.HwState.Storage r1.1 a2).bind fun r2 =>
  some (⟨(⟨r1.2.2.HwState.Registers, r1.2.2.HwState.Condition, r2.1, r1.2.2.HwState.At, r1.2.2.HwState.Stack, r1.2.2.HwState.Lines, r1.2.2.HwState.Status, r1.2.2.HwState.Exception, r1.2.2.HwState.Marks, r1.2.2.HwState.Steps⟩ : HwState), r1.2.2.code, r1.2.2.raised⟩ : hardware_machine))
  (some r1.2.2)
def zcd.k (N : Nat) : Kq := ⟨210, (ctv [.ptr Ty.hardware_machine true [], .val Ty.HwPlace, .val Ty.str] [] [Ty.hardware_machine] [] [Ty.hardware_machine, Ty.HwPlace, Ty.str] (zcd N)), go [zbd.k N, zg3.k N] {lits := [12], pk := [1000000]} [] Proofs.Tryz.func210⟩
def zfh (N : Nat) (a0 : hardware_machine) (a1 : HwInstruction) : Option hardware_machine :=
 (idx a0.HwState.Registers a1.R).bind fun x1 => (zg4 N x1 a1.Type_ a1.Half).bind fun r2 => (zf a0 (r2.2 != 0) 2).bind fun r3 =>
  cond r3.1 ((ziy N a1.Type_ r2.1).bind fun r4 => (zcd N r3.2 a1.Place r4.1).bind fun r5 => some r5) (some r3.2)
def zfh.k (N : Nat) : Kq := ⟨148, (ctv [.ptr Ty.hardware_machine true [], .val Ty.HwInstruction] [] [Ty.hardware_machine] [] [Ty.hardware_machine, Ty.HwInstruction] (zfh N)), go [zf.k, zg4.k N, ziy.k N, zcd.k N] {pk := [1000000]} [] Proofs.Tryz.func148⟩
def zkg (a0 : Int) : Option Bool :=
 (zch a0 0 4).bind fun r1 => some r1
def zkg.k : Kq := ⟨275, (cvv [Ty.bool] [T6] zkg), go [zch.k] {} [] Proofs.Tryz.func275⟩
def zh7 (a0 : Int) : Option Bool :=
 (cond (a0 == 3) (some true) (some (a0 == 4))).bind fun g1 => some g1
def zh7.k : Kq := ⟨324, (cvv [Ty.bool] [T6] zh7), go [] {} [] Proofs.Tryz.func324⟩
def zdy (N : Nat) (a0 : Number) (a1 : Number) : Option (A4_u64 × A4_u64 × Int) :=
 (zcl N a0 (w6 ((if a1.Scale > a0.Scale then a1.Scale else a0.Scale) - a0.Scale))).bind fun r1 =>
  (zcl N a1 (w6 ((if a1.Scale > a0.Scale then a1.Scale else a0.Scale) - a1.Scale))).bind fun r2 =>
  some (r1, r2, (if a1.Scale > a0.Scale then a1.Scale else a0.Scale))
def zdy.k (N : Nat) : Kq := ⟨277, (cvv [Ty.A4_u64, Ty.A4_u64, T6] [Ty.Number, Ty.Number] (zdy N)), go [zcl.k N] {} [] Proofs.Tryz.func277⟩
def zjb (N : Nat) (a0 : Number) (a1 : Number) : Option numeric_fraction :=
 (zdy N a0 a1).bind fun r1 => (zas N r1.1 r1.2.1).bind fun r2 => (za6 1).bind fun r3 => (zp N r3 r1.2.2).bind fun r4 =>
  cond (!((decide (a0.N < 0)) == (decide (a1.N < 0)))) ((za2 N r1.1 r1.2.1).bind fun r5 => (zy N r1.1 r1.2.1).bind fun r6 => cond (decide (r6 < 0))
  ((za2 N r1.2.1 r1.1).bind fun r7 => some (⟨(decide (a1.N < 0)), r7, r4⟩ : numeric_fraction)) (some (⟨(decide (a0.N < 0)), r5, r4⟩ : numeric_fraction)))
  (some (⟨(decide (a0.N < 0)), r2, r4⟩ : numeric_fraction))
def zjb.k (N : Nat) : Kq := ⟨348, (cvv [Ty.numeric_fraction] [Ty.Number, Ty.Number] (zjb N)), go [zdy.k N, zy.k N, za6.k, zp.k N, zas.k N, za2.k N] {lits := [22]} [] Proofs.Tryz.func348⟩
def zix (N : Nat) (a0 : Int) (a1 : Number) (a2 : Number) : Option numeric_fraction :=
 cond (a0 == 0) ((zjb N a1 a2).bind fun r1 => some r1) (cond (a0 == 1) ((zjb N a1 (⟨(w6 (0 - a2.N)), a2.Scale⟩ : Number)).bind fun r2 => some r2)
  (cond (a0 == 2) ((zcl N a1 0).bind fun r3 =>
  (zbc N r3 (IntKind.wrap .u64 (if (w6 (0 - a2.N)) > a2.N then (w6 (0 - a2.N)) else a2.N))).bind fun r4 =>
  (za6 1).bind fun r5 => (zp N r5 (w6 (a1.Scale + a2.Scale))).bind fun r6 =>
  some (⟨(!((decide (a1.N < 0)) == (decide (a2.N < 0)))), r4, r6⟩ : numeric_fraction)) (cond (a0 == 3) ((zcl N a1 a2.Scale).bind fun r7 =>
  (zcl N a2 a1.Scale).bind fun r8 => some (⟨(!((decide (a1.N < 0)) == (decide (a2.N < 0)))), r7, r8⟩ : numeric_fraction)) ((zdy N a1 a2).bind fun r9 =>
  (zay N r9.1 r9.2.1).bind fun r10 => (za6 1).bind fun r11 => (zp N r11 r9.2.2).bind fun r12 =>
  some (⟨(decide (a1.N < 0)), r10.2, r12⟩ : numeric_fraction)))))
def zix.k (N : Nat) : Kq := ⟨325, (cvv [Ty.numeric_fraction] [T6, Ty.Number, Ty.Number] (zix N)), go [zdy.k N, zcl.k N, za6.k, zp.k N, zay.k N, zbc.k N, zjb.k N] {lits := [40, 49, 86]} [] Proofs.Tryz.func325⟩
def zgw (N : Nat) (a0 : Int) (a1 : Number) (a2 : Number) (a3 : DataType) (a4 : Bool) : Option (Value × Int) :=
 (zh7 a0).bind fun r1 => (cond r1 (some (a2.N == 0)) (some false)).bind fun g2 => cond g2 (some ((⟨0, (⟨#[]⟩ : ByteArray)⟩ : Value), 20))
  ((zix N a0 a1 a2).bind fun r3 => (zdq N r3 a3 a4).bind fun r4 => some (r4.1, r4.2))
def zgw.k (N : Nat) : Kq := ⟨276, (cvv [Ty.Value, T6] [T6, Ty.Number, Ty.Number, Ty.DataType, Ty.bool] (zgw N)), go [zdq.k N, zh7.k, zix.k N] {lits := [23]} [] Proofs.Tryz.func276⟩
def zfn (N : Nat) (a0 : Int) (a1 : Number) (a2 : Number) (a3 : DataType) (a4 : Bool) : Option (Value × Int) :=
 (zkg a0).bind fun r1 => (zab (!r1) 4).bind fun r2 => (z7 a1).bind fun r3 => (z7 a2).bind fun r4 =>
  (zaj N a3).bind fun r5 => (zes a3).bind fun r6 => (zab (!r6) 17).bind fun r7 =>
  (zm N ([r2, r3, r4, r5, r7] : List Int)).bind fun r8 => cond (r8 != 0) (some ((⟨0, (⟨#[]⟩ : ByteArray)⟩ : Value), r8))
  ((zgw N a0 a1 a2 a3 a4).bind fun r9 => some (r9.1, r9.2))
def zfn.k (N : Nat) : Kq := ⟨211, (cvv [Ty.Value, T6] [T6, Ty.Number, Ty.Number, Ty.DataType, Ty.bool] (zfn N)), go [z7.k, zab.k, zaj.k N, zm.k N, zes.k, zkg.k, zgw.k N] {lits := [16, 18, 20, 22, 26, 27]} [] Proofs.Tryz.func211⟩
def zee (N : Nat) (a0 : hardware_machine) (a1 : HwInstruction) : Option hardware_machine :=
 cond a1.InStorage ((zcs N a0 a1.Place a1.Second).bind fun r1 => cond (!r1.2.1) (some r1.2.2) ((idx r1.2.2.HwState.Registers a1.A).bind fun x2 =>
  (zfn N a1.Calculation x2 r1.1 a1.Type_ false).bind fun r3 => (zf r1.2.2 (r3.2 == 20) 3).bind fun r4 =>
  cond r4.1 ((zf r4.2 (r3.2 != 0) 2).bind fun r5 => cond r5.1 ((za9 r5.2 a1.R (⟨r3.1.N, a1.Type_.Scale⟩ : Number)).bind fun r6 => some r6)
  (some r5.2)) (some r4.2))) ((idx a0.HwState.Registers a1.B).bind fun x7 => (idx a0.HwState.Registers a1.A).bind fun x8 =>
  (zfn N a1.Calculation x8 x7 a1.Type_ false).bind fun r9 => (zf a0 (r9.2 == 20) 3).bind fun r10 =>
  cond r10.1 ((zf r10.2 (r9.2 != 0) 2).bind fun r11 => cond r11.1 ((za9 r11.2 a1.R (⟨r9.1.N, a1.Type_.Scale⟩ : Number)).bind fun r12 =>
  some r12) (some r11.2)) (some r10.2))
def zee.k (N : Nat) : Kq := ⟨149, (ctv [.ptr Ty.hardware_machine true [], .val Ty.HwInstruction] [] [Ty.hardware_machine] [] [Ty.hardware_machine, Ty.HwInstruction] (zee N)), go [zcs.k N, za9.k, zf.k, zfn.k N] {pk := [1000000]} [] Proofs.Tryz.func149⟩
def zhm (N : Nat) (a0 : Number) (a1 : Number) : Option (Int × Int) :=
 (z7 a0).bind fun r1 => (z7 a1).bind fun r2 => (zm N ([r1, r2] : List Int)).bind fun r3 => cond (r3 != 0) (some (0, r3))
  ((zdy N a0 a1).bind fun r4 => (cond (decide (a0.N < 0)) (some (decide (a1.N < 0))) (some false)).bind fun g5 =>
  cond g5 ((zy N r4.2.1 r4.1).bind fun r6 => some (r6, 0)) (cond (decide (a0.N < 0)) (some ((-1), 0)) (cond (decide (a1.N < 0)) (some (1, 0))
  ((zy N r4.1 r4.2.1).bind fun r7 => some (r7, 0)))))
def zhm.k (N : Nat) : Kq := ⟨212, (cvv [T6, T6] [Ty.Number, Ty.Number] (zhm N)), go [z7.k, zm.k N, zdy.k N, zy.k N] {lits := [11, 13, 14]} [] Proofs.Tryz.func212⟩
def zej (a0 : Int) : Option Int :=
 cond (decide (a0 < 0)) (some 1) (cond (decide (a0 > 0)) (some 4) (some 2))
def zej.k : Kq := ⟨213, (cvv [T6] [T6] zej), go [] {} [] Proofs.Tryz.func213⟩
def zbb (N : Nat) (a0 : hardware_machine) (a1 : HwInstruction) : Option Int :=
 (idx a0.HwState.Registers a1.A).bind fun x1 => (idx a0.HwState.Registers a1.B).bind fun x2 => (zhm N x1 x2).bind fun r3 => (zej r3.1).bind fun r4 =>
  some r4
def zbb.k (N : Nat) : Kq := ⟨150, (ctv [.ptr Ty.hardware_machine false [], .val Ty.HwInstruction] [T6] [] [] [Ty.hardware_machine, Ty.HwInstruction] (zbb N)), go [zhm.k N, zej.k] {ro := [1000000], pk := [1000000]} [] Proofs.Tryz.func150⟩
def zro : Ct U := { params := [.val Ty.str, .val T6], results := [Ty.str], outs := [], fresh := [], fn := app U [Ty.str, T6] (R := PT U [Ty.str]) (zqn) }
theorem zro.meets : zf2 (zns [] [] [] [] [] [] [] []) 279 zro :=
 zre ⟨_, Proofs.Tryz.func279, rfl, by kernel_rfl⟩ (t := Ty.str) rfl rfl rfl rfl fun ds y hy E0 h0 ha μ H w us hA hm hG => by
  obtain ⟨s, n, rfl, hx⟩ := z4z hy; unfold zqn at hx; split at hx
  · rename_i hn; cases hx; have hE : some ([.sc (.string s), .sc (.int .i64 n)], []) = some (E0, h0) := ha; cases hE; cases hA with
    | cons h1 h2 =>
     cases h2 with
     | cons h2 h3 =>
      cases h3; have hu := h1.int; have hu2 := h2.int; subst hu hu2; refine ⟨_, rfl, ?_⟩; have hc := Proofs.Tryz.strings_Repeat s n.toNat w (by omega) hn.2.2; have he : ((n.toNat : Nat) : Int) = n := by omega
      rw [he] at hc; exact hc.mono fun e w' hh => ⟨_, hh.1, zwa hh.2, .sc _⟩
  · cases hx
def zro.k : Kq := ⟨279, zro, zro.meets⟩
def zfp (a0 : ByteArray) (a1 : Int) : Option ByteArray :=
 (zqn (⟨#[32]⟩ : ByteArray) (if 0 > (w6 (a1 - (a0.size : Int))) then 0 else (w6 (a1 - (a0.size : Int))))).bind fun r1 =>
  if ((a0.size + r1.size : Nat) : Int) > IntKind.i64.max then none else some (a0 ++ r1)
def zfp.k : Kq := ⟨214, (cvv [Ty.str] [Ty.str, T6] zfp), go [zro.k] {lits := [10]} [] Proofs.Tryz.func214⟩
def zed (N : Nat) (a0 : hardware_machine) (a1 : HwInstruction) : Option hardware_machine :=
 cond (a1.Op == 9) ((zaq N a0 a1.From a1.Second).bind fun r1 => cond r1.2.1 ((zfp r1.1 a1.Type_.Length).bind fun r2 =>
  if 0 ≤ a1.Type_.Length ∧ a1.Type_.Length ≤ (r2.size : Int) then (if 0 ≤ (0 : Int) ∧ (0 : Int) ≤ a1.Type_.Length then ((zcd N r1.2.2 a1.Place (r2.extract (0 : Int).toNat a1.Type_.Length.toNat)).bind fun r3 =>
  some r3) else none) else none) (some r1.2.2)) ((zfp a1.Text a1.Type_.Length).bind fun r4 =>
  if 0 ≤ a1.Type_.Length ∧ a1.Type_.Length ≤ (r4.size : Int) then (if 0 ≤ (0 : Int) ∧ (0 : Int) ≤ a1.Type_.Length then ((zcd N a0 a1.Place (r4.extract (0 : Int).toNat a1.Type_.Length.toNat)).bind fun r5 =>
  some r5) else none) else none)
def zed.k (N : Nat) : Kq := ⟨151, (ctv [.ptr Ty.hardware_machine true [], .val Ty.HwInstruction] [] [Ty.hardware_machine] [] [Ty.hardware_machine, Ty.HwInstruction] (zed N)), go [zaq.k N, zcd.k N, zfp.k] {pk := [1000000]} [] Proofs.Tryz.func151⟩
def zc7 (a0 : ByteArray) (a1 : ByteArray) : Option Int :=
 some (Extern.BytealgCompare.cmp a0 a1)
def zc7.k : Kq := ⟨280, (cvv [T6] [Ty.str, Ty.str] zc7), go [] {X := [(331, 2)]} [] Proofs.Tryz.func280 (hX := all_cons (z30) (zbq))⟩
def zh6 (a0 : ByteArray) (a1 : ByteArray) : Option Int :=
 (zc7 a0 a1).bind fun r1 => some r1
def zh6.k : Kq := ⟨215, (cvv [T6] [Ty.str, Ty.str] zh6), go [zc7.k] {} [] Proofs.Tryz.func215⟩
def ze8 (a0 : ByteArray) (a1 : ByteArray) : Option Int :=
 (zfp a0 (a1.size : Int)).bind fun r1 => (zfp a1 (a0.size : Int)).bind fun r2 => (zh6 r1 r2).bind fun r3 => (zej r3).bind fun r4 =>
  some r4
def ze8.k : Kq := ⟨153, (cvv [T6] [Ty.str, Ty.str] ze8), go [zej.k, zfp.k, zh6.k] {lits := [7, 8, 11, 12, 13]} [] Proofs.Tryz.func153⟩
def zdb (N : Nat) (a0 : hardware_machine) (a1 : HwInstruction) : Option hardware_machine :=
 (zaq N a0 a1.Place a1.Type_).bind fun r1 => (cond r1.2.1 (some (a1.Op == 11)) (some false)).bind fun g2 =>
  cond g2 ((zaq N r1.2.2 a1.From a1.Second).bind fun r3 => cond r3.2.1 ((ze8 r1.1 r3.1).bind fun r4 =>
  some (⟨(⟨r3.2.2.HwState.Registers, r4, r3.2.2.HwState.Storage, r3.2.2.HwState.At, r3.2.2.HwState.Stack, r3.2.2.HwState.Lines, r3.2.2.HwState.Status, r3.2.2.HwState.Exception, r3.2.2.HwState.Marks, r3.2.2.HwState.Steps⟩ : HwState), r3.2.2.code, r3.2.2.raised⟩ : hardware_machine))
  (some r3.2.2)) (cond r1.2.1 ((ze8 r1.1 a1.Text).bind fun r5 =>
  some (⟨(⟨r1.2.2.HwState.Registers, r5, r1.2.2.HwState.Storage, r1.2.2.HwState.At, r1.2.2.HwState.Stack, r1.2.2.HwState.Lines, r1.2.2.HwState.Status, r1.2.2.HwState.Exception, r1.2.2.HwState.Marks, r1.2.2.HwState.Steps⟩ : HwState), r1.2.2.code, r1.2.2.raised⟩ : hardware_machine))
  (some r1.2.2))
def zdb.k (N : Nat) : Kq := ⟨152, (ctv [.ptr Ty.hardware_machine true [], .val Ty.HwInstruction] [] [Ty.hardware_machine] [] [Ty.hardware_machine, Ty.HwInstruction] (zdb N)), go [ze8.k, zaq.k N] {pk := [1000000]} [] Proofs.Tryz.func152⟩
def zdn.b0 (N : Nat) (s0 : Int) (s1 : Int) (s5 : List Int) (s10 : Int) (s11 : Int) : Option (Stp (Int × Int × (List Int) × Int × Int)) :=
 cond (decide (s11 < s10))
  (if (w6 (8 * s11)) < 0 then none else if 0 ≤ (w6 ((w6 (s1 - 1)) - s11)) then (if (w6 ((w6 (s1 - 1)) - s11)) < (s5.length : Int) then ((s5[(w6 ((w6 (s1 - 1)) - s11)).toNat]?).bind fun x1001 =>
  some (.again (s0, s1, (s5.set ((w6 ((w6 (s1 - 1)) - s11)).toNat)
  (IntKind.wrap .u8 ((s0 : Int).fdiv (2 ^ (min (w6 (8 * s11)).toNat 64))))), s10, (w6 (s11 + 1))))) else none) else none)
  (some (.leave (s0, s1, s5, s10, s11)))
def zdn.r0 (N : Nat) (x : Int × Int × (List Int) × Int × Int) := zdn.b0 N x.1 x.2.1 x.2.2.1 x.2.2.2.1 x.2.2.2.2
def zdn (N : Nat) (a0 : Int) (a1 : Int) : Option ((List Int)) :=
 if 0 ≤ a1 then (if a1 ≤ a1 then (cond (Nat.ble (a1.toNat * 1) zax)
  ((zac (zdn.r0 N) N (a0, a1, (List.replicate a1.toNat (0 : Int)), ((List.replicate a1.toNat (0 : Int)).length : Int), 0)).bind fun y1 =>
  some y1.2.2.1) none) else none) else none
def zdn.k (N : Nat) : Kq := ⟨333, (cvv [(Ty.sl (Ty.int .u8))] [T6, T6] (zdn N)), go [] {} [(0, .plain { slots := [(0, .val T6), (1, .val T6), (5, .own 5000005 (Ty.int .u8)), (10, .val T6), (11, .val T6)], boxes := [] } [T6, T6, (Ty.sl (Ty.int .u8)), T6, T6] (zac (zdn.r0 N) N))] Proofs.Tryz.func333 (hL := ⟨⟨_, _, rfl, by kernel_rfl⟩, trivial⟩)⟩
def zhi (a0 : Unit) (a1 : Int) : Option ((List Int)) :=
 cond (decide (a1 < 0)) (none) (cond (decide ((w6 (a1 - 0)) > 0))
  (if 0 ≤ (w6 (a1 - 0)) then (cond (Nat.ble ((w6 (a1 - 0)).toNat * 1) zax)
  (if 0 ≤ (0 : Int) ∧ (0 : Int) ≤ ((List.replicate (w6 (a1 - 0)).toNat (0 : Int)).length : Int) then (if 0 ≤ (0 : Int) ∧ (0 : Int) ≤ (0 : Int) then (some (((List.replicate (w6 (a1 - 0)).toNat (0 : Int)).drop ((0 : Int).toNat)).take ((0 : Int).toNat - (0 : Int).toNat))) else none) else none) none) else none)
  (some []))
def zhi.k : Kq := ⟨352, (ctv [.val Ty.nil, .val T6] [(Ty.sl (Ty.int .u8))] [] [0] [Ty.nil, T6] zhi), go [] {} [] Proofs.Tryz.func352⟩
def zap.b0 (N : Nat) (s0 : List (List Int)) (s3 : Int) (s9 : List (List Int)) (s10 : Int) (s11 : Int) : Option (Stp ((List (List Int)) × Int × (List (List Int)) × Int × Int)) :=
 cond (decide (s11 < s10)) ((idx s9 s11).bind fun x1001 => cond (decide ((w6 (s3 + (x1001.length : Int))) < 0)) (none)
  (some (.again (s0, (w6 (s3 + (x1001.length : Int))), s9, s10, (w6 (s11 + 1)))))) (some (.leave (s0, s3, s9, s10, s11)))
def zap.r0 (N : Nat) (x : (List (List Int)) × Int × (List (List Int)) × Int × Int) := zap.b0 N x.1 x.2.1 x.2.2.1 x.2.2.2.1 x.2.2.2.2
def zap.b2 (N : Nat) (s6 : List Int) (s25 : List (List Int)) (s26 : Int) (s27 : Int) : Option (Stp ((List Int) × (List (List Int)) × Int × Int)) :=
 cond (decide (s27 < s26)) ((idx s25 s27).bind fun x3001 => cond (Nat.ble ((s6.length + x3001.length) * 1) zax)
  (some (.again ((s6 ++ x3001), s25, s26, (w6 (s27 + 1))))) none) (some (.leave (s6, s25, s26, s27)))
def zap.r2 (N : Nat) (x : (List Int) × (List (List Int)) × Int × Int) := zap.b2 N x.1 x.2.1 x.2.2.1 x.2.2.2
def zap (N : Nat) (a0 : List (List Int)) : Option ((List Int)) :=
 (zac (zap.r0 N) N (a0, 0, a0, (a0.length : Int), 0)).bind fun y1 => (zhi () y1.2.1).bind fun r2 =>
  (zac (zap.r2 N) N (r2, y1.1, (y1.1.length : Int), 0)).bind fun y3 => some y3.1
def zap.k (N : Nat) : Kq := ⟨332, (ctv [.val (Ty.sl (Ty.sl (Ty.int .u8)))] [(Ty.sl (Ty.int .u8))] [] [0] [(Ty.sl (Ty.sl (Ty.int .u8)))] (zap N)), go [zhi.k] {} [(0, .plain { slots := [(0, .val (Ty.sl (Ty.sl (Ty.int .u8)))), (3, .val T6), (9, .val (Ty.sl (Ty.sl (Ty.int .u8)))), (10, .val T6), (11, .val T6)], boxes := [] } [(Ty.sl (Ty.sl (Ty.int .u8))), T6, (Ty.sl (Ty.sl (Ty.int .u8))), T6, T6] (zac (zap.r0 N) N)), (2, .plain { slots := [(6, .own 5000006 (Ty.int .u8)), (25, .val (Ty.sl (Ty.sl (Ty.int .u8)))), (26, .val T6), (27, .val T6)], boxes := [] } [(Ty.sl (Ty.int .u8)), (Ty.sl (Ty.sl (Ty.int .u8))), T6, T6] (zac (zap.r2 N) N))] Proofs.Tryz.func332 (hL := ⟨⟨_, _, rfl, by kernel_rfl⟩, ⟨_, _, rfl, by kernel_rfl⟩, trivial⟩)⟩
def ziu (N : Nat) (a0 : Pointer) : Option ByteArray :=
 (zdn N a0.Kind 1).bind fun r1 => (zdn N 0 1).bind fun r2 => (zdn N a0.Authority 2).bind fun r3 => (zdn N a0.Address.Segment 6).bind fun r4 =>
  (zdn N a0.Address.Offset 6).bind fun r5 => (zap N ([r1, r2, r3, r4, r5] : List (List Int))).bind fun r6 => some (zhb r6)
def ziu.k (N : Nat) : Kq := ⟨282, (cvv [Ty.str] [Ty.Pointer] (ziu N)), go [zap.k N, zdn.k N] {lits := [5, 6, 9, 13, 17, 18]} [] Proofs.Tryz.func282⟩
def zc4 (N : Nat) (a0 : Storage) (a1 : Int) (a2 : Pointer) : Option (Storage × Int) :=
 (zgf N a0 a1).bind fun r1 => cond (r1 != 0) (some ((⟨(⟨#[]⟩ : ByteArray), []⟩ : Storage), r1)) ((zcg a2).bind fun r2 => cond (r2 != 0)
  (some ((⟨(⟨#[]⟩ : ByteArray), []⟩ : Storage), r2)) ((ziu N a2).bind fun r3 => (zit (⟨a0.Bytes, a0.Tags⟩ : Storage) a1 r3).bind fun r4 =>
  if 0 ≤ (w6 (a1.tdiv 16)) then (if (w6 (a1.tdiv 16)) < (r4.Tags.length : Int) then ((r4.Tags[(w6 (a1.tdiv 16)).toNat]?).bind fun x5 =>
  some ((⟨r4.Bytes, (r4.Tags.set ((w6 (a1.tdiv 16)).toNat) true)⟩ : Storage), 0)) else none) else none))
def zc4.k (N : Nat) : Kq := ⟨217, (cvv [Ty.Storage, T6] [Ty.Storage, T6, Ty.Pointer] (zc4 N)), go [zcg.k, zgf.k N, zit.k, ziu.k N] {lits := [27]} [] Proofs.Tryz.func217⟩
def zco.b0 (N : Nat) (s4 : Int) (s5 : Int) (b1 : Number) : Option (Stp (Int × Int × Number)) :=
 cond (decide (s5 < s4)) (some (.again (s4, (w6 (s5 + 1)), (⟨(w6 (b1.N.tdiv 10)), b1.Scale⟩ : Number)))) (some (.leave (s4, s5, b1)))
def zco.r0 (N : Nat) (x : Int × Int × Number) := zco.b0 N x.1 x.2.1 x.2.2
def zco (N : Nat) (a0 : Number) : Option Int :=
 (zac (zco.r0 N) N (a0.Scale, 0, a0)).bind fun y1 => some y1.2.2.N
def zco.k (N : Nat) : Kq := ⟨220, (cvv [T6] [Ty.Number] (zco N)), go [] {} [(0, .plain { slots := [(1, .ptr 1 0), (4, .val T6), (5, .val T6)], boxes := [(1, Ty.Number, [])] } [T6, T6, Ty.Number] (zac (zco.r0 N) N))] Proofs.Tryz.func220 (hL := ⟨⟨_, _, rfl, by kernel_rfl⟩, trivial⟩)⟩
def zeo (N : Nat) (a0 : hardware_machine) (a1 : HwInstruction) : Option hardware_machine :=
 (zaz N a0 a1.Pointer).bind fun r1 => cond (!r1.2.1) (some r1.2.2) ((idx r1.2.2.HwState.Registers a1.R).bind fun x2 => (zco N x2).bind fun r3 =>
  (zn (w6 (r1.1.Address.Offset + r3)) 0 16777215).bind fun r4 => (zf r1.2.2 (!r4) 5).bind fun r5 =>
  cond r5.1 ((zc4 N r5.2.HwState.Storage a1.Pointer (⟨r1.1.Kind, (⟨r1.1.Address.Segment, (w6 (r1.1.Address.Offset + r3))⟩ : Address), r1.1.Authority⟩ : Pointer)).bind fun r6 =>
  some (⟨(⟨r5.2.HwState.Registers, r5.2.HwState.Condition, r6.1, r5.2.HwState.At, r5.2.HwState.Stack, r5.2.HwState.Lines, r5.2.HwState.Status, r5.2.HwState.Exception, r5.2.HwState.Marks, r5.2.HwState.Steps⟩ : HwState), r5.2.code, r5.2.raised⟩ : hardware_machine))
  (some r5.2))
def zeo.k (N : Nat) : Kq := ⟨219, (ctv [.ptr Ty.hardware_machine true [], .val Ty.HwInstruction] [] [Ty.hardware_machine] [] [Ty.hardware_machine, Ty.HwInstruction] (zeo N)), go [zn.k, zf.k, zc4.k N, zaz.k N, zco.k N] {pk := [1000000]} [] Proofs.Tryz.func219⟩
def zel (N : Nat) (a0 : hardware_machine) (a1 : HwInstruction) : Option hardware_machine :=
 cond (a1.Op == 14) ((zdl N a1.Type_).bind fun r1 => (zbd N a0 a1.Place r1).bind fun r2 =>
  cond r2.2.1 ((zc4 N r2.2.2.HwState.Storage a1.Pointer (⟨0, (⟨1, r2.1⟩ : Address), 0⟩ : Pointer)).bind fun r3 =>
  some (⟨(⟨r2.2.2.HwState.Registers, r2.2.2.HwState.Condition, r3.1, r2.2.2.HwState.At, r2.2.2.HwState.Stack, r2.2.2.HwState.Lines, r2.2.2.HwState.Status, r2.2.2.HwState.Exception, r2.2.2.HwState.Marks, r2.2.2.HwState.Steps⟩ : HwState), r2.2.2.code, r2.2.2.raised⟩ : hardware_machine))
  (some r2.2.2)) (cond (a1.Op == 15) ((zaz N a0 a1.Source).bind fun r4 =>
  cond r4.2.1 ((zc4 N r4.2.2.HwState.Storage a1.Pointer r4.1).bind fun r5 =>
  some (⟨(⟨r4.2.2.HwState.Registers, r4.2.2.HwState.Condition, r5.1, r4.2.2.HwState.At, r4.2.2.HwState.Stack, r4.2.2.HwState.Lines, r4.2.2.HwState.Status, r4.2.2.HwState.Exception, r4.2.2.HwState.Marks, r4.2.2.HwState.Steps⟩ : HwState), r4.2.2.code, r4.2.2.raised⟩ : hardware_machine))
  (some r4.2.2)) (cond (a1.Op == 16) ((zeo N a0 a1).bind fun r6 => some r6) (cond (a1.Op == 17) ((zaz N a0 a1.Pointer).bind fun r7 =>
  some r7.2.2) (some a0))))
def zel.k (N : Nat) : Kq := ⟨154, (ctv [.ptr Ty.hardware_machine true [], .val Ty.HwInstruction] [] [Ty.hardware_machine] [] [Ty.hardware_machine, Ty.HwInstruction] (zel N)), go [zdl.k N, zbd.k N, zc4.k N, zaz.k N, zeo.k N] {lits := [18], pk := [1000000]} [] Proofs.Tryz.func154⟩
def ze0 (N : Nat) (a0 : hardware_machine) (a1 : HwInstruction) : Option hardware_machine :=
 (idx a0.HwState.Registers a1.R).bind fun x1 => (zco N x1).bind fun r2 => (zn r2 100 999).bind fun r3 => cond (!r3)
  ((zf a0 true 2).bind fun r4 => some r4.2) ((zf a0 true r2).bind fun r5 => some r5.2)
def ze0.k (N : Nat) : Kq := ⟨155, (ctv [.ptr Ty.hardware_machine true [], .val Ty.HwInstruction] [] [Ty.hardware_machine] [] [Ty.hardware_machine, Ty.HwInstruction] (ze0 N)), go [zn.k, zf.k, zco.k N] {pk := [1000000]} [] Proofs.Tryz.func155⟩
def zta : Ct U := { params := [.val T6], results := [Ty.str], outs := [], fresh := [], fn := app U [T6] (R := PT U [Ty.str]) (zxk) }
theorem zta.meets : zf2 (zns [] [] [] [] [] [] [] []) 283 zta :=
 zre ⟨_, Proofs.Tryz.func283, rfl, by kernel_rfl⟩ (t := Ty.str) rfl rfl rfl rfl fun ds y hy E0 h0 ha μ H w us hA hm hG => by
  obtain ⟨n, rfl, hx⟩ := zto hy; unfold zxk at hx; split at hx
  · rename_i hn; cases hx; have hE : some ([.sc (.int .i64 n)], []) = some (E0, h0) := ha; cases hE; cases hA with
    | cons h1 h2 =>
     cases h2; have hu := h1.int; subst hu; have ht := z2y hG hm (g := 3) (name := "internal/strconv.uint64pow10") (t := Ty.int .u64) (xs := z1l) (k := .u64) (zs := Lib.pow10Tab) rfl (by kernel_rfl) (fun i x hi => ⟨x, hi, rfl⟩) rfl rfl; refine ⟨_, rfl, (Proofs.Tryz.strconv_Itoa n hn.1 hn.2 w ht).mono fun e w' hh => ?_⟩; obtain ⟨rfl, k, os, rfl⟩ := hh; exact ⟨_, rfl, z1r w k os, .sc _⟩
  · cases hx
def zta.k : Kq := ⟨283, zta, zta.meets⟩
end
end Go.Proofs.YtppbpnknfigboaaGreatDoor.M
