/- What the program's functions compute, each tied to its code: part 0. -/
import Derived.Test.YtblgefddnnlniaaGreatDoorOrd
namespace Go.Proofs.YtblgefddnnlniaaGreatDoor.M
open Go Go.Amx
set_option linter.unusedVariables false
set_option maxRecDepth 100000
noncomputable section
def zga.b0 (N : Nat) (s0 : Int) (s1 : Int) (s5 : List Int) (s6 : Int) : Option (Stp (Int × Int × (List Int) × Int)) :=
 cond (decide (s6 < s1)) (cond (Nat.ble ((s5.length + ([s0] : List Int).length) * 1) zao) (some (.again (s0, s1, (s5 ++ ([s0] : List Int)), (w6 (s6 + 1))))) none)
  (some (.leave (s0, s1, s5, s6)))
def zga.r0 (N : Nat) (x : Int × Int × (List Int) × Int) := zga.b0 N x.1 x.2.1 x.2.2.1 x.2.2.2
def zga (N : Nat) (a0 : Int) (a1 : Int) : Option ByteArray :=
 (zd (zga.r0 N) N (a0, a1, [], 0)).bind fun y1 => some (zi6 y1.2.2.1)
def zga.k (N : Nat) : Kq := ⟨77, (cvv [Ty.str] [(Ty.int .u8), T6] (zga N)), go [] {lits := [14]} [(0, .plain { slots := [(0, .val (Ty.int .u8)), (1, .val T6), (5, .own 5000005 (Ty.int .u8)), (6, .val T6)], boxes := [] } [(Ty.int .u8), T6, (Ty.sl (Ty.int .u8)), T6] (zd (zga.r0 N) N))] Proofs.Tryz.func77 (hL := ⟨⟨_, _, rfl, by kernel_rfl⟩, trivial⟩)⟩
def zl7 (N : Nat)  : Option zF :=
 (zga N 241 16).bind fun r1 =>
  some (⟨(⟨r1, ([false] : List Bool)⟩ : Storage), ([(⟨0, 0, 0, 0, 0, (⟨false, 0, 0⟩ : zK), (⟨false, 0, 0⟩ : zK), (⟨2, 1, 0⟩ : DataType), (⟨0, 0, 0⟩ : DataType), false, false, (⟨0, 0⟩ : Number), (⟨#[]⟩ : ByteArray), (⟨#[]⟩ : ByteArray), 0, 0, 0, 0⟩ : zC), (⟨0, 1, 0, 0, 0, (⟨false, 0, 0⟩ : zK), (⟨false, 0, 0⟩ : zK), (⟨2, 1, 0⟩ : DataType), (⟨0, 0, 0⟩ : DataType), false, false, (⟨0, 0⟩ : Number), (⟨#[]⟩ : ByteArray), (⟨#[]⟩ : ByteArray), 0, 0, 0, 0⟩ : zC), (⟨22, 1, 0, 0, 0, (⟨false, 0, 0⟩ : zK), (⟨false, 0, 0⟩ : zK), (⟨0, 0, 0⟩ : DataType), (⟨0, 0, 0⟩ : DataType), false, false, (⟨0, 0⟩ : Number), (⟨#[]⟩ : ByteArray), (⟨#[]⟩ : ByteArray), 0, 0, 0, 0⟩ : zC)] : List zC), []⟩ : zF)
def zl7.k (N : Nat) : Kq := ⟨26, (cvv [Ty.zF] [] (zl7 N)), go [zga.k N] {} [] Proofs.Tryz.func26⟩
def za9 (a0 : Int) (a1 : Int) (a2 : Int) : Option Bool :=
 (cond (decide (a1 ≤ a0)) (some (decide (a0 ≤ a2))) (some false)).bind fun g1 => some g1
def za9.k : Kq := ⟨112, (cvv [Ty.bool] [T6, T6, T6] za9), go [] {} [] Proofs.Tryz.func112⟩
def zbm (a0 : Bool) (a1 : Int) : Option Int :=
 cond a0 (some a1) (some 0)
def zbm.k : Kq := ⟨111, (cvv [T6] [Ty.bool, T6] zbm), go [] {} [] Proofs.Tryz.func111⟩
def zc6 (a0 : zI) : Option Int :=
 (za9 a0.Registers 2 8).bind fun r1 => (zbm (!r1) 3).bind fun r2 => some r2
def zc6.k : Kq := ⟨79, (cvv [T6] [Ty.zI] zc6), go [zbm.k, za9.k] {} [] Proofs.Tryz.func79⟩
def zbl.b0 (N : Nat) (s0 : ByteArray) (s3 : Int) (s6 : Int) (s7 : Int) : Option (Stp (ByteArray × Int × Int × Int)) :=
 cond (decide (s7 < s6)) ((znk s0 s7).bind fun x1001 => some (.again (s0, (orI .i64 (w6 (s3 * 2 ^ (min (8 : Int).toNat 64)))
  (w6 (x1001.toNat : Int))), s6, (w6 (s7 + 1))))) (some (.leave (s0, s3, s6, s7)))
def zbl.r0 (N : Nat) (x : ByteArray × Int × Int × Int) := zbl.b0 N x.1 x.2.1 x.2.2.1 x.2.2.2
def zbl (N : Nat) (a0 : ByteArray) : Option Int :=
 (zd (zbl.r0 N) N (a0, 0, (a0.size : Int), 0)).bind fun y1 => some y1.2.1
def zbl.k (N : Nat) : Kq := ⟨207, (cvv [T6] [Ty.str] (zbl N)), go [] {} [(0, .plain { slots := [(0, .val Ty.str), (3, .val T6), (6, .val T6), (7, .val T6)], boxes := [] } [Ty.str, T6, T6, T6] (zd (zbl.r0 N) N))] Proofs.Tryz.func207 (hL := ⟨⟨_, _, rfl, by kernel_rfl⟩, trivial⟩)⟩
def zdj (a0 : Int) (a1 : Int) (a2 : Int) : Option Bool :=
 (cond (decide (a1 ≤ a0)) (some (decide (a0 ≤ a2))) (some false)).bind fun g1 => some g1
def zdj.k : Kq := ⟨162, (cvv [Ty.bool] [T6, T6, T6] zdj), go [] {} [] Proofs.Tryz.func162⟩
def zeq (a0 : Pointer) : Option Int :=
 (zdj a0.Kind 0 2).bind fun r1 => cond (!r1) (some 4) (((zdj a0.Address.yC 0 1099511627775).bind fun r2 => cond (!r2) (some (!r2))
  ((zdj a0.Address.Offset 0 16777215).bind fun r3 => cond (!r3) (some (!r3)) ((zdj a0.Authority 0 1023).bind fun r4 => some (!r4)))).bind fun q5 =>
  cond q5 (some 3) ((cond (a0.Authority != 0) (some (a0.Kind != 1)) (some false)).bind fun g6 => cond g6 (some 5) (some 0)))
def zeq.k : Kq := ⟨208, (cvv [T6] [Ty.Pointer] zeq), go [zdj.k] {bj := [8]} [] Proofs.Tryz.func208⟩
def zfx (N : Nat) (a0 : ByteArray) : Option (Pointer × Int) :=
 cond ((a0.size : Int) != 16) (some ((⟨0, (⟨0, 0⟩ : Address), 0⟩ : Pointer), 18)) ((znk a0 1).bind fun x1 => cond ((x1.toNat : Int) != 0)
  (some ((⟨0, (⟨0, 0⟩ : Address), 0⟩ : Pointer), 5)) ((znk a0 0).bind fun x2 =>
  if 0 ≤ (4 : Int) ∧ (4 : Int) ≤ (a0.size : Int) then (if 0 ≤ (2 : Int) ∧ (2 : Int) ≤ (4 : Int) then ((zbl N (a0.extract (2 : Int).toNat (4 : Int).toNat)).bind fun r3 =>
  if 0 ≤ (10 : Int) ∧ (10 : Int) ≤ (a0.size : Int) then (if 0 ≤ (4 : Int) ∧ (4 : Int) ≤ (10 : Int) then ((zbl N (a0.extract (4 : Int).toNat (10 : Int).toNat)).bind fun r4 =>
  if 0 ≤ (10 : Int) ∧ (10 : Int) ≤ (a0.size : Int) then ((zbl N (a0.extract (10 : Int).toNat a0.size)).bind fun r5 =>
  (zeq (⟨(w6 (x2.toNat : Int)), (⟨r4, r5⟩ : Address), r3⟩ : Pointer)).bind fun r6 => cond (r6 != 0)
  (some ((⟨0, (⟨0, 0⟩ : Address), 0⟩ : Pointer), r6))
  (some ((⟨(w6 (x2.toNat : Int)), (⟨r4, r5⟩ : Address), r3⟩ : Pointer), 0))) else none) else none) else none) else none) else none))
def zfx.k (N : Nat) : Kq := ⟨172, (cvv [Ty.Pointer, T6] [Ty.str] (zfx N)), go [zbl.k N, zeq.k] {} [] Proofs.Tryz.func172⟩
def zak.b1 (N : Nat) (s27 : List Bool) (s28 : Int) (s29 : Int) (b1 : Storage) : Option (Round (Int × Int) ((List Bool) × Int × Int × Storage)) :=
 cond (decide (s29 < s28)) ((idx s27 s29).bind fun x2001 => cond (!x2001) (some (.again (s27, s28, (w6 (s29 + 1)), b1)))
  (if 0 ≤ (w6 ((w6 (s29 * 16)) + 16)) ∧ (w6 ((w6 (s29 * 16)) + 16)) ≤ (b1.Bytes.size : Int) then (if 0 ≤ (w6 (s29 * 16)) ∧ (w6 (s29 * 16)) ≤ (w6 ((w6 (s29 * 16)) + 16)) then ((zfx N (b1.Bytes.extract (w6 (s29 * 16)).toNat (w6 ((w6 (s29 * 16)) + 16)).toNat)).bind fun r2002 =>
  cond (r2002.2 != 0) (some (.result (s29, 22))) (some (.again (s27, s28, (w6 (s29 + 1)), b1)))) else none) else none)) (some (.leave (s27, s28, s29, b1)))
def zak.r1 (N : Nat) (x : (List Bool) × Int × Int × Storage) := zak.b1 N x.1 x.2.1 x.2.2.1 x.2.2.2
def zak (N : Nat) (a0 : Storage) : Option (Int × Int) :=
 cond (decide ((a0.Bytes.size : Int) > 1024)) (some (0, 2)) (cond (((a0.Bytes.size : Int).tmod 16) != 0) (some (0, 18))
  (cond ((a0.Tags.length : Int) != (w6 ((a0.Bytes.size : Int).tdiv 16))) (some (0, 6))
  ((zaa (zak.r1 N) N (a0.Tags, (a0.Tags.length : Int), 0, a0)).bind fun z2 => zbd z2 (fun z => some z) (fun y1 => some ((y1.2.2.2.Tags.length : Int), 0)))))
def zak.k (N : Nat) : Kq := ⟨125, (cvv [T6, T6] [Ty.Storage] (zak N)), go [zfx.k N] {} [(1, .rets { slots := [(1, .ptr 1 0), (27, .val (Ty.sl Ty.bool)), (28, .val T6), (29, .val T6)], boxes := [(1, Ty.Storage, [])] } [(Ty.sl Ty.bool), T6, T6, Ty.Storage] (zaa (zak.r1 N) N))] Proofs.Tryz.func125 (hL := ⟨⟨_, _, rfl, by kernel_rfl⟩, trivial⟩)⟩
def zbb.b0 (N : Nat) (s0 : List Bool) (s1 : Bool) (s7 : Int) (s8 : Int) : Option (Round Int ((List Bool) × Bool × Int × Int)) :=
 cond (decide (s8 < s7)) ((idx s0 s8).bind fun x1001 => cond (s1 == x1001) (some (.result s8)) (some (.again (s0, s1, s7, (w6 (s8 + 1))))))
  (some (.leave (s0, s1, s7, s8)))
def zbb.r0 (N : Nat) (x : (List Bool) × Bool × Int × Int) := zbb.b0 N x.1 x.2.1 x.2.2.1 x.2.2.2
def zbb (N : Nat) (a0 : List Bool) (a1 : Bool) : Option Int :=
 (zaa (zbb.r0 N) N (a0, a1, (a0.length : Int), 0)).bind fun z2 => zbd z2 (fun z => some z) (fun y1 => some (-1))
def zbb.k (N : Nat) : Kq := ⟨63, (cvv [T6] [(Ty.sl Ty.bool), Ty.bool] (zbb N)), go [] {} [(0, .rets { slots := [(0, .val (Ty.sl Ty.bool)), (1, .val Ty.bool), (7, .val T6), (8, .val T6)], boxes := [] } [(Ty.sl Ty.bool), Ty.bool, T6, T6] (zaa (zbb.r0 N) N))] Proofs.Tryz.func63 (hL := ⟨⟨_, _, rfl, by kernel_rfl⟩, trivial⟩)⟩
def zed (N : Nat) (a0 : List Bool) (a1 : Bool) : Option Bool :=
 (zbb N a0 a1).bind fun r1 => some (decide (r1 ≥ 0))
def zed.k (N : Nat) : Kq := ⟨127, (cvv [Ty.bool] [(Ty.sl Ty.bool), Ty.bool] (zed N)), go [zbb.k N] {} [] Proofs.Tryz.func127⟩
def zar.b0 (N : Nat) (s5 : List Int) (s6 : Int) (s7 : Int) : Option (Round Int ((List Int) × Int × Int)) :=
 cond (decide (s7 < s6)) ((idx s5 s7).bind fun x1001 => cond (x1001 != 0) (some (.result x1001)) (some (.again (s5, s6, (w6 (s7 + 1)))))) (some (.leave (s5, s6, s7)))
def zar.r0 (N : Nat) (x : (List Int) × Int × Int) := zar.b0 N x.1 x.2.1 x.2.2
def zar (N : Nat) (a0 : List Int) : Option Int :=
 (zaa (zar.r0 N) N (a0, (a0.length : Int), 0)).bind fun z2 => zbd z2 (fun z => some z) (fun y1 => some 0)
def zar.k (N : Nat) : Kq := ⟨126, (cvv [T6] [(Ty.sl T6)] (zar N)), go [] {} [(0, .rets { slots := [(5, .val (Ty.sl T6)), (6, .val T6), (7, .val T6)], boxes := [] } [(Ty.sl T6), T6, T6] (zaa (zar.r0 N) N))] Proofs.Tryz.func126 (hL := ⟨⟨_, _, rfl, by kernel_rfl⟩, trivial⟩)⟩
def zbf (a0 : zC) : Option zR :=
 (idx zz2 a0.Op).bind fun x1 => (cond (a0.Op == 4) (some a0.zN) (some false)).bind fun g2 =>
  cond g2 (some (⟨(orI .i64 (orI .i64 (zy4 .i64 x1.fields 4) 8) 64), x1.types⟩ : zR)) (some x1)
def zbf.k : Kq := ⟨176, (cvv [Ty.zR] [Ty.zC] zbf), go [] {} [] Proofs.Tryz.func176⟩
def zbx (a0 : Int) (a1 : Int) (a2 : Int) : Option Int :=
 cond ((zn .i64 a2 a0) == 0) (some 0) (some a1)
def zbx.k : Kq := ⟨209, (ctv [.val T6, .ptr T6 true [], .ptr T6 false []] [] [T6] [] [T6, T6, T6] zbx), go [] {ro := [1000001], pk := [1000000, 1000001]} [] Proofs.Tryz.func209⟩
def zf2 (a0 : zK) (a1 : Bool) : Option zK :=
 cond (!a1) (some (⟨false, 0, 0⟩ : zK)) (cond (!a0.Based) (some (⟨a0.Based, 0, a0.Offset⟩ : zK)) (some a0))
def zf2.k : Kq := ⟨210, (cvv [Ty.zK] [Ty.zK, Ty.bool] zf2), go [] {} [] Proofs.Tryz.func210⟩
def zhn (a0 : zC) : Option zC :=
 (zbf a0).bind fun r1 => (zbx 1 a0.R r1.fields).bind fun r2 => (zbx 2 a0.A r1.fields).bind fun r3 =>
  (zbx 4 a0.B r1.fields).bind fun r4 => (zbx 2048 a0.Mask r1.fields).bind fun r5 => (zbx 4096 a0.Target r1.fields).bind fun r6 =>
  (zbx 8192 a0.Pointer r1.fields).bind fun r7 => (zbx 16384 a0.Source r1.fields).bind fun r8 =>
  (zbx 32768 a0.zO r1.fields).bind fun r9 => (zf2 a0.Place ((zn .i64 r1.fields 8) != 0)).bind fun r10 =>
  (zf2 a0.From ((zn .i64 r1.fields 16) != 0)).bind fun r11 => cond ((zn .i64 r1.fields 32) == 0) (cond ((zn .i64 r1.fields 64) == 0)
  (cond ((zn .i64 r1.fields 256) == 0) (cond ((zn .i64 r1.fields 512) == 0) (cond ((zn .i64 r1.fields 1024) == 0) ((cond a0.Half (some ((zn .i64 r1.fields 128) != 0))
  (some false)).bind fun g12 => (cond a0.zN (some (a0.Op == 4)) (some false)).bind fun g13 =>
  some (⟨a0.Op, r2, r3, r4, r9, r10, r11, (⟨0, 0, 0⟩ : DataType), (⟨0, 0, 0⟩ : DataType), g12, g13, (⟨0, 0⟩ : Number), (⟨#[]⟩ : ByteArray), (⟨#[]⟩ : ByteArray), r5, r6, r7, r8⟩ : zC))
  ((cond a0.Half (some ((zn .i64 r1.fields 128) != 0)) (some false)).bind fun g14 => (cond a0.zN (some (a0.Op == 4)) (some false)).bind fun g15 =>
  some (⟨a0.Op, r2, r3, r4, r9, r10, r11, (⟨0, 0, 0⟩ : DataType), (⟨0, 0, 0⟩ : DataType), g14, g15, (⟨0, 0⟩ : Number), (⟨#[]⟩ : ByteArray), a0.Other, r5, r6, r7, r8⟩ : zC)))
  (cond ((zn .i64 r1.fields 1024) == 0) ((cond a0.Half (some ((zn .i64 r1.fields 128) != 0)) (some false)).bind fun g16 => (cond a0.zN (some (a0.Op == 4))
  (some false)).bind fun g17 =>
  some (⟨a0.Op, r2, r3, r4, r9, r10, r11, (⟨0, 0, 0⟩ : DataType), (⟨0, 0, 0⟩ : DataType), g16, g17, (⟨0, 0⟩ : Number), a0.Text, (⟨#[]⟩ : ByteArray), r5, r6, r7, r8⟩ : zC))
  ((cond a0.Half (some ((zn .i64 r1.fields 128) != 0)) (some false)).bind fun g18 => (cond a0.zN (some (a0.Op == 4)) (some false)).bind fun g19 =>
  some (⟨a0.Op, r2, r3, r4, r9, r10, r11, (⟨0, 0, 0⟩ : DataType), (⟨0, 0, 0⟩ : DataType), g18, g19, (⟨0, 0⟩ : Number), a0.Text, a0.Other, r5, r6, r7, r8⟩ : zC))))
  (cond ((zn .i64 r1.fields 512) == 0) (cond ((zn .i64 r1.fields 1024) == 0) ((cond a0.Half (some ((zn .i64 r1.fields 128) != 0)) (some false)).bind fun g20 =>
  (cond a0.zN (some (a0.Op == 4)) (some false)).bind fun g21 =>
  some (⟨a0.Op, r2, r3, r4, r9, r10, r11, (⟨0, 0, 0⟩ : DataType), (⟨0, 0, 0⟩ : DataType), g20, g21, a0.Number, (⟨#[]⟩ : ByteArray), (⟨#[]⟩ : ByteArray), r5, r6, r7, r8⟩ : zC))
  ((cond a0.Half (some ((zn .i64 r1.fields 128) != 0)) (some false)).bind fun g22 => (cond a0.zN (some (a0.Op == 4)) (some false)).bind fun g23 =>
  some (⟨a0.Op, r2, r3, r4, r9, r10, r11, (⟨0, 0, 0⟩ : DataType), (⟨0, 0, 0⟩ : DataType), g22, g23, a0.Number, (⟨#[]⟩ : ByteArray), a0.Other, r5, r6, r7, r8⟩ : zC)))
  (cond ((zn .i64 r1.fields 1024) == 0) ((cond a0.Half (some ((zn .i64 r1.fields 128) != 0)) (some false)).bind fun g24 => (cond a0.zN (some (a0.Op == 4))
  (some false)).bind fun g25 =>
  some (⟨a0.Op, r2, r3, r4, r9, r10, r11, (⟨0, 0, 0⟩ : DataType), (⟨0, 0, 0⟩ : DataType), g24, g25, a0.Number, a0.Text, (⟨#[]⟩ : ByteArray), r5, r6, r7, r8⟩ : zC))
  ((cond a0.Half (some ((zn .i64 r1.fields 128) != 0)) (some false)).bind fun g26 => (cond a0.zN (some (a0.Op == 4)) (some false)).bind fun g27 =>
  some (⟨a0.Op, r2, r3, r4, r9, r10, r11, (⟨0, 0, 0⟩ : DataType), (⟨0, 0, 0⟩ : DataType), g26, g27, a0.Number, a0.Text, a0.Other, r5, r6, r7, r8⟩ : zC)))))
  (cond ((zn .i64 r1.fields 256) == 0) (cond ((zn .i64 r1.fields 512) == 0) (cond ((zn .i64 r1.fields 1024) == 0) ((cond a0.Half (some ((zn .i64 r1.fields 128) != 0))
  (some false)).bind fun g28 => (cond a0.zN (some (a0.Op == 4)) (some false)).bind fun g29 =>
  some (⟨a0.Op, r2, r3, r4, r9, r10, r11, (⟨0, 0, 0⟩ : DataType), a0.Second, g28, g29, (⟨0, 0⟩ : Number), (⟨#[]⟩ : ByteArray), (⟨#[]⟩ : ByteArray), r5, r6, r7, r8⟩ : zC))
  ((cond a0.Half (some ((zn .i64 r1.fields 128) != 0)) (some false)).bind fun g30 => (cond a0.zN (some (a0.Op == 4)) (some false)).bind fun g31 =>
  some (⟨a0.Op, r2, r3, r4, r9, r10, r11, (⟨0, 0, 0⟩ : DataType), a0.Second, g30, g31, (⟨0, 0⟩ : Number), (⟨#[]⟩ : ByteArray), a0.Other, r5, r6, r7, r8⟩ : zC)))
  (cond ((zn .i64 r1.fields 1024) == 0) ((cond a0.Half (some ((zn .i64 r1.fields 128) != 0)) (some false)).bind fun g32 => (cond a0.zN (some (a0.Op == 4))
  (some false)).bind fun g33 =>
  some (⟨a0.Op, r2, r3, r4, r9, r10, r11, (⟨0, 0, 0⟩ : DataType), a0.Second, g32, g33, (⟨0, 0⟩ : Number), a0.Text, (⟨#[]⟩ : ByteArray), r5, r6, r7, r8⟩ : zC))
  ((cond a0.Half (some ((zn .i64 r1.fields 128) != 0)) (some false)).bind fun g34 => (cond a0.zN (some (a0.Op == 4)) (some false)).bind fun g35 =>
  some (⟨a0.Op, r2, r3, r4, r9, r10, r11, (⟨0, 0, 0⟩ : DataType), a0.Second, g34, g35, (⟨0, 0⟩ : Number), a0.Text, a0.Other, r5, r6, r7, r8⟩ : zC))))
  (cond ((zn .i64 r1.fields 512) == 0) (cond ((zn .i64 r1.fields 1024) == 0) ((cond a0.Half (some ((zn .i64 r1.fields 128) != 0)) (some false)).bind fun g36 =>
  (cond a0.zN (some (a0.Op == 4)) (some false)).bind fun g37 =>
  some (⟨a0.Op, r2, r3, r4, r9, r10, r11, (⟨0, 0, 0⟩ : DataType), a0.Second, g36, g37, a0.Number, (⟨#[]⟩ : ByteArray), (⟨#[]⟩ : ByteArray), r5, r6, r7, r8⟩ : zC))
  ((cond a0.Half (some ((zn .i64 r1.fields 128) != 0)) (some false)).bind fun g38 => (cond a0.zN (some (a0.Op == 4)) (some false)).bind fun g39 =>
  some (⟨a0.Op, r2, r3, r4, r9, r10, r11, (⟨0, 0, 0⟩ : DataType), a0.Second, g38, g39, a0.Number, (⟨#[]⟩ : ByteArray), a0.Other, r5, r6, r7, r8⟩ : zC)))
  (cond ((zn .i64 r1.fields 1024) == 0) ((cond a0.Half (some ((zn .i64 r1.fields 128) != 0)) (some false)).bind fun g40 => (cond a0.zN (some (a0.Op == 4))
  (some false)).bind fun g41 =>
  some (⟨a0.Op, r2, r3, r4, r9, r10, r11, (⟨0, 0, 0⟩ : DataType), a0.Second, g40, g41, a0.Number, a0.Text, (⟨#[]⟩ : ByteArray), r5, r6, r7, r8⟩ : zC))
  ((cond a0.Half (some ((zn .i64 r1.fields 128) != 0)) (some false)).bind fun g42 => (cond a0.zN (some (a0.Op == 4)) (some false)).bind fun g43 =>
  some (⟨a0.Op, r2, r3, r4, r9, r10, r11, (⟨0, 0, 0⟩ : DataType), a0.Second, g42, g43, a0.Number, a0.Text, a0.Other, r5, r6, r7, r8⟩ : zC))))))
  (cond ((zn .i64 r1.fields 64) == 0) (cond ((zn .i64 r1.fields 256) == 0) (cond ((zn .i64 r1.fields 512) == 0) (cond ((zn .i64 r1.fields 1024) == 0)
  ((cond a0.Half (some ((zn .i64 r1.fields 128) != 0)) (some false)).bind fun g44 => (cond a0.zN (some (a0.Op == 4)) (some false)).bind fun g45 =>
  some (⟨a0.Op, r2, r3, r4, r9, r10, r11, a0.zD, (⟨0, 0, 0⟩ : DataType), g44, g45, (⟨0, 0⟩ : Number), (⟨#[]⟩ : ByteArray), (⟨#[]⟩ : ByteArray), r5, r6, r7, r8⟩ : zC))
  ((cond a0.Half (some ((zn .i64 r1.fields 128) != 0)) (some false)).bind fun g46 => (cond a0.zN (some (a0.Op == 4)) (some false)).bind fun g47 =>
  some (⟨a0.Op, r2, r3, r4, r9, r10, r11, a0.zD, (⟨0, 0, 0⟩ : DataType), g46, g47, (⟨0, 0⟩ : Number), (⟨#[]⟩ : ByteArray), a0.Other, r5, r6, r7, r8⟩ : zC)))
  (cond ((zn .i64 r1.fields 1024) == 0) ((cond a0.Half (some ((zn .i64 r1.fields 128) != 0)) (some false)).bind fun g48 => (cond a0.zN (some (a0.Op == 4))
  (some false)).bind fun g49 =>
  some (⟨a0.Op, r2, r3, r4, r9, r10, r11, a0.zD, (⟨0, 0, 0⟩ : DataType), g48, g49, (⟨0, 0⟩ : Number), a0.Text, (⟨#[]⟩ : ByteArray), r5, r6, r7, r8⟩ : zC))
  ((cond a0.Half (some ((zn .i64 r1.fields 128) != 0)) (some false)).bind fun g50 => (cond a0.zN (some (a0.Op == 4)) (some false)).bind fun g51 =>
  some (⟨a0.Op, r2, r3, r4, r9, r10, r11, a0.zD, (⟨0, 0, 0⟩ : DataType), g50, g51, (⟨0, 0⟩ : Number), a0.Text, a0.Other, r5, r6, r7, r8⟩ : zC))))
  (cond ((zn .i64 r1.fields 512) == 0) (cond ((zn .i64 r1.fields 1024) == 0) ((cond a0.Half (some ((zn .i64 r1.fields 128) != 0)) (some false)).bind fun g52 =>
  (cond a0.zN (some (a0.Op == 4)) (some false)).bind fun g53 =>
  some (⟨a0.Op, r2, r3, r4, r9, r10, r11, a0.zD, (⟨0, 0, 0⟩ : DataType), g52, g53, a0.Number, (⟨#[]⟩ : ByteArray), (⟨#[]⟩ : ByteArray), r5, r6, r7, r8⟩ : zC))
  ((cond a0.Half (some ((zn .i64 r1.fields 128) != 0)) (some false)).bind fun g54 => (cond a0.zN (some (a0.Op == 4)) (some false)).bind fun g55 =>
  some (⟨a0.Op, r2, r3, r4, r9, r10, r11, a0.zD, (⟨0, 0, 0⟩ : DataType), g54, g55, a0.Number, (⟨#[]⟩ : ByteArray), a0.Other, r5, r6, r7, r8⟩ : zC)))
  (cond ((zn .i64 r1.fields 1024) == 0) ((cond a0.Half (some ((zn .i64 r1.fields 128) != 0)) (some false)).bind fun g56 => (cond a0.zN (some (a0.Op == 4))
  (some false)).bind fun g57 =>
  some (⟨a0.Op, r2, r3, r4, r9, r10, r11, a0.zD, (⟨0, 0, 0⟩ : DataType), g56, g57, a0.Number, a0.Text, (⟨#[]⟩ : ByteArray), r5, r6, r7, r8⟩ : zC))
  ((cond a0.Half (some ((zn .i64 r1.fields 128) != 0)) (some false)).bind fun g58 => (cond a0.zN (some (a0.Op == 4)) (some false)).bind fun g59 =>
  some (⟨a0.Op, r2, r3, r4, r9, r10, r11, a0.zD, (⟨0, 0, 0⟩ : DataType), g58, g59, a0.Number, a0.Text, a0.Other, r5, r6, r7, r8⟩ : zC)))))
  (cond ((zn .i64 r1.fields 256) == 0) (cond ((zn .i64 r1.fields 512) == 0) (cond ((zn .i64 r1.fields 1024) == 0) ((cond a0.Half (some ((zn .i64 r1.fields 128) != 0))
  (some false)).bind fun g60 => (cond a0.zN (some (a0.Op == 4)) (some false)).bind fun g61 =>
  some (⟨a0.Op, r2, r3, r4, r9, r10, r11, a0.zD, a0.Second, g60, g61, (⟨0, 0⟩ : Number), (⟨#[]⟩ : ByteArray), (⟨#[]⟩ : ByteArray), r5, r6, r7, r8⟩ : zC))
  ((cond a0.Half (some ((zn .i64 r1.fields 128) != 0)) (some false)).bind fun g62 => (cond a0.zN (some (a0.Op == 4)) (some false)).bind fun g63 =>
  some (⟨a0.Op, r2, r3, r4, r9, r10, r11, a0.zD, a0.Second, g62, g63, (⟨0, 0⟩ : Number), (⟨#[]⟩ : ByteArray), a0.Other, r5, r6, r7, r8⟩ : zC)))
  (cond ((zn .i64 r1.fields 1024) == 0) ((cond a0.Half (some ((zn .i64 r1.fields 128) != 0)) (some false)).bind fun g64 => (cond a0.zN (some (a0.Op == 4))
  (some false)).bind fun g65 =>
  some (⟨a0.Op, r2, r3, r4, r9, r10, r11, a0.zD, a0.Second, g64, g65, (⟨0, 0⟩ : Number), a0.Text, (⟨#[]⟩ : ByteArray), r5, r6, r7, r8⟩ : zC))
  ((cond a0.Half (some ((zn .i64 r1.fields 128) != 0)) (some false)).bind fun g66 => (cond a0.zN (some (a0.Op == 4)) (some false)).bind fun g67 =>
  some (⟨a0.Op, r2, r3, r4, r9, r10, r11, a0.zD, a0.Second, g66, g67, (⟨0, 0⟩ : Number), a0.Text, a0.Other, r5, r6, r7, r8⟩ : zC))))
  (cond ((zn .i64 r1.fields 512) == 0) (cond ((zn .i64 r1.fields 1024) == 0) ((cond a0.Half (some ((zn .i64 r1.fields 128) != 0)) (some false)).bind fun g68 =>
  (cond a0.zN (some (a0.Op == 4)) (some false)).bind fun g69 =>
  some (⟨a0.Op, r2, r3, r4, r9, r10, r11, a0.zD, a0.Second, g68, g69, a0.Number, (⟨#[]⟩ : ByteArray), (⟨#[]⟩ : ByteArray), r5, r6, r7, r8⟩ : zC))
  ((cond a0.Half (some ((zn .i64 r1.fields 128) != 0)) (some false)).bind fun g70 => (cond a0.zN (some (a0.Op == 4)) (some false)).bind fun g71 =>
  some (⟨a0.Op, r2, r3, r4, r9, r10, r11, a0.zD, a0.Second, g70, g71, a0.Number, (⟨#[]⟩ : ByteArray), a0.Other, r5, r6, r7, r8⟩ : zC)))
  (cond ((zn .i64 r1.fields 1024) == 0) ((cond a0.Half (some ((zn .i64 r1.fields 128) != 0)) (some false)).bind fun g72 => (cond a0.zN (some (a0.Op == 4))
  (some false)).bind fun g73 => some (⟨a0.Op, r2, r3, r4, r9, r10, r11, a0.zD, a0.Second, g72, g73, a0.Number, a0.Text, (⟨#[]⟩ : ByteArray), r5, r6, r7, r8⟩ : zC))
  ((cond a0.Half (some ((zn .i64 r1.fields 128) != 0)) (some false)).bind fun g74 => (cond a0.zN (some (a0.Op == 4)) (some false)).bind fun g75 =>
  some (⟨a0.Op, r2, r3, r4, r9, r10, r11, a0.zD, a0.Second, g74, g75, a0.Number, a0.Text, a0.Other, r5, r6, r7, r8⟩ : zC))))))
def zhn.k : Kq := ⟨173, (cvv [Ty.zC] [Ty.zC] zhn), go [zbf.k, zbx.k, zf2.k] {} [] Proofs.Tryz.func173⟩
def zgf (a0 : zI) (a1 : zC) : Option Bool :=
 (cond (a1.Op != 7) (some true) (some a0.yB)).bind fun g1 => (cond g1 ((cond (a1.Op != 4) (some true) (some (!a1.zN))).bind fun g2 => (cond g2 (some true)
  (some a0.zZ)).bind fun g3 => some g3) (some false)).bind fun g4 => some g4
def zgf.k : Kq := ⟨174, (cvv [Ty.bool] [Ty.zI, Ty.zC] zgf), go [] {} [] Proofs.Tryz.func174⟩
def zdz (a0 : Int) (a1 : Int) (a2 : Int) : Option Bool :=
 (cond (decide (a1 ≤ a0)) (some (decide (a0 ≤ a2))) (some false)).bind fun g1 => some g1
def zdz.k : Kq := ⟨143, (cvv [Ty.bool] [T6, T6, T6] zdz), go [] {} [] Proofs.Tryz.func143⟩
def zbi (a0 : Bool) (a1 : Int) : Option Int :=
 cond a0 (some a1) (some 0)
def zbi.k : Kq := ⟨145, (cvv [T6] [Ty.bool, T6] zbi), go [] {} [] Proofs.Tryz.func145⟩
def zax.b0 (N : Nat) (s5 : List Int) (s6 : Int) (s7 : Int) : Option (Round Int ((List Int) × Int × Int)) :=
 cond (decide (s7 < s6)) ((idx s5 s7).bind fun x1001 => cond (x1001 != 0) (some (.result x1001)) (some (.again (s5, s6, (w6 (s7 + 1)))))) (some (.leave (s5, s6, s7)))
def zax.r0 (N : Nat) (x : (List Int) × Int × Int) := zax.b0 N x.1 x.2.1 x.2.2
def zax (N : Nat) (a0 : List Int) : Option Int :=
 (zaa (zax.r0 N) N (a0, (a0.length : Int), 0)).bind fun z2 => zbd z2 (fun z => some z) (fun y1 => some 0)
def zax.k (N : Nat) : Kq := ⟨144, (cvv [T6] [(Ty.sl T6)] (zax N)), go [] {} [(0, .rets { slots := [(5, .val (Ty.sl T6)), (6, .val T6), (7, .val T6)], boxes := [] } [(Ty.sl T6), T6, T6] (zaa (zax.r0 N) N))] Proofs.Tryz.func144 (hL := ⟨⟨_, _, rfl, by kernel_rfl⟩, trivial⟩)⟩
def zb0 (N : Nat) (a0 : DataType) : Option Int :=
 cond (a0.Kind == 0) ((zdz a0.Length 1 256).bind fun r1 => (zbi (!r1) 18).bind fun r2 => (zbi (!(a0.Scale == 0)) 3).bind fun r3 =>
  (zax N ([r2, r3] : List Int)).bind fun r4 => some r4) ((cond (a0.Kind == 1) (some (a0.Kind == 1)) (some (a0.Kind == 2))).bind fun q5 =>
  cond q5 ((zdz a0.Length 1 15).bind fun r6 => (zdz a0.Scale 0 a0.Length).bind fun r7 => (zbi (!r6) 18).bind fun r8 => (zbi (!r7) 3).bind fun r9 =>
  (zax N ([r8, r9] : List Int)).bind fun r10 => some r10) (cond (a0.Kind == 3) ((cond (a0.Length == 4) (some true) (some (a0.Length == 9))).bind fun g11 =>
  (zdz a0.Scale 0 a0.Length).bind fun r12 => (zbi (!g11) 18).bind fun r13 => (zbi (!r12) 3).bind fun r14 =>
  (zax N ([r13, r14] : List Int)).bind fun r15 => some r15) (cond (a0.Kind == 4) ((zbi (!(a0.Length == 0)) 18).bind fun r16 =>
  (zbi (!(a0.Scale == 0)) 3).bind fun r17 => (zax N ([r16, r17] : List Int)).bind fun r18 => some r18) (some 4))))
def zb0.k (N : Nat) : Kq := ⟨100, (cvv [T6] [Ty.DataType] (zb0 N)), go [zdz.k, zax.k N, zbi.k] {lits := [48, 51, 52], bj := [15]} [] Proofs.Tryz.func100⟩
def zea (N : Nat) (a0 : DataType) (a1 : Int) : Option Int :=
 (cond (a0.Kind == 4) (some true) ((cond (a1 == 1) (some (a0.Kind == 0)) (some false)).bind fun g1 => some g1)).bind fun g2 => (cond g2 (some true) ((cond (a1 == 2)
  (some (a0.Kind != 0)) (some false)).bind fun g3 => some g3)).bind fun g4 => (zb0 N a0).bind fun r5 => (zbm g4 17).bind fun r6 =>
  (zar N ([r5, r6] : List Int)).bind fun r7 => some r7
def zea.k (N : Nat) : Kq := ⟨211, (cvv [T6] [Ty.DataType, T6] (zea N)), go [zb0.k N, zbm.k, zar.k N] {lits := [28, 30, 31]} [] Proofs.Tryz.func211⟩
def zfl (N : Nat) (a0 : zC) (a1 : zR) : Option Int :=
 cond ((zn .i64 a1.fields 32) != 0) ((zea N a0.zD a1.types).bind fun r1 => cond (r1 != 0) (some r1) (cond ((zn .i64 a1.fields 64) != 0)
  ((zea N a0.Second a1.types).bind fun r2 => some r2) (some 0))) (cond ((zn .i64 a1.fields 64) != 0) ((zea N a0.Second a1.types).bind fun r3 => some r3)
  (some 0))
def zfl.k (N : Nat) : Kq := ⟨175, (cvv [T6] [Ty.zC, Ty.zR] (zfl N)), go [zea.k N] {} [] Proofs.Tryz.func175⟩
def zab.b0 (N : Nat) (s3 : List Int) (s4 : Int) (s16 : List Int) (s17 : Int) (s18 : Int) : Option (Stp ((List Int) × Int × (List Int) × Int × Int)) :=
 cond (decide (s18 < s17)) (if 0 ≤ s18 then (if s18 < (s16.length : Int) then ((s16[s18.toNat]?).bind fun x1001 =>
  if s18 < 0 then none else cond ((zn .i64 s4 (w6 (1 * 2 ^ (min s18.toNat 64)))) != 0) (cond (Nat.ble ((s3.length + ([x1001] : List Int).length) * 8) zao)
  (some (.again ((s3 ++ ([x1001] : List Int)), s4, s16, s17, (w6 (s18 + 1))))) none)
  (some (.again (s3, s4, s16, s17, (w6 (s18 + 1)))))) else none) else none) (some (.leave (s3, s4, s16, s17, s18)))
def zab.r0 (N : Nat) (x : (List Int) × Int × (List Int) × Int × Int) := zab.b0 N x.1 x.2.1 x.2.2.1 x.2.2.2.1 x.2.2.2.2
def zab (N : Nat) (a0 : zC) : Option ((List Int)) :=
 (zbf a0).bind fun r1 =>
  (zd (zab.r0 N) N ([], r1.fields, ([a0.R, a0.A, a0.B] : List Int), (([a0.R, a0.A, a0.B] : List Int).length : Int), 0)).bind fun y2 => some y2.1
def zab.k (N : Nat) : Kq := ⟨213, (cvv [(Ty.sl T6)] [Ty.zC] (zab N)), go [zbf.k] {lits := [30]} [(0, .plain { slots := [(3, .own 5000003 T6), (4, .val T6), (16, .own 5000016 T6), (17, .val T6), (18, .val T6)], boxes := [] } [(Ty.sl T6), T6, (Ty.sl T6), T6, T6] (zd (zab.r0 N) N))] Proofs.Tryz.func213 (hL := ⟨⟨_, _, rfl, by kernel_rfl⟩, trivial⟩)⟩
def zet (a0 : Int) (a1 : zI) : Option Bool :=
 (za9 a0 0 (w6 (a1.Registers - 1))).bind fun r1 => some (!r1)
def zet.k : Kq := ⟨214, (ctv [.val T6, .ptr Ty.zI false []] [Ty.bool] [] [] [T6, Ty.zI] zet), go [za9.k] {ro := [1000000], pk := [1000000]} [] Proofs.Tryz.func214⟩
def zai.b0 (N : Nat) (s0 : List Int) (s7 : Int) (s8 : Int) (b1000000 : zI) : Option (Round Int ((List Int) × Int × Int × zI)) :=
 cond (decide (s8 < s7)) ((idx s0 s8).bind fun x1001 => (zet x1001 b1000000).bind fun r1002 => cond r1002 (some (.result s8))
  (some (.again (s0, s7, (w6 (s8 + 1)), b1000000)))) (some (.leave (s0, s7, s8, b1000000)))
def zai.r0 (N : Nat) (x : (List Int) × Int × Int × zI) := zai.b0 N x.1 x.2.1 x.2.2.1 x.2.2.2
def zai (N : Nat) (a0 : List Int) (a1 : zI) : Option Int :=
 (zaa (zai.r0 N) N (a0, (a0.length : Int), 0, a1)).bind fun z2 => zbd z2 (fun z => some z) (fun y1 => some (-1))
def zai.k (N : Nat) : Kq := ⟨229, (ctv [.val (Ty.sl T6), .clo 214 1, .ptr Ty.zI false []] [T6] [] [] [(Ty.sl T6), Ty.zI] (zai N)), go [zet.k] {ro := [1000000], pk := [1000000]} [(0, .rets { slots := [(0, .val (Ty.sl T6)), (1, .fn 214 [1000000]), (7, .val T6), (8, .val T6)], boxes := [(1000000, Ty.zI, [])] } [(Ty.sl T6), T6, T6, Ty.zI] (zaa (zai.r0 N) N))] Proofs.Tryz.func229 (hL := ⟨⟨_, _, rfl, by kernel_rfl⟩, trivial⟩)⟩
def zcf (N : Nat) (a0 : List Int) (a1 : zI) : Option Bool :=
 (zai N a0 a1).bind fun r1 => some (decide (r1 ≥ 0))
def zcf.k (N : Nat) : Kq := ⟨212, (ctv [.val (Ty.sl T6), .clo 214 1, .ptr Ty.zI false []] [Ty.bool] [] [] [(Ty.sl T6), Ty.zI] (zcf N)), go [zai.k N] {ro := [1000000], pk := [1000000]} [] Proofs.Tryz.func212⟩
def zcz (a0 : Storage) (a1 : Int) : Option Bool :=
 (cond (decide (a1 ≥ 0)) (some ((a1.tmod 16) == 0)) (some false)).bind fun g1 => (cond g1 (some (decide (a1 < (a0.Bytes.size : Int)))) (some false)).bind fun g2 => some g2
def zcz.k : Kq := ⟨215, (cvv [Ty.bool] [Ty.Storage, T6] zcz), go [] {} [] Proofs.Tryz.func215⟩
def zgd (a0 : DataType) : Option Int :=
 cond (a0.Kind == 1) (some (w6 ((w6 (a0.Length.tdiv 2)) + 1))) (cond (a0.Kind == 3)
  (some (w6 (2 + (w6 ((w6 (a0.Length.tdiv 9)) * 2))))) (cond (a0.Kind == 4) (some 16) (some a0.Length)))
def zgd.k : Kq := ⟨182, (cvv [T6] [Ty.DataType] zgd), go [] {} [] Proofs.Tryz.func182⟩
def zdp (N : Nat) (a0 : DataType) : Option (Int × Int) :=
 (zb0 N a0).bind fun r1 => cond (r1 != 0) (some (0, r1)) ((zgd a0).bind fun r2 => some (r2, 0))
def zdp.k (N : Nat) : Kq := ⟨146, (cvv [T6, T6] [Ty.DataType] (zdp N)), go [zb0.k N, zgd.k] {} [] Proofs.Tryz.func146⟩
def zhm (N : Nat) (a0 : DataType) : Option Int :=
 (zdp N a0).bind fun r1 => some r1.1
def zhm.k (N : Nat) : Kq := ⟨230, (cvv [T6] [Ty.DataType] (zhm N)), go [zdp.k N] {} [] Proofs.Tryz.func230⟩
def zcm (N : Nat) (a0 : Storage) (a1 : zK) (a2 : DataType) : Option Bool :=
 cond a1.Based ((zcz a0 a1.Pointer).bind fun r1 => (cond r1 ((za9 a1.Offset 0 256).bind fun r2 => some r2) (some false)).bind fun g3 => some g3)
  ((zhm N a2).bind fun r4 => (za9 a1.Offset 0 (w6 ((a0.Bytes.size : Int) - r4))).bind fun r5 => some r5)
def zcm.k (N : Nat) : Kq := ⟨216, (cvv [Ty.bool] [Ty.Storage, Ty.zK, Ty.DataType] (zcm N)), go [za9.k, zcz.k, zhm.k N] {} [] Proofs.Tryz.func216⟩
def zf3 (N : Nat) (a0 : zI) (a1 : zF) (a2 : zC) : Option Bool :=
 (zbf a2).bind fun r1 => (zab N a2).bind fun r2 => (zcf N r2 a0).bind fun r3 => cond r3 (some false)
  ((cond ((zn .i64 r1.fields 8) != 0) (some (a2.Op == 4)) (some false)).bind fun g4 => cond g4 ((cond ((zn .i64 r1.fields 4096) != 0)
  ((za9 a2.Target 0 (w6 ((a1.zA.length : Int) - 1))).bind fun r5 => some (!r5)) (some false)).bind fun g6 => (cond g6 (some true)
  ((cond ((zn .i64 r1.fields 2048) != 0) ((za9 a2.Mask 1 7).bind fun r7 => some (!r7)) (some false)).bind fun g8 => some g8)).bind fun g9 => (cond g9 (some true)
  ((cond ((zn .i64 r1.fields 8192) != 0) ((zcz a1.Storage a2.Pointer).bind fun r10 => some (!r10)) (some false)).bind fun g11 => some g11)).bind fun g12 =>
  (cond g12 (some true) ((cond ((zn .i64 r1.fields 16384) != 0) ((zcz a1.Storage a2.Source).bind fun r13 => some (!r13)) (some false)).bind fun g14 =>
  some g14)).bind fun g15 => (cond g15 (some true) ((cond ((zn .i64 r1.fields 8) != 0) ((zcm N a1.Storage a2.Place a2.Second).bind fun r16 => some (!r16))
  (some false)).bind fun g17 => some g17)).bind fun g18 => (cond g18 (some true) ((cond ((zn .i64 r1.fields 16) != 0)
  ((zcm N a1.Storage a2.From a2.Second).bind fun r19 => some (!r19)) (some false)).bind fun g20 => some g20)).bind fun g21 => (cond g21 (some true)
  ((cond ((zn .i64 r1.fields 32768) != 0) ((za9 a2.zO 0 4).bind fun r22 => some (!r22)) (some false)).bind fun g23 => some g23)).bind fun g24 => some (!g24))
  ((cond ((zn .i64 r1.fields 4096) != 0) ((za9 a2.Target 0 (w6 ((a1.zA.length : Int) - 1))).bind fun r25 => some (!r25))
  (some false)).bind fun g26 => (cond g26 (some true) ((cond ((zn .i64 r1.fields 2048) != 0) ((za9 a2.Mask 1 7).bind fun r27 => some (!r27)) (some false)).bind fun g28 =>
  some g28)).bind fun g29 => (cond g29 (some true) ((cond ((zn .i64 r1.fields 8192) != 0) ((zcz a1.Storage a2.Pointer).bind fun r30 => some (!r30))
  (some false)).bind fun g31 => some g31)).bind fun g32 => (cond g32 (some true) ((cond ((zn .i64 r1.fields 16384) != 0) ((zcz a1.Storage a2.Source).bind fun r33 =>
  some (!r33)) (some false)).bind fun g34 => some g34)).bind fun g35 => (cond g35 (some true) ((cond ((zn .i64 r1.fields 8) != 0)
  ((zcm N a1.Storage a2.Place a2.zD).bind fun r36 => some (!r36)) (some false)).bind fun g37 => some g37)).bind fun g38 => (cond g38 (some true)
  ((cond ((zn .i64 r1.fields 16) != 0) ((zcm N a1.Storage a2.From a2.Second).bind fun r39 => some (!r39)) (some false)).bind fun g40 => some g40)).bind fun g41 =>
  (cond g41 (some true) ((cond ((zn .i64 r1.fields 32768) != 0) ((za9 a2.zO 0 4).bind fun r42 => some (!r42)) (some false)).bind fun g43 =>
  some g43)).bind fun g44 => some (!g44)))
def zf3.k (N : Nat) : Kq := ⟨177, (cvv [Ty.bool] [Ty.zI, Ty.zF, Ty.zC] (zf3 N)), go [za9.k, zbf.k, zcf.k N, zab.k N, zcz.k, zcm.k N] {lits := [13]} [] Proofs.Tryz.func177⟩
def zer (a0 : Number) : Option Int :=
 (zdz a0.N (-999999999999999) 999999999999999).bind fun r1 => (cond (!r1) (some true) ((zdz a0.Scale 0 15).bind fun r2 => some (!r2))).bind fun g3 =>
  (zbi g3 3).bind fun r4 => some r4
def zer.k : Kq := ⟨178, (cvv [T6] [Ty.Number] zer), go [zdz.k, zbi.k] {} [] Proofs.Tryz.func178⟩
def zb7 (N : Nat) (a0 : zI) (a1 : zF) (a2 : zC) : Option Int :=
 (za9 a2.Op 0 26).bind fun r1 => cond (!r1) (some 4) ((zhn a2).bind fun r2 =>
  (zbm (!(zc2 [(r2.Op == a2.Op), (r2.R == a2.R), (r2.A == a2.A), (r2.B == a2.B), (r2.zO == a2.zO), (r2.Place.Based == a2.Place.Based), (r2.Place.Pointer == a2.Place.Pointer), (r2.Place.Offset == a2.Place.Offset), (r2.From.Based == a2.From.Based), (r2.From.Pointer == a2.From.Pointer), (r2.From.Offset == a2.From.Offset), (r2.zD.Kind == a2.zD.Kind), (r2.zD.Length == a2.zD.Length), (r2.zD.Scale == a2.zD.Scale), (r2.Second.Kind == a2.Second.Kind), (r2.Second.Length == a2.Second.Length), (r2.Second.Scale == a2.Second.Scale), (r2.Half == a2.Half), (r2.zN == a2.zN), (r2.Number.N == a2.Number.N), (r2.Number.Scale == a2.Number.Scale), (r2.Text == a2.Text), (r2.Other == a2.Other), (r2.Mask == a2.Mask), (r2.Target == a2.Target), (r2.Pointer == a2.Pointer), (r2.Source == a2.Source)])) 5).bind fun r3 =>
  (zgf a0 a2).bind fun r4 => (zbm (!r4) 39).bind fun r5 => (zbf a2).bind fun r6 => (zfl N a2 r6).bind fun r7 =>
  (zar N ([r3, r5, r7] : List Int)).bind fun r8 => cond (r8 != 0) (some r8) ((zf3 N a0 a1 a2).bind fun r9 => (zbm (!r9) 3).bind fun r10 =>
  (zer a2.Number).bind fun r11 => (cond (decide ((a2.Text.size : Int) > 256)) (some true) (some (decide ((a2.Other.size : Int) > 256)))).bind fun g12 =>
  (zbm g12 2).bind fun r13 => (zar N ([r10, r11, r13] : List Int)).bind fun r14 => some r14))
def zb7.k (N : Nat) : Kq := ⟨128, (cvv [T6] [Ty.zI, Ty.zF, Ty.zC] (zb7 N)), go [zbm.k, za9.k, zar.k N, zhn.k, zgf.k, zfl.k N, zbf.k, zf3.k N, zer.k] {lits := [16, 21, 24, 25, 26, 36, 39, 50, 51]} [] Proofs.Tryz.func128⟩
def zf1 (a0 : zF) (a1 : zP) : Option Int :=
 (za9 a1.From 0 a1.To).bind fun r1 => (cond r1 (some (decide (a1.To ≤ (a0.zA.length : Int)))) (some false)).bind fun g2 =>
  (cond g2 ((za9 a1.Exception 0 999).bind fun r3 => some r3) (some false)).bind fun g4 =>
  (cond g4 ((za9 a1.Handler 0 (w6 ((a0.zA.length : Int) - 1))).bind fun r5 => some r5) (some false)).bind fun g6 =>
  (zbm (!g6) 3).bind fun r7 => some r7
def zf1.k : Kq := ⟨129, (cvv [T6] [Ty.zF, Ty.zP] zf1), go [zbm.k, za9.k] {} [] Proofs.Tryz.func129⟩
def zl.b0 (N : Nat) (s57 : List zC) (s58 : Int) (s59 : Int) (b2 : zI) (b3 : zF) : Option (Round (Int × Int) ((List zC) × Int × Int × zI × zF)) :=
 cond (decide (s59 < s58)) ((idx s57 s59).bind fun x1001 => (zb7 N b2 b3 x1001).bind fun r1002 => cond (r1002 != 0) (some (.result (s59, r1002)))
  (some (.again (s57, s58, (w6 (s59 + 1)), b2, b3)))) (some (.leave (s57, s58, s59, b2, b3)))
def zl.r0 (N : Nat) (x : (List zC) × Int × Int × zI × zF) := zl.b0 N x.1 x.2.1 x.2.2.1 x.2.2.2.1 x.2.2.2.2
def zl.b2 (N : Nat) (s74 : List zP) (s75 : Int) (s76 : Int) (b3 : zF) : Option (Round (Int × Int) ((List zP) × Int × Int × zF)) :=
 cond (decide (s76 < s75)) ((idx s74 s76).bind fun x3001 => (zf1 b3 x3001).bind fun r3002 => cond (r3002 != 0) (some (.result (s76, r3002)))
  (some (.again (s74, s75, (w6 (s76 + 1)), b3)))) (some (.leave (s74, s75, s76, b3)))
def zl.r2 (N : Nat) (x : (List zP) × Int × Int × zF) := zl.b2 N x.1 x.2.1 x.2.2.1 x.2.2.2
def zl (N : Nat) (a0 : zI) (a1 : zF) : Option (Int × Int) :=
 (zc6 a0).bind fun r1 => cond (r1 != 0) (some (0, r1)) ((zak N a1.Storage).bind fun r2 => cond (r2.2 != 0) (some (0, r2.2))
  ((zed N a1.Storage.Tags true).bind fun r3 => (zbm r3 22).bind fun r4 => (zbm ((a1.zA.length : Int) == 0) 1).bind fun r5 =>
  (cond (decide ((a1.zA.length : Int) > 240)) (some true) (some (decide ((a1.zQ.length : Int) > 40)))).bind fun g6 => (zbm g6 2).bind fun r7 =>
  (zar N ([r4, r5, r7] : List Int)).bind fun r8 => cond (r8 != 0) (some (0, r8))
  ((zaa (zl.r0 N) N (a1.zA, (a1.zA.length : Int), 0, a0, a1)).bind fun z10 => zbd z10 (fun z => some z) (fun y9 =>
  (zaa (zl.r2 N) N (y9.2.2.2.2.zQ, (y9.2.2.2.2.zQ.length : Int), 0, y9.2.2.2.2)).bind fun z12 => zbd z12 (fun z => some z) (fun y11 =>
  some ((y11.2.2.2.zA.length : Int), 0))))))
def zl.k (N : Nat) : Kq := ⟨86, (cvv [T6, T6] [Ty.zI, Ty.zF] (zl N)), go [zc6.k, zbm.k, zak.k N, zar.k N, zed.k N, zb7.k N, zf1.k] {lits := [33, 34, 39, 50, 51]} [(0, .rets { slots := [(2, .ptr 2 0), (3, .ptr 3 0), (57, .val (Ty.sl Ty.zC)), (58, .val T6), (59, .val T6)], boxes := [(2, Ty.zI, []), (3, Ty.zF, [])] } [(Ty.sl Ty.zC), T6, T6, Ty.zI, Ty.zF] (zaa (zl.r0 N) N)), (2, .rets { slots := [(3, .ptr 3 0), (74, .val (Ty.sl Ty.zP)), (75, .val T6), (76, .val T6)], boxes := [(3, Ty.zF, [])] } [(Ty.sl Ty.zP), T6, T6, Ty.zF] (zaa (zl.r2 N) N))] Proofs.Tryz.func86 (hL := ⟨⟨_, _, rfl, by kernel_rfl⟩, ⟨_, _, rfl, by kernel_rfl⟩, trivial⟩)⟩
def zfi (N : Nat) (a0 : zI) (a1 : zF) : Option Int :=
 (zl N a0 a1).bind fun r1 => some r1.2
def zfi.k (N : Nat) : Kq := ⟨30, (cvv [T6] [Ty.zI, Ty.zF] (zfi N)), go [zl.k N] {} [] Proofs.Tryz.func30⟩
def zan.b0 (N : Nat) (s3 : List Int) (s7 : List zC) (s8 : Int) (s9 : Int) (b1 : zF) : Option (Stp ((List Int) × (List zC) × Int × Int × zF)) :=
 cond (decide (s9 < s8)) ((idx s7 s9).bind fun x1001 => (cond (x1001.Op == 18) (some (decide ((w6 (s9 + 1)) < (b1.zA.length : Int))))
  (some false)).bind fun g1002 => cond g1002 (cond (Nat.ble ((s3.length + ([(w6 (s9 + 1))] : List Int).length) * 8) zao)
  (some (.again ((s3 ++ ([(w6 (s9 + 1))] : List Int)), s7, s8, (w6 (s9 + 1)), b1))) none)
  (some (.again (s3, s7, s8, (w6 (s9 + 1)), b1)))) (some (.leave (s3, s7, s8, s9, b1)))
def zan.r0 (N : Nat) (x : (List Int) × (List zC) × Int × Int × zF) := zan.b0 N x.1 x.2.1 x.2.2.1 x.2.2.2.1 x.2.2.2.2
def zan (N : Nat) (a0 : zF) : Option ((List Int)) :=
 (zd (zan.r0 N) N ([], a0.zA, (a0.zA.length : Int), 0, a0)).bind fun y1 => some y1.1
def zan.k (N : Nat) : Kq := ⟨71, (cvv [(Ty.sl T6)] [Ty.zF] (zan N)), go [] {lits := [28]} [(0, .plain { slots := [(1, .ptr 1 0), (3, .own 5000003 T6), (7, .val (Ty.sl Ty.zC)), (8, .val T6), (9, .val T6)], boxes := [(1, Ty.zF, [])] } [(Ty.sl T6), (Ty.sl Ty.zC), T6, T6, Ty.zF] (zd (zan.r0 N) N))] Proofs.Tryz.func71 (hL := ⟨⟨_, _, rfl, by kernel_rfl⟩, trivial⟩)⟩
def zy.b0 (N : Nat) (s3 : List Bool) (s15 : List zP) (s16 : Int) (s17 : Int) (b1 : zF) : Option (Stp ((List Bool) × (List zP) × Int × Int × zF)) :=
 cond (decide (s17 < s16)) ((idx s15 s17).bind fun x1001 => if 0 ≤ x1001.Handler then (if x1001.Handler < (s3.length : Int) then ((s3[x1001.Handler.toNat]?).bind fun x1002 =>
  some (.again ((s3.set x1001.Handler.toNat true), s15, s16, (w6 (s17 + 1)), b1))) else none) else none) (some (.leave (s3, s15, s16, s17, b1)))
def zy.r0 (N : Nat) (x : (List Bool) × (List zP) × Int × Int × zF) := zy.b0 N x.1 x.2.1 x.2.2.1 x.2.2.2.1 x.2.2.2.2
def zy.b2 (N : Nat) (s3 : List Bool) (s27 : List Int) (s28 : Int) (s29 : Int) : Option (Stp ((List Bool) × (List Int) × Int × Int)) :=
 cond (decide (s29 < s28)) ((idx s27 s29).bind fun x3001 => if 0 ≤ x3001 then (if x3001 < (s3.length : Int) then ((s3[x3001.toNat]?).bind fun x3002 =>
  some (.again ((s3.set x3001.toNat true), s27, s28, (w6 (s29 + 1))))) else none) else none) (some (.leave (s3, s27, s28, s29)))
def zy.r2 (N : Nat) (x : (List Bool) × (List Int) × Int × Int) := zy.b2 N x.1 x.2.1 x.2.2.1 x.2.2.2
def zy (N : Nat) (a0 : zF) : Option ((List Bool)) :=
 if 0 ≤ (a0.zA.length : Int) then (if (a0.zA.length : Int) ≤ (a0.zA.length : Int) then (cond (Nat.ble ((a0.zA.length : Int).toNat * 1) zao)
  (if 0 ≤ (0 : Int) then (if (0 : Int) < ((List.replicate (a0.zA.length : Int).toNat (false : Bool)).length : Int) then (((List.replicate (a0.zA.length : Int).toNat (false : Bool))[(0 : Int).toNat]?).bind fun x1 =>
  (zd (zy.r0 N) N (((List.replicate (a0.zA.length : Int).toNat (false : Bool)).set ((0 : Int).toNat) true), a0.zQ, (a0.zQ.length : Int), 0, a0)).bind fun y2 =>
  (zan N y2.2.2.2.2).bind fun r3 => (zd (zy.r2 N) N (y2.1, r3, (r3.length : Int), 0)).bind fun y4 =>
  some y4.1) else none) else none) none) else none) else none
def zy.k (N : Nat) : Kq := ⟨57, (cvv [(Ty.sl Ty.bool)] [Ty.zF] (zy N)), go [zan.k N] {} [(0, .plain { slots := [(1, .ptr 1 0), (3, .own 5000003 Ty.bool), (15, .val (Ty.sl Ty.zP)), (16, .val T6), (17, .val T6)], boxes := [(1, Ty.zF, [])] } [(Ty.sl Ty.bool), (Ty.sl Ty.zP), T6, T6, Ty.zF] (zd (zy.r0 N) N)), (2, .plain { slots := [(3, .own 5000003 Ty.bool), (27, .val (Ty.sl T6)), (28, .val T6), (29, .val T6)], boxes := [] } [(Ty.sl Ty.bool), (Ty.sl T6), T6, T6] (zd (zy.r2 N) N))] Proofs.Tryz.func57 (hL := ⟨⟨_, _, rfl, by kernel_rfl⟩, ⟨_, _, rfl, by kernel_rfl⟩, trivial⟩)⟩
def zch (a0 : Int) : Option Bool :=
 (cond (a0 == 6) (some true) (some (a0 == 7))).bind fun g1 => (cond g1 (some true) (some (a0 == 8))).bind fun g2 => (cond g2 (some true) (some (a0 == 18))).bind fun g3 => some g3
def zch.k : Kq := ⟨84, (cvv [Ty.bool] [T6] zch), go [] {} [] Proofs.Tryz.func84⟩
def zcv (a0 : zF) (a1 : Int) : Option ((List Int)) :=
 (idx a0.zA a1).bind fun x1 => (cond (x1.Op == 8) (some (x1.Op == 8)) (cond (x1.Op == 18) (some (x1.Op == 18)) (cond (x1.Op == 19) (some (x1.Op == 19))
  (cond (x1.Op == 20) (some (x1.Op == 20)) (some (x1.Op == 26)))))).bind fun q2 => cond q2 ((zch x1.Op).bind fun r3 =>
  cond r3 (cond (Nat.ble (([x1.Target] : List Int).length * 8) zao) (some ([x1.Target] : List Int)) none) (some []))
  (cond (decide ((w6 (a1 + 1)) < (a0.zA.length : Int))) (cond (Nat.ble (([(w6 (a1 + 1))] : List Int).length * 8) zao)
  ((zch x1.Op).bind fun r4 => cond r4 (cond (Nat.ble ((([(w6 (a1 + 1))] : List Int).length + ([x1.Target] : List Int).length) * 8) zao)
  (some (([(w6 (a1 + 1))] : List Int) ++ ([x1.Target] : List Int))) none) (some ([(w6 (a1 + 1))] : List Int))) none)
  ((zch x1.Op).bind fun r5 => cond r5 (cond (Nat.ble (([x1.Target] : List Int).length * 8) zao) (some ([x1.Target] : List Int)) none) (some [])))
def zcv.k : Kq := ⟨59, (cvv [(Ty.sl T6)] [Ty.zF, T6] zcv), go [zch.k] {lits := [23, 37], bj := [25]} [] Proofs.Tryz.func59⟩
def zw.b0 (N : Nat) (s5 : List Bool) (s6 : List Int) (s13 : List Bool) (s14 : Int) (s15 : Int) (b2 : zF) : Option (Stp ((List Bool) × (List Int) × (List Bool) × Int × Int × zF)) :=
 cond (decide (s15 < s14)) ((idx s13 s15).bind fun x1001 => cond x1001 (cond (Nat.ble ((s6.length + ([s15] : List Int).length) * 8) zao)
  (some (.again (s5, (s6 ++ ([s15] : List Int)), s13, s14, (w6 (s15 + 1)), b2))) none) (some (.again (s5, s6, s13, s14, (w6 (s15 + 1)), b2))))
  (some (.leave (s5, s6, s13, s14, s15, b2)))
def zw.r0 (N : Nat) (x : (List Bool) × (List Int) × (List Bool) × Int × Int × zF) := zw.b0 N x.1 x.2.1 x.2.2.1 x.2.2.2.1 x.2.2.2.2.1 x.2.2.2.2.2
def zw.b2 (N : Nat) (s5 : List Bool) (s6 : List Int) (b2 : zF) : Option (Stp ((List Bool) × (List Int) × zF)) :=
 cond (decide ((s6.length : Int) > 0)) (if 0 ≤ (0 : Int) then (if (0 : Int) < (s6.length : Int) then ((s6[(0 : Int).toNat]?).bind fun x3001 =>
  if 0 ≤ (1 : Int) ∧ (1 : Int) ≤ (s6.length : Int) then (if 0 ≤ x3001 then (if x3001 < (s5.length : Int) then ((s5[x3001.toNat]?).bind fun x3002 => cond (!x3002)
  (if 0 ≤ x3001 then (if x3001 < (s5.length : Int) then ((s5[x3001.toNat]?).bind fun x3003 => (zcv b2 x3001).bind fun r3004 =>
  cond (Nat.ble (((s6.drop ((1 : Int).toNat)).length + r3004.length) * 8) zao)
  (some (.again ((s5.set x3001.toNat true), ((s6.drop ((1 : Int).toNat)) ++ r3004), b2))) none) else none) else none)
  (some (.again (s5, (s6.drop ((1 : Int).toNat)), b2)))) else none) else none) else none) else none) else none) (some (.leave (s5, s6, b2)))
def zw.r2 (N : Nat) (x : (List Bool) × (List Int) × zF) := zw.b2 N x.1 x.2.1 x.2.2
def zw (N : Nat) (a0 : zF) (a1 : List Bool) : Option ((List Bool)) :=
 if 0 ≤ (a1.length : Int) then (if (a1.length : Int) ≤ (a1.length : Int) then (cond (Nat.ble ((a1.length : Int).toNat * 1) zao)
  ((zd (zw.r0 N) N ((List.replicate (a1.length : Int).toNat (false : Bool)), [], a1, (a1.length : Int), 0, a0)).bind fun y1 =>
  (zd (zw.r2 N) N (y1.1, y1.2.1, y1.2.2.2.2.2)).bind fun y2 => some y2.1) none) else none) else none
def zw.k (N : Nat) : Kq := ⟨87, (cvv [(Ty.sl Ty.bool)] [Ty.zF, (Ty.sl Ty.bool)] (zw N)), go [zcv.k] {lits := [23, 45]} [(0, .plain { slots := [(2, .ptr 2 0), (5, .own 5000005 Ty.bool), (6, .own 5000006 T6), (13, .val (Ty.sl Ty.bool)), (14, .val T6), (15, .val T6)], boxes := [(2, Ty.zF, [])] } [(Ty.sl Ty.bool), (Ty.sl T6), (Ty.sl Ty.bool), T6, T6, Ty.zF] (zd (zw.r0 N) N)), (2, .plain { slots := [(2, .ptr 2 0), (5, .own 5000005 Ty.bool), (6, .own 5000006 T6)], boxes := [(2, Ty.zF, [])] } [(Ty.sl Ty.bool), (Ty.sl T6), Ty.zF] (zd (zw.r2 N) N))] Proofs.Tryz.func87 (hL := ⟨⟨_, _, rfl, by kernel_rfl⟩, ⟨_, _, rfl, by kernel_rfl⟩, trivial⟩)⟩
def zdf (a0 : zB) (a1 : Int) : Option Bool :=
 some (a0.Register == a1)
def zdf.k : Kq := ⟨151, (ctv [.val Ty.zB, .ptr T6 false []] [Ty.bool] [] [] [Ty.zB, T6] zdf), go [] {ro := [1000000], pk := [1000000]} [] Proofs.Tryz.func151⟩
def zr.b0 (N : Nat) (s0 : List zB) (s7 : Int) (s8 : Int) (b1000000 : Int) : Option (Round Int ((List zB) × Int × Int × Int)) :=
 cond (decide (s8 < s7)) ((idx s0 s8).bind fun x1001 => (zdf x1001 b1000000).bind fun r1002 => cond r1002 (some (.result s8))
  (some (.again (s0, s7, (w6 (s8 + 1)), b1000000)))) (some (.leave (s0, s7, s8, b1000000)))
def zr.r0 (N : Nat) (x : (List zB) × Int × Int × Int) := zr.b0 N x.1 x.2.1 x.2.2.1 x.2.2.2
def zr (N : Nat) (a0 : List zB) (a1 : Int) : Option Int :=
 (zaa (zr.r0 N) N (a0, (a0.length : Int), 0, a1)).bind fun z2 => zbd z2 (fun z => some z) (fun y1 => some (-1))
def zr.k (N : Nat) : Kq := ⟨108, (ctv [.val (Ty.sl Ty.zB), .clo 151 1, .ptr T6 false []] [T6] [] [] [(Ty.sl Ty.zB), T6] (zr N)), go [zdf.k] {ro := [1000000], pk := [1000000]} [(0, .rets { slots := [(0, .val (Ty.sl Ty.zB)), (1, .fn 151 [1000000]), (7, .val T6), (8, .val T6)], boxes := [(1000000, T6, [])] } [(Ty.sl Ty.zB), T6, T6, T6] (zaa (zr.r0 N) N))] Proofs.Tryz.func108 (hL := ⟨⟨_, _, rfl, by kernel_rfl⟩, trivial⟩)⟩
def zi.b0 (N : Nat) (s0 : List zB) (s5 : Int) (s6 : Int) (b1000000 : Int) : Option (Stp ((List zB) × Int × Int × Int)) :=
 cond (decide (s6 < (s0.length : Int))) (if 0 ≤ s6 then (if s6 < (s0.length : Int) then ((s0[s6.toNat]?).bind fun x1001 => (zdf x1001 b1000000).bind fun r1002 =>
  cond (!r1002) (if 0 ≤ s5 then (if s5 < (s0.length : Int) then ((s0[s5.toNat]?).bind fun x1003 =>
  some (.again ((s0.set s5.toNat x1001), (w6 (s5 + 1)), (w6 (s6 + 1)), b1000000))) else none) else none)
  (some (.again (s0, s5, (w6 (s6 + 1)), b1000000)))) else none) else none) (some (.leave (s0, s5, s6, b1000000)))
def zi.r0 (N : Nat) (x : (List zB) × Int × Int × Int) := zi.b0 N x.1 x.2.1 x.2.2.1 x.2.2.2
def zi (N : Nat) (a0 : List zB) (a1 : Int) : Option ((List zB)) :=
 (zr N a0 a1).bind fun r1 => cond (r1 == (-1)) (some a0)
  ((zd (zi.r0 N) N (a0, r1, (w6 (r1 + 1)), a1)).bind fun y2 =>
  if 0 ≤ y2.2.1 ∧ y2.2.1 ≤ (y2.1.length : Int) then (if 0 ≤ y2.2.1 ∧ y2.2.1 ≤ ((y2.1.take y2.2.1.toNat ++ List.replicate (y2.1.length - y2.2.1.toNat)
  ((⟨0, (⟨0, 0, 0⟩ : DataType), 0⟩ : zB) : zB)).length : Int) then (if 0 ≤ (0 : Int) ∧ (0 : Int) ≤ y2.2.1 then (some (((y2.1.take y2.2.1.toNat ++ List.replicate (y2.1.length - y2.2.1.toNat)
  ((⟨0, (⟨0, 0, 0⟩ : DataType), 0⟩ : zB) : zB)).drop ((0 : Int).toNat)).take (y2.2.1.toNat - (0 : Int).toNat))) else none) else none) else none)
def zi.k (N : Nat) : Kq := ⟨130, (ctv [.mov Ty.zB, .clo 151 1, .ptr T6 false []] [(Ty.sl Ty.zB)] [] [0] [(Ty.sl Ty.zB), T6] (zi N)), go [zr.k N, zdf.k] {ro := [1000000], pk := [1000000]} [(0, .plain { slots := [(0, .own 5000000 Ty.zB), (1, .fn 151 [1000000]), (5, .val T6), (6, .val T6)], boxes := [(1000000, T6, [])] } [(Ty.sl Ty.zB), T6, T6, T6] (zd (zi.r0 N) N))] Proofs.Tryz.func130 (hL := ⟨⟨_, _, rfl, by kernel_rfl⟩, trivial⟩)⟩
def zpj : Ct U := { params := [.val (Ty.sl Ty.zB)], results := [(Ty.sl Ty.zB)], outs := [], fresh := [0], fn := app U [(Ty.sl Ty.zB)] (R := PT U [(Ty.sl Ty.zB)]) (zj8 40) }
theorem zpj.meets : zhh (zom [] [] [] [] [] [] [] []) 131 zpj :=
 zsg zvx (zww (l := []) rfl all_nil) (zv0 (l := []) rfl all_nil) (Lp := pick []) Proofs.Tryz.func131 (by kernel_rfl) (zw2 (l := []) rfl all_nil) (fun y => by kernel_rfl) (e := 97) (t := Ty.zB) rfl rfl rfl rfl rfl rfl rfl (by kernel_rfl) rfl rfl rfl rfl rfl rfl (fun xs => by kernel_rfl) fun ds y h => by
  obtain ⟨xs, rfl, hx⟩ := z0g h; refine ⟨xs, rfl, fun b hb => ?_⟩; cases b with
  | true =>
   have := hb rfl; subst this; exact Eq.trans (by kernel_rfl) hx
  | false => exact Eq.trans (b := cond (Nat.ble ((0 + xs.length) * 40) zao) (some xs) none) (by kernel_rfl) (by rw [Nat.zero_add]; exact hx)
def zpj.k : Kq := ⟨131, zpj, zpj.meets⟩
def zco (N : Nat) (a0 : List zB) (a1 : Int) : Option ((List zB)) :=
 (zj8 40 a0).bind fun r1 => (zi N r1 a1).bind fun r2 => some r2
def zco.k (N : Nat) : Kq := ⟨104, (ctv [.val (Ty.sl Ty.zB), .val T6] [(Ty.sl Ty.zB)] [] [0] [(Ty.sl Ty.zB), T6] (zco N)), go [zi.k N, zpj.k] {} [] Proofs.Tryz.func104⟩
def za3.b0 (N : Nat) (s1 : Int) (s2 : Int) (s7 : List zB) (s10 : List zB) (s11 : Int) (s12 : Int) : Option (Stp (Int × Int × (List zB) × (List zB) × Int × Int)) :=
 cond (decide (s12 < s11)) ((idx s10 s12).bind fun x1001 => cond (x1001.Register == s1)
  (cond (Nat.ble ((s7.length + ([(⟨s2, x1001.zD, x1001.Offset⟩ : zB)] : List zB).length) * 40) zao)
  (some (.again (s1, s2, (s7 ++ ([(⟨s2, x1001.zD, x1001.Offset⟩ : zB)] : List zB)), s10, s11, (w6 (s12 + 1))))) none)
  (some (.again (s1, s2, s7, s10, s11, (w6 (s12 + 1)))))) (some (.leave (s1, s2, s7, s10, s11, s12)))
def za3.r0 (N : Nat) (x : Int × Int × (List zB) × (List zB) × Int × Int) := za3.b0 N x.1 x.2.1 x.2.2.1 x.2.2.2.1 x.2.2.2.2.1 x.2.2.2.2.2
def za3 (N : Nat) (a0 : List zB) (a1 : Int) (a2 : Int) : Option ((List zB)) :=
 (zd (za3.r0 N) N (a1, a2, [], a0, (a0.length : Int), 0)).bind fun y1 => some y1.2.2.1
def za3.k (N : Nat) : Kq := ⟨105, (cvv [(Ty.sl Ty.zB)] [(Ty.sl Ty.zB), T6, T6] (za3 N)), go [] {lits := [24]} [(0, .plain { slots := [(1, .val T6), (2, .val T6), (7, .own 5000007 Ty.zB), (10, .val (Ty.sl Ty.zB)), (11, .val T6), (12, .val T6)], boxes := [] } [T6, T6, (Ty.sl Ty.zB), (Ty.sl Ty.zB), T6, T6] (zd (za3.r0 N) N))] Proofs.Tryz.func105 (hL := ⟨⟨_, _, rfl, by kernel_rfl⟩, trivial⟩)⟩
def zba.b0 (N : Nat) (s1 : List zB) (s5 : List zB) (s34 : List zB) (s35 : Int) (s36 : Int) (b2 : zC) : Option (Stp ((List zB) × (List zB) × (List zB) × Int × Int × zC)) :=
 cond (decide (s36 < s35)) ((idx s34 s36).bind fun x1001 =>
  (cond (zc2 [(x1001.zD.Kind == b2.zD.Kind), (x1001.zD.Length == b2.zD.Length), (x1001.zD.Scale == b2.zD.Scale)]) (some (x1001.Offset == b2.Place.Offset))
  (some false)).bind fun g1002 => cond g1002 ((za3 N s1 x1001.Register b2.R).bind fun r1003 => cond (Nat.ble ((s5.length + r1003.length) * 40) zao)
  (some (.again (s1, (s5 ++ r1003), s34, s35, (w6 (s36 + 1)), b2))) none) (some (.again (s1, s5, s34, s35, (w6 (s36 + 1)), b2))))
  (some (.leave (s1, s5, s34, s35, s36, b2)))
def zba.r0 (N : Nat) (x : (List zB) × (List zB) × (List zB) × Int × Int × zC) := zba.b0 N x.1 x.2.1 x.2.2.1 x.2.2.2.1 x.2.2.2.2.1 x.2.2.2.2.2
def zba (N : Nat) (a0 : zC) (a1 : List zB) : Option ((List zB)) :=
 (zco N a1 a0.R).bind fun r1 => cond (Nat.ble ((r1.length + ([(⟨a0.R, a0.zD, (-1)⟩ : zB)] : List zB).length) * 40) zao)
  (cond a0.Place.Based (some (r1 ++ ([(⟨a0.R, a0.zD, (-1)⟩ : zB)] : List zB)))
  (cond (Nat.ble (((r1 ++ ([(⟨a0.R, a0.zD, (-1)⟩ : zB)] : List zB)).length + ([(⟨a0.R, a0.zD, a0.Place.Offset⟩ : zB)] : List zB).length) * 40) zao)
  ((zd (zba.r0 N) N (a1, ((r1 ++ ([(⟨a0.R, a0.zD, (-1)⟩ : zB)] : List zB)) ++ ([(⟨a0.R, a0.zD, a0.Place.Offset⟩ : zB)] : List zB)), a1, (a1.length : Int), 0, a0)).bind fun y2 =>
  some y2.2.1) none)) none
def zba.k (N : Nat) : Kq := ⟨103, (ctv [.val Ty.zC, .val (Ty.sl Ty.zB)] [(Ty.sl Ty.zB)] [] [0] [Ty.zC, (Ty.sl Ty.zB)] (zba N)), go [zco.k N, za3.k N] {lits := [17, 32, 59]} [(0, .plain { slots := [(1, .val (Ty.sl Ty.zB)), (2, .ptr 2 0), (5, .own 5000005 Ty.zB), (34, .val (Ty.sl Ty.zB)), (35, .val T6), (36, .val T6)], boxes := [(2, Ty.zC, [])] } [(Ty.sl Ty.zB), (Ty.sl Ty.zB), (Ty.sl Ty.zB), T6, T6, Ty.zC] (zd (zba.r0 N) N))] Proofs.Tryz.func103 (hL := ⟨⟨_, _, rfl, by kernel_rfl⟩, trivial⟩)⟩
def zem (a0 : zB) : Option Bool :=
 some (a0.Offset != (-1))
def zem.k : Kq := ⟨188, (cvv [Ty.bool] [Ty.zB] zem), go [] {} [] Proofs.Tryz.func188⟩
def zp.b0 (N : Nat) (s0 : List zB) (s7 : Int) (s8 : Int) : Option (Round Int ((List zB) × Int × Int)) :=
 cond (decide (s8 < s7)) ((idx s0 s8).bind fun x1001 => (zem x1001).bind fun r1002 => cond r1002 (some (.result s8))
  (some (.again (s0, s7, (w6 (s8 + 1)))))) (some (.leave (s0, s7, s8)))
def zp.r0 (N : Nat) (x : (List zB) × Int × Int) := zp.b0 N x.1 x.2.1 x.2.2
def zp (N : Nat) (a0 : List zB) : Option Int :=
 (zaa (zp.r0 N) N (a0, (a0.length : Int), 0)).bind fun z2 => zbd z2 (fun z => some z) (fun y1 => some (-1))
def zp.k (N : Nat) : Kq := ⟨108, (ctv [.val (Ty.sl Ty.zB), .clo 188 0] [T6] [] [] [(Ty.sl Ty.zB)] (zp N)), go [zem.k] {} [(0, .rets { slots := [(0, .val (Ty.sl Ty.zB)), (1, .fn 188 []), (7, .val T6), (8, .val T6)], boxes := [] } [(Ty.sl Ty.zB), T6, T6] (zaa (zp.r0 N) N))] Proofs.Tryz.func108 (hL := ⟨⟨_, _, rfl, by kernel_rfl⟩, trivial⟩)⟩
def zg.b0 (N : Nat) (s0 : List zB) (s5 : Int) (s6 : Int) : Option (Stp ((List zB) × Int × Int)) :=
 cond (decide (s6 < (s0.length : Int))) (if 0 ≤ s6 then (if s6 < (s0.length : Int) then ((s0[s6.toNat]?).bind fun x1001 => (zem x1001).bind fun r1002 => cond (!r1002)
  (if 0 ≤ s5 then (if s5 < (s0.length : Int) then ((s0[s5.toNat]?).bind fun x1003 =>
  some (.again ((s0.set s5.toNat x1001), (w6 (s5 + 1)), (w6 (s6 + 1))))) else none) else none)
  (some (.again (s0, s5, (w6 (s6 + 1)))))) else none) else none) (some (.leave (s0, s5, s6)))
def zg.r0 (N : Nat) (x : (List zB) × Int × Int) := zg.b0 N x.1 x.2.1 x.2.2
def zg (N : Nat) (a0 : List zB) : Option ((List zB)) :=
 (zp N a0).bind fun r1 => cond (r1 == (-1)) (some a0)
  ((zd (zg.r0 N) N (a0, r1, (w6 (r1 + 1)))).bind fun y2 =>
  if 0 ≤ y2.2.1 ∧ y2.2.1 ≤ (y2.1.length : Int) then (if 0 ≤ y2.2.1 ∧ y2.2.1 ≤ ((y2.1.take y2.2.1.toNat ++ List.replicate (y2.1.length - y2.2.1.toNat)
  ((⟨0, (⟨0, 0, 0⟩ : DataType), 0⟩ : zB) : zB)).length : Int) then (if 0 ≤ (0 : Int) ∧ (0 : Int) ≤ y2.2.1 then (some (((y2.1.take y2.2.1.toNat ++ List.replicate (y2.1.length - y2.2.1.toNat)
  ((⟨0, (⟨0, 0, 0⟩ : DataType), 0⟩ : zB) : zB)).drop ((0 : Int).toNat)).take (y2.2.1.toNat - (0 : Int).toNat))) else none) else none) else none)
def zg.k (N : Nat) : Kq := ⟨130, (ctv [.mov Ty.zB, .clo 188 0] [(Ty.sl Ty.zB)] [] [0] [(Ty.sl Ty.zB)] (zg N)), go [zp.k N, zem.k] {} [(0, .plain { slots := [(0, .own 5000000 Ty.zB), (1, .fn 188 []), (5, .val T6), (6, .val T6)], boxes := [] } [(Ty.sl Ty.zB), T6, T6] (zd (zg.r0 N) N))] Proofs.Tryz.func130 (hL := ⟨⟨_, _, rfl, by kernel_rfl⟩, trivial⟩)⟩
def zgv (N : Nat) (a0 : List zB) : Option ((List zB)) :=
 (zj8 40 a0).bind fun r1 => (zg N r1).bind fun r2 => some r2
def zgv.k (N : Nat) : Kq := ⟨152, (ctv [.val (Ty.sl Ty.zB)] [(Ty.sl Ty.zB)] [] [0] [(Ty.sl Ty.zB)] (zgv N)), go [zg.k N, zpj.k] {} [] Proofs.Tryz.func152⟩
def ze7 (N : Nat) (a0 : DataType) : Option Int :=
 (zdp N a0).bind fun r1 => some r1.1
def ze7.k (N : Nat) : Kq := ⟨101, (cvv [T6] [Ty.DataType] (ze7 N)), go [zdp.k N] {} [] Proofs.Tryz.func101⟩
def zde (N : Nat) (a0 : zB) (a1 : Int) (a2 : Int) : Option Bool :=
 (cond (a0.Offset != (-1)) (some (decide (a0.Offset < (w6 (a1 + a2))))) (some false)).bind fun g1 => (cond g1 ((ze7 N a0.zD).bind fun r2 =>
  some (decide (a1 < (w6 (a0.Offset + r2))))) (some false)).bind fun g3 => some g3
def zde.k (N : Nat) : Kq := ⟨153, (ctv [.val Ty.zB, .ptr T6 false [], .ptr T6 false []] [Ty.bool] [] [] [Ty.zB, T6, T6] (zde N)), go [ze7.k N] {ro := [1000000, 1000001], pk := [1000000, 1000001]} [] Proofs.Tryz.func153⟩
def zq.b0 (N : Nat) (s0 : List zB) (s7 : Int) (s8 : Int) (b1000000 : Int) (b1000001 : Int) : Option (Round Int ((List zB) × Int × Int × Int × Int)) :=
 cond (decide (s8 < s7)) ((idx s0 s8).bind fun x1001 => (zde N x1001 b1000000 b1000001).bind fun r1002 => cond r1002 (some (.result s8))
  (some (.again (s0, s7, (w6 (s8 + 1)), b1000000, b1000001)))) (some (.leave (s0, s7, s8, b1000000, b1000001)))
def zq.r0 (N : Nat) (x : (List zB) × Int × Int × Int × Int) := zq.b0 N x.1 x.2.1 x.2.2.1 x.2.2.2.1 x.2.2.2.2
def zq (N : Nat) (a0 : List zB) (a1 : Int) (a2 : Int) : Option Int :=
 (zaa (zq.r0 N) N (a0, (a0.length : Int), 0, a1, a2)).bind fun z2 => zbd z2 (fun z => some z) (fun y1 => some (-1))
def zq.k (N : Nat) : Kq := ⟨108, (ctv [.val (Ty.sl Ty.zB), .clo 153 2, .ptr T6 false [], .ptr T6 false []] [T6] [] [] [(Ty.sl Ty.zB), T6, T6] (zq N)), go [zde.k N] {ro := [1000000, 1000001], pk := [1000000, 1000001]} [(0, .rets { slots := [(0, .val (Ty.sl Ty.zB)), (1, .fn 153 [1000000, 1000001]), (7, .val T6), (8, .val T6)], boxes := [(1000000, T6, []), (1000001, T6, [])] } [(Ty.sl Ty.zB), T6, T6, T6, T6] (zaa (zq.r0 N) N))] Proofs.Tryz.func108 (hL := ⟨⟨_, _, rfl, by kernel_rfl⟩, trivial⟩)⟩
def zh.b0 (N : Nat) (s0 : List zB) (s5 : Int) (s6 : Int) (b1000000 : Int) (b1000001 : Int) : Option (Stp ((List zB) × Int × Int × Int × Int)) :=
 cond (decide (s6 < (s0.length : Int))) (if 0 ≤ s6 then (if s6 < (s0.length : Int) then ((s0[s6.toNat]?).bind fun x1001 =>
  (zde N x1001 b1000000 b1000001).bind fun r1002 => cond (!r1002) (if 0 ≤ s5 then (if s5 < (s0.length : Int) then ((s0[s5.toNat]?).bind fun x1003 =>
  some (.again ((s0.set s5.toNat x1001), (w6 (s5 + 1)), (w6 (s6 + 1)), b1000000, b1000001))) else none) else none)
  (some (.again (s0, s5, (w6 (s6 + 1)), b1000000, b1000001)))) else none) else none) (some (.leave (s0, s5, s6, b1000000, b1000001)))
def zh.r0 (N : Nat) (x : (List zB) × Int × Int × Int × Int) := zh.b0 N x.1 x.2.1 x.2.2.1 x.2.2.2.1 x.2.2.2.2
def zh (N : Nat) (a0 : List zB) (a1 : Int) (a2 : Int) : Option ((List zB)) :=
 (zq N a0 a1 a2).bind fun r1 => cond (r1 == (-1)) (some a0)
  ((zd (zh.r0 N) N (a0, r1, (w6 (r1 + 1)), a1, a2)).bind fun y2 =>
  if 0 ≤ y2.2.1 ∧ y2.2.1 ≤ (y2.1.length : Int) then (if 0 ≤ y2.2.1 ∧ y2.2.1 ≤ ((y2.1.take y2.2.1.toNat ++ List.replicate (y2.1.length - y2.2.1.toNat)
  ((⟨0, (⟨0, 0, 0⟩ : DataType), 0⟩ : zB) : zB)).length : Int) then (if 0 ≤ (0 : Int) ∧ (0 : Int) ≤ y2.2.1 then (some (((y2.1.take y2.2.1.toNat ++ List.replicate (y2.1.length - y2.2.1.toNat)
  ((⟨0, (⟨0, 0, 0⟩ : DataType), 0⟩ : zB) : zB)).drop ((0 : Int).toNat)).take (y2.2.1.toNat - (0 : Int).toNat))) else none) else none) else none)
def zh.k (N : Nat) : Kq := ⟨130, (ctv [.mov Ty.zB, .clo 153 2, .ptr T6 false [], .ptr T6 false []] [(Ty.sl Ty.zB)] [] [0] [(Ty.sl Ty.zB), T6, T6] (zh N)), go [zq.k N, zde.k N] {ro := [1000000, 1000001], pk := [1000000, 1000001]} [(0, .plain { slots := [(0, .own 5000000 Ty.zB), (1, .fn 153 [1000000, 1000001]), (5, .val T6), (6, .val T6)], boxes := [(1000000, T6, []), (1000001, T6, [])] } [(Ty.sl Ty.zB), T6, T6, T6, T6] (zd (zh.r0 N) N))] Proofs.Tryz.func130 (hL := ⟨⟨_, _, rfl, by kernel_rfl⟩, trivial⟩)⟩
def zeo (N : Nat) (a0 : List zB) (a1 : Int) (a2 : Int) : Option ((List zB)) :=
 (zj8 40 a0).bind fun r1 => (zh N r1 a1 a2).bind fun r2 => some r2
def zeo.k (N : Nat) : Kq := ⟨107, (ctv [.val (Ty.sl Ty.zB), .val T6, .val T6] [(Ty.sl Ty.zB)] [] [0] [(Ty.sl Ty.zB), T6, T6] (zeo N)), go [zh.k N, zpj.k] {} [] Proofs.Tryz.func107⟩
def zal.b0 (N : Nat) (s0 : List zB) (s7 : Int) (s8 : Int) (b3 : zB) : Option (Round Int ((List zB) × Int × Int × zB)) :=
 cond (decide (s8 < s7)) ((idx s0 s8).bind fun x1001 =>
  cond (zc2 [(b3.Register == x1001.Register), (b3.zD.Kind == x1001.zD.Kind), (b3.zD.Length == x1001.zD.Length), (b3.zD.Scale == x1001.zD.Scale), (b3.Offset == x1001.Offset)])
  (some (.result s8)) (some (.again (s0, s7, (w6 (s8 + 1)), b3)))) (some (.leave (s0, s7, s8, b3)))
def zal.r0 (N : Nat) (x : (List zB) × Int × Int × zB) := zal.b0 N x.1 x.2.1 x.2.2.1 x.2.2.2
def zal (N : Nat) (a0 : List zB) (a1 : zB) : Option Int :=
 (zaa (zal.r0 N) N (a0, (a0.length : Int), 0, a1)).bind fun z2 => zbd z2 (fun z => some z) (fun y1 => some (-1))
def zal.k (N : Nat) : Kq := ⟨109, (cvv [T6] [(Ty.sl Ty.zB), Ty.zB] (zal N)), go [] {} [(0, .rets { slots := [(0, .val (Ty.sl Ty.zB)), (3, .ptr 3 0), (7, .val T6), (8, .val T6)], boxes := [(3, Ty.zB, [])] } [(Ty.sl Ty.zB), T6, T6, Ty.zB] (zaa (zal.r0 N) N))] Proofs.Tryz.func109 (hL := ⟨⟨_, _, rfl, by kernel_rfl⟩, trivial⟩)⟩
def za2 (N : Nat) (a0 : List zB) (a1 : zB) : Option Bool :=
 (zal N a0 a1).bind fun r1 => some (decide (r1 ≥ 0))
def za2.k (N : Nat) : Kq := ⟨62, (cvv [Ty.bool] [(Ty.sl Ty.zB), Ty.zB] (za2 N)), go [zal.k N] {} [] Proofs.Tryz.func62⟩
def zfh (N : Nat) (a0 : zC) (a1 : List zB) : Option ((List zB)) :=
 cond a0.Place.Based ((zgv N a1).bind fun r1 => some r1) ((ze7 N a0.zD).bind fun r2 => (zeo N a1 a0.Place.Offset r2).bind fun r3 =>
  (cond (a0.Op == 1) ((za2 N a1 (⟨a0.R, a0.zD, (-1)⟩ : zB)).bind fun r4 => some r4) (some false)).bind fun g5 =>
  cond g5 (cond (Nat.ble ((r3.length + ([(⟨a0.R, a0.zD, a0.Place.Offset⟩ : zB)] : List zB).length) * 40) zao)
  (some (r3 ++ ([(⟨a0.R, a0.zD, a0.Place.Offset⟩ : zB)] : List zB))) none) (some r3))
def zfh.k (N : Nat) : Kq := ⟨106, (ctv [.val Ty.zC, .val (Ty.sl Ty.zB)] [(Ty.sl Ty.zB)] [] [0] [Ty.zC, (Ty.sl Ty.zB)] (zfh N)), go [za2.k N, ze7.k N, zeo.k N, zgv.k N] {lits := [17, 40]} [] Proofs.Tryz.func106⟩
def zul : Ct U := { params := [.mov Ty.zB], results := [(Ty.sl Ty.zB)], outs := [], fresh := [0], fn := app U [(Ty.sl Ty.zB)] (R := PT U [(Ty.sl Ty.zB)]) (zlo Proofs.Tryz.ltF Proofs.Tryz.okF) }
theorem zul.meets : zhh (zom [] [] [] [] [] [] [] []) 102 zul := zvr
def zul.k : Kq := ⟨102, zul, zul.meets⟩
def zfw (N : Nat) (a0 : zC) (a1 : List zB) : Option ((List zB)) :=
 cond (a0.Op == 0) ((zba N a0 a1).bind fun r1 => (zlo Proofs.Tryz.ltF Proofs.Tryz.okF r1).bind fun r2 => some r2) (cond (a0.Op == 4)
  ((zco N a1 a0.R).bind fun r3 => cond (Nat.ble ((r3.length + ([(⟨a0.R, a0.zD, (-1)⟩ : zB)] : List zB).length) * 40) zao)
  ((zlo Proofs.Tryz.ltF Proofs.Tryz.okF (r3 ++ ([(⟨a0.R, a0.zD, (-1)⟩ : zB)] : List zB))).bind fun r4 => some r4) none) ((cond (a0.Op == 2) (some (a0.Op == 2))
  (some (a0.Op == 21))).bind fun q5 => cond q5 ((zco N a1 a0.R).bind fun r6 => some r6) (cond (a0.Op == 3) ((zco N a1 a0.R).bind fun r7 =>
  (za3 N a1 a0.A a0.R).bind fun r8 => cond (Nat.ble ((r7.length + r8.length) * 40) zao) ((zlo Proofs.Tryz.ltF Proofs.Tryz.okF (r7 ++ r8)).bind fun r9 => some r9) none)
  ((cond (a0.Op == 1) (some (a0.Op == 1)) (cond (a0.Op == 9) (some (a0.Op == 9)) (some (a0.Op == 10)))).bind fun q10 => cond q10 ((zfh N a0 a1).bind fun r11 =>
  (zlo Proofs.Tryz.ltF Proofs.Tryz.okF r11).bind fun r12 => some r12) ((cond (a0.Op == 14) (some (a0.Op == 14)) (cond (a0.Op == 15) (some (a0.Op == 15))
  (some (a0.Op == 16)))).bind fun q13 => cond q13 ((zeo N a1 a0.Pointer 16).bind fun r14 => some r14) (some a1))))))
def zfw.k (N : Nat) : Kq := ⟨58, (cvv [(Ty.sl Ty.zB)] [Ty.zC, (Ty.sl Ty.zB)] (zfw N)), go [zul.k, zba.k N, zco.k N, za3.k N, zfh.k N, zeo.k N] {lits := [24, 45], bj := [27, 48, 56]} [] Proofs.Tryz.func58⟩
def zc5 (N : Nat) (a0 : zB) (a1 : List zB) : Option Bool :=
 (za2 N a1 a0).bind fun r1 => some (!r1)
def zc5.k (N : Nat) : Kq := ⟨132, (ctv [.val Ty.zB, .ptr (Ty.sl Ty.zB) false []] [Ty.bool] [] [] [Ty.zB, (Ty.sl Ty.zB)] (zc5 N)), go [za2.k N] {ro := [1000000], pk := [1000000]} [] Proofs.Tryz.func132⟩
def zt.b0 (N : Nat) (s0 : List zB) (s7 : Int) (s8 : Int) (b1000000 : List zB) : Option (Round Int ((List zB) × Int × Int × (List zB))) :=
 cond (decide (s8 < s7)) ((idx s0 s8).bind fun x1001 => (zc5 N x1001 b1000000).bind fun r1002 => cond r1002 (some (.result s8))
  (some (.again (s0, s7, (w6 (s8 + 1)), b1000000)))) (some (.leave (s0, s7, s8, b1000000)))
def zt.r0 (N : Nat) (x : (List zB) × Int × Int × (List zB)) := zt.b0 N x.1 x.2.1 x.2.2.1 x.2.2.2
def zt (N : Nat) (a0 : List zB) (a1 : List zB) : Option Int :=
 (zaa (zt.r0 N) N (a0, (a0.length : Int), 0, a1)).bind fun z2 => zbd z2 (fun z => some z) (fun y1 => some (-1))
def zt.k (N : Nat) : Kq := ⟨108, (ctv [.val (Ty.sl Ty.zB), .clo 132 1, .ptr (Ty.sl Ty.zB) false []] [T6] [] [] [(Ty.sl Ty.zB), (Ty.sl Ty.zB)] (zt N)), go [zc5.k N] {ro := [1000000], pk := [1000000]} [(0, .rets { slots := [(0, .val (Ty.sl Ty.zB)), (1, .fn 132 [1000000]), (7, .val T6), (8, .val T6)], boxes := [(1000000, (Ty.sl Ty.zB), [])] } [(Ty.sl Ty.zB), T6, T6, (Ty.sl Ty.zB)] (zaa (zt.r0 N) N))] Proofs.Tryz.func108 (hL := ⟨⟨_, _, rfl, by kernel_rfl⟩, trivial⟩)⟩
def zj.b0 (N : Nat) (s0 : List zB) (s5 : Int) (s6 : Int) (b1000000 : List zB) : Option (Stp ((List zB) × Int × Int × (List zB))) :=
 cond (decide (s6 < (s0.length : Int))) (if 0 ≤ s6 then (if s6 < (s0.length : Int) then ((s0[s6.toNat]?).bind fun x1001 => (zc5 N x1001 b1000000).bind fun r1002 =>
  cond (!r1002) (if 0 ≤ s5 then (if s5 < (s0.length : Int) then ((s0[s5.toNat]?).bind fun x1003 =>
  some (.again ((s0.set s5.toNat x1001), (w6 (s5 + 1)), (w6 (s6 + 1)), b1000000))) else none) else none)
  (some (.again (s0, s5, (w6 (s6 + 1)), b1000000)))) else none) else none) (some (.leave (s0, s5, s6, b1000000)))
def zj.r0 (N : Nat) (x : (List zB) × Int × Int × (List zB)) := zj.b0 N x.1 x.2.1 x.2.2.1 x.2.2.2
def zj (N : Nat) (a0 : List zB) (a1 : List zB) : Option ((List zB)) :=
 (zt N a0 a1).bind fun r1 => cond (r1 == (-1)) (some a0)
  ((zd (zj.r0 N) N (a0, r1, (w6 (r1 + 1)), a1)).bind fun y2 =>
  if 0 ≤ y2.2.1 ∧ y2.2.1 ≤ (y2.1.length : Int) then (if 0 ≤ y2.2.1 ∧ y2.2.1 ≤ ((y2.1.take y2.2.1.toNat ++ List.replicate (y2.1.length - y2.2.1.toNat)
  ((⟨0, (⟨0, 0, 0⟩ : DataType), 0⟩ : zB) : zB)).length : Int) then (if 0 ≤ (0 : Int) ∧ (0 : Int) ≤ y2.2.1 then (some (((y2.1.take y2.2.1.toNat ++ List.replicate (y2.1.length - y2.2.1.toNat)
  ((⟨0, (⟨0, 0, 0⟩ : DataType), 0⟩ : zB) : zB)).drop ((0 : Int).toNat)).take (y2.2.1.toNat - (0 : Int).toNat))) else none) else none) else none)
def zj.k (N : Nat) : Kq := ⟨130, (ctv [.mov Ty.zB, .clo 132 1, .ptr (Ty.sl Ty.zB) false []] [(Ty.sl Ty.zB)] [] [0] [(Ty.sl Ty.zB), (Ty.sl Ty.zB)] (zj N)), go [zt.k N, zc5.k N] {ro := [1000000], pk := [1000000]} [(0, .plain { slots := [(0, .own 5000000 Ty.zB), (1, .fn 132 [1000000]), (5, .val T6), (6, .val T6)], boxes := [(1000000, (Ty.sl Ty.zB), [])] } [(Ty.sl Ty.zB), T6, T6, (Ty.sl Ty.zB)] (zd (zj.r0 N) N))] Proofs.Tryz.func130 (hL := ⟨⟨_, _, rfl, by kernel_rfl⟩, trivial⟩)⟩
def zfv (N : Nat) (a0 : List zB) (a1 : List zB) : Option ((List zB)) :=
 (zj8 40 a0).bind fun r1 => (zj N r1 a1).bind fun r2 => some r2
def zfv.k (N : Nat) : Kq := ⟨88, (cvv [(Ty.sl Ty.zB)] [(Ty.sl Ty.zB), (Ty.sl Ty.zB)] (zfv N)), go [zj.k N, zpj.k] {} [] Proofs.Tryz.func88⟩
def ze.b0 (N : Nat) (s3 : List Bool) (s4 : List Bool) (s5 : List (List zB)) (s6 : List Bool) (s7 : List Int) (s28 : Int) (s29 : Int) (b1 : zF) : Option (Stp ((List Bool) × (List Bool) × (List (List zB)) × (List Bool) × (List Int) × Int × Int × zF)) :=
 cond (decide (s29 < s28)) ((idx s3 s29).bind fun x1001 => (cond x1001 (some true) ((idx s4 s29).bind fun x1002 => some (!x1002))).bind fun g1003 =>
  cond g1003 (if 0 ≤ s29 then (if s29 < (s6.length : Int) then ((s6[s29.toNat]?).bind fun x1004 => cond (Nat.ble ((s7.length + ([s29] : List Int).length) * 8) zao)
  (some (.again (s3, s4, s5, (s6.set s29.toNat true), (s7 ++ ([s29] : List Int)), s28, (w6 (s29 + 1)), b1))) none) else none) else none)
  (some (.again (s3, s4, s5, s6, s7, s28, (w6 (s29 + 1)), b1)))) (some (.leave (s3, s4, s5, s6, s7, s28, s29, b1)))
def ze.r0 (N : Nat) (x : (List Bool) × (List Bool) × (List (List zB)) × (List Bool) × (List Int) × Int × Int × zF) := ze.b0 N x.1 x.2.1 x.2.2.1 x.2.2.2.1 x.2.2.2.2.1 x.2.2.2.2.2.1 x.2.2.2.2.2.2.1 x.2.2.2.2.2.2.2
def ze.b4 (N : Nat) (s3 : List Bool) (s4 : List Bool) (s5 : List (List zB)) (s6 : List Bool) (s10 : List zB) (s71 : List Int) (s72 : Int) (s73 : Int) (s7 : List Int) (b1 : zF) : Option (Stp ((List Bool) × (List Bool) × (List (List zB)) × (List Bool) × (List zB) × (List Int) × Int × Int × (List Int) × zF)) :=
 cond (decide (s73 < s72)) ((idx s71 s73).bind fun x5001 => (idx s3 x5001).bind fun x5002 => (cond x5002 (some true) ((idx s4 x5001).bind fun x5003 =>
  some (!x5003))).bind fun g5004 => cond g5004 (some (.again (s3, s4, s5, s6, s10, s71, s72, (w6 (s73 + 1)), s7, b1)))
  (if 0 ≤ x5001 then (if x5001 < (s6.length : Int) then ((s6[x5001.toNat]?).bind fun x5005 =>
  cond x5005 (if 0 ≤ x5001 then (if x5001 < (s5.length : Int) then ((s5[x5001.toNat]?).bind fun x5006 => (zfv N x5006 s10).bind fun r5007 =>
  if 0 ≤ x5001 then (if x5001 < (s6.length : Int) then ((s6[x5001.toNat]?).bind fun x5008 => (cond (!x5008) (some true)
  (if 0 ≤ x5001 then (if x5001 < (s5.length : Int) then ((s5[x5001.toNat]?).bind fun x5009 =>
  some (decide ((r5007.length : Int) < (x5009.length : Int)))) else none) else none)).bind fun g5010 =>
  cond g5010 (if 0 ≤ x5001 then (if x5001 < (s6.length : Int) then ((s6[x5001.toNat]?).bind fun x5011 =>
  if 0 ≤ x5001 then (if x5001 < (s5.length : Int) then ((s5[x5001.toNat]?).bind fun x5012 => cond (Nat.ble ((s7.length + ([x5001] : List Int).length) * 8) zao)
  (some (.again (s3, s4, (s5.set x5001.toNat r5007), (s6.set x5001.toNat true), s10, s71, s72, (w6 (s73 + 1)), (s7 ++ ([x5001] : List Int)), b1))) none) else none) else none) else none) else none)
  (some (.again (s3, s4, s5, s6, s10, s71, s72, (w6 (s73 + 1)), s7, b1)))) else none) else none) else none) else none)
  (if 0 ≤ x5001 then (if x5001 < (s6.length : Int) then ((s6[x5001.toNat]?).bind fun x5013 => (cond (!x5013) (some true)
  (if 0 ≤ x5001 then (if x5001 < (s5.length : Int) then ((s5[x5001.toNat]?).bind fun x5014 =>
  some (decide ((s10.length : Int) < (x5014.length : Int)))) else none) else none)).bind fun g5015 =>
  cond g5015 (if 0 ≤ x5001 then (if x5001 < (s6.length : Int) then ((s6[x5001.toNat]?).bind fun x5016 =>
  if 0 ≤ x5001 then (if x5001 < (s5.length : Int) then ((s5[x5001.toNat]?).bind fun x5017 => cond (Nat.ble ((s7.length + ([x5001] : List Int).length) * 8) zao)
  (some (.again (s3, s4, (s5.set x5001.toNat s10), (s6.set x5001.toNat true), s10, s71, s72, (w6 (s73 + 1)), (s7 ++ ([x5001] : List Int)), b1))) none) else none) else none) else none) else none)
  (some (.again (s3, s4, s5, s6, s10, s71, s72, (w6 (s73 + 1)), s7, b1)))) else none) else none)) else none) else none))
  (some (.leave (s3, s4, s5, s6, s10, s71, s72, s73, s7, b1)))
def ze.r4 (N : Nat) (x : (List Bool) × (List Bool) × (List (List zB)) × (List Bool) × (List zB) × (List Int) × Int × Int × (List Int) × zF) := ze.b4 N x.1 x.2.1 x.2.2.1 x.2.2.2.1 x.2.2.2.2.1 x.2.2.2.2.2.1 x.2.2.2.2.2.2.1 x.2.2.2.2.2.2.2.1 x.2.2.2.2.2.2.2.2.1 x.2.2.2.2.2.2.2.2.2
def ze.b2 (N : Nat) (s3 : List Bool) (s4 : List Bool) (s5 : List (List zB)) (s6 : List Bool) (s7 : List Int) (b1 : zF) : Option (Stp ((List Bool) × (List Bool) × (List (List zB)) × (List Bool) × (List Int) × zF)) :=
 cond (decide ((s7.length : Int) > 0)) (if 0 ≤ (0 : Int) then (if (0 : Int) < (s7.length : Int) then ((s7[(0 : Int).toNat]?).bind fun x3001 =>
  if 0 ≤ (1 : Int) ∧ (1 : Int) ≤ (s7.length : Int) then ((idx b1.zA x3001).bind fun x3002 =>
  if 0 ≤ x3001 then (if x3001 < (s5.length : Int) then ((s5[x3001.toNat]?).bind fun x3003 => (zfw N x3002 x3003).bind fun r3004 =>
  (zcv b1 x3001).bind fun r3005 =>
  (zd (ze.r4 N) N (s3, s4, s5, s6, r3004, r3005, (r3005.length : Int), 0, (s7.drop ((1 : Int).toNat)), b1)).bind fun y3006 =>
  some (.again (y3006.1, y3006.2.1, y3006.2.2.1, y3006.2.2.2.1, y3006.2.2.2.2.2.2.2.2.1, y3006.2.2.2.2.2.2.2.2.2))) else none) else none) else none) else none) else none)
  (some (.leave (s3, s4, s5, s6, s7, b1)))
def ze.r2 (N : Nat) (x : (List Bool) × (List Bool) × (List (List zB)) × (List Bool) × (List Int) × zF) := ze.b2 N x.1 x.2.1 x.2.2.1 x.2.2.2.1 x.2.2.2.2.1 x.2.2.2.2.2
def ze (N : Nat) (a0 : zF) : Option ((List (List zB))) :=
 (zy N a0).bind fun r1 => (zw N a0 r1).bind fun r2 =>
  if 0 ≤ (a0.zA.length : Int) then (if (a0.zA.length : Int) ≤ (a0.zA.length : Int) then (cond (Nat.ble ((a0.zA.length : Int).toNat * 24) zao)
  (if 0 ≤ (a0.zA.length : Int) then (if (a0.zA.length : Int) ≤ (a0.zA.length : Int) then (cond (Nat.ble ((a0.zA.length : Int).toNat * 1) zao)
  ((zd (ze.r0 N) N (r1, r2, (List.replicate (a0.zA.length : Int).toNat ([] : List zB)), (List.replicate (a0.zA.length : Int).toNat (false : Bool)), [], ((List.replicate (a0.zA.length : Int).toNat ([] : List zB)).length : Int), 0, a0)).bind fun y3 =>
  (zd (ze.r2 N) N (y3.1, y3.2.1, y3.2.2.1, y3.2.2.2.1, y3.2.2.2.2.1, y3.2.2.2.2.2.2.2)).bind fun y4 =>
  some y4.2.2.1) none) else none) else none) none) else none) else none
def ze.k (N : Nat) : Kq := ⟨31, (cvv [(Ty.sl (Ty.sl Ty.zB))] [Ty.zF] (ze N)), go [zy.k N, zfw.k N, zcv.k, zw.k N, zfv.k N] {lits := [48, 123]} [(0, .plain { slots := [(1, .ptr 1 0), (3, .val (Ty.sl Ty.bool)), (4, .val (Ty.sl Ty.bool)), (5, .own 5000005 (Ty.sl Ty.zB)), (6, .own 5000006 Ty.bool), (7, .own 5000007 T6), (28, .val T6), (29, .val T6)], boxes := [(1, Ty.zF, [])] } [(Ty.sl Ty.bool), (Ty.sl Ty.bool), (Ty.sl (Ty.sl Ty.zB)), (Ty.sl Ty.bool), (Ty.sl T6), T6, T6, Ty.zF] (zd (ze.r0 N) N)), (4, .plain { slots := [(1, .ptr 1 0), (3, .val (Ty.sl Ty.bool)), (4, .val (Ty.sl Ty.bool)), (5, .own 5000005 (Ty.sl Ty.zB)), (6, .own 5000006 Ty.bool), (10, .val (Ty.sl Ty.zB)), (71, .val (Ty.sl T6)), (72, .val T6), (73, .val T6), (7, .own 5000007 T6)], boxes := [(1, Ty.zF, [])] } [(Ty.sl Ty.bool), (Ty.sl Ty.bool), (Ty.sl (Ty.sl Ty.zB)), (Ty.sl Ty.bool), (Ty.sl Ty.zB), (Ty.sl T6), T6, T6, (Ty.sl T6), Ty.zF] (zd (ze.r4 N) N)), (2, .plain { slots := [(1, .ptr 1 0), (3, .val (Ty.sl Ty.bool)), (4, .val (Ty.sl Ty.bool)), (5, .own 5000005 (Ty.sl Ty.zB)), (6, .own 5000006 Ty.bool), (7, .own 5000007 T6)], boxes := [(1, Ty.zF, [])] } [(Ty.sl Ty.bool), (Ty.sl Ty.bool), (Ty.sl (Ty.sl Ty.zB)), (Ty.sl Ty.bool), (Ty.sl T6), Ty.zF] (zd (ze.r2 N) N))] Proofs.Tryz.func31 (hL := ⟨⟨_, _, rfl, by kernel_rfl⟩, ⟨_, _, rfl, by kernel_rfl⟩, ⟨_, _, rfl, by kernel_rfl⟩, trivial⟩)⟩
def zfd (a0 : List zB) : Option Bool :=
 some (decide ((a0.length : Int) > 60))
def zfd.k : Kq := ⟨33, (cvv [Ty.bool] [(Ty.sl Ty.zB)] zfd), go [] {} [] Proofs.Tryz.func33⟩
def zu.b0 (N : Nat) (s0 : List (List zB)) (s7 : Int) (s8 : Int) : Option (Round Int ((List (List zB)) × Int × Int)) :=
 cond (decide (s8 < s7)) ((idx s0 s8).bind fun x1001 => (zfd x1001).bind fun r1002 => cond r1002 (some (.result s8))
  (some (.again (s0, s7, (w6 (s8 + 1)))))) (some (.leave (s0, s7, s8)))
def zu.r0 (N : Nat) (x : (List (List zB)) × Int × Int) := zu.b0 N x.1 x.2.1 x.2.2
def zu (N : Nat) (a0 : List (List zB)) : Option Int :=
 (zaa (zu.r0 N) N (a0, (a0.length : Int), 0)).bind fun z2 => zbd z2 (fun z => some z) (fun y1 => some (-1))
def zu.k (N : Nat) : Kq := ⟨89, (ctv [.val (Ty.sl (Ty.sl Ty.zB)), .clo 33 0] [T6] [] [] [(Ty.sl (Ty.sl Ty.zB))] (zu N)), go [zfd.k] {} [(0, .rets { slots := [(0, .val (Ty.sl (Ty.sl Ty.zB))), (1, .fn 33 []), (7, .val T6), (8, .val T6)], boxes := [] } [(Ty.sl (Ty.sl Ty.zB)), T6, T6] (zaa (zu.r0 N) N))] Proofs.Tryz.func89 (hL := ⟨⟨_, _, rfl, by kernel_rfl⟩, trivial⟩)⟩
def zbn (N : Nat) (a0 : List (List zB)) : Option Bool :=
 (zu N a0).bind fun r1 => some (decide (r1 ≥ 0))
def zbn.k (N : Nat) : Kq := ⟨32, (ctv [.val (Ty.sl (Ty.sl Ty.zB)), .clo 33 0] [Ty.bool] [] [] [(Ty.sl (Ty.sl Ty.zB))] (zbn N)), go [zu.k N] {} [] Proofs.Tryz.func32⟩
def zcp (N : Nat) (a0 : zI) (a1 : zF) : Option ((List (List zB)) × Int) :=
 (zfi N a0 a1).bind fun r1 => cond (r1 != 0) (some ([], r1)) ((ze N a1).bind fun r2 => (zbn N r2).bind fun r3 =>
  cond r3 (some ([], 2)) (some (r2, 0)))
def zcp.k (N : Nat) : Kq := ⟨9, (cvv [(Ty.sl (Ty.sl Ty.zB)), T6] [Ty.zI, Ty.zF] (zcp N)), go [zfi.k N, ze.k N, zbn.k N] {} [] Proofs.Tryz.func9⟩
def zd0 (a0 : zC) : Option Bool :=
 (cond (a0.Op == 0) (some (!a0.Place.Based)) (some false)).bind fun g1 => some g1
def zd0.k : Kq := ⟨41, (cvv [Ty.bool] [Ty.zC] zd0), go [] {} [] Proofs.Tryz.func41⟩
def zgh (N : Nat) (a0 : List zB) (a1 : zC) (a2 : Int) : Option Bool :=
 (za2 N a0 (⟨a2, a1.zD, a1.Place.Offset⟩ : zB)).bind fun r1 => some r1
def zgh.k (N : Nat) : Kq := ⟨42, (cvv [Ty.bool] [(Ty.sl Ty.zB), Ty.zC, T6] (zgh N)), go [za2.k N] {} [] Proofs.Tryz.func42⟩
def zdv.b0 (N : Nat) (s3 : List Int) (s4 : Int) (s8 : List Int) (s9 : Int) (s10 : Int) : Option (Stp ((List Int) × Int × (List Int) × Int × Int)) :=
 cond (decide (s10 < s9)) ((idx s8 s10).bind fun x1001 => cond (x1001 != (-1)) (cond (Nat.ble ((s3.length + ([(w6 (s4 + 1))] : List Int).length) * 8) zao)
  (some (.again ((s3 ++ ([(w6 (s4 + 1))] : List Int)), (w6 (s4 + 1)), s8, s9, (w6 (s10 + 1))))) none)
  (cond (Nat.ble ((s3.length + ([s4] : List Int).length) * 8) zao) (some (.again ((s3 ++ ([s4] : List Int)), s4, s8, s9, (w6 (s10 + 1))))) none))
  (some (.leave (s3, s4, s8, s9, s10)))
def zdv.r0 (N : Nat) (x : (List Int) × Int × (List Int) × Int × Int) := zdv.b0 N x.1 x.2.1 x.2.2.1 x.2.2.2.1 x.2.2.2.2
def zdv (N : Nat) (a0 : List Int) : Option ((List Int)) :=
 (zd (zdv.r0 N) N (([0] : List Int), 0, a0, (a0.length : Int), 0)).bind fun y1 => some y1.1
def zdv.k (N : Nat) : Kq := ⟨43, (cvv [(Ty.sl T6)] [(Ty.sl T6)] (zdv N)), go [] {lits := [20]} [(0, .plain { slots := [(3, .own 5000003 T6), (4, .val T6), (8, .val (Ty.sl T6)), (9, .val T6), (10, .val T6)], boxes := [] } [(Ty.sl T6), T6, (Ty.sl T6), T6, T6] (zd (zdv.r0 N) N))] Proofs.Tryz.func43 (hL := ⟨⟨_, _, rfl, by kernel_rfl⟩, trivial⟩)⟩
def zdt.b0 (N : Nat) (s1 : List Int) (s5 : List zP) (s8 : List zP) (s9 : Int) (s10 : Int) : Option (Stp ((List Int) × (List zP) × (List zP) × Int × Int)) :=
 cond (decide (s10 < s9)) ((idx s8 s10).bind fun x1001 => (idx s1 x1001.From).bind fun x1002 => (idx s1 x1001.To).bind fun x1003 => (idx s1 x1001.Handler).bind fun x1004 =>
  cond (Nat.ble ((s5.length + ([(⟨x1002, x1003, x1001.Exception, x1004⟩ : zP)] : List zP).length) * 32) zao)
  (some (.again (s1, (s5 ++ ([(⟨x1002, x1003, x1001.Exception, x1004⟩ : zP)] : List zP)), s8, s9, (w6 (s10 + 1))))) none) (some (.leave (s1, s5, s8, s9, s10)))
def zdt.r0 (N : Nat) (x : (List Int) × (List zP) × (List zP) × Int × Int) := zdt.b0 N x.1 x.2.1 x.2.2.1 x.2.2.2.1 x.2.2.2.2
def zdt (N : Nat) (a0 : List zP) (a1 : List Int) : Option ((List zP)) :=
 (zd (zdt.r0 N) N (a1, [], a0, (a0.length : Int), 0)).bind fun y1 => some y1.2.1
def zdt.k (N : Nat) : Kq := ⟨45, (cvv [(Ty.sl Ty.zP)] [(Ty.sl Ty.zP), (Ty.sl T6)] (zdt N)), go [] {lits := [33]} [(0, .plain { slots := [(1, .val (Ty.sl T6)), (5, .own 5000005 Ty.zP), (8, .val (Ty.sl Ty.zP)), (9, .val T6), (10, .val T6)], boxes := [] } [(Ty.sl T6), (Ty.sl Ty.zP), (Ty.sl Ty.zP), T6, T6] (zd (zdt.r0 N) N))] Proofs.Tryz.func45 (hL := ⟨⟨_, _, rfl, by kernel_rfl⟩, trivial⟩)⟩
def zdh.b0 (N : Nat) (s0 : List zB) (s11 : List zB) (s12 : Int) (s13 : Int) (b3 : zC) (b4 : zC) : Option (Round zC ((List zB) × (List zB) × Int × Int × zC × zC)) :=
 cond (decide (s13 < s12)) ((idx s11 s13).bind fun x1001 => (cond (x1001.Register != b3.R) ((zgh N s0 b3 x1001.Register).bind fun r1002 => some r1002)
  (some false)).bind fun g1003 =>
  cond g1003 (some (.result (⟨3, b3.R, x1001.Register, 0, 0, (⟨false, 0, 0⟩ : zK), (⟨false, 0, 0⟩ : zK), (⟨0, 0, 0⟩ : DataType), (⟨0, 0, 0⟩ : DataType), false, false, (⟨0, 0⟩ : Number), (⟨#[]⟩ : ByteArray), (⟨#[]⟩ : ByteArray), 0, 0, 0, 0⟩ : zC)))
  (some (.again (s0, s11, s12, (w6 (s13 + 1)), b3, b4)))) (some (.leave (s0, s11, s12, s13, b3, b4)))
def zdh.r0 (N : Nat) (x : (List zB) × (List zB) × Int × Int × zC × zC) := zdh.b0 N x.1 x.2.1 x.2.2.1 x.2.2.2.1 x.2.2.2.2.1 x.2.2.2.2.2
def zdh (N : Nat) (a0 : List zB) (a1 : zC) : Option zC :=
 (zd0 a1).bind fun r1 => cond (!r1) (some a1)
  ((zaa (zdh.r0 N) N (a0, a0, (a0.length : Int), 0, a1, (⟨0, 0, 0, 0, 0, (⟨false, 0, 0⟩ : zK), (⟨false, 0, 0⟩ : zK), (⟨0, 0, 0⟩ : DataType), (⟨0, 0, 0⟩ : DataType), false, false, (⟨0, 0⟩ : Number), (⟨#[]⟩ : ByteArray), (⟨#[]⟩ : ByteArray), 0, 0, 0, 0⟩ : zC))).bind fun z3 =>
  zbd z3 (fun z => some z) (fun y2 => some y2.2.2.2.2.1))
def zdh.k (N : Nat) : Kq := ⟨47, (cvv [Ty.zC] [(Ty.sl Ty.zB), Ty.zC] (zdh N)), go [zd0.k, zgh.k N] {} [(0, .rets { slots := [(0, .val (Ty.sl Ty.zB)), (3, .ptr 3 0), (4, .ptr 4 0), (11, .val (Ty.sl Ty.zB)), (12, .val T6), (13, .val T6)], boxes := [(3, Ty.zC, []), (4, Ty.zC, [])] } [(Ty.sl Ty.zB), (Ty.sl Ty.zB), T6, T6, Ty.zC, Ty.zC] (zaa (zdh.r0 N) N))] Proofs.Tryz.func47 (hL := ⟨⟨_, _, rfl, by kernel_rfl⟩, trivial⟩)⟩
def zil (a0 : zC) (a1 : List Int) : Option zC :=
 (zch a0.Op).bind fun r1 => cond r1 ((idx a1 a0.Target).bind fun x2 =>
  some (⟨a0.Op, a0.R, a0.A, a0.B, a0.zO, a0.Place, a0.From, a0.zD, a0.Second, a0.Half, a0.zN, a0.Number, a0.Text, a0.Other, a0.Mask, x2, a0.Pointer, a0.Source⟩ : zC))
  (some a0)
def zil.k : Kq := ⟨46, (cvv [Ty.zC] [Ty.zC, (Ty.sl T6)] zil), go [zch.k] {} [] Proofs.Tryz.func46⟩
def x44 : Ct U := { params := [.val (Ty.sl Ty.bool)], results := [(Ty.sl Ty.bool)], outs := [], fresh := [0], fn := app U [(Ty.sl Ty.bool)] (R := PT U [(Ty.sl Ty.bool)]) (zj8 1) }
theorem x44.meets : zhh (zom [] [] [] [] [] [] [] []) 44 x44 :=
 zsg zvx (zww (l := []) rfl all_nil) (zv0 (l := []) rfl all_nil) (Lp := pick []) Proofs.Tryz.func44 (by kernel_rfl) (zw2 (l := []) rfl all_nil) (fun y => by kernel_rfl) (e := 4) (t := Ty.bool) rfl rfl rfl rfl rfl rfl rfl (by kernel_rfl) rfl rfl rfl rfl rfl rfl (fun xs => by kernel_rfl) fun ds y h => by
  obtain ⟨xs, rfl, hx⟩ := z0g h; refine ⟨xs, rfl, fun b hb => ?_⟩; cases b with
  | true =>
   have := hb rfl; subst this; exact Eq.trans (by kernel_rfl) hx
  | false => exact Eq.trans (b := cond (Nat.ble ((0 + xs.length) * 1) zao) (some xs) none) (by kernel_rfl) (by rw [Nat.zero_add]; exact hx)
def x44.k : Kq := ⟨44, x44, x44.meets⟩
def zbc.b0 (N : Nat) (s7 : List (List zB)) (s9 : List Int) (s10 : Int) (s29 : List zC) (s30 : Int) (s31 : Int) (b3 : zF) (b4 : zF) (b5 : zW) : Option (Stp ((List (List zB)) × (List Int) × Int × (List zC) × Int × Int × zF × zF × zW)) :=
 cond (decide (s31 < s30)) ((idx s29 s31).bind fun x1001 => (cond (decide (s31 < (w6 ((b3.zA.length : Int) - 1))))
  ((zd0 x1001).bind fun r1002 => some r1002) (some false)).bind fun g1003 => (cond g1003 ((idx s7 s31).bind fun x1004 =>
  (zgh N x1004 x1001 x1001.R).bind fun r1005 => some r1005) (some false)).bind fun g1006 =>
  cond g1006 (cond (Nat.ble ((s9.length + ([(-1)] : List Int).length) * 8) zao)
  (some (.again (s7, (s9 ++ ([(-1)] : List Int)), s10, s29, s30, (w6 (s31 + 1)), b3, b4, b5))) none)
  (cond (Nat.ble ((s9.length + ([s10] : List Int).length) * 8) zao)
  (some (.again (s7, (s9 ++ ([s10] : List Int)), (w6 (s10 + 1)), s29, s30, (w6 (s31 + 1)), b3, b4, b5))) none))
  (some (.leave (s7, s9, s10, s29, s30, s31, b3, b4, b5)))
def zbc.r0 (N : Nat) (x : (List (List zB)) × (List Int) × Int × (List zC) × Int × Int × zF × zF × zW) := zbc.b0 N x.1 x.2.1 x.2.2.1 x.2.2.2.1 x.2.2.2.2.1 x.2.2.2.2.2.1 x.2.2.2.2.2.2.1 x.2.2.2.2.2.2.2.1 x.2.2.2.2.2.2.2.2
def zbc.b2 (N : Nat) (s7 : List (List zB)) (s9 : List Int) (s13 : List Int) (s82 : List zC) (s83 : Int) (s84 : Int) (b4 : zF) (b5 : zW) (b14 : zF) : Option (Stp ((List (List zB)) × (List Int) × (List Int) × (List zC) × Int × Int × zF × zW × zF)) :=
 cond (decide (s84 < s83)) ((idx s82 s84).bind fun x3001 => (idx s9 s84).bind fun x3002 => cond (x3002 != (-1)) ((idx s7 s84).bind fun x3003 =>
  (zdh N x3003 x3001).bind fun r3004 => (zil r3004 s13).bind fun r3005 =>
  cond (Nat.ble ((b14.zA.length + ([r3005] : List zC).length) * 224) zao)
  (some (.again (s7, s9, s13, s82, s83, (w6 (s84 + 1)), b4, b5, (⟨b14.Storage, (b14.zA ++ ([r3005] : List zC)), b14.zQ⟩ : zF)))) none)
  (some (.again (s7, s9, s13, s82, s83, (w6 (s84 + 1)), b4, b5, b14)))) (some (.leave (s7, s9, s13, s82, s83, s84, b4, b5, b14)))
def zbc.r2 (N : Nat) (x : (List (List zB)) × (List Int) × (List Int) × (List zC) × Int × Int × zF × zW × zF) := zbc.b2 N x.1 x.2.1 x.2.2.1 x.2.2.2.1 x.2.2.2.2.1 x.2.2.2.2.2.1 x.2.2.2.2.2.2.1 x.2.2.2.2.2.2.2.1 x.2.2.2.2.2.2.2.2
def zbc (N : Nat) (a0 : zI) (a1 : zF) : Option (zF × zW × Int) :=
 (zcp N a0 a1).bind fun r1 => cond (r1.2 != 0) (some ((⟨(⟨(⟨#[]⟩ : ByteArray), []⟩ : Storage), [], []⟩ : zF), (⟨[], []⟩ : zW), r1.2))
  ((zd (zbc.r0 N) N (r1.1, [], 0, a1.zA, (a1.zA.length : Int), 0, a1, (⟨(⟨(⟨#[]⟩ : ByteArray), []⟩ : Storage), [], []⟩ : zF), (⟨[], []⟩ : zW))).bind fun y2 =>
  (zdv N y2.2.1).bind fun r3 => (zj8 1 y2.2.2.2.2.2.2.1.Storage.Tags).bind fun r4 => (zdt N y2.2.2.2.2.2.2.1.zQ r3).bind fun r5 =>
  (zd (zbc.r2 N) N (y2.1, y2.2.1, r3, y2.2.2.2.2.2.2.1.zA, (y2.2.2.2.2.2.2.1.zA.length : Int), 0, y2.2.2.2.2.2.2.2.1, y2.2.2.2.2.2.2.2.2, (⟨(⟨y2.2.2.2.2.2.2.1.Storage.Bytes, r4⟩ : Storage), [], r5⟩ : zF))).bind fun y6 =>
  some (y6.2.2.2.2.2.2.2.2, (⟨y6.1, y6.2.1⟩ : zW), 0))
def zbc.k (N : Nat) : Kq := ⟨14, (cvv [Ty.zF, Ty.zW, T6] [Ty.zI, Ty.zF] (zbc N)), go [zcp.k N, zd0.k, zgh.k N, zdv.k N, x44.k, zdt.k N, zil.k, zdh.k N] {lits := [57, 61, 101, 103, 104]} [(0, .plain { slots := [(3, .ptr 3 0), (4, .ptr 4 0), (5, .ptr 5 0), (7, .val (Ty.sl (Ty.sl Ty.zB))), (9, .own 5000009 T6), (10, .val T6), (29, .val (Ty.sl Ty.zC)), (30, .val T6), (31, .val T6)], boxes := [(3, Ty.zF, []), (4, Ty.zF, [1, 2, 3]), (5, Ty.zW, [0, 1])] } [(Ty.sl (Ty.sl Ty.zB)), (Ty.sl T6), T6, (Ty.sl Ty.zC), T6, T6, Ty.zF, Ty.zF, Ty.zW] (zd (zbc.r0 N) N)), (2, .plain { slots := [(4, .ptr 4 0), (5, .ptr 5 0), (7, .val (Ty.sl (Ty.sl Ty.zB))), (9, .val (Ty.sl T6)), (13, .val (Ty.sl T6)), (14, .ptr 14 0), (82, .val (Ty.sl Ty.zC)), (83, .val T6), (84, .val T6)], boxes := [(4, Ty.zF, [1, 2, 3]), (5, Ty.zW, [0, 1]), (14, Ty.zF, [1, 2])] } [(Ty.sl (Ty.sl Ty.zB)), (Ty.sl T6), (Ty.sl T6), (Ty.sl Ty.zC), T6, T6, Ty.zF, Ty.zW, Ty.zF] (zd (zbc.r2 N) N))] Proofs.Tryz.func14 (hL := ⟨⟨_, _, rfl, by kernel_rfl⟩, ⟨_, _, rfl, by kernel_rfl⟩, trivial⟩)⟩
def zl8  : Option zJ :=
 some (⟨([(⟨(⟨#[65]⟩ : ByteArray), 0, (⟨1, 3, 0⟩ : DataType), (⟨7, (⟨#[]⟩ : ByteArray)⟩ : Value), (⟨#[]⟩ : ByteArray), 0, 0⟩ : zH), (⟨(⟨#[79, 78, 69]⟩ : ByteArray), 4, (⟨1, 1, 0⟩ : DataType), (⟨1, (⟨#[]⟩ : ByteArray)⟩ : Value), (⟨#[]⟩ : ByteArray), 0, 0⟩ : zH)] : List zH), ([(⟨2, ([0, 0, 1] : List Int)⟩ : zM), (⟨17, ([0] : List Int)⟩ : zM), (⟨18, []⟩ : zM)] : List zM), []⟩ : zJ)
def zl8.k : Kq := ⟨28, (cvv [Ty.zJ] [] zl8), go [] {lits := [8, 10]} [] Proofs.Tryz.func28⟩
def zbp (a0 : Bool) (a1 : Int) : Option Int :=
 cond a0 (some a1) (some 0)
def zbp.k : Kq := ⟨155, (cvv [T6] [Ty.bool, T6] zbp), go [] {} [] Proofs.Tryz.func155⟩
def zci.b0 (N : Nat) (s5 : List Int) (s6 : Int) (s7 : Int) : Option (Round Int ((List Int) × Int × Int)) :=
 cond (decide (s7 < s6)) ((idx s5 s7).bind fun x1001 => cond (x1001 != 0) (some (.result x1001)) (some (.again (s5, s6, (w6 (s7 + 1)))))) (some (.leave (s5, s6, s7)))
def zci.r0 (N : Nat) (x : (List Int) × Int × Int) := zci.b0 N x.1 x.2.1 x.2.2
def zci (N : Nat) (a0 : List Int) : Option Int :=
 (zaa (zci.r0 N) N (a0, (a0.length : Int), 0)).bind fun z2 => zbd z2 (fun z => some z) (fun y1 => some 0)
def zci.k (N : Nat) : Kq := ⟨154, (cvv [T6] [(Ty.sl T6)] (zci N)), go [] {} [(0, .rets { slots := [(5, .val (Ty.sl T6)), (6, .val T6), (7, .val T6)], boxes := [] } [(Ty.sl T6), T6, T6] (zaa (zci.r0 N) N))] Proofs.Tryz.func154 (hL := ⟨⟨_, _, rfl, by kernel_rfl⟩, trivial⟩)⟩
def zee.b0 (N : Nat) (s15 : List Int) (s16 : Int) (s17 : Int) : Option (Round Bool ((List Int) × Int × Int)) :=
 cond (decide (s17 < s16)) (if 0 ≤ s17 then (if s17 < (s15.length : Int) then ((s15[s17.toNat]?).bind fun x1001 => (cond (decide (65 ≤ x1001)) (some (decide (x1001 ≤ 90)))
  (some false)).bind fun g1002 => (cond g1002 (some true) (some (x1001 == 35))).bind fun g1003 => (cond g1003 (some true) (some (x1001 == 36))).bind fun g1004 =>
  (cond g1004 (some true) (some (x1001 == 64))).bind fun g1005 => (cond (decide (48 ≤ x1001)) (some (decide (x1001 ≤ 57))) (some false)).bind fun g1006 => (cond g1006 (some true)
  (some (x1001 == 95))).bind fun g1007 => (cond g1007 (some true) (some (x1001 == 46))).bind fun g1008 => (cond (!g1005) ((cond (s17 == 0) (some true)
  (some (!g1008))).bind fun g1009 => some g1009) (some false)).bind fun g1010 => cond g1010 (some (.result false))
  (some (.again (s15, s16, (w6 (s17 + 1)))))) else none) else none) (some (.leave (s15, s16, s17)))
def zee.r0 (N : Nat) (x : (List Int) × Int × Int) := zee.b0 N x.1 x.2.1 x.2.2
def zee (N : Nat) (a0 : ByteArray) : Option Bool :=
 (cond (a0.toList == (⟨#[]⟩ : ByteArray).toList) (some true) (some (decide ((a0.size : Int) > 10)))).bind fun g1 => cond g1 (some false)
  ((zaa (zee.r0 N) N ((zi1 a0), ((zi1 a0).length : Int), 0)).bind fun z3 => zbd z3 (fun z => some z) (fun y2 => some true))
def zee.k (N : Nat) : Kq := ⟨189, (cvv [Ty.bool] [Ty.str] (zee N)), go [] {} [(0, .rets { slots := [(15, .own 5000015 (Ty.int .u8)), (16, .val T6), (17, .val T6)], boxes := [] } [(Ty.sl (Ty.int .u8)), T6, T6] (zaa (zee.r0 N) N))] Proofs.Tryz.func189 (hL := ⟨⟨_, _, rfl, by kernel_rfl⟩, trivial⟩)⟩
def ziq (a0 : zH) (a1 : ByteArray) : Option Bool :=
 some (a0.Name.toList == a1.toList)
def ziq.k : Kq := ⟨197, (ctv [.val Ty.zH, .ptr Ty.str false []] [Ty.bool] [] [] [Ty.zH, Ty.str] ziq), go [] {ro := [1000000], pk := [1000000]} [] Proofs.Tryz.func197⟩
def zaq.b0 (N : Nat) (s0 : List zH) (s7 : Int) (s8 : Int) (b1000000 : ByteArray) : Option (Round Int ((List zH) × Int × Int × ByteArray)) :=
 cond (decide (s8 < s7)) ((idx s0 s8).bind fun x1001 => (ziq x1001 b1000000).bind fun r1002 => cond r1002 (some (.result s8))
  (some (.again (s0, s7, (w6 (s8 + 1)), b1000000)))) (some (.leave (s0, s7, s8, b1000000)))
def zaq.r0 (N : Nat) (x : (List zH) × Int × Int × ByteArray) := zaq.b0 N x.1 x.2.1 x.2.2.1 x.2.2.2
def zaq (N : Nat) (a0 : List zH) (a1 : ByteArray) : Option Int :=
 (zaa (zaq.r0 N) N (a0, (a0.length : Int), 0, a1)).bind fun z2 => zbd z2 (fun z => some z) (fun y1 => some (-1))
def zaq.k (N : Nat) : Kq := ⟨196, (ctv [.val (Ty.sl Ty.zH), .clo 197 1, .ptr Ty.str false []] [T6] [] [] [(Ty.sl Ty.zH), Ty.str] (zaq N)), go [ziq.k] {ro := [1000000], pk := [1000000]} [(0, .rets { slots := [(0, .val (Ty.sl Ty.zH)), (1, .fn 197 [1000000]), (7, .val T6), (8, .val T6)], boxes := [(1000000, Ty.str, [])] } [(Ty.sl Ty.zH), T6, T6, Ty.str] (zaa (zaq.r0 N) N))] Proofs.Tryz.func196 (hL := ⟨⟨_, _, rfl, by kernel_rfl⟩, trivial⟩)⟩
def zfn (N : Nat) (a0 : List zH) (a1 : ByteArray) : Option Int :=
 (zaq N a0 a1).bind fun r1 => some r1
def zfn.k (N : Nat) : Kq := ⟨161, (cvv [T6] [(Ty.sl Ty.zH), Ty.str] (zfn N)), go [zaq.k N] {} [] Proofs.Tryz.func161⟩
def zdi (a0 : Int) (a1 : Int) (a2 : Int) : Option Bool :=
 (cond (decide (a1 ≤ a0)) (some (decide (a0 ≤ a2))) (some false)).bind fun g1 => some g1
def zdi.k : Kq := ⟨190, (cvv [Ty.bool] [T6, T6, T6] zdi), go [] {} [] Proofs.Tryz.func190⟩
def ze9 (a0 : zH) : Option Bool :=
 (cond (a0.Kind == 0) (some true) (some (a0.Kind == 1))).bind fun g1 => (cond g1 (some true) (some (a0.Kind == 2))).bind fun g2 => (cond g2 (some true)
  (some (a0.Kind == 4))).bind fun g3 => some g3
def ze9.k : Kq := ⟨192, (cvv [Ty.bool] [Ty.zH] ze9), go [] {} [] Proofs.Tryz.func192⟩
def zlc (a0 : zH) : Option zH :=
 (ze9 a0).bind fun r1 => cond r1 ((cond (a0.Kind == 0) (some (a0.Kind == 0)) (some (a0.Kind == 4))).bind fun q2 =>
  cond q2 (some (⟨a0.Name, a0.Kind, a0.zD, a0.Value, (⟨#[]⟩ : ByteArray), 0, 0⟩ : zH)) ((cond (a0.Kind == 1) (some (a0.Kind == 1)) (some (a0.Kind == 2))).bind fun q3 =>
  cond q3 (some (⟨a0.Name, a0.Kind, a0.zD, (⟨0, (⟨#[]⟩ : ByteArray)⟩ : Value), a0.Base, a0.Offset, 0⟩ : zH)) (cond (a0.Kind == 5)
  (some (⟨a0.Name, a0.Kind, a0.zD, (⟨0, (⟨#[]⟩ : ByteArray)⟩ : Value), (⟨#[]⟩ : ByteArray), 0, a0.Target⟩ : zH))
  (some (⟨a0.Name, a0.Kind, a0.zD, (⟨0, (⟨#[]⟩ : ByteArray)⟩ : Value), (⟨#[]⟩ : ByteArray), 0, 0⟩ : zH))))) ((cond (a0.Kind == 0) (some (a0.Kind == 0))
  (some (a0.Kind == 4))).bind fun q4 => cond q4 (some (⟨a0.Name, a0.Kind, (⟨0, 0, 0⟩ : DataType), a0.Value, (⟨#[]⟩ : ByteArray), 0, 0⟩ : zH)) ((cond (a0.Kind == 1)
  (some (a0.Kind == 1)) (some (a0.Kind == 2))).bind fun q5 =>
  cond q5 (some (⟨a0.Name, a0.Kind, (⟨0, 0, 0⟩ : DataType), (⟨0, (⟨#[]⟩ : ByteArray)⟩ : Value), a0.Base, a0.Offset, 0⟩ : zH)) (cond (a0.Kind == 5)
  (some (⟨a0.Name, a0.Kind, (⟨0, 0, 0⟩ : DataType), (⟨0, (⟨#[]⟩ : ByteArray)⟩ : Value), (⟨#[]⟩ : ByteArray), 0, a0.Target⟩ : zH))
  (some (⟨a0.Name, a0.Kind, (⟨0, 0, 0⟩ : DataType), (⟨0, (⟨#[]⟩ : ByteArray)⟩ : Value), (⟨#[]⟩ : ByteArray), 0, 0⟩ : zH)))))
def zlc.k : Kq := ⟨191, (cvv [Ty.zH] [Ty.zH] zlc), go [ze9.k] {bj := [16, 22]} [] Proofs.Tryz.func191⟩
def ze3.b0 (N : Nat) (s3 : Int) (s5 : Int) (s6 : Int) : Option (Stp (Int × Int × Int)) :=
 cond (decide (s6 < s5)) (some (.again ((w6 (s3 * 10)), s5, (w6 (s6 + 1))))) (some (.leave (s3, s5, s6)))
def ze3.r0 (N : Nat) (x : Int × Int × Int) := ze3.b0 N x.1 x.2.1 x.2.2
def ze3 (N : Nat) (a0 : Int) : Option Int :=
 (zd (ze3.r0 N) N (1, (if 18 < a0 then 18 else a0), 0)).bind fun y1 => some y1.1
def ze3.k (N : Nat) : Kq := ⟨203, (cvv [T6] [T6] (ze3 N)), go [] {} [(0, .plain { slots := [(3, .val T6), (5, .val T6), (6, .val T6)], boxes := [] } [T6, T6, T6] (zd (ze3.r0 N) N))] Proofs.Tryz.func203 (hL := ⟨⟨_, _, rfl, by kernel_rfl⟩, trivial⟩)⟩
def zd9 (N : Nat) (a0 : DataType) (a1 : Value) : Option Int :=
 (zb0 N a0).bind fun r1 => (zbi (a0.Kind == 4) 17).bind fun r2 => (zax N ([r1, r2] : List Int)).bind fun r3 => cond (r3 != 0) (some r3)
  (cond (a0.Kind == 0) ((zbi (a1.N != 0) 5).bind fun r4 => (zbi ((a1.S.size : Int) != a0.Length) 18).bind fun r5 =>
  (zax N ([r4, r5] : List Int)).bind fun r6 => some r6) ((ze3 N a0.Length).bind fun r7 =>
  (zbi (!(a1.S.toList == (⟨#[]⟩ : ByteArray).toList)) 5).bind fun r8 => (zdz a1.N (w6 (0 - (w6 (r7 - 1))))
  (w6 (r7 - 1))).bind fun r9 => (zbi (!r9) 19).bind fun r10 => (zax N ([r8, r10] : List Int)).bind fun r11 => some r11))
def zd9.k (N : Nat) : Kq := ⟨164, (cvv [T6] [Ty.DataType, Ty.Value] (zd9 N)), go [zb0.k N, zdz.k, zax.k N, zbi.k, ze3.k N] {lits := [8, 12, 13, 24, 31, 32, 41, 49, 50]} [] Proofs.Tryz.func164⟩
def zg7 (N : Nat) (a0 : zH) : Option Int :=
 (zdp N a0.zD).bind fun r1 => some r1.1
def zg7.k (N : Nat) : Kq := ⟨160, (cvv [T6] [Ty.zH] (zg7 N)), go [zdp.k N] {} [] Proofs.Tryz.func160⟩
def zhr (N : Nat) (a0 : zH) (a1 : List zH) : Option Int :=
 (zfn N a1 a0.Base).bind fun r1 => cond (decide (r1 < 0)) (some 11) ((idx a1 r1).bind fun x2 => cond (a0.Kind == 2) ((zbp (x2.Kind != 3) 17).bind fun r3 =>
  (zdi a0.Offset 0 256).bind fun r4 => (zbp (!r4) 3).bind fun r5 => (zci N ([r3, r5] : List Int)).bind fun r6 => some r6) (cond (x2.Kind != 0) (some 17)
  ((zg7 N x2).bind fun r7 => (zg7 N a0).bind fun r8 => (zdi a0.Offset 0 (w6 (r7 - r8))).bind fun r9 => (zbp (!r9) 3).bind fun r10 =>
  some r10)))
def zhr.k (N : Nat) : Kq := ⟨193, (cvv [T6] [Ty.zH, (Ty.sl Ty.zH)] (zhr N)), go [zci.k N, zbp.k, zg7.k N, zfn.k N, zdi.k] {lits := [23, 28, 29]} [] Proofs.Tryz.func193⟩
def zhp (N : Nat) (a0 : zJ) (a1 : Int) : Option Int :=
 (idx a0.zS a1).bind fun x1 => if 0 ≤ a1 ∧ a1 ≤ (a0.zS.length : Int) then (if 0 ≤ (0 : Int) ∧ (0 : Int) ≤ a1 then ((zee N x1.Name).bind fun r2 =>
  (zbp (!r2) 7).bind fun r3 => (zfn N ((a0.zS.take a1.toNat).drop (0 : Int).toNat) x1.Name).bind fun r4 =>
  (zbp (decide (r4 ≥ 0)) 13).bind fun r5 => (zdi x1.Kind 0 5).bind fun r6 => (zbp (!r6) 4).bind fun r7 => (zlc x1).bind fun r8 =>
  (zbp (!(zc2 [(r8.Name == x1.Name), (r8.Kind == x1.Kind), (r8.zD.Kind == x1.zD.Kind), (r8.zD.Length == x1.zD.Length), (r8.zD.Scale == x1.zD.Scale), (r8.Value.N == x1.Value.N), (r8.Value.S == x1.Value.S), (r8.Base == x1.Base), (r8.Offset == x1.Offset), (r8.Target == x1.Target)])) 5).bind fun r9 =>
  (zci N ([r3, r5, r7, r9] : List Int)).bind fun r10 => cond (r10 != 0) (some r10) ((ze9 x1).bind fun r11 =>
  cond r11 ((zb0 N x1.zD).bind fun r12 => (zbp (x1.zD.Kind == 4) 17).bind fun r13 => (zci N ([r12, r13] : List Int)).bind fun r14 =>
  cond (r14 != 0) (some r14) ((cond (x1.Kind == 0) (some (x1.Kind == 0)) (some (x1.Kind == 4))).bind fun q15 => cond q15 ((zd9 N x1.zD x1.Value).bind fun r16 =>
  some r16) ((cond (x1.Kind == 1) (some (x1.Kind == 1)) (some (x1.Kind == 2))).bind fun q17 =>
  cond q17 ((zhr N x1 ((a0.zS.take a1.toNat).drop (0 : Int).toNat)).bind fun r18 => some r18) (cond (x1.Kind == 5)
  ((zdi x1.Target 0 (w6 ((a0.zA.length : Int) - 1))).bind fun r19 => (zbp (!r19) 3).bind fun r20 => some r20) (some 0)))))
  ((cond (x1.Kind == 0) (some (x1.Kind == 0)) (some (x1.Kind == 4))).bind fun q21 => cond q21 ((zd9 N x1.zD x1.Value).bind fun r22 => some r22)
  ((cond (x1.Kind == 1) (some (x1.Kind == 1)) (some (x1.Kind == 2))).bind fun q23 =>
  cond q23 ((zhr N x1 ((a0.zS.take a1.toNat).drop (0 : Int).toNat)).bind fun r24 => some r24) (cond (x1.Kind == 5)
  ((zdi x1.Target 0 (w6 ((a0.zA.length : Int) - 1))).bind fun r25 => (zbp (!r25) 3).bind fun r26 => some r26)
  (some 0)))))) else none) else none
def zhp.k (N : Nat) : Kq := ⟨156, (cvv [T6] [Ty.zJ, T6] (zhp N)), go [zb0.k N, zci.k N, zbp.k, zfn.k N, zd9.k N, zee.k N, zdi.k, zlc.k, ze9.k, zhr.k N] {lits := [22, 28, 33, 38, 39, 48, 53, 54], bj := [61, 69]} [] Proofs.Tryz.func156⟩
def zjd (a0 : Int) (a1 : Int) : Option (Int × Int) :=
 some ((IntKind.wrap .u64 ((IntKind.wrap .u64 ((IntKind.wrap .u64 ((a0.fdiv (2 ^ (min (32 : Int).toNat 64))) * (a1.fdiv (2 ^ (min (32 : Int).toNat 64))))) + ((IntKind.wrap .u64 ((IntKind.wrap .u64 ((a0.fdiv (2 ^ (min (32 : Int).toNat 64))) * (zn .u64 a1 4294967295))) + ((IntKind.wrap .u64 ((zn .u64 a0 4294967295) * (zn .u64 a1 4294967295))).fdiv (2 ^ (min (32 : Int).toNat 64))))).fdiv (2 ^ (min (32 : Int).toNat 64))))) + ((IntKind.wrap .u64 ((zn .u64 (IntKind.wrap .u64 ((IntKind.wrap .u64 ((a0.fdiv (2 ^ (min (32 : Int).toNat 64))) * (zn .u64 a1 4294967295))) + ((IntKind.wrap .u64 ((zn .u64 a0 4294967295) * (zn .u64 a1 4294967295))).fdiv (2 ^ (min (32 : Int).toNat 64))))) 4294967295) + (IntKind.wrap .u64 ((zn .u64 a0 4294967295) * (a1.fdiv (2 ^ (min (32 : Int).toNat 64))))))).fdiv (2 ^ (min (32 : Int).toNat 64))))), (IntKind.wrap .u64 (a0 * a1)))
def zjd.k : Kq := ⟨225, (cvv [(Ty.int .u64), (Ty.int .u64)] [(Ty.int .u64), (Ty.int .u64)] zjd), go [] {} [] Proofs.Tryz.func225⟩
def zkj (a0 : Int) (a1 : Int) : Option (Int × Int) :=
 (zjd a0 a1).bind fun r1 => some (r1.1, r1.2)
def zkj.k : Kq := ⟨195, (cvv [(Ty.int .u64), (Ty.int .u64)] [(Ty.int .u64), (Ty.int .u64)] zkj), go [zjd.k] {} [] Proofs.Tryz.func195⟩
def zc8.b0 (N : Nat) (s7 : List Int) (s8 : Int) : Option (Stp ((List Int) × Int)) :=
 cond (decide (s8 < (s7.length : Int)))
  (if 0 ≤ s8 ∧ s8 ≤ (s7.length : Int) then (if 0 ≤ s8 ∧ s8 ≤ (s7.length : Int) then (if 0 ≤ (0 : Int) ∧ (0 : Int) ≤ s8 then (some (.again ((s7.take s8.toNat ++ ((s7.drop ((0 : Int).toNat)).take (s8.toNat - (0 : Int).toNat)).take (min ((s7.drop ((0 : Int).toNat)).take (s8.toNat - (0 : Int).toNat)).length (s7.length - s8.toNat)) ++ s7.drop (s8.toNat + (min ((s7.drop ((0 : Int).toNat)).take (s8.toNat - (0 : Int).toNat)).length (s7.length - s8.toNat)))), (w6 (s8 + (((min ((s7.drop ((0 : Int).toNat)).take (s8.toNat - (0 : Int).toNat)).length (s7.length - s8.toNat)) : Nat) : Int)))))) else none) else none) else none)
  (some (.leave (s7, s8)))
def zc8.r0 (N : Nat) (x : (List Int) × Int) := zc8.b0 N x.1 x.2
def zc8 (N : Nat) (a0 : List Int) (a1 : Int) : Option ((List Int)) :=
 cond (decide (a1 < 0)) (none) ((zkj (IntKind.wrap .u64 (a0.length : Int)) (IntKind.wrap .u64 a1)).bind fun r1 => (cond (decide (r1.1 > 0)) (some true)
  (some (decide (r1.2 > 9223372036854775807)))).bind fun g2 => cond g2 (none)
  (if 0 ≤ (w6 r1.2) then (if (w6 r1.2) ≤ (w6 r1.2) then (cond (Nat.ble ((w6 r1.2).toNat * 8) zao)
  ((zd (zc8.r0 N) N ((a0.take (min a0.length (List.replicate (w6 r1.2).toNat (0 : Int)).length) ++ (List.replicate (w6 r1.2).toNat (0 : Int)).drop (min a0.length (List.replicate (w6 r1.2).toNat (0 : Int)).length)), (((min a0.length (List.replicate (w6 r1.2).toNat (0 : Int)).length) : Nat) : Int))).bind fun y3 =>
  some y3.1) none) else none) else none))
def zc8.k (N : Nat) : Kq := ⟨159, (ctv [.val (Ty.sl T6), .val T6] [(Ty.sl T6)] [] [0] [(Ty.sl T6), T6] (zc8 N)), go [zkj.k] {} [(0, .plain { slots := [(7, .own 5000007 T6), (8, .val T6)], boxes := [] } [(Ty.sl T6), T6] (zd (zc8.r0 N) N))] Proofs.Tryz.func159 (hL := ⟨⟨_, _, rfl, by kernel_rfl⟩, trivial⟩)⟩
def zat.b0 (N : Nat) (s0 : List zH) (s4 : List Int) (s5 : Int) (s16 : List zH) (s17 : Int) (s18 : Int) : Option (Stp ((List zH) × (List Int) × Int × (List zH) × Int × Int)) :=
 cond (decide (s18 < s17)) ((idx s16 s18).bind fun x1001 => cond (x1001.Kind == 3) (if 0 ≤ s18 then (if s18 < (s4.length : Int) then ((s4[s18.toNat]?).bind fun x1002 =>
  some (.again (s0, (s4.set s18.toNat s5), (w6 (s5 + 16)), s16, s17, (w6 (s18 + 1))))) else none) else none)
  (some (.again (s0, s4, s5, s16, s17, (w6 (s18 + 1)))))) (some (.leave (s0, s4, s5, s16, s17, s18)))
def zat.r0 (N : Nat) (x : (List zH) × (List Int) × Int × (List zH) × Int × Int) := zat.b0 N x.1 x.2.1 x.2.2.1 x.2.2.2.1 x.2.2.2.2.1 x.2.2.2.2.2
def zat.b2 (N : Nat) (s0 : List zH) (s4 : List Int) (s5 : Int) (s33 : List zH) (s34 : Int) (s35 : Int) : Option (Stp ((List zH) × (List Int) × Int × (List zH) × Int × Int)) :=
 cond (decide (s35 < s34)) ((idx s33 s35).bind fun x3001 => cond (x3001.Kind == 0) ((zg7 N x3001).bind fun r3002 =>
  if 0 ≤ s35 then (if s35 < (s4.length : Int) then ((s4[s35.toNat]?).bind fun x3003 =>
  some (.again (s0, (s4.set s35.toNat s5), (w6 (s5 + r3002)), s33, s34, (w6 (s35 + 1))))) else none) else none)
  (some (.again (s0, s4, s5, s33, s34, (w6 (s35 + 1)))))) (some (.leave (s0, s4, s5, s33, s34, s35)))
def zat.r2 (N : Nat) (x : (List zH) × (List Int) × Int × (List zH) × Int × Int) := zat.b2 N x.1 x.2.1 x.2.2.1 x.2.2.2.1 x.2.2.2.2.1 x.2.2.2.2.2
def zat.b4 (N : Nat) (s0 : List zH) (s4 : List Int) (s5 : Int) (s52 : List zH) (s53 : Int) (s54 : Int) : Option (Stp ((List zH) × (List Int) × Int × (List zH) × Int × Int)) :=
 cond (decide (s54 < s53)) ((idx s52 s54).bind fun x5001 => cond (x5001.Kind == 1) ((zfn N s0 x5001.Base).bind fun r5002 =>
  if 0 ≤ r5002 then (if r5002 < (s4.length : Int) then ((s4[r5002.toNat]?).bind fun x5003 => if 0 ≤ s54 then (if s54 < (s4.length : Int) then ((s4[s54.toNat]?).bind fun x5004 =>
  some (.again (s0, (s4.set s54.toNat (w6 (x5003 + x5001.Offset))), s5, s52, s53, (w6 (s54 + 1))))) else none) else none) else none) else none)
  (some (.again (s0, s4, s5, s52, s53, (w6 (s54 + 1)))))) (some (.leave (s0, s4, s5, s52, s53, s54)))
def zat.r4 (N : Nat) (x : (List zH) × (List Int) × Int × (List zH) × Int × Int) := zat.b4 N x.1 x.2.1 x.2.2.1 x.2.2.2.1 x.2.2.2.2.1 x.2.2.2.2.2
def zat (N : Nat) (a0 : List zH) : Option ((List Int) × Int) :=
 (zc8 N ([(-1)] : List Int) (a0.length : Int)).bind fun r1 => (zd (zat.r0 N) N (a0, r1, 0, a0, (a0.length : Int), 0)).bind fun y2 =>
  (zd (zat.r2 N) N (y2.1, y2.2.1, y2.2.2.1, y2.1, (y2.1.length : Int), 0)).bind fun y3 =>
  (zd (zat.r4 N) N (y3.1, y3.2.1, y3.2.2.1, y3.1, (y3.1.length : Int), 0)).bind fun y4 =>
  some (y4.2.1, (w6 ((w6 ((w6 (y4.2.2.1 + 16)) - 1)).tdiv 16)))
def zat.k (N : Nat) : Kq := ⟨114, (cvv [(Ty.sl T6), T6] [(Ty.sl Ty.zH)] (zat N)), go [zc8.k N, zg7.k N, zfn.k N] {lits := [12, 14]} [(0, .plain { slots := [(0, .val (Ty.sl Ty.zH)), (4, .own 5000004 T6), (5, .val T6), (16, .val (Ty.sl Ty.zH)), (17, .val T6), (18, .val T6)], boxes := [] } [(Ty.sl Ty.zH), (Ty.sl T6), T6, (Ty.sl Ty.zH), T6, T6] (zd (zat.r0 N) N)), (2, .plain { slots := [(0, .val (Ty.sl Ty.zH)), (4, .own 5000004 T6), (5, .val T6), (33, .val (Ty.sl Ty.zH)), (34, .val T6), (35, .val T6)], boxes := [] } [(Ty.sl Ty.zH), (Ty.sl T6), T6, (Ty.sl Ty.zH), T6, T6] (zd (zat.r2 N) N)), (4, .plain { slots := [(0, .val (Ty.sl Ty.zH)), (4, .own 5000004 T6), (5, .val T6), (52, .val (Ty.sl Ty.zH)), (53, .val T6), (54, .val T6)], boxes := [] } [(Ty.sl Ty.zH), (Ty.sl T6), T6, (Ty.sl Ty.zH), T6, T6] (zd (zat.r4 N) N))] Proofs.Tryz.func114 (hL := ⟨⟨_, _, rfl, by kernel_rfl⟩, ⟨_, _, rfl, by kernel_rfl⟩, ⟨_, _, rfl, by kernel_rfl⟩, trivial⟩)⟩
def zfk (a0 : zH) : Option Bool :=
 some (a0.zD.Kind != 0)
def zfk.k : Kq := ⟨223, (cvv [Ty.bool] [Ty.zH] zfk), go [] {} [] Proofs.Tryz.func223⟩
def zld (a0 : zH) (a1 : zH) (a2 : Int) : Option Bool :=
 cond (a2 == 5) (some (a0.Kind == 3)) (cond (a2 == 6) (some (a0.Kind == 5)) ((cond (a2 == 0) (some true) (some (a2 == 2))).bind fun g1 => (cond (a2 == 2) (some true)
  (some (a2 == 3))).bind fun g2 => (ze9 a0).bind fun r3 => (cond r3 ((cond g1 (some (a0.Kind == 4)) (some false)).bind fun g4 => some (!g4)) (some false)).bind fun g5 =>
  (cond g5 ((cond g2 ((zfk a0).bind fun r6 => some (!r6)) (some false)).bind fun g7 => some (!g7)) (some false)).bind fun g8 => (cond g8 ((cond (a2 == 4)
  ((zfk a0).bind fun r9 => (zfk a1).bind fun r10 => some (!(r9 == r10))) (some false)).bind fun g11 => some (!g11)) (some false)).bind fun g12 =>
  some g12))
def zld.k : Kq := ⟨194, (cvv [Ty.bool] [Ty.zH, Ty.zH, T6] zld), go [ze9.k, zfk.k] {} [] Proofs.Tryz.func194⟩
def zb1.b0 (N : Nat) (s22 : List Int) (s23 : Int) (s24 : Int) (b2 : zJ) (b3 : zM) (b5 : zH) : Option (Round Int ((List Int) × Int × Int × zJ × zM × zH)) :=
 cond (decide (s24 < s23)) ((idx s22 s24).bind fun x1001 => (zdi x1001 0 (w6 ((b2.zS.length : Int) - 1))).bind fun r1002 => cond (!r1002)
  (some (.result 3)) ((idx b2.zS x1001).bind fun x1003 => (idx zz1 b3.Op).bind fun x1004 => (idx x1004 s24).bind fun x1005 => (zld x1003 b5 x1005).bind fun r1006 =>
  cond (!r1006) (some (.result 17)) ((idx b2.zS x1001).bind fun x1007 => some (.again (s22, s23, (w6 (s24 + 1)), b2, b3, x1007)))))
  (some (.leave (s22, s23, s24, b2, b3, b5)))
def zb1.r0 (N : Nat) (x : (List Int) × Int × Int × zJ × zM × zH) := zb1.b0 N x.1 x.2.1 x.2.2.1 x.2.2.2.1 x.2.2.2.2.1 x.2.2.2.2.2
def zb1 (N : Nat) (a0 : zJ) (a1 : zM) : Option Int :=
 (zdi a1.Op 0 18).bind fun r1 => cond (!r1) (some 4) ((idx zz1 a1.Op).bind fun x2 => cond ((a1.Args.length : Int) != (x2.length : Int)) (some 37)
  ((zaa (zb1.r0 N) N (a1.Args, (a1.Args.length : Int), 0, a0, a1, (⟨(⟨#[]⟩ : ByteArray), 0, (⟨0, 0, 0⟩ : DataType), (⟨0, (⟨#[]⟩ : ByteArray)⟩ : Value), (⟨#[]⟩ : ByteArray), 0, 0⟩ : zH))).bind fun z4 =>
  zbd z4 (fun z => some z) (fun y3 => some 0)))
def zb1.k (N : Nat) : Kq := ⟨157, (cvv [T6] [Ty.zJ, Ty.zM] (zb1 N)), go [zdi.k, zld.k] {} [(0, .rets { slots := [(2, .ptr 2 0), (3, .ptr 3 0), (5, .ptr 5 0), (22, .val (Ty.sl T6)), (23, .val T6), (24, .val T6)], boxes := [(2, Ty.zJ, []), (3, Ty.zM, []), (5, Ty.zH, [])] } [(Ty.sl T6), T6, T6, Ty.zJ, Ty.zM, Ty.zH] (zaa (zb1.r0 N) N))] Proofs.Tryz.func157 (hL := ⟨⟨_, _, rfl, by kernel_rfl⟩, trivial⟩)⟩
def zhq (a0 : zJ) (a1 : zT) : Option Int :=
 (cond (decide (a1.From ≥ 0)) (some (decide (a1.From < a1.To))) (some false)).bind fun g1 => (cond g1 (some (decide (a1.To ≤ (a0.zA.length : Int))))
  (some false)).bind fun g2 => (cond g2 ((zdi a1.Exception 0 999).bind fun r3 => some r3) (some false)).bind fun g4 =>
  (cond g4 ((zdi a1.Handler 0 (w6 ((a0.zA.length : Int) - 1))).bind fun r5 => some r5) (some false)).bind fun g6 =>
  (zbp (!g6) 3).bind fun r7 => some r7
def zhq.k : Kq := ⟨158, (cvv [T6] [Ty.zJ, Ty.zT] zhq), go [zbp.k, zdi.k] {} [] Proofs.Tryz.func158⟩
def zad.b0 (N : Nat) (s47 : Int) (s48 : Int) (b1 : zJ) (b2 : zU) : Option (Round (zU × Int) (Int × Int × zJ × zU)) :=
 cond (decide (s48 < s47)) ((zhp N b1 s48).bind fun r1001 => cond (r1001 != 0) (some (.result ((⟨1, s48⟩ : zU), r1001)))
  (some (.again (s47, (w6 (s48 + 1)), b1, b2)))) (some (.leave (s47, s48, b1, b2)))
def zad.r0 (N : Nat) (x : Int × Int × zJ × zU) := zad.b0 N x.1 x.2.1 x.2.2.1 x.2.2.2
def zad.b2 (N : Nat) (s70 : List zM) (s71 : Int) (s72 : Int) (b1 : zJ) (b2 : zU) : Option (Round (zU × Int) ((List zM) × Int × Int × zJ × zU)) :=
 cond (decide (s72 < s71)) ((idx s70 s72).bind fun x3001 => (zb1 N b1 x3001).bind fun r3002 => cond (r3002 != 0) (some (.result ((⟨2, s72⟩ : zU), r3002)))
  (some (.again (s70, s71, (w6 (s72 + 1)), b1, b2)))) (some (.leave (s70, s71, s72, b1, b2)))
end
end Go.Proofs.YtblgefddnnlniaaGreatDoor.M
