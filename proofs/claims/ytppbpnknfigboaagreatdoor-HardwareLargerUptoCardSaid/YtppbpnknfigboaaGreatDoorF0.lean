/- What the program's functions compute, each tied to its code: part 0. -/
import Derived.Test.YtppbpnknfigboaaGreatDoorU
namespace Go.Proofs.YtppbpnknfigboaaGreatDoor.M
open Go Go.Amx
set_option linter.unusedVariables false
set_option maxRecDepth 100000
noncomputable section
def zcr.b0 (N : Nat) (s0 : Int) (s1 : Int) (s5 : List Int) (s6 : Int) : Option (Stp (Int × Int × (List Int) × Int)) :=
 cond (decide (s6 < s1)) (cond (Nat.ble ((s5.length + ([s0] : List Int).length) * 1) zac) (some (.again (s0, s1, (s5 ++ ([s0] : List Int)), (w6 (s6 + 1))))) none)
  (some (.leave (s0, s1, s5, s6)))
def zcr.r0 (N : Nat) (x : Int × Int × (List Int) × Int) := zcr.b0 N x.1 x.2.1 x.2.2.1 x.2.2.2
def zcr (N : Nat) (a0 : Int) (a1 : Int) : Option ByteArray :=
 (zr (zcr.r0 N) N (a0, a1, [], 0)).bind fun y1 => some (zct y1.2.2.1)
def zcr.k (N : Nat) : Kq := ⟨89, (cvv [Ty.str] [(Ty.int .u8), T6] (zcr N)), go [] {lits := [14]} [(0, .plain { slots := [(0, .val (Ty.int .u8)), (1, .val T6), (5, .own 5000005 (Ty.int .u8)), (6, .val T6)], boxes := [] } [(Ty.int .u8), T6, (Ty.sl (Ty.int .u8)), T6] (zr (zcr.r0 N) N))] Proofs.Tryz.func89 (hL := ⟨⟨_, _, rfl, by kernel_rfl⟩, trivial⟩)⟩
def zrz (N : Nat)  : Option zG :=
 (zcr N 0 16).bind fun r1 =>
  some (⟨(⟨r1, ([false] : List Bool)⟩ : Storage), ([(⟨2, 0, 0, 0, 0, (⟨false, 0, 0⟩ : zO), (⟨false, 0, 0⟩ : zO), (⟨0, 0, 0⟩ : DataType), (⟨0, 0, 0⟩ : DataType), false, false, (⟨15, 1⟩ : Number), (⟨#[]⟩ : ByteArray), (⟨#[]⟩ : ByteArray), 0, 0, 0, 0⟩ : zB), (⟨1, 0, 0, 0, 0, (⟨false, 0, 0⟩ : zO), (⟨false, 0, 0⟩ : zO), (⟨1, 3, 0⟩ : DataType), (⟨0, 0, 0⟩ : DataType), true, false, (⟨0, 0⟩ : Number), (⟨#[]⟩ : ByteArray), (⟨#[]⟩ : ByteArray), 0, 0, 0, 0⟩ : zB), (⟨0, 1, 0, 0, 0, (⟨false, 0, 0⟩ : zO), (⟨false, 0, 0⟩ : zO), (⟨1, 3, 0⟩ : DataType), (⟨0, 0, 0⟩ : DataType), false, false, (⟨0, 0⟩ : Number), (⟨#[]⟩ : ByteArray), (⟨#[]⟩ : ByteArray), 0, 0, 0, 0⟩ : zB), (⟨22, 1, 0, 0, 0, (⟨false, 0, 0⟩ : zO), (⟨false, 0, 0⟩ : zO), (⟨0, 0, 0⟩ : DataType), (⟨0, 0, 0⟩ : DataType), false, false, (⟨0, 0⟩ : Number), (⟨#[]⟩ : ByteArray), (⟨#[]⟩ : ByteArray), 0, 0, 0, 0⟩ : zB)] : List zB), []⟩ : zG)
def zrz.k (N : Nat) : Kq := ⟨45, (cvv [Ty.zG] [] (zrz N)), go [zcr.k N] {} [] Proofs.Tryz.func45⟩
def zae (a0 : Int) (a1 : Int) (a2 : Int) : Option Bool :=
 (cond (decide (a1 ≤ a0)) (some (decide (a0 ≤ a2))) (some false)).bind fun g1 => some g1
def zae.k : Kq := ⟨58, (cvv [Ty.bool] [T6, T6, T6] zae), go [] {} [] Proofs.Tryz.func58⟩
def zaj (a0 : Bool) (a1 : Int) : Option Int :=
 cond a0 (some a1) (some 0)
def zaj.k : Kq := ⟨49, (cvv [T6] [Ty.bool, T6] zaj), go [] {} [] Proofs.Tryz.func49⟩
def zc5 (a0 : zH) : Option Int :=
 (zae a0.Registers 2 8).bind fun r1 => (zaj (!r1) 3).bind fun r2 => some r2
def zc5.k : Kq := ⟨17, (cvv [T6] [Ty.zH] zc5), go [zaj.k, zae.k] {} [] Proofs.Tryz.func17⟩
def zbv.b0 (N : Nat) (s0 : ByteArray) (s3 : Int) (s6 : Int) (s7 : Int) : Option (Stp (ByteArray × Int × Int × Int)) :=
 cond (decide (s7 < s6)) ((zgs s0 s7).bind fun x1001 => some (.again (s0, (orI .i64 (w6 (s3 * 2 ^ (min (8 : Int).toNat 64)))
  (w6 (x1001.toNat : Int))), s6, (w6 (s7 + 1))))) (some (.leave (s0, s3, s6, s7)))
def zbv.r0 (N : Nat) (x : ByteArray × Int × Int × Int) := zbv.b0 N x.1 x.2.1 x.2.2.1 x.2.2.2
def zbv (N : Nat) (a0 : ByteArray) : Option Int :=
 (zr (zbv.r0 N) N (a0, 0, (a0.size : Int), 0)).bind fun y1 => some y1.2.1
def zbv.k (N : Nat) : Kq := ⟨135, (cvv [T6] [Ty.str] (zbv N)), go [] {} [(0, .plain { slots := [(0, .val Ty.str), (3, .val T6), (6, .val T6), (7, .val T6)], boxes := [] } [Ty.str, T6, T6, T6] (zr (zbv.r0 N) N))] Proofs.Tryz.func135 (hL := ⟨⟨_, _, rfl, by kernel_rfl⟩, trivial⟩)⟩
def zf9 (a0 : Int) (a1 : Int) (a2 : Int) : Option Bool :=
 (cond (decide (a1 ≤ a0)) (some (decide (a0 ≤ a2))) (some false)).bind fun g1 => some g1
def zf9.k : Kq := ⟨201, (cvv [Ty.bool] [T6, T6, T6] zf9), go [] {} [] Proofs.Tryz.func201⟩
def zdx (a0 : Pointer) : Option Int :=
 (zf9 a0.Kind 0 2).bind fun r1 => cond (!r1) (some 4) (((zf9 a0.Address.zZ 0 1099511627775).bind fun r2 => cond (!r2) (some (!r2))
  ((zf9 a0.Address.Offset 0 16777215).bind fun r3 => cond (!r3) (some (!r3)) ((zf9 a0.Authority 0 1023).bind fun r4 => some (!r4)))).bind fun q5 =>
  cond q5 (some 3) ((cond (a0.Authority != 0) (some (a0.Kind != 1)) (some false)).bind fun g6 => cond g6 (some 5) (some 0)))
def zdx.k : Kq := ⟨136, (cvv [T6] [Ty.Pointer] zdx), go [zf9.k] {bj := [8]} [] Proofs.Tryz.func136⟩
def ze7 (N : Nat) (a0 : ByteArray) : Option (Pointer × Int) :=
 cond ((a0.size : Int) != 16) (some ((⟨0, (⟨0, 0⟩ : Address), 0⟩ : Pointer), 18)) ((zgs a0 1).bind fun x1 => cond ((x1.toNat : Int) != 0)
  (some ((⟨0, (⟨0, 0⟩ : Address), 0⟩ : Pointer), 5)) ((zgs a0 0).bind fun x2 =>
  if 0 ≤ (4 : Int) ∧ (4 : Int) ≤ (a0.size : Int) then (if 0 ≤ (2 : Int) ∧ (2 : Int) ≤ (4 : Int) then ((zbv N (a0.extract (2 : Int).toNat (4 : Int).toNat)).bind fun r3 =>
  if 0 ≤ (10 : Int) ∧ (10 : Int) ≤ (a0.size : Int) then (if 0 ≤ (4 : Int) ∧ (4 : Int) ≤ (10 : Int) then ((zbv N (a0.extract (4 : Int).toNat (10 : Int).toNat)).bind fun r4 =>
  if 0 ≤ (10 : Int) ∧ (10 : Int) ≤ (a0.size : Int) then ((zbv N (a0.extract (10 : Int).toNat a0.size)).bind fun r5 =>
  (zdx (⟨(w6 (x2.toNat : Int)), (⟨r4, r5⟩ : Address), r3⟩ : Pointer)).bind fun r6 => cond (r6 != 0)
  (some ((⟨0, (⟨0, 0⟩ : Address), 0⟩ : Pointer), r6))
  (some ((⟨(w6 (x2.toNat : Int)), (⟨r4, r5⟩ : Address), r3⟩ : Pointer), 0))) else none) else none) else none) else none) else none))
def ze7.k (N : Nat) : Kq := ⟨90, (cvv [Ty.Pointer, T6] [Ty.str] (ze7 N)), go [zbv.k N, zdx.k] {} [] Proofs.Tryz.func90⟩
def zw.b1 (N : Nat) (s27 : List Bool) (s28 : Int) (s29 : Int) (b1 : Storage) : Option (Round (Int × Int) ((List Bool) × Int × Int × Storage)) :=
 cond (decide (s29 < s28)) ((idx s27 s29).bind fun x2001 => cond (!x2001) (some (.again (s27, s28, (w6 (s29 + 1)), b1)))
  (if 0 ≤ (w6 ((w6 (s29 * 16)) + 16)) ∧ (w6 ((w6 (s29 * 16)) + 16)) ≤ (b1.Bytes.size : Int) then (if 0 ≤ (w6 (s29 * 16)) ∧ (w6 (s29 * 16)) ≤ (w6 ((w6 (s29 * 16)) + 16)) then ((ze7 N (b1.Bytes.extract (w6 (s29 * 16)).toNat (w6 ((w6 (s29 * 16)) + 16)).toNat)).bind fun r2002 =>
  cond (r2002.2 != 0) (some (.result (s29, 22))) (some (.again (s27, s28, (w6 (s29 + 1)), b1)))) else none) else none)) (some (.leave (s27, s28, s29, b1)))
def zw.r1 (N : Nat) (x : (List Bool) × Int × Int × Storage) := zw.b1 N x.1 x.2.1 x.2.2.1 x.2.2.2
def zw (N : Nat) (a0 : Storage) : Option (Int × Int) :=
 cond (decide ((a0.Bytes.size : Int) > 1024)) (some (0, 2)) (cond (((a0.Bytes.size : Int).tmod 16) != 0) (some (0, 18))
  (cond ((a0.Tags.length : Int) != (w6 ((a0.Bytes.size : Int).tdiv 16))) (some (0, 6))
  ((zt (zw.r1 N) N (a0.Tags, (a0.Tags.length : Int), 0, a0)).bind fun z2 => zb2 z2 (fun z => some z) (fun y1 => some ((y1.2.2.2.Tags.length : Int), 0)))))
def zw.k (N : Nat) : Kq := ⟨47, (cvv [T6, T6] [Ty.Storage] (zw N)), go [ze7.k N] {} [(1, .rets { slots := [(1, .ptr 1 0), (27, .val (Ty.sl Ty.bool)), (28, .val T6), (29, .val T6)], boxes := [(1, Ty.Storage, [])] } [(Ty.sl Ty.bool), T6, T6, Ty.Storage] (zt (zw.r1 N) N))] Proofs.Tryz.func47 (hL := ⟨⟨_, _, rfl, by kernel_rfl⟩, trivial⟩)⟩
def zbh.b0 (N : Nat) (s0 : List Bool) (s1 : Bool) (s7 : Int) (s8 : Int) : Option (Round Int ((List Bool) × Bool × Int × Int)) :=
 cond (decide (s8 < s7)) ((idx s0 s8).bind fun x1001 => cond (s1 == x1001) (some (.result s8)) (some (.again (s0, s1, s7, (w6 (s8 + 1))))))
  (some (.leave (s0, s1, s7, s8)))
def zbh.r0 (N : Nat) (x : (List Bool) × Bool × Int × Int) := zbh.b0 N x.1 x.2.1 x.2.2.1 x.2.2.2
def zbh (N : Nat) (a0 : List Bool) (a1 : Bool) : Option Int :=
 (zt (zbh.r0 N) N (a0, a1, (a0.length : Int), 0)).bind fun z2 => zb2 z2 (fun z => some z) (fun y1 => some (-1))
def zbh.k (N : Nat) : Kq := ⟨91, (cvv [T6] [(Ty.sl Ty.bool), Ty.bool] (zbh N)), go [] {} [(0, .rets { slots := [(0, .val (Ty.sl Ty.bool)), (1, .val Ty.bool), (7, .val T6), (8, .val T6)], boxes := [] } [(Ty.sl Ty.bool), Ty.bool, T6, T6] (zt (zbh.r0 N) N))] Proofs.Tryz.func91 (hL := ⟨⟨_, _, rfl, by kernel_rfl⟩, trivial⟩)⟩
def zfm (N : Nat) (a0 : List Bool) (a1 : Bool) : Option Bool :=
 (zbh N a0 a1).bind fun r1 => some (decide (r1 ≥ 0))
def zfm.k (N : Nat) : Kq := ⟨50, (cvv [Ty.bool] [(Ty.sl Ty.bool), Ty.bool] (zfm N)), go [zbh.k N] {} [] Proofs.Tryz.func50⟩
def z7.b0 (N : Nat) (s5 : List Int) (s6 : Int) (s7 : Int) : Option (Round Int ((List Int) × Int × Int)) :=
 cond (decide (s7 < s6)) ((idx s5 s7).bind fun x1001 => cond (x1001 != 0) (some (.result x1001)) (some (.again (s5, s6, (w6 (s7 + 1)))))) (some (.leave (s5, s6, s7)))
def z7.r0 (N : Nat) (x : (List Int) × Int × Int) := z7.b0 N x.1 x.2.1 x.2.2
def z7 (N : Nat) (a0 : List Int) : Option Int :=
 (zt (z7.r0 N) N (a0, (a0.length : Int), 0)).bind fun z2 => zb2 z2 (fun z => some z) (fun y1 => some 0)
def z7.k (N : Nat) : Kq := ⟨48, (cvv [T6] [(Ty.sl T6)] (z7 N)), go [] {} [(0, .rets { slots := [(5, .val (Ty.sl T6)), (6, .val T6), (7, .val T6)], boxes := [] } [(Ty.sl T6), T6, T6] (zt (z7.r0 N) N))] Proofs.Tryz.func48 (hL := ⟨⟨_, _, rfl, by kernel_rfl⟩, trivial⟩)⟩
def zbj (a0 : zB) : Option zP :=
 (idx z64 a0.Op).bind fun x1 => (cond (a0.Op == 4) (some a0.zL) (some false)).bind fun g2 =>
  cond g2 (some (⟨(orI .i64 (orI .i64 (z51 .i64 x1.fields 4) 8) 64), x1.types⟩ : zP)) (some x1)
def zbj.k : Kq := ⟨94, (cvv [Ty.zP] [Ty.zB] zbj), go [] {} [] Proofs.Tryz.func94⟩
def zb8 (a0 : Int) (a1 : Int) (a2 : Int) : Option Int :=
 cond ((zh .i64 a2 a0) == 0) (some 0) (some a1)
def zb8.k : Kq := ⟨137, (ctv [.val T6, .ptr T6 true [], .ptr T6 false []] [] [T6] [] [T6, T6, T6] zb8), go [] {ro := [1000001], pk := [1000000, 1000001]} [] Proofs.Tryz.func137⟩
def zhi (a0 : zO) (a1 : Bool) : Option zO :=
 cond (!a1) (some (⟨false, 0, 0⟩ : zO)) (cond (!a0.Based) (some (⟨a0.Based, 0, a0.Offset⟩ : zO)) (some a0))
def zhi.k : Kq := ⟨138, (cvv [Ty.zO] [Ty.zO, Ty.bool] zhi), go [] {} [] Proofs.Tryz.func138⟩
def zjj (a0 : zB) : Option zB :=
 (zbj a0).bind fun r1 => (zb8 1 a0.R r1.fields).bind fun r2 => (zb8 2 a0.A r1.fields).bind fun r3 =>
  (zb8 4 a0.B r1.fields).bind fun r4 => (zb8 2048 a0.Mask r1.fields).bind fun r5 => (zb8 4096 a0.Target r1.fields).bind fun r6 =>
  (zb8 8192 a0.Pointer r1.fields).bind fun r7 => (zb8 16384 a0.Source r1.fields).bind fun r8 =>
  (zb8 32768 a0.zJ r1.fields).bind fun r9 => (zhi a0.Place ((zh .i64 r1.fields 8) != 0)).bind fun r10 =>
  (zhi a0.From ((zh .i64 r1.fields 16) != 0)).bind fun r11 => cond ((zh .i64 r1.fields 32) == 0) (cond ((zh .i64 r1.fields 64) == 0)
  (cond ((zh .i64 r1.fields 256) == 0) (cond ((zh .i64 r1.fields 512) == 0) (cond ((zh .i64 r1.fields 1024) == 0) ((cond a0.Half (some ((zh .i64 r1.fields 128) != 0))
  (some false)).bind fun g12 => (cond a0.zL (some (a0.Op == 4)) (some false)).bind fun g13 =>
  some (⟨a0.Op, r2, r3, r4, r9, r10, r11, (⟨0, 0, 0⟩ : DataType), (⟨0, 0, 0⟩ : DataType), g12, g13, (⟨0, 0⟩ : Number), (⟨#[]⟩ : ByteArray), (⟨#[]⟩ : ByteArray), r5, r6, r7, r8⟩ : zB))
  ((cond a0.Half (some ((zh .i64 r1.fields 128) != 0)) (some false)).bind fun g14 => (cond a0.zL (some (a0.Op == 4)) (some false)).bind fun g15 =>
  some (⟨a0.Op, r2, r3, r4, r9, r10, r11, (⟨0, 0, 0⟩ : DataType), (⟨0, 0, 0⟩ : DataType), g14, g15, (⟨0, 0⟩ : Number), (⟨#[]⟩ : ByteArray), a0.Other, r5, r6, r7, r8⟩ : zB)))
  (cond ((zh .i64 r1.fields 1024) == 0) ((cond a0.Half (some ((zh .i64 r1.fields 128) != 0)) (some false)).bind fun g16 => (cond a0.zL (some (a0.Op == 4))
  (some false)).bind fun g17 =>
  some (⟨a0.Op, r2, r3, r4, r9, r10, r11, (⟨0, 0, 0⟩ : DataType), (⟨0, 0, 0⟩ : DataType), g16, g17, (⟨0, 0⟩ : Number), a0.Text, (⟨#[]⟩ : ByteArray), r5, r6, r7, r8⟩ : zB))
  ((cond a0.Half (some ((zh .i64 r1.fields 128) != 0)) (some false)).bind fun g18 => (cond a0.zL (some (a0.Op == 4)) (some false)).bind fun g19 =>
  some (⟨a0.Op, r2, r3, r4, r9, r10, r11, (⟨0, 0, 0⟩ : DataType), (⟨0, 0, 0⟩ : DataType), g18, g19, (⟨0, 0⟩ : Number), a0.Text, a0.Other, r5, r6, r7, r8⟩ : zB))))
  (cond ((zh .i64 r1.fields 512) == 0) (cond ((zh .i64 r1.fields 1024) == 0) ((cond a0.Half (some ((zh .i64 r1.fields 128) != 0)) (some false)).bind fun g20 =>
  (cond a0.zL (some (a0.Op == 4)) (some false)).bind fun g21 =>
  some (⟨a0.Op, r2, r3, r4, r9, r10, r11, (⟨0, 0, 0⟩ : DataType), (⟨0, 0, 0⟩ : DataType), g20, g21, a0.Number, (⟨#[]⟩ : ByteArray), (⟨#[]⟩ : ByteArray), r5, r6, r7, r8⟩ : zB))
  ((cond a0.Half (some ((zh .i64 r1.fields 128) != 0)) (some false)).bind fun g22 => (cond a0.zL (some (a0.Op == 4)) (some false)).bind fun g23 =>
  some (⟨a0.Op, r2, r3, r4, r9, r10, r11, (⟨0, 0, 0⟩ : DataType), (⟨0, 0, 0⟩ : DataType), g22, g23, a0.Number, (⟨#[]⟩ : ByteArray), a0.Other, r5, r6, r7, r8⟩ : zB)))
  (cond ((zh .i64 r1.fields 1024) == 0) ((cond a0.Half (some ((zh .i64 r1.fields 128) != 0)) (some false)).bind fun g24 => (cond a0.zL (some (a0.Op == 4))
  (some false)).bind fun g25 =>
  some (⟨a0.Op, r2, r3, r4, r9, r10, r11, (⟨0, 0, 0⟩ : DataType), (⟨0, 0, 0⟩ : DataType), g24, g25, a0.Number, a0.Text, (⟨#[]⟩ : ByteArray), r5, r6, r7, r8⟩ : zB))
  ((cond a0.Half (some ((zh .i64 r1.fields 128) != 0)) (some false)).bind fun g26 => (cond a0.zL (some (a0.Op == 4)) (some false)).bind fun g27 =>
  some (⟨a0.Op, r2, r3, r4, r9, r10, r11, (⟨0, 0, 0⟩ : DataType), (⟨0, 0, 0⟩ : DataType), g26, g27, a0.Number, a0.Text, a0.Other, r5, r6, r7, r8⟩ : zB)))))
  (cond ((zh .i64 r1.fields 256) == 0) (cond ((zh .i64 r1.fields 512) == 0) (cond ((zh .i64 r1.fields 1024) == 0) ((cond a0.Half (some ((zh .i64 r1.fields 128) != 0))
  (some false)).bind fun g28 => (cond a0.zL (some (a0.Op == 4)) (some false)).bind fun g29 =>
  some (⟨a0.Op, r2, r3, r4, r9, r10, r11, (⟨0, 0, 0⟩ : DataType), a0.Second, g28, g29, (⟨0, 0⟩ : Number), (⟨#[]⟩ : ByteArray), (⟨#[]⟩ : ByteArray), r5, r6, r7, r8⟩ : zB))
  ((cond a0.Half (some ((zh .i64 r1.fields 128) != 0)) (some false)).bind fun g30 => (cond a0.zL (some (a0.Op == 4)) (some false)).bind fun g31 =>
  some (⟨a0.Op, r2, r3, r4, r9, r10, r11, (⟨0, 0, 0⟩ : DataType), a0.Second, g30, g31, (⟨0, 0⟩ : Number), (⟨#[]⟩ : ByteArray), a0.Other, r5, r6, r7, r8⟩ : zB)))
  (cond ((zh .i64 r1.fields 1024) == 0) ((cond a0.Half (some ((zh .i64 r1.fields 128) != 0)) (some false)).bind fun g32 => (cond a0.zL (some (a0.Op == 4))
  (some false)).bind fun g33 =>
  some (⟨a0.Op, r2, r3, r4, r9, r10, r11, (⟨0, 0, 0⟩ : DataType), a0.Second, g32, g33, (⟨0, 0⟩ : Number), a0.Text, (⟨#[]⟩ : ByteArray), r5, r6, r7, r8⟩ : zB))
  ((cond a0.Half (some ((zh .i64 r1.fields 128) != 0)) (some false)).bind fun g34 => (cond a0.zL (some (a0.Op == 4)) (some false)).bind fun g35 =>
  some (⟨a0.Op, r2, r3, r4, r9, r10, r11, (⟨0, 0, 0⟩ : DataType), a0.Second, g34, g35, (⟨0, 0⟩ : Number), a0.Text, a0.Other, r5, r6, r7, r8⟩ : zB))))
  (cond ((zh .i64 r1.fields 512) == 0) (cond ((zh .i64 r1.fields 1024) == 0) ((cond a0.Half (some ((zh .i64 r1.fields 128) != 0)) (some false)).bind fun g36 =>
  (cond a0.zL (some (a0.Op == 4)) (some false)).bind fun g37 =>
  some (⟨a0.Op, r2, r3, r4, r9, r10, r11, (⟨0, 0, 0⟩ : DataType), a0.Second, g36, g37, a0.Number, (⟨#[]⟩ : ByteArray), (⟨#[]⟩ : ByteArray), r5, r6, r7, r8⟩ : zB))
  ((cond a0.Half (some ((zh .i64 r1.fields 128) != 0)) (some false)).bind fun g38 => (cond a0.zL (some (a0.Op == 4)) (some false)).bind fun g39 =>
  some (⟨a0.Op, r2, r3, r4, r9, r10, r11, (⟨0, 0, 0⟩ : DataType), a0.Second, g38, g39, a0.Number, (⟨#[]⟩ : ByteArray), a0.Other, r5, r6, r7, r8⟩ : zB)))
  (cond ((zh .i64 r1.fields 1024) == 0) ((cond a0.Half (some ((zh .i64 r1.fields 128) != 0)) (some false)).bind fun g40 => (cond a0.zL (some (a0.Op == 4))
  (some false)).bind fun g41 =>
  some (⟨a0.Op, r2, r3, r4, r9, r10, r11, (⟨0, 0, 0⟩ : DataType), a0.Second, g40, g41, a0.Number, a0.Text, (⟨#[]⟩ : ByteArray), r5, r6, r7, r8⟩ : zB))
  ((cond a0.Half (some ((zh .i64 r1.fields 128) != 0)) (some false)).bind fun g42 => (cond a0.zL (some (a0.Op == 4)) (some false)).bind fun g43 =>
  some (⟨a0.Op, r2, r3, r4, r9, r10, r11, (⟨0, 0, 0⟩ : DataType), a0.Second, g42, g43, a0.Number, a0.Text, a0.Other, r5, r6, r7, r8⟩ : zB))))))
  (cond ((zh .i64 r1.fields 64) == 0) (cond ((zh .i64 r1.fields 256) == 0) (cond ((zh .i64 r1.fields 512) == 0) (cond ((zh .i64 r1.fields 1024) == 0)
  ((cond a0.Half (some ((zh .i64 r1.fields 128) != 0)) (some false)).bind fun g44 => (cond a0.zL (some (a0.Op == 4)) (some false)).bind fun g45 =>
  some (⟨a0.Op, r2, r3, r4, r9, r10, r11, a0.zF, (⟨0, 0, 0⟩ : DataType), g44, g45, (⟨0, 0⟩ : Number), (⟨#[]⟩ : ByteArray), (⟨#[]⟩ : ByteArray), r5, r6, r7, r8⟩ : zB))
  ((cond a0.Half (some ((zh .i64 r1.fields 128) != 0)) (some false)).bind fun g46 => (cond a0.zL (some (a0.Op == 4)) (some false)).bind fun g47 =>
  some (⟨a0.Op, r2, r3, r4, r9, r10, r11, a0.zF, (⟨0, 0, 0⟩ : DataType), g46, g47, (⟨0, 0⟩ : Number), (⟨#[]⟩ : ByteArray), a0.Other, r5, r6, r7, r8⟩ : zB)))
  (cond ((zh .i64 r1.fields 1024) == 0) ((cond a0.Half (some ((zh .i64 r1.fields 128) != 0)) (some false)).bind fun g48 => (cond a0.zL (some (a0.Op == 4))
  (some false)).bind fun g49 =>
  some (⟨a0.Op, r2, r3, r4, r9, r10, r11, a0.zF, (⟨0, 0, 0⟩ : DataType), g48, g49, (⟨0, 0⟩ : Number), a0.Text, (⟨#[]⟩ : ByteArray), r5, r6, r7, r8⟩ : zB))
  ((cond a0.Half (some ((zh .i64 r1.fields 128) != 0)) (some false)).bind fun g50 => (cond a0.zL (some (a0.Op == 4)) (some false)).bind fun g51 =>
  some (⟨a0.Op, r2, r3, r4, r9, r10, r11, a0.zF, (⟨0, 0, 0⟩ : DataType), g50, g51, (⟨0, 0⟩ : Number), a0.Text, a0.Other, r5, r6, r7, r8⟩ : zB))))
  (cond ((zh .i64 r1.fields 512) == 0) (cond ((zh .i64 r1.fields 1024) == 0) ((cond a0.Half (some ((zh .i64 r1.fields 128) != 0)) (some false)).bind fun g52 =>
  (cond a0.zL (some (a0.Op == 4)) (some false)).bind fun g53 =>
  some (⟨a0.Op, r2, r3, r4, r9, r10, r11, a0.zF, (⟨0, 0, 0⟩ : DataType), g52, g53, a0.Number, (⟨#[]⟩ : ByteArray), (⟨#[]⟩ : ByteArray), r5, r6, r7, r8⟩ : zB))
  ((cond a0.Half (some ((zh .i64 r1.fields 128) != 0)) (some false)).bind fun g54 => (cond a0.zL (some (a0.Op == 4)) (some false)).bind fun g55 =>
  some (⟨a0.Op, r2, r3, r4, r9, r10, r11, a0.zF, (⟨0, 0, 0⟩ : DataType), g54, g55, a0.Number, (⟨#[]⟩ : ByteArray), a0.Other, r5, r6, r7, r8⟩ : zB)))
  (cond ((zh .i64 r1.fields 1024) == 0) ((cond a0.Half (some ((zh .i64 r1.fields 128) != 0)) (some false)).bind fun g56 => (cond a0.zL (some (a0.Op == 4))
  (some false)).bind fun g57 =>
  some (⟨a0.Op, r2, r3, r4, r9, r10, r11, a0.zF, (⟨0, 0, 0⟩ : DataType), g56, g57, a0.Number, a0.Text, (⟨#[]⟩ : ByteArray), r5, r6, r7, r8⟩ : zB))
  ((cond a0.Half (some ((zh .i64 r1.fields 128) != 0)) (some false)).bind fun g58 => (cond a0.zL (some (a0.Op == 4)) (some false)).bind fun g59 =>
  some (⟨a0.Op, r2, r3, r4, r9, r10, r11, a0.zF, (⟨0, 0, 0⟩ : DataType), g58, g59, a0.Number, a0.Text, a0.Other, r5, r6, r7, r8⟩ : zB)))))
  (cond ((zh .i64 r1.fields 256) == 0) (cond ((zh .i64 r1.fields 512) == 0) (cond ((zh .i64 r1.fields 1024) == 0) ((cond a0.Half (some ((zh .i64 r1.fields 128) != 0))
  (some false)).bind fun g60 => (cond a0.zL (some (a0.Op == 4)) (some false)).bind fun g61 =>
  some (⟨a0.Op, r2, r3, r4, r9, r10, r11, a0.zF, a0.Second, g60, g61, (⟨0, 0⟩ : Number), (⟨#[]⟩ : ByteArray), (⟨#[]⟩ : ByteArray), r5, r6, r7, r8⟩ : zB))
  ((cond a0.Half (some ((zh .i64 r1.fields 128) != 0)) (some false)).bind fun g62 => (cond a0.zL (some (a0.Op == 4)) (some false)).bind fun g63 =>
  some (⟨a0.Op, r2, r3, r4, r9, r10, r11, a0.zF, a0.Second, g62, g63, (⟨0, 0⟩ : Number), (⟨#[]⟩ : ByteArray), a0.Other, r5, r6, r7, r8⟩ : zB)))
  (cond ((zh .i64 r1.fields 1024) == 0) ((cond a0.Half (some ((zh .i64 r1.fields 128) != 0)) (some false)).bind fun g64 => (cond a0.zL (some (a0.Op == 4))
  (some false)).bind fun g65 =>
  some (⟨a0.Op, r2, r3, r4, r9, r10, r11, a0.zF, a0.Second, g64, g65, (⟨0, 0⟩ : Number), a0.Text, (⟨#[]⟩ : ByteArray), r5, r6, r7, r8⟩ : zB))
  ((cond a0.Half (some ((zh .i64 r1.fields 128) != 0)) (some false)).bind fun g66 => (cond a0.zL (some (a0.Op == 4)) (some false)).bind fun g67 =>
  some (⟨a0.Op, r2, r3, r4, r9, r10, r11, a0.zF, a0.Second, g66, g67, (⟨0, 0⟩ : Number), a0.Text, a0.Other, r5, r6, r7, r8⟩ : zB))))
  (cond ((zh .i64 r1.fields 512) == 0) (cond ((zh .i64 r1.fields 1024) == 0) ((cond a0.Half (some ((zh .i64 r1.fields 128) != 0)) (some false)).bind fun g68 =>
  (cond a0.zL (some (a0.Op == 4)) (some false)).bind fun g69 =>
  some (⟨a0.Op, r2, r3, r4, r9, r10, r11, a0.zF, a0.Second, g68, g69, a0.Number, (⟨#[]⟩ : ByteArray), (⟨#[]⟩ : ByteArray), r5, r6, r7, r8⟩ : zB))
  ((cond a0.Half (some ((zh .i64 r1.fields 128) != 0)) (some false)).bind fun g70 => (cond a0.zL (some (a0.Op == 4)) (some false)).bind fun g71 =>
  some (⟨a0.Op, r2, r3, r4, r9, r10, r11, a0.zF, a0.Second, g70, g71, a0.Number, (⟨#[]⟩ : ByteArray), a0.Other, r5, r6, r7, r8⟩ : zB)))
  (cond ((zh .i64 r1.fields 1024) == 0) ((cond a0.Half (some ((zh .i64 r1.fields 128) != 0)) (some false)).bind fun g72 => (cond a0.zL (some (a0.Op == 4))
  (some false)).bind fun g73 => some (⟨a0.Op, r2, r3, r4, r9, r10, r11, a0.zF, a0.Second, g72, g73, a0.Number, a0.Text, (⟨#[]⟩ : ByteArray), r5, r6, r7, r8⟩ : zB))
  ((cond a0.Half (some ((zh .i64 r1.fields 128) != 0)) (some false)).bind fun g74 => (cond a0.zL (some (a0.Op == 4)) (some false)).bind fun g75 =>
  some (⟨a0.Op, r2, r3, r4, r9, r10, r11, a0.zF, a0.Second, g74, g75, a0.Number, a0.Text, a0.Other, r5, r6, r7, r8⟩ : zB))))))
def zjj.k : Kq := ⟨92, (cvv [Ty.zB] [Ty.zB] zjj), go [zbj.k, zb8.k, zhi.k] {} [] Proofs.Tryz.func92⟩
def zf6 (a0 : zH) (a1 : zB) : Option Bool :=
 (cond (a1.Op != 7) (some true) (some a0.yC)).bind fun g1 => (cond g1 ((cond (a1.Op != 4) (some true) (some (!a1.zL))).bind fun g2 => (cond g2 (some true)
  (some a0.zY)).bind fun g3 => some g3) (some false)).bind fun g4 => some g4
def zf6.k : Kq := ⟨63, (cvv [Ty.bool] [Ty.zH, Ty.zB] zf6), go [] {} [] Proofs.Tryz.func63⟩
def zd0 (a0 : Int) (a1 : Int) (a2 : Int) : Option Bool :=
 (cond (decide (a1 ≤ a0)) (some (decide (a0 ≤ a2))) (some false)).bind fun g1 => some g1
def zd0.k : Kq := ⟨119, (cvv [Ty.bool] [T6, T6, T6] zd0), go [] {} [] Proofs.Tryz.func119⟩
def zan (a0 : Bool) (a1 : Int) : Option Int :=
 cond a0 (some a1) (some 0)
def zan.k : Kq := ⟨118, (cvv [T6] [Ty.bool, T6] zan), go [] {} [] Proofs.Tryz.func118⟩
def zp.b0 (N : Nat) (s5 : List Int) (s6 : Int) (s7 : Int) : Option (Round Int ((List Int) × Int × Int)) :=
 cond (decide (s7 < s6)) ((idx s5 s7).bind fun x1001 => cond (x1001 != 0) (some (.result x1001)) (some (.again (s5, s6, (w6 (s7 + 1)))))) (some (.leave (s5, s6, s7)))
def zp.r0 (N : Nat) (x : (List Int) × Int × Int) := zp.b0 N x.1 x.2.1 x.2.2
def zp (N : Nat) (a0 : List Int) : Option Int :=
 (zt (zp.r0 N) N (a0, (a0.length : Int), 0)).bind fun z2 => zb2 z2 (fun z => some z) (fun y1 => some 0)
def zp.k (N : Nat) : Kq := ⟨265, (cvv [T6] [(Ty.sl T6)] (zp N)), go [] {} [(0, .rets { slots := [(5, .val (Ty.sl T6)), (6, .val T6), (7, .val T6)], boxes := [] } [(Ty.sl T6), T6, T6] (zt (zp.r0 N) N))] Proofs.Tryz.func265 (hL := ⟨⟨_, _, rfl, by kernel_rfl⟩, trivial⟩)⟩
def za4 (N : Nat) (a0 : DataType) : Option Int :=
 cond (a0.Kind == 0) ((zd0 a0.Length 1 256).bind fun r1 => (zan (!r1) 18).bind fun r2 => (zan (!(a0.Scale == 0)) 3).bind fun r3 =>
  (zp N ([r2, r3] : List Int)).bind fun r4 => some r4) ((cond (a0.Kind == 1) (some (a0.Kind == 1)) (some (a0.Kind == 2))).bind fun q5 =>
  cond q5 ((zd0 a0.Length 1 15).bind fun r6 => (zd0 a0.Scale 0 a0.Length).bind fun r7 => (zan (!r6) 18).bind fun r8 => (zan (!r7) 3).bind fun r9 =>
  (zp N ([r8, r9] : List Int)).bind fun r10 => some r10) (cond (a0.Kind == 3) ((cond (a0.Length == 4) (some true) (some (a0.Length == 9))).bind fun g11 =>
  (zd0 a0.Scale 0 a0.Length).bind fun r12 => (zan (!g11) 18).bind fun r13 => (zan (!r12) 3).bind fun r14 =>
  (zp N ([r13, r14] : List Int)).bind fun r15 => some r15) (cond (a0.Kind == 4) ((zan (!(a0.Length == 0)) 18).bind fun r16 =>
  (zan (!(a0.Scale == 0)) 3).bind fun r17 => (zp N ([r16, r17] : List Int)).bind fun r18 => some r18) (some 4))))
def za4.k (N : Nat) : Kq := ⟨202, (cvv [T6] [Ty.DataType] (za4 N)), go [zan.k, zd0.k, zp.k N] {lits := [48, 51, 52], bj := [15]} [] Proofs.Tryz.func202⟩
def zff (N : Nat) (a0 : DataType) (a1 : Int) : Option Int :=
 (cond (a0.Kind == 4) (some true) ((cond (a1 == 1) (some (a0.Kind == 0)) (some false)).bind fun g1 => some g1)).bind fun g2 => (cond g2 (some true) ((cond (a1 == 2)
  (some (a0.Kind != 0)) (some false)).bind fun g3 => some g3)).bind fun g4 => (za4 N a0).bind fun r5 => (zaj g4 17).bind fun r6 =>
  (z7 N ([r5, r6] : List Int)).bind fun r7 => some r7
def zff.k (N : Nat) : Kq := ⟨139, (cvv [T6] [Ty.DataType, T6] (zff N)), go [z7.k N, zaj.k, za4.k N] {lits := [28, 30, 31]} [] Proofs.Tryz.func139⟩
def zgy (N : Nat) (a0 : zB) (a1 : zP) : Option Int :=
 cond ((zh .i64 a1.fields 32) != 0) ((zff N a0.zF a1.types).bind fun r1 => cond (r1 != 0) (some r1) (cond ((zh .i64 a1.fields 64) != 0)
  ((zff N a0.Second a1.types).bind fun r2 => some r2) (some 0))) (cond ((zh .i64 a1.fields 64) != 0) ((zff N a0.Second a1.types).bind fun r3 => some r3)
  (some 0))
def zgy.k (N : Nat) : Kq := ⟨93, (cvv [T6] [Ty.zB, Ty.zP] (zgy N)), go [zff.k N] {} [] Proofs.Tryz.func93⟩
def zq.b0 (N : Nat) (s3 : List Int) (s4 : Int) (s16 : List Int) (s17 : Int) (s18 : Int) : Option (Stp ((List Int) × Int × (List Int) × Int × Int)) :=
 cond (decide (s18 < s17)) (if 0 ≤ s18 then (if s18 < (s16.length : Int) then ((s16[s18.toNat]?).bind fun x1001 =>
  if s18 < 0 then none else cond ((zh .i64 s4 (w6 (1 * 2 ^ (min s18.toNat 64)))) != 0) (cond (Nat.ble ((s3.length + ([x1001] : List Int).length) * 8) zac)
  (some (.again ((s3 ++ ([x1001] : List Int)), s4, s16, s17, (w6 (s18 + 1))))) none)
  (some (.again (s3, s4, s16, s17, (w6 (s18 + 1)))))) else none) else none) (some (.leave (s3, s4, s16, s17, s18)))
def zq.r0 (N : Nat) (x : (List Int) × Int × (List Int) × Int × Int) := zq.b0 N x.1 x.2.1 x.2.2.1 x.2.2.2.1 x.2.2.2.2
def zq (N : Nat) (a0 : zB) : Option ((List Int)) :=
 (zbj a0).bind fun r1 =>
  (zr (zq.r0 N) N ([], r1.fields, ([a0.R, a0.A, a0.B] : List Int), (([a0.R, a0.A, a0.B] : List Int).length : Int), 0)).bind fun y2 => some y2.1
def zq.k (N : Nat) : Kq := ⟨65, (cvv [(Ty.sl T6)] [Ty.zB] (zq N)), go [zbj.k] {lits := [30]} [(0, .plain { slots := [(3, .own 5000003 T6), (4, .val T6), (16, .own 5000016 T6), (17, .val T6), (18, .val T6)], boxes := [] } [(Ty.sl T6), T6, (Ty.sl T6), T6, T6] (zr (zq.r0 N) N))] Proofs.Tryz.func65 (hL := ⟨⟨_, _, rfl, by kernel_rfl⟩, trivial⟩)⟩
def zfy (a0 : Int) (a1 : zH) : Option Bool :=
 (zae a0 0 (w6 (a1.Registers - 1))).bind fun r1 => some (!r1)
def zfy.k : Kq := ⟨140, (ctv [.val T6, .ptr Ty.zH false []] [Ty.bool] [] [] [T6, Ty.zH] zfy), go [zae.k] {ro := [1000000], pk := [1000000]} [] Proofs.Tryz.func140⟩
def zag.b0 (N : Nat) (s0 : List Int) (s7 : Int) (s8 : Int) (b1000000 : zH) : Option (Round Int ((List Int) × Int × Int × zH)) :=
 cond (decide (s8 < s7)) ((idx s0 s8).bind fun x1001 => (zfy x1001 b1000000).bind fun r1002 => cond r1002 (some (.result s8))
  (some (.again (s0, s7, (w6 (s8 + 1)), b1000000)))) (some (.leave (s0, s7, s8, b1000000)))
def zag.r0 (N : Nat) (x : (List Int) × Int × Int × zH) := zag.b0 N x.1 x.2.1 x.2.2.1 x.2.2.2
def zag (N : Nat) (a0 : List Int) (a1 : zH) : Option Int :=
 (zt (zag.r0 N) N (a0, (a0.length : Int), 0, a1)).bind fun z2 => zb2 z2 (fun z => some z) (fun y1 => some (-1))
def zag.k (N : Nat) : Kq := ⟨106, (ctv [.val (Ty.sl T6), .clo 140 1, .ptr Ty.zH false []] [T6] [] [] [(Ty.sl T6), Ty.zH] (zag N)), go [zfy.k] {ro := [1000000], pk := [1000000]} [(0, .rets { slots := [(0, .val (Ty.sl T6)), (1, .fn 140 [1000000]), (7, .val T6), (8, .val T6)], boxes := [(1000000, Ty.zH, [])] } [(Ty.sl T6), T6, T6, Ty.zH] (zt (zag.r0 N) N))] Proofs.Tryz.func106 (hL := ⟨⟨_, _, rfl, by kernel_rfl⟩, trivial⟩)⟩
def zcs (N : Nat) (a0 : List Int) (a1 : zH) : Option Bool :=
 (zag N a0 a1).bind fun r1 => some (decide (r1 ≥ 0))
def zcs.k (N : Nat) : Kq := ⟨64, (ctv [.val (Ty.sl T6), .clo 140 1, .ptr Ty.zH false []] [Ty.bool] [] [] [(Ty.sl T6), Ty.zH] (zcs N)), go [zag.k N] {ro := [1000000], pk := [1000000]} [] Proofs.Tryz.func64⟩
def zdr (a0 : Storage) (a1 : Int) : Option Bool :=
 (cond (decide (a1 ≥ 0)) (some ((a1.tmod 16) == 0)) (some false)).bind fun g1 => (cond g1 (some (decide (a1 < (a0.Bytes.size : Int)))) (some false)).bind fun g2 => some g2
def zdr.k : Kq := ⟨141, (cvv [Ty.bool] [Ty.Storage, T6] zdr), go [] {} [] Proofs.Tryz.func141⟩
def zf4 (a0 : DataType) : Option Int :=
 cond (a0.Kind == 1) (some (w6 ((w6 (a0.Length.tdiv 2)) + 1))) (cond (a0.Kind == 3)
  (some (w6 (2 + (w6 ((w6 (a0.Length.tdiv 9)) * 2))))) (cond (a0.Kind == 4) (some 16) (some a0.Length)))
def zf4.k : Kq := ⟨267, (cvv [T6] [Ty.DataType] zf4), go [] {} [] Proofs.Tryz.func267⟩
def zkg (N : Nat) (a0 : DataType) : Option (Int × Int) :=
 (za4 N a0).bind fun r1 => cond (r1 != 0) (some (0, r1)) ((zf4 a0).bind fun r2 => some (r2, 0))
def zkg.k (N : Nat) : Kq := ⟨266, (cvv [T6, T6] [Ty.DataType] (zkg N)), go [za4.k N, zf4.k] {} [] Proofs.Tryz.func266⟩
def zeo (N : Nat) (a0 : DataType) : Option Int :=
 (zkg N a0).bind fun r1 => some r1.1
def zeo.k (N : Nat) : Kq := ⟨203, (cvv [T6] [Ty.DataType] (zeo N)), go [zkg.k N] {} [] Proofs.Tryz.func203⟩
def zc1 (N : Nat) (a0 : Storage) (a1 : zO) (a2 : DataType) : Option Bool :=
 cond a1.Based ((zdr a0 a1.Pointer).bind fun r1 => (cond r1 ((zae a1.Offset 0 256).bind fun r2 => some r2) (some false)).bind fun g3 => some g3)
  ((zeo N a2).bind fun r4 => (zae a1.Offset 0 (w6 ((a0.Bytes.size : Int) - r4))).bind fun r5 => some r5)
def zc1.k (N : Nat) : Kq := ⟨142, (cvv [Ty.bool] [Ty.Storage, Ty.zO, Ty.DataType] (zc1 N)), go [zae.k, zdr.k, zeo.k N] {} [] Proofs.Tryz.func142⟩
def zhj (N : Nat) (a0 : zH) (a1 : zG) (a2 : zB) : Option Bool :=
 (zbj a2).bind fun r1 => (zq N a2).bind fun r2 => (zcs N r2 a0).bind fun r3 => cond r3 (some false)
  ((cond ((zh .i64 r1.fields 8) != 0) (some (a2.Op == 4)) (some false)).bind fun g4 => cond g4 ((cond ((zh .i64 r1.fields 4096) != 0)
  ((zae a2.Target 0 (w6 ((a1.zD.length : Int) - 1))).bind fun r5 => some (!r5)) (some false)).bind fun g6 => (cond g6 (some true)
  ((cond ((zh .i64 r1.fields 2048) != 0) ((zae a2.Mask 1 7).bind fun r7 => some (!r7)) (some false)).bind fun g8 => some g8)).bind fun g9 => (cond g9 (some true)
  ((cond ((zh .i64 r1.fields 8192) != 0) ((zdr a1.Storage a2.Pointer).bind fun r10 => some (!r10)) (some false)).bind fun g11 => some g11)).bind fun g12 =>
  (cond g12 (some true) ((cond ((zh .i64 r1.fields 16384) != 0) ((zdr a1.Storage a2.Source).bind fun r13 => some (!r13)) (some false)).bind fun g14 =>
  some g14)).bind fun g15 => (cond g15 (some true) ((cond ((zh .i64 r1.fields 8) != 0) ((zc1 N a1.Storage a2.Place a2.Second).bind fun r16 => some (!r16))
  (some false)).bind fun g17 => some g17)).bind fun g18 => (cond g18 (some true) ((cond ((zh .i64 r1.fields 16) != 0)
  ((zc1 N a1.Storage a2.From a2.Second).bind fun r19 => some (!r19)) (some false)).bind fun g20 => some g20)).bind fun g21 => (cond g21 (some true)
  ((cond ((zh .i64 r1.fields 32768) != 0) ((zae a2.zJ 0 4).bind fun r22 => some (!r22)) (some false)).bind fun g23 => some g23)).bind fun g24 => some (!g24))
  ((cond ((zh .i64 r1.fields 4096) != 0) ((zae a2.Target 0 (w6 ((a1.zD.length : Int) - 1))).bind fun r25 => some (!r25))
  (some false)).bind fun g26 => (cond g26 (some true) ((cond ((zh .i64 r1.fields 2048) != 0) ((zae a2.Mask 1 7).bind fun r27 => some (!r27)) (some false)).bind fun g28 =>
  some g28)).bind fun g29 => (cond g29 (some true) ((cond ((zh .i64 r1.fields 8192) != 0) ((zdr a1.Storage a2.Pointer).bind fun r30 => some (!r30))
  (some false)).bind fun g31 => some g31)).bind fun g32 => (cond g32 (some true) ((cond ((zh .i64 r1.fields 16384) != 0) ((zdr a1.Storage a2.Source).bind fun r33 =>
  some (!r33)) (some false)).bind fun g34 => some g34)).bind fun g35 => (cond g35 (some true) ((cond ((zh .i64 r1.fields 8) != 0)
  ((zc1 N a1.Storage a2.Place a2.zF).bind fun r36 => some (!r36)) (some false)).bind fun g37 => some g37)).bind fun g38 => (cond g38 (some true)
  ((cond ((zh .i64 r1.fields 16) != 0) ((zc1 N a1.Storage a2.From a2.Second).bind fun r39 => some (!r39)) (some false)).bind fun g40 => some g40)).bind fun g41 =>
  (cond g41 (some true) ((cond ((zh .i64 r1.fields 32768) != 0) ((zae a2.zJ 0 4).bind fun r42 => some (!r42)) (some false)).bind fun g43 =>
  some g43)).bind fun g44 => some (!g44)))
def zhj.k (N : Nat) : Kq := ⟨95, (cvv [Ty.bool] [Ty.zH, Ty.zG, Ty.zB] (zhj N)), go [zae.k, zcs.k N, zq.k N, zbj.k, zdr.k, zc1.k N] {lits := [13]} [] Proofs.Tryz.func95⟩
def zas (a0 : Number) : Option Int :=
 (zd0 a0.N (-999999999999999) 999999999999999).bind fun r1 => (cond (!r1) (some true) ((zd0 a0.Scale 0 15).bind fun r2 => some (!r2))).bind fun g3 =>
  (zan g3 3).bind fun r4 => some r4
def zas.k : Kq := ⟨78, (cvv [T6] [Ty.Number] zas), go [zan.k, zd0.k] {} [] Proofs.Tryz.func78⟩
def zck (N : Nat) (a0 : zH) (a1 : zG) (a2 : zB) : Option Int :=
 (zae a2.Op 0 26).bind fun r1 => cond (!r1) (some 4) ((zjj a2).bind fun r2 =>
  (zaj (!(zfw [(r2.Op == a2.Op), (r2.R == a2.R), (r2.A == a2.A), (r2.B == a2.B), (r2.zJ == a2.zJ), (r2.Place.Based == a2.Place.Based), (r2.Place.Pointer == a2.Place.Pointer), (r2.Place.Offset == a2.Place.Offset), (r2.From.Based == a2.From.Based), (r2.From.Pointer == a2.From.Pointer), (r2.From.Offset == a2.From.Offset), (r2.zF.Kind == a2.zF.Kind), (r2.zF.Length == a2.zF.Length), (r2.zF.Scale == a2.zF.Scale), (r2.Second.Kind == a2.Second.Kind), (r2.Second.Length == a2.Second.Length), (r2.Second.Scale == a2.Second.Scale), (r2.Half == a2.Half), (r2.zL == a2.zL), (r2.Number.N == a2.Number.N), (r2.Number.Scale == a2.Number.Scale), (r2.Text == a2.Text), (r2.Other == a2.Other), (r2.Mask == a2.Mask), (r2.Target == a2.Target), (r2.Pointer == a2.Pointer), (r2.Source == a2.Source)])) 5).bind fun r3 =>
  (zf6 a0 a2).bind fun r4 => (zaj (!r4) 39).bind fun r5 => (zbj a2).bind fun r6 => (zgy N a2 r6).bind fun r7 =>
  (z7 N ([r3, r5, r7] : List Int)).bind fun r8 => cond (r8 != 0) (some r8) ((zhj N a0 a1 a2).bind fun r9 => (zaj (!r9) 3).bind fun r10 =>
  (zas a2.Number).bind fun r11 => (cond (decide ((a2.Text.size : Int) > 256)) (some true) (some (decide ((a2.Other.size : Int) > 256)))).bind fun g12 =>
  (zaj g12 2).bind fun r13 => (z7 N ([r10, r11, r13] : List Int)).bind fun r14 => some r14))
def zck.k (N : Nat) : Kq := ⟨51, (cvv [T6] [Ty.zH, Ty.zG, Ty.zB] (zck N)), go [z7.k N, zaj.k, zae.k, zf6.k, zas.k, zjj.k, zgy.k N, zbj.k, zhj.k N] {lits := [16, 21, 24, 25, 26, 36, 39, 50, 51]} [] Proofs.Tryz.func51⟩
def zhh (a0 : zG) (a1 : zT) : Option Int :=
 (zae a1.From 0 a1.To).bind fun r1 => (cond r1 (some (decide (a1.To ≤ (a0.zD.length : Int)))) (some false)).bind fun g2 =>
  (cond g2 ((zae a1.Exception 0 999).bind fun r3 => some r3) (some false)).bind fun g4 =>
  (cond g4 ((zae a1.Handler 0 (w6 ((a0.zD.length : Int) - 1))).bind fun r5 => some r5) (some false)).bind fun g6 =>
  (zaj (!g6) 3).bind fun r7 => some r7
def zhh.k : Kq := ⟨52, (cvv [T6] [Ty.zG, Ty.zT] zhh), go [zaj.k, zae.k] {} [] Proofs.Tryz.func52⟩
def zm.b0 (N : Nat) (s57 : List zB) (s58 : Int) (s59 : Int) (b2 : zH) (b3 : zG) : Option (Round (Int × Int) ((List zB) × Int × Int × zH × zG)) :=
 cond (decide (s59 < s58)) ((idx s57 s59).bind fun x1001 => (zck N b2 b3 x1001).bind fun r1002 => cond (r1002 != 0) (some (.result (s59, r1002)))
  (some (.again (s57, s58, (w6 (s59 + 1)), b2, b3)))) (some (.leave (s57, s58, s59, b2, b3)))
def zm.r0 (N : Nat) (x : (List zB) × Int × Int × zH × zG) := zm.b0 N x.1 x.2.1 x.2.2.1 x.2.2.2.1 x.2.2.2.2
def zm.b2 (N : Nat) (s74 : List zT) (s75 : Int) (s76 : Int) (b3 : zG) : Option (Round (Int × Int) ((List zT) × Int × Int × zG)) :=
 cond (decide (s76 < s75)) ((idx s74 s76).bind fun x3001 => (zhh b3 x3001).bind fun r3002 => cond (r3002 != 0) (some (.result (s76, r3002)))
  (some (.again (s74, s75, (w6 (s76 + 1)), b3)))) (some (.leave (s74, s75, s76, b3)))
def zm.r2 (N : Nat) (x : (List zT) × Int × Int × zG) := zm.b2 N x.1 x.2.1 x.2.2.1 x.2.2.2
def zm (N : Nat) (a0 : zH) (a1 : zG) : Option (Int × Int) :=
 (zc5 a0).bind fun r1 => cond (r1 != 0) (some (0, r1)) ((zw N a1.Storage).bind fun r2 => cond (r2.2 != 0) (some (0, r2.2))
  ((zfm N a1.Storage.Tags true).bind fun r3 => (zaj r3 22).bind fun r4 => (zaj ((a1.zD.length : Int) == 0) 1).bind fun r5 =>
  (cond (decide ((a1.zD.length : Int) > 240)) (some true) (some (decide ((a1.zN.length : Int) > 40)))).bind fun g6 => (zaj g6 2).bind fun r7 =>
  (z7 N ([r4, r5, r7] : List Int)).bind fun r8 => cond (r8 != 0) (some (0, r8))
  ((zt (zm.r0 N) N (a1.zD, (a1.zD.length : Int), 0, a0, a1)).bind fun z10 => zb2 z10 (fun z => some z) (fun y9 =>
  (zt (zm.r2 N) N (y9.2.2.2.2.zN, (y9.2.2.2.2.zN.length : Int), 0, y9.2.2.2.2)).bind fun z12 => zb2 z12 (fun z => some z) (fun y11 =>
  some ((y11.2.2.2.zD.length : Int), 0))))))
def zm.k (N : Nat) : Kq := ⟨14, (cvv [T6, T6] [Ty.zH, Ty.zG] (zm N)), go [zc5.k, zw.k N, z7.k N, zaj.k, zfm.k N, zck.k N, zhh.k] {lits := [33, 34, 39, 50, 51]} [(0, .rets { slots := [(2, .ptr 2 0), (3, .ptr 3 0), (57, .val (Ty.sl Ty.zB)), (58, .val T6), (59, .val T6)], boxes := [(2, Ty.zH, []), (3, Ty.zG, [])] } [(Ty.sl Ty.zB), T6, T6, Ty.zH, Ty.zG] (zt (zm.r0 N) N)), (2, .rets { slots := [(3, .ptr 3 0), (74, .val (Ty.sl Ty.zT)), (75, .val T6), (76, .val T6)], boxes := [(3, Ty.zG, [])] } [(Ty.sl Ty.zT), T6, T6, Ty.zG] (zt (zm.r2 N) N))] Proofs.Tryz.func14 (hL := ⟨⟨_, _, rfl, by kernel_rfl⟩, ⟨_, _, rfl, by kernel_rfl⟩, trivial⟩)⟩
def zci (N : Nat) (a0 : zH) (a1 : zG) : Option Int :=
 (zm N a0 a1).bind fun r1 => some r1.2
def zci.k (N : Nat) : Kq := ⟨60, (cvv [T6] [Ty.zH, Ty.zG] (zci N)), go [zm.k N] {} [] Proofs.Tryz.func60⟩
def x76 : Ct U := { params := [.val (Ty.sl Ty.bool)], results := [(Ty.sl Ty.bool)], outs := [], fresh := [0], fn := app U [(Ty.sl Ty.bool)] (R := PT U [(Ty.sl Ty.bool)]) (zda 1) }
theorem x76.meets : zij (zso [] [] [] [] [] [] [] []) 76 x76 :=
 zpa zw3 (zvy (l := []) rfl zc8) (zu5 (l := []) rfl zc8) (Lp := pick []) Proofs.Tryz.func76 (by kernel_rfl) (zv2 (l := []) rfl zc8) (fun y => by kernel_rfl) (e := 4) (t := Ty.bool) rfl rfl rfl rfl rfl rfl rfl (by kernel_rfl) rfl rfl rfl rfl rfl rfl (fun xs => by kernel_rfl) fun ds y h => by
  obtain ⟨xs, rfl, hx⟩ := z0v h; refine ⟨xs, rfl, fun b hb => ?_⟩; cases b with
  | true =>
   have := hb rfl; subst this; exact Eq.trans (by kernel_rfl) hx
  | false => exact Eq.trans (b := cond (Nat.ble ((0 + xs.length) * 1) zac) (some xs) none) (by kernel_rfl) (by rw [Nat.zero_add]; exact hx)
def x76.k : Kq := ⟨76, x76, x76.meets⟩
def zhl (N : Nat) (a0 : zH) (a1 : zG) : Option (zA × Int) :=
 (zci N a0 a1).bind fun r1 => cond (r1 != 0) (some ((⟨[], 0, (⟨(⟨#[]⟩ : ByteArray), []⟩ : Storage), 0, [], [], 0, 0, 0, 0⟩ : zA), r1))
  ((zda 1 a1.Storage.Tags).bind fun r2 => if 0 ≤ a0.Registers then (if a0.Registers ≤ a0.Registers then (cond (Nat.ble (a0.Registers.toNat * 16) zac)
  (some ((⟨(List.replicate a0.Registers.toNat ((⟨0, 0⟩ : Number) : Number)), 0, (⟨a1.Storage.Bytes, r2⟩ : Storage), 0, [], [], 0, 0, 0, 0⟩ : zA), 0)) none) else none) else none)
def zhl.k (N : Nat) : Kq := ⟨34, (cvv [Ty.zA, T6] [Ty.zH, Ty.zG] (zhl N)), go [zci.k N, x76.k] {} [] Proofs.Tryz.func34⟩
def zhs (N : Nat) (a0 : Storage) (a1 : Int) : Option Int :=
 (zw N a0).bind fun r1 => cond (r1.2 != 0) (some r1.2) ((cond (decide (a1 < 0)) (some true) (some (decide (a1 ≥ (a0.Bytes.size : Int))))).bind fun g2 =>
  (cond g2 (some true) (some ((a1.tmod 16) != 0))).bind fun g3 => cond g3 (some 3) (some 0))
def zhs.k (N : Nat) : Kq := ⟨186, (cvv [T6] [Ty.Storage, T6] (zhs N)), go [zw.k N] {} [] Proofs.Tryz.func186⟩
def ze8 (N : Nat) (a0 : Storage) (a1 : Int) : Option (Pointer × Int) :=
 (zhs N a0 a1).bind fun r1 => cond (r1 != 0) (some ((⟨0, (⟨0, 0⟩ : Address), 0⟩ : Pointer), r1)) ((idx a0.Tags (w6 (a1.tdiv 16))).bind fun x2 => cond (!x2)
  (some ((⟨0, (⟨0, 0⟩ : Address), 0⟩ : Pointer), 22))
  (if 0 ≤ (w6 (a1 + 16)) ∧ (w6 (a1 + 16)) ≤ (a0.Bytes.size : Int) then (if 0 ≤ a1 ∧ a1 ≤ (w6 (a1 + 16)) then ((ze7 N (a0.Bytes.extract a1.toNat (w6 (a1 + 16)).toNat)).bind fun r3 =>
  some (r3.1, r3.2)) else none) else none))
def ze8.k (N : Nat) : Kq := ⟨123, (cvv [Ty.Pointer, T6] [Ty.Storage, T6] (ze8 N)), go [ze7.k N, zhs.k N] {} [] Proofs.Tryz.func123⟩
def zf (a0 : zC) (a1 : Bool) (a2 : Int) : Option (Bool × zC) :=
 (cond a1 (some (a0.raised == 0)) (some false)).bind fun g1 => cond g1 (some ((a2 == 0), (⟨a0.zA, a0.code, a2⟩ : zC))) (some ((a0.raised == 0), a0))
def zf.k : Kq := ⟨206, (ctv [.ptr Ty.zC true [], .val Ty.bool, .val T6] [Ty.bool] [Ty.zC] [] [Ty.zC, Ty.bool, T6] zf), go [] {pk := [1000000]} [] Proofs.Tryz.func206⟩
def zav (N : Nat) (a0 : zC) (a1 : Int) : Option (Pointer × Bool × zC) :=
 (ze8 N a0.zA.Storage a1).bind fun r1 => (zf a0 (r1.2 != 0) 4).bind fun r2 => some (r1.1, r2.1, r2.2)
def zav.k (N : Nat) : Kq := ⟨218, (ctv [.ptr Ty.zC true [], .val T6] [Ty.Pointer, Ty.bool] [Ty.zC] [] [Ty.zC, T6] (zav N)), go [ze8.k N, zf.k] {pk := [1000000]} [] Proofs.Tryz.func218⟩
def za0 (N : Nat) (a0 : zC) (a1 : zO) (a2 : Int) : Option (Int × Bool × zC) :=
 cond (!a1.Based) (some (a1.Offset, true, a0)) ((zav N a0 a1.Pointer).bind fun r1 => cond (!r1.2.1) (some (0, false, r1.2.2))
  ((zf r1.2.2 (decide ((w6 (r1.1.Address.Offset + a1.Offset)) > (w6 ((r1.2.2.zA.Storage.Bytes.size : Int) - a2)))) 5).bind fun r2 =>
  some ((w6 (r1.1.Address.Offset + a1.Offset)), r2.1, r2.2)))
def za0.k (N : Nat) : Kq := ⟨216, (ctv [.ptr Ty.zC true [], .val Ty.zO, .val T6] [T6, Ty.bool] [Ty.zC] [] [Ty.zC, Ty.zO, T6] (za0 N)), go [zf.k, zav.k N] {pk := [1000000]} [] Proofs.Tryz.func216⟩
def zu (N : Nat) (a0 : zC) (a1 : zO) (a2 : DataType) : Option (ByteArray × Bool × zC) :=
 (zeo N a2).bind fun r1 => (za0 N a0 a1 r1).bind fun r2 => cond (!r2.2.1) (some ((⟨#[]⟩ : ByteArray), false, r2.2.2))
  (if 0 ≤ (w6 (r2.1 + r1)) ∧ (w6 (r2.1 + r1)) ≤ (r2.2.2.zA.Storage.Bytes.size : Int) then (if 0 ≤ r2.1 ∧ r2.1 ≤ (w6 (r2.1 + r1)) then (some ((r2.2.2.zA.Storage.Bytes.extract r2.1.toNat (w6 (r2.1 + r1)).toNat), true, r2.2.2)) else none) else none)
def zu.k (N : Nat) : Kq := ⟨204, (ctv [.ptr Ty.zC true [], .val Ty.zO, .val Ty.DataType] [Ty.str, Ty.bool] [Ty.zC] [] [Ty.zC, Ty.zO, Ty.DataType] (zu N)), go [zeo.k N, za0.k N] {pk := [1000000]} [] Proofs.Tryz.func204⟩
def zbr.b0 (N : Nat) (s3 : Int) (s12 : List Int) (s13 : Int) (s14 : Int) : Option (Stp (Int × (List Int) × Int × Int)) :=
 cond (decide (s14 < s13)) (if 0 ≤ s14 then (if s14 < (s12.length : Int) then ((s12[s14.toNat]?).bind fun x1001 =>
  some (.again ((orI .i64 (w6 (s3 * 2 ^ (min (8 : Int).toNat 64))) (w6 x1001)), s12, s13, (w6 (s14 + 1))))) else none) else none)
  (some (.leave (s3, s12, s13, s14)))
def zbr.r0 (N : Nat) (x : Int × (List Int) × Int × Int) := zbr.b0 N x.1 x.2.1 x.2.2.1 x.2.2.2
def zbr (N : Nat) (a0 : ByteArray) : Option Int :=
 (zgs a0 0).bind fun x1 =>
  if 0 ≤ (1 : Int) ∧ (1 : Int) ≤ (a0.size : Int) then ((zr (zbr.r0 N) N ((w6 (IntKind.wrap .i8 (x1.toNat : Int))), (zji (a0.extract (1 : Int).toNat a0.size)), ((zji (a0.extract (1 : Int).toNat a0.size)).length : Int), 0)).bind fun y2 =>
  some y2.1) else none
def zbr.k (N : Nat) : Kq := ⟨268, (cvv [T6] [Ty.str] (zbr N)), go [] {} [(0, .plain { slots := [(3, .val T6), (12, .own 5000012 (Ty.int .u8)), (13, .val T6), (14, .val T6)], boxes := [] } [T6, (Ty.sl (Ty.int .u8)), T6, T6] (zr (zbr.r0 N) N))] Proofs.Tryz.func268 (hL := ⟨⟨_, _, rfl, by kernel_rfl⟩, trivial⟩)⟩
def zcb.b0 (N : Nat) (s3 : Int) (s5 : Int) (s6 : Int) : Option (Stp (Int × Int × Int)) :=
 cond (decide (s6 < s5)) (some (.again ((w6 (s3 * 10)), s5, (w6 (s6 + 1))))) (some (.leave (s3, s5, s6)))
def zcb.r0 (N : Nat) (x : Int × Int × Int) := zcb.b0 N x.1 x.2.1 x.2.2
def zcb (N : Nat) (a0 : Int) : Option Int :=
 (zr (zcb.r0 N) N (1, (if 18 < a0 then 18 else a0), 0)).bind fun y1 => some y1.1
def zcb.k (N : Nat) : Kq := ⟨315, (cvv [T6] [T6] (zcb N)), go [] {} [(0, .plain { slots := [(3, .val T6), (5, .val T6), (6, .val T6)], boxes := [] } [T6, T6, T6] (zr (zcb.r0 N) N))] Proofs.Tryz.func315 (hL := ⟨⟨_, _, rfl, by kernel_rfl⟩, trivial⟩)⟩
def zdo (N : Nat) (a0 : DataType) (a1 : Value) : Option Int :=
 (za4 N a0).bind fun r1 => (zan (a0.Kind == 4) 17).bind fun r2 => (zp N ([r1, r2] : List Int)).bind fun r3 => cond (r3 != 0) (some r3)
  (cond (a0.Kind == 0) ((zan (a1.N != 0) 5).bind fun r4 => (zan ((a1.S.size : Int) != a0.Length) 18).bind fun r5 =>
  (zp N ([r4, r5] : List Int)).bind fun r6 => some r6) ((zcb N a0.Length).bind fun r7 =>
  (zan (!(a1.S.toList == (⟨#[]⟩ : ByteArray).toList)) 5).bind fun r8 => (zd0 a1.N (w6 (0 - (w6 (r7 - 1))))
  (w6 (r7 - 1))).bind fun r9 => (zan (!r9) 19).bind fun r10 => (zp N ([r8, r10] : List Int)).bind fun r11 => some r11))
def zdo.k (N : Nat) : Kq := ⟨269, (cvv [T6] [Ty.DataType, Ty.Value] (zdo N)), go [zan.k, zd0.k, za4.k N, zp.k N, zcb.k N] {lits := [8, 12, 13, 24, 31, 32, 41, 49, 50]} [] Proofs.Tryz.func269⟩
def za1.b0 (N : Nat) (s1 : ByteArray) (s4 : List Int) (s5 : List Int) (s10 : Int) (s11 : Int) (b2 : DataType) : Option (Stp (ByteArray × (List Int) × (List Int) × Int × Int × DataType)) :=
 cond (decide (s11 < s10)) ((zgs s1 s11).bind fun x1001 => (zgs s1 s11).bind fun x1002 => cond (b2.Kind == 1)
  (cond (Nat.ble ((s4.length + ([((x1001.toNat : Int).fdiv (2 ^ (min (4 : Int).toNat 8))), (zh .u8 (x1002.toNat : Int) 15)] : List Int).length) * 1) zac)
  (cond (Nat.ble ((s5.length + ([s11, s11] : List Int).length) * 8) zac)
  (some (.again (s1, (s4 ++ ([((x1001.toNat : Int).fdiv (2 ^ (min (4 : Int).toNat 8))), (zh .u8 (x1002.toNat : Int) 15)] : List Int)), (s5 ++ ([s11, s11] : List Int)), s10, (w6 (s11 + 1)), b2))) none) none)
  (cond (Nat.ble ((s4.length + ([(zh .u8 (x1002.toNat : Int) 15)] : List Int).length) * 1) zac) (cond (Nat.ble ((s5.length + ([s11] : List Int).length) * 8) zac)
  (some (.again (s1, (s4 ++ ([(zh .u8 (x1002.toNat : Int) 15)] : List Int)), (s5 ++ ([s11] : List Int)), s10, (w6 (s11 + 1)), b2))) none) none))
  (some (.leave (s1, s4, s5, s10, s11, b2)))
def za1.r0 (N : Nat) (x : ByteArray × (List Int) × (List Int) × Int × Int × DataType) := za1.b0 N x.1 x.2.1 x.2.2.1 x.2.2.2.1 x.2.2.2.2.1 x.2.2.2.2.2
def za1 (N : Nat) (a0 : DataType) (a1 : ByteArray) : Option ((List Int) × (List Int)) :=
 (zr (za1.r0 N) N (a1, [], [], (a1.size : Int), 0, a0)).bind fun y1 => cond (y1.2.2.2.2.2.Kind == 2)
  ((zgs y1.1 (w6 ((y1.1.size : Int) - 1))).bind fun x2 =>
  cond (Nat.ble ((y1.2.1.length + ([((x2.toNat : Int).fdiv (2 ^ (min (4 : Int).toNat 8)))] : List Int).length) * 1) zac)
  (cond (Nat.ble ((y1.2.2.1.length + ([(w6 ((y1.1.size : Int) - 1))] : List Int).length) * 8) zac)
  (some ((y1.2.1 ++ ([((x2.toNat : Int).fdiv (2 ^ (min (4 : Int).toNat 8)))] : List Int)), (y1.2.2.1 ++ ([(w6 ((y1.1.size : Int) - 1))] : List Int)))) none) none)
  (some (y1.2.1, y1.2.2.1))
def za1.k (N : Nat) : Kq := ⟨316, (cvv [(Ty.sl (Ty.int .u8)), (Ty.sl T6)] [Ty.DataType, Ty.str] (za1 N)), go [] {lits := [24, 28, 37, 42, 55, 61]} [(0, .plain { slots := [(1, .val Ty.str), (2, .ptr 2 0), (4, .own 5000004 (Ty.int .u8)), (5, .own 5000005 T6), (10, .val T6), (11, .val T6)], boxes := [(2, Ty.DataType, [])] } [Ty.str, (Ty.sl (Ty.int .u8)), (Ty.sl T6), T6, T6, Ty.DataType] (zr (za1.r0 N) N))] Proofs.Tryz.func316 (hL := ⟨⟨_, _, rfl, by kernel_rfl⟩, trivial⟩)⟩
def zbi.b0 (N : Nat) (s7 : List Int) (s8 : List Int) (s9 : Int) (s10 : Int) (s24 : List Int) (s25 : Int) (s26 : Int) (b2 : DataType) : Option (Round (Int × Int × Int) ((List Int) × (List Int) × Int × Int × (List Int) × Int × Int × DataType)) :=
 cond (decide (s26 < s25)) ((idx s24 s26).bind fun x1001 => (cond (decide (x1001 > 9)) (some true) ((cond (decide (x1001 > 0))
  (some (decide (s26 < (w6 (s9 - b2.Length))))) (some false)).bind fun g1002 => some g1002)).bind fun g1003 => cond g1003 ((idx s8 s26).bind fun x1004 =>
  some (.result (0, x1004, 21)))
  (some (.again (s7, s8, s9, (w6 ((w6 (s10 * 10)) + (w6 x1001))), s24, s25, (w6 (s26 + 1)), b2))))
  (some (.leave (s7, s8, s9, s10, s24, s25, s26, b2)))
def zbi.r0 (N : Nat) (x : (List Int) × (List Int) × Int × Int × (List Int) × Int × Int × DataType) := zbi.b0 N x.1 x.2.1 x.2.2.1 x.2.2.2.1 x.2.2.2.2.1 x.2.2.2.2.2.1 x.2.2.2.2.2.2.1 x.2.2.2.2.2.2.2
def zbi (N : Nat) (a0 : DataType) (a1 : ByteArray) : Option (Int × Int × Int) :=
 (za1 N a0 a1).bind fun r1 =>
  if 0 ≤ (w6 ((r1.1.length : Int) - 1)) ∧ (w6 ((r1.1.length : Int) - 1)) ≤ (r1.1.length : Int) then (if 0 ≤ (0 : Int) ∧ (0 : Int) ≤ (w6 ((r1.1.length : Int) - 1)) then ((zt (zbi.r0 N) N (r1.1, r1.2, (w6 ((r1.1.length : Int) - 1)), 0, ((r1.1.take (w6 ((r1.1.length : Int) - 1)).toNat).drop (0 : Int).toNat), (((r1.1.take (w6 ((r1.1.length : Int) - 1)).toNat).drop (0 : Int).toNat).length : Int), 0, a0)).bind fun z3 =>
  zb2 z3 (fun z => some z) (fun y2 => (idx y2.1 y2.2.2.1).bind fun x4 => cond (decide (x4 < 10)) ((idx y2.2.1 y2.2.2.1).bind fun x5 => some (0, x5, 21))
  ((idx y2.1 y2.2.2.1).bind fun x6 => (cond (x6 == 11) (some true) ((idx y2.1 y2.2.2.1).bind fun x7 => some (x7 == 13))).bind fun g8 =>
  cond g8 (some ((w6 (0 - y2.2.2.2.1)), 0, 0)) (some (y2.2.2.2.1, 0, 0))))) else none) else none
def zbi.k (N : Nat) : Kq := ⟨270, (cvv [T6, T6, T6] [Ty.DataType, Ty.str] (zbi N)), go [za1.k N] {} [(0, .rets { slots := [(2, .ptr 2 0), (7, .val (Ty.sl (Ty.int .u8))), (8, .val (Ty.sl T6)), (9, .val T6), (10, .val T6), (24, .val (Ty.sl (Ty.int .u8))), (25, .val T6), (26, .val T6)], boxes := [(2, Ty.DataType, [])] } [(Ty.sl (Ty.int .u8)), (Ty.sl T6), T6, T6, (Ty.sl (Ty.int .u8)), T6, T6, Ty.DataType] (zt (zbi.r0 N) N))] Proofs.Tryz.func270 (hL := ⟨⟨_, _, rfl, by kernel_rfl⟩, trivial⟩)⟩
def ziw (N : Nat) (a0 : DataType) (a1 : ByteArray) : Option (Value × Int × Int) :=
 (za4 N a0).bind fun r1 => (zan (a0.Kind == 4) 17).bind fun r2 => (zp N ([r1, r2] : List Int)).bind fun r3 => cond (r3 == 0)
  ((zf4 a0).bind fun r4 => (zan ((a1.size : Int) != r4) 18).bind fun r5 => cond (r5 != 0) (some ((⟨0, (⟨#[]⟩ : ByteArray)⟩ : Value), 0, r5)) (cond (a0.Kind == 0)
  (some ((⟨0, a1⟩ : Value), 0, 0)) (cond (a0.Kind == 3) ((zbr N a1).bind fun r6 => (zdo N a0 (⟨r6, (⟨#[]⟩ : ByteArray)⟩ : Value)).bind fun r7 =>
  cond (r7 != 0) (some ((⟨0, (⟨#[]⟩ : ByteArray)⟩ : Value), 0, r7)) (some ((⟨r6, (⟨#[]⟩ : ByteArray)⟩ : Value), 0, 0))) ((zbi N a0 a1).bind fun r8 =>
  some ((⟨r8.1, (⟨#[]⟩ : ByteArray)⟩ : Value), r8.2.1, r8.2.2))))) (cond (r3 != 0) (some ((⟨0, (⟨#[]⟩ : ByteArray)⟩ : Value), 0, r3)) (cond (a0.Kind == 0)
  (some ((⟨0, a1⟩ : Value), 0, 0)) (cond (a0.Kind == 3) ((zbr N a1).bind fun r9 => (zdo N a0 (⟨r9, (⟨#[]⟩ : ByteArray)⟩ : Value)).bind fun r10 =>
  cond (r10 != 0) (some ((⟨0, (⟨#[]⟩ : ByteArray)⟩ : Value), 0, r10)) (some ((⟨r9, (⟨#[]⟩ : ByteArray)⟩ : Value), 0, 0))) ((zbi N a0 a1).bind fun r11 =>
  some ((⟨r11.1, (⟨#[]⟩ : ByteArray)⟩ : Value), r11.2.1, r11.2.2)))))
def ziw.k (N : Nat) : Kq := ⟨205, (cvv [Ty.Value, T6, T6] [Ty.DataType, Ty.str] (ziw N)), go [zan.k, za4.k N, zp.k N, zf4.k, zbr.k N, zdo.k N, zbi.k N] {lits := [13, 17, 18]} [] Proofs.Tryz.func205⟩
def zbf (N : Nat) (a0 : zC) (a1 : zO) (a2 : DataType) : Option (Number × Bool × zC) :=
 (zu N a0 a1 a2).bind fun r1 => cond (!r1.2.1) (some ((⟨0, 0⟩ : Number), false, r1.2.2)) ((ziw N a2 r1.1).bind fun r2 =>
  (zf r1.2.2 (r2.2.2 != 0) 1).bind fun r3 => some ((⟨r2.1.N, a2.Scale⟩ : Number), r3.1, r3.2))
def zbf.k (N : Nat) : Kq := ⟨146, (ctv [.ptr Ty.zC true [], .val Ty.zO, .val Ty.DataType] [Ty.Number, Ty.bool] [Ty.zC] [] [Ty.zC, Ty.zO, Ty.DataType] (zbf N)), go [zu.k N, ziw.k N, zf.k] {pk := [1000000]} [] Proofs.Tryz.func146⟩
def z0a : Ct U := { params := [.val (Ty.sl Ty.Number)], results := [(Ty.sl Ty.Number)], outs := [], fresh := [0], fn := app U [(Ty.sl Ty.Number)] (R := PT U [(Ty.sl Ty.Number)]) (zda 16) }
theorem z0a.meets : zij (zso [] [] [] [] [] [] [] []) 207 z0a :=
 zpa zw3 (zvy (l := []) rfl zc8) (zu5 (l := []) rfl zc8) (Lp := pick []) Proofs.Tryz.func207 (by kernel_rfl) (zv2 (l := []) rfl zc8) (fun y => by kernel_rfl) (e := 84) (t := Ty.Number) rfl rfl rfl rfl rfl rfl rfl (by kernel_rfl) rfl rfl rfl rfl rfl rfl (fun xs => by kernel_rfl) fun ds y h => by
  obtain ⟨xs, rfl, hx⟩ := z0v h; refine ⟨xs, rfl, fun b hb => ?_⟩; cases b with
  | true =>
   have := hb rfl; subst this; exact Eq.trans (by kernel_rfl) hx
  | false => exact Eq.trans (b := cond (Nat.ble ((0 + xs.length) * 16) zac) (some xs) none) (by kernel_rfl) (by rw [Nat.zero_add]; exact hx)
def z0a.k : Kq := ⟨207, z0a, z0a.meets⟩
def zaa (a0 : zC) (a1 : Int) (a2 : Number) : Option zC :=
 (zda 16 a0.zA.Registers).bind fun r1 => if 0 ≤ a1 then (if a1 < (r1.length : Int) then ((r1[a1.toNat]?).bind fun x2 =>
  some (⟨(⟨(r1.set a1.toNat a2), a0.zA.Condition, a0.zA.Storage, a0.zA.At, a0.zA.Stack, a0.zA.Lines, a0.zA.Status, a0.zA.Exception, a0.zA.Marks, a0.zA.Steps⟩ : zA), a0.code, a0.raised⟩ : zC)) else none) else none
def zaa.k : Kq := ⟨147, (ctv [.ptr Ty.zC true [], .val T6, .val Ty.Number] [] [Ty.zC] [] [Ty.zC, T6, Ty.Number] zaa), go [z0a.k] {pk := [1000000]} [] Proofs.Tryz.func147⟩
def zev (a0 : DataType) : Option Bool :=
 (cond (a0.Kind == 1) (some true) (some (a0.Kind == 2))).bind fun g1 => (cond g1 (some true) (some (a0.Kind == 3))).bind fun g2 => some g2
def zev.k : Kq := ⟨271, (cvv [Ty.bool] [Ty.DataType] zev), go [] {} [] Proofs.Tryz.func271⟩
def zba (a0 : Int) : Option zI :=
 some (⟨a0, 0, 0, 0⟩ : zI)
def zba.k : Kq := ⟨318, (cvv [Ty.zI] [(Ty.int .u64)] zba), go [] {} [] Proofs.Tryz.func318⟩
def zd5 (a0 : Int) (a1 : Int) : Option (Int × Int) :=
 some ((IntKind.wrap .u64 ((IntKind.wrap .u64 ((IntKind.wrap .u64 ((a0.fdiv (2 ^ (min (32 : Int).toNat 64))) * (a1.fdiv (2 ^ (min (32 : Int).toNat 64))))) + ((IntKind.wrap .u64 ((IntKind.wrap .u64 ((a0.fdiv (2 ^ (min (32 : Int).toNat 64))) * (zh .u64 a1 4294967295))) + ((IntKind.wrap .u64 ((zh .u64 a0 4294967295) * (zh .u64 a1 4294967295))).fdiv (2 ^ (min (32 : Int).toNat 64))))).fdiv (2 ^ (min (32 : Int).toNat 64))))) + ((IntKind.wrap .u64 ((zh .u64 (IntKind.wrap .u64 ((IntKind.wrap .u64 ((a0.fdiv (2 ^ (min (32 : Int).toNat 64))) * (zh .u64 a1 4294967295))) + ((IntKind.wrap .u64 ((zh .u64 a0 4294967295) * (zh .u64 a1 4294967295))).fdiv (2 ^ (min (32 : Int).toNat 64))))) 4294967295) + (IntKind.wrap .u64 ((zh .u64 a0 4294967295) * (a1.fdiv (2 ^ (min (32 : Int).toNat 64))))))).fdiv (2 ^ (min (32 : Int).toNat 64))))), (IntKind.wrap .u64 (a0 * a1)))
def zd5.k : Kq := ⟨342, (cvv [(Ty.int .u64), (Ty.int .u64)] [(Ty.int .u64), (Ty.int .u64)] zd5), go [] {} [] Proofs.Tryz.func342⟩
def zar.b0 (N : Nat) (s1 : Int) (s6 : Int) (s12 : Int) (b2 : zI) (b4 : zI) (b5 : zI) : Option (Stp (Int × Int × Int × zI × zI × zI)) :=
 cond (decide (s12 < 4)) (if 0 ≤ s12 then (if s12 < 4 then ((zd5 (zap [b2.e0, b2.e1, b2.e2, b2.e3] s12.toNat) s1).bind fun r1001 =>
  if 0 ≤ s12 then (if s12 < 4 then (some (.again (s1, (IntKind.wrap .u64 (r1001.1 + (((r1001.2.toNat + s6.toNat + (0 : Int).toNat) / 2 ^ 64 : Nat) : Int))), (w6 (s12 + 1)), b2, b4, (⟨(if s12.toNat = 0 then (((r1001.2.toNat + s6.toNat + (0 : Int).toNat) % 2 ^ 64 : Nat) : Int) else b5.e0), (if s12.toNat = 1 then (((r1001.2.toNat + s6.toNat + (0 : Int).toNat) % 2 ^ 64 : Nat) : Int) else b5.e1), (if s12.toNat = 2 then (((r1001.2.toNat + s6.toNat + (0 : Int).toNat) % 2 ^ 64 : Nat) : Int) else b5.e2), (if s12.toNat = 3 then (((r1001.2.toNat + s6.toNat + (0 : Int).toNat) % 2 ^ 64 : Nat) : Int) else b5.e3)⟩ : zI)))) else none) else none) else none) else none)
  (some (.leave (s1, s6, s12, b2, b4, b5)))
def zar.r0 (N : Nat) (x : Int × Int × Int × zI × zI × zI) := zar.b0 N x.1 x.2.1 x.2.2.1 x.2.2.2.1 x.2.2.2.2.1 x.2.2.2.2.2
def zar (N : Nat) (a0 : zI) (a1 : Int) : Option zI :=
 (zr (zar.r0 N) N (a1, 0, 0, a0, (⟨0, 0, 0, 0⟩ : zI), (⟨0, 0, 0, 0⟩ : zI))).bind fun y1 => some y1.2.2.2.2.2
def zar.k (N : Nat) : Kq := ⟨345, (cvv [Ty.zI] [Ty.zI, (Ty.int .u64)] (zar N)), go [zd5.k] {X := [(347, 0)]} [(0, .plain { slots := [(1, .val (Ty.int .u64)), (2, .ptr 2 0), (4, .ptr 4 0), (5, .ptr 5 0), (6, .val (Ty.int .u64)), (12, .val T6)], boxes := [(2, Ty.zI, []), (4, Ty.zI, []), (5, Ty.zI, [])] } [(Ty.int .u64), (Ty.int .u64), T6, Ty.zI, Ty.zI, Ty.zI] (zr (zar.r0 N) N))] Proofs.Tryz.func345 (hL := ⟨⟨_, _, rfl, by kernel_rfl⟩, trivial⟩) (hX := all_cons (zaa1) (zc8))⟩
def zk.b0 (N : Nat) (s5 : Int) (s6 : Int) (b2 : zI) (b4 : zI) : Option (Stp (Int × Int × zI × zI)) :=
 cond (decide (s6 < s5)) ((zar N b2 10).bind fun r1001 => some (.again (s5, (w6 (s6 + 1)), r1001, b4))) (some (.leave (s5, s6, b2, b4)))
def zk.r0 (N : Nat) (x : Int × Int × zI × zI) := zk.b0 N x.1 x.2.1 x.2.2.1 x.2.2.2
def zk (N : Nat) (a0 : zI) (a1 : Int) : Option zI :=
 (zr (zk.r0 N) N (a1, 0, a0, (⟨0, 0, 0, 0⟩ : zI))).bind fun y1 => some y1.2.2.1
def zk.k (N : Nat) : Kq := ⟨319, (cvv [Ty.zI] [Ty.zI, T6] (zk N)), go [zar.k N] {} [(0, .plain { slots := [(2, .ptr 2 0), (4, .ptr 4 0), (5, .val T6), (6, .val T6)], boxes := [(2, Ty.zI, []), (4, Ty.zI, [])] } [T6, T6, Ty.zI, Ty.zI] (zr (zk.r0 N) N))] Proofs.Tryz.func319 (hL := ⟨⟨_, _, rfl, by kernel_rfl⟩, trivial⟩)⟩
def zcg (N : Nat) (a0 : Number) (a1 : Int) : Option zI :=
 (zba (IntKind.wrap .u64 (if (w6 (0 - a0.N)) > a0.N then (w6 (0 - a0.N)) else a0.N))).bind fun r1 =>
  (zk N r1 a1).bind fun r2 => some r2
def zcg.k (N : Nat) : Kq := ⟨317, (cvv [Ty.zI] [Ty.Number, T6] (zcg N)), go [zba.k, zk.k N] {lits := [12]} [] Proofs.Tryz.func317⟩
def znw (N : Nat) (a0 : Number) : Option zQ :=
 (zcg N a0 0).bind fun r1 => (zba 1).bind fun r2 => (zk N r2 a0.Scale).bind fun r3 => some (⟨(decide (a0.N < 0)), r1, r3⟩ : zQ)
def znw.k (N : Nat) : Kq := ⟨272, (cvv [Ty.zQ] [Ty.Number] (znw N)), go [zcg.k N, zba.k, zk.k N] {lits := [8]} [] Proofs.Tryz.func272⟩
def zy.b0 (N : Nat) (s6 : Int) (s8 : Int) (b2 : zI) (b3 : zI) (b4 : zI) (b5 : zI) : Option (Stp (Int × Int × zI × zI × zI × zI)) :=
 cond (decide (s8 < 4))
  (if 0 ≤ s8 then (if s8 < 4 then (if 0 ≤ s8 then (if s8 < 4 then (if s6.toNat > 1 then none else if 0 ≤ s8 then (if s8 < 4 then (some (.again (((((zap [b2.e0, b2.e1, b2.e2, b2.e3] s8.toNat).toNat + (zap [b3.e0, b3.e1, b3.e2, b3.e3] s8.toNat).toNat + s6.toNat) / 2 ^ 64 : Nat) : Int), (w6 (s8 + 1)), b2, b3, b4, (⟨(if s8.toNat = 0 then ((((zap [b2.e0, b2.e1, b2.e2, b2.e3] s8.toNat).toNat + (zap [b3.e0, b3.e1, b3.e2, b3.e3] s8.toNat).toNat + s6.toNat) % 2 ^ 64 : Nat) : Int) else b5.e0), (if s8.toNat = 1 then ((((zap [b2.e0, b2.e1, b2.e2, b2.e3] s8.toNat).toNat + (zap [b3.e0, b3.e1, b3.e2, b3.e3] s8.toNat).toNat + s6.toNat) % 2 ^ 64 : Nat) : Int) else b5.e1), (if s8.toNat = 2 then ((((zap [b2.e0, b2.e1, b2.e2, b2.e3] s8.toNat).toNat + (zap [b3.e0, b3.e1, b3.e2, b3.e3] s8.toNat).toNat + s6.toNat) % 2 ^ 64 : Nat) : Int) else b5.e2), (if s8.toNat = 3 then ((((zap [b2.e0, b2.e1, b2.e2, b2.e3] s8.toNat).toNat + (zap [b3.e0, b3.e1, b3.e2, b3.e3] s8.toNat).toNat + s6.toNat) % 2 ^ 64 : Nat) : Int) else b5.e3)⟩ : zI)))) else none) else none) else none) else none) else none) else none)
  (some (.leave (s6, s8, b2, b3, b4, b5)))
def zy.r0 (N : Nat) (x : Int × Int × zI × zI × zI × zI) := zy.b0 N x.1 x.2.1 x.2.2.1 x.2.2.2.1 x.2.2.2.2.1 x.2.2.2.2.2
def zy (N : Nat) (a0 : zI) (a1 : zI) : Option zI :=
 (zr (zy.r0 N) N (0, 0, a0, a1, (⟨0, 0, 0, 0⟩ : zI), (⟨0, 0, 0, 0⟩ : zI))).bind fun y1 => some y1.2.2.2.2.2
def zy.k (N : Nat) : Kq := ⟨321, (cvv [Ty.zI] [Ty.zI, Ty.zI] (zy N)), go [] {X := [(347, 0)]} [(0, .plain { slots := [(2, .ptr 2 0), (3, .ptr 3 0), (4, .ptr 4 0), (5, .ptr 5 0), (6, .val (Ty.int .u64)), (8, .val T6)], boxes := [(2, Ty.zI, []), (3, Ty.zI, []), (4, Ty.zI, []), (5, Ty.zI, [])] } [(Ty.int .u64), T6, Ty.zI, Ty.zI, Ty.zI, Ty.zI] (zr (zy.r0 N) N))] Proofs.Tryz.func321 (hL := ⟨⟨_, _, rfl, by kernel_rfl⟩, trivial⟩) (hX := all_cons (zaa1) (zc8))⟩
def zl.b0 (N : Nat) (s5 : Int) (b2 : zI) (b3 : zI) : Option (Round Int (Int × zI × zI)) :=
 cond (decide (s5 ≥ 0))
  (if 0 ≤ s5 then (if s5 < 4 then (if 0 ≤ s5 then (if s5 < 4 then (cond (decide ((zap [b2.e0, b2.e1, b2.e2, b2.e3] s5.toNat) < (zap [b3.e0, b3.e1, b3.e2, b3.e3] s5.toNat)))
  (some (.result (-1)))
  (if 0 ≤ s5 then (if s5 < 4 then (if 0 ≤ s5 then (if s5 < 4 then (cond (decide ((zap [b2.e0, b2.e1, b2.e2, b2.e3] s5.toNat) > (zap [b3.e0, b3.e1, b3.e2, b3.e3] s5.toNat)))
  (some (.result 1)) (some (.again ((w6 (s5 - 1)), b2, b3)))) else none) else none) else none) else none)) else none) else none) else none) else none)
  (some (.leave (s5, b2, b3)))
def zl.r0 (N : Nat) (x : Int × zI × zI) := zl.b0 N x.1 x.2.1 x.2.2
def zl (N : Nat) (a0 : zI) (a1 : zI) : Option Int :=
 (zt (zl.r0 N) N (3, a0, a1)).bind fun z2 => zb2 z2 (fun z => some z) (fun y1 => some 0)
def zl.k (N : Nat) : Kq := ⟨278, (cvv [T6] [Ty.zI, Ty.zI] (zl N)), go [] {} [(0, .rets { slots := [(2, .ptr 2 0), (3, .ptr 3 0), (5, .val T6)], boxes := [(2, Ty.zI, []), (3, Ty.zI, [])] } [T6, Ty.zI, Ty.zI] (zt (zl.r0 N) N))] Proofs.Tryz.func278 (hL := ⟨⟨_, _, rfl, by kernel_rfl⟩, trivial⟩)⟩
def zx.b0 (N : Nat) (s6 : Int) (s8 : Int) (b2 : zI) (b3 : zI) (b4 : zI) (b5 : zI) : Option (Stp (Int × Int × zI × zI × zI × zI)) :=
 cond (decide (s8 < 4))
  (if 0 ≤ s8 then (if s8 < 4 then (if 0 ≤ s8 then (if s8 < 4 then (if s6.toNat > 1 then none else if 0 ≤ s8 then (if s8 < 4 then (some (.again (((if (zap [b2.e0, b2.e1, b2.e2, b2.e3] s8.toNat).toNat < (zap [b3.e0, b3.e1, b3.e2, b3.e3] s8.toNat).toNat + s6.toNat then 1 else 0 : Nat) : Int), (w6 (s8 + 1)), b2, b3, b4, (⟨(if s8.toNat = 0 then ((((zap [b2.e0, b2.e1, b2.e2, b2.e3] s8.toNat).toNat + 2 ^ 64 - (zap [b3.e0, b3.e1, b3.e2, b3.e3] s8.toNat).toNat - s6.toNat) % 2 ^ 64 : Nat) : Int) else b5.e0), (if s8.toNat = 1 then ((((zap [b2.e0, b2.e1, b2.e2, b2.e3] s8.toNat).toNat + 2 ^ 64 - (zap [b3.e0, b3.e1, b3.e2, b3.e3] s8.toNat).toNat - s6.toNat) % 2 ^ 64 : Nat) : Int) else b5.e1), (if s8.toNat = 2 then ((((zap [b2.e0, b2.e1, b2.e2, b2.e3] s8.toNat).toNat + 2 ^ 64 - (zap [b3.e0, b3.e1, b3.e2, b3.e3] s8.toNat).toNat - s6.toNat) % 2 ^ 64 : Nat) : Int) else b5.e2), (if s8.toNat = 3 then ((((zap [b2.e0, b2.e1, b2.e2, b2.e3] s8.toNat).toNat + 2 ^ 64 - (zap [b3.e0, b3.e1, b3.e2, b3.e3] s8.toNat).toNat - s6.toNat) % 2 ^ 64 : Nat) : Int) else b5.e3)⟩ : zI)))) else none) else none) else none) else none) else none) else none)
  (some (.leave (s6, s8, b2, b3, b4, b5)))
def zx.r0 (N : Nat) (x : Int × Int × zI × zI × zI × zI) := zx.b0 N x.1 x.2.1 x.2.2.1 x.2.2.2.1 x.2.2.2.2.1 x.2.2.2.2.2
def zx (N : Nat) (a0 : zI) (a1 : zI) : Option zI :=
 (zr (zx.r0 N) N (0, 0, a0, a1, (⟨0, 0, 0, 0⟩ : zI), (⟨0, 0, 0, 0⟩ : zI))).bind fun y1 => some y1.2.2.2.2.2
def zx.k (N : Nat) : Kq := ⟨346, (cvv [Ty.zI] [Ty.zI, Ty.zI] (zx N)), go [] {X := [(355, 1)]} [(0, .plain { slots := [(2, .ptr 2 0), (3, .ptr 3 0), (4, .ptr 4 0), (5, .ptr 5 0), (6, .val (Ty.int .u64)), (8, .val T6)], boxes := [(2, Ty.zI, []), (3, Ty.zI, []), (4, Ty.zI, []), (5, Ty.zI, [])] } [(Ty.int .u64), T6, Ty.zI, Ty.zI, Ty.zI, Ty.zI] (zr (zx.r0 N) N))] Proofs.Tryz.func346 (hL := ⟨⟨_, _, rfl, by kernel_rfl⟩, trivial⟩) (hX := all_cons (zaey) (zc8))⟩
def zau.b0 (N : Nat) (s6 : Int) (b2 : zI) (b3 : zI) (b4 : zI) (b5 : zI) : Option (Stp (Int × zI × zI × zI × zI)) :=
 cond (decide (s6 ≥ 0)) ((zy N b5 b5).bind fun r1001 =>
  if 0 ≤ (w6 (s6.tdiv 64)) then (if (w6 (s6.tdiv 64)) < 4 then (if (s6.tmod 64) < 0 then none else (zl N (⟨(if 0 = 0 then (orI .u64 (zap [r1001.e0, r1001.e1, r1001.e2, r1001.e3] 0)
  (zh .u64 (((zap [b2.e0, b2.e1, b2.e2, b2.e3] ((w6 (s6.tdiv 64)).toNat)) : Int).fdiv (2 ^ (min (s6.tmod 64).toNat 64))) 1)) else r1001.e0), (if 0 = 1 then (orI .u64 (zap [r1001.e0, r1001.e1, r1001.e2, r1001.e3] 0)
  (zh .u64 (((zap [b2.e0, b2.e1, b2.e2, b2.e3] ((w6 (s6.tdiv 64)).toNat)) : Int).fdiv (2 ^ (min (s6.tmod 64).toNat 64))) 1)) else r1001.e1), (if 0 = 2 then (orI .u64 (zap [r1001.e0, r1001.e1, r1001.e2, r1001.e3] 0)
  (zh .u64 (((zap [b2.e0, b2.e1, b2.e2, b2.e3] ((w6 (s6.tdiv 64)).toNat)) : Int).fdiv (2 ^ (min (s6.tmod 64).toNat 64))) 1)) else r1001.e2), (if 0 = 3 then (orI .u64 (zap [r1001.e0, r1001.e1, r1001.e2, r1001.e3] 0)
  (zh .u64 (((zap [b2.e0, b2.e1, b2.e2, b2.e3] ((w6 (s6.tdiv 64)).toNat)) : Int).fdiv (2 ^ (min (s6.tmod 64).toNat 64))) 1)) else r1001.e3)⟩ : zI) b3).bind fun r1002 =>
  cond (decide (r1002 ≥ 0)) ((zx N (⟨(if 0 = 0 then (orI .u64 (zap [r1001.e0, r1001.e1, r1001.e2, r1001.e3] 0)
  (zh .u64 (((zap [b2.e0, b2.e1, b2.e2, b2.e3] ((w6 (s6.tdiv 64)).toNat)) : Int).fdiv (2 ^ (min (s6.tmod 64).toNat 64))) 1)) else r1001.e0), (if 0 = 1 then (orI .u64 (zap [r1001.e0, r1001.e1, r1001.e2, r1001.e3] 0)
  (zh .u64 (((zap [b2.e0, b2.e1, b2.e2, b2.e3] ((w6 (s6.tdiv 64)).toNat)) : Int).fdiv (2 ^ (min (s6.tmod 64).toNat 64))) 1)) else r1001.e1), (if 0 = 2 then (orI .u64 (zap [r1001.e0, r1001.e1, r1001.e2, r1001.e3] 0)
  (zh .u64 (((zap [b2.e0, b2.e1, b2.e2, b2.e3] ((w6 (s6.tdiv 64)).toNat)) : Int).fdiv (2 ^ (min (s6.tmod 64).toNat 64))) 1)) else r1001.e2), (if 0 = 3 then (orI .u64 (zap [r1001.e0, r1001.e1, r1001.e2, r1001.e3] 0)
  (zh .u64 (((zap [b2.e0, b2.e1, b2.e2, b2.e3] ((w6 (s6.tdiv 64)).toNat)) : Int).fdiv (2 ^ (min (s6.tmod 64).toNat 64))) 1)) else r1001.e3)⟩ : zI) b3).bind fun r1003 =>
  if 0 ≤ (w6 (s6.tdiv 64)) then (if (w6 (s6.tdiv 64)) < 4 then (if (s6.tmod 64) < 0 then none else if 0 ≤ (w6 (s6.tdiv 64)) then (if (w6 (s6.tdiv 64)) < 4 then (some (.again ((w6 (s6 - 1)), b2, b3, (⟨(if (w6 (s6.tdiv 64)).toNat = 0 then (orI .u64 (zap [b4.e0, b4.e1, b4.e2, b4.e3] ((w6 (s6.tdiv 64)).toNat))
  (IntKind.wrap .u64 (1 * 2 ^ (min (s6.tmod 64).toNat 64)))) else b4.e0), (if (w6 (s6.tdiv 64)).toNat = 1 then (orI .u64 (zap [b4.e0, b4.e1, b4.e2, b4.e3] ((w6 (s6.tdiv 64)).toNat))
  (IntKind.wrap .u64 (1 * 2 ^ (min (s6.tmod 64).toNat 64)))) else b4.e1), (if (w6 (s6.tdiv 64)).toNat = 2 then (orI .u64 (zap [b4.e0, b4.e1, b4.e2, b4.e3] ((w6 (s6.tdiv 64)).toNat))
  (IntKind.wrap .u64 (1 * 2 ^ (min (s6.tmod 64).toNat 64)))) else b4.e2), (if (w6 (s6.tdiv 64)).toNat = 3 then (orI .u64 (zap [b4.e0, b4.e1, b4.e2, b4.e3] ((w6 (s6.tdiv 64)).toNat))
  (IntKind.wrap .u64 (1 * 2 ^ (min (s6.tmod 64).toNat 64)))) else b4.e3)⟩ : zI), r1003))) else none) else none) else none) else none)
  (some (.again ((w6 (s6 - 1)), b2, b3, b4, (⟨(if 0 = 0 then (orI .u64 (zap [r1001.e0, r1001.e1, r1001.e2, r1001.e3] 0)
  (zh .u64 (((zap [b2.e0, b2.e1, b2.e2, b2.e3] ((w6 (s6.tdiv 64)).toNat)) : Int).fdiv (2 ^ (min (s6.tmod 64).toNat 64))) 1)) else r1001.e0), (if 0 = 1 then (orI .u64 (zap [r1001.e0, r1001.e1, r1001.e2, r1001.e3] 0)
  (zh .u64 (((zap [b2.e0, b2.e1, b2.e2, b2.e3] ((w6 (s6.tdiv 64)).toNat)) : Int).fdiv (2 ^ (min (s6.tmod 64).toNat 64))) 1)) else r1001.e1), (if 0 = 2 then (orI .u64 (zap [r1001.e0, r1001.e1, r1001.e2, r1001.e3] 0)
  (zh .u64 (((zap [b2.e0, b2.e1, b2.e2, b2.e3] ((w6 (s6.tdiv 64)).toNat)) : Int).fdiv (2 ^ (min (s6.tmod 64).toNat 64))) 1)) else r1001.e2), (if 0 = 3 then (orI .u64 (zap [r1001.e0, r1001.e1, r1001.e2, r1001.e3] 0)
  (zh .u64 (((zap [b2.e0, b2.e1, b2.e2, b2.e3] ((w6 (s6.tdiv 64)).toNat)) : Int).fdiv (2 ^ (min (s6.tmod 64).toNat 64))) 1)) else r1001.e3)⟩ : zI))))) else none) else none)
  (some (.leave (s6, b2, b3, b4, b5)))
def zau.r0 (N : Nat) (x : Int × zI × zI × zI × zI) := zau.b0 N x.1 x.2.1 x.2.2.1 x.2.2.2.1 x.2.2.2.2
def zau (N : Nat) (a0 : zI) (a1 : zI) : Option (zI × zI) :=
 (zr (zau.r0 N) N (255, a0, a1, (⟨0, 0, 0, 0⟩ : zI), (⟨0, 0, 0, 0⟩ : zI))).bind fun y1 => some (y1.2.2.2.1, y1.2.2.2.2)
def zau.k (N : Nat) : Kq := ⟨320, (cvv [Ty.zI, Ty.zI] [Ty.zI, Ty.zI] (zau N)), go [zl.k N, zy.k N, zx.k N] {} [(0, .plain { slots := [(2, .ptr 2 0), (3, .ptr 3 0), (4, .ptr 4 0), (5, .ptr 5 0), (6, .val T6)], boxes := [(2, Ty.zI, []), (3, Ty.zI, []), (4, Ty.zI, []), (5, Ty.zI, [])] } [T6, Ty.zI, Ty.zI, Ty.zI, Ty.zI] (zr (zau.r0 N) N))] Proofs.Tryz.func320 (hL := ⟨⟨_, _, rfl, by kernel_rfl⟩, trivial⟩)⟩
def zdn (N : Nat) (a0 : zQ) (a1 : DataType) (a2 : Bool) : Option (Value × Int) :=
 (zk N a0.amount a1.Scale).bind fun r1 => (zau N r1 a0.division).bind fun r2 => (cond a2 ((zy N r2.2 r2.2).bind fun r3 =>
  (zl N r3 a0.division).bind fun r4 => some (decide (r4 ≥ 0))) (some false)).bind fun g5 => cond g5 ((zba 1).bind fun r6 =>
  (zy N r2.1 r6).bind fun r7 => (zba 1).bind fun r8 => (zk N r8 a1.Length).bind fun r9 => (zl N r7 r9).bind fun r10 =>
  cond (decide (r10 ≥ 0)) (some ((⟨0, (⟨#[]⟩ : ByteArray)⟩ : Value), 19))
  (cond a0.below (some ((⟨(w6 (0 - (w6 (zap [r7.e0, r7.e1, r7.e2, r7.e3] 0)))), (⟨#[]⟩ : ByteArray)⟩ : Value), 0))
  (some ((⟨(w6 (zap [r7.e0, r7.e1, r7.e2, r7.e3] 0)), (⟨#[]⟩ : ByteArray)⟩ : Value), 0)))) ((zba 1).bind fun r11 =>
  (zk N r11 a1.Length).bind fun r12 => (zl N r2.1 r12).bind fun r13 => cond (decide (r13 ≥ 0)) (some ((⟨0, (⟨#[]⟩ : ByteArray)⟩ : Value), 19))
  (cond a0.below (some ((⟨(w6 (0 - (w6 (zap [r2.1.e0, r2.1.e1, r2.1.e2, r2.1.e3] 0)))), (⟨#[]⟩ : ByteArray)⟩ : Value), 0))
  (some ((⟨(w6 (zap [r2.1.e0, r2.1.e1, r2.1.e2, r2.1.e3] 0)), (⟨#[]⟩ : ByteArray)⟩ : Value), 0))))
def zdn.k (N : Nat) : Kq := ⟨273, (cvv [Ty.Value, T6] [Ty.zQ, Ty.DataType, Ty.bool] (zdn N)), go [zl.k N, zba.k, zk.k N, zau.k N, zy.k N] {lits := [16, 26, 33, 36, 39]} [] Proofs.Tryz.func273⟩
def zgx (N : Nat) (a0 : Number) (a1 : DataType) (a2 : Bool) : Option (Value × Int) :=
 (zas a0).bind fun r1 => (za4 N a1).bind fun r2 => (zev a1).bind fun r3 => (zan (!r3) 17).bind fun r4 =>
  (zp N ([r1, r2, r4] : List Int)).bind fun r5 => cond (r5 != 0) (some ((⟨0, (⟨#[]⟩ : ByteArray)⟩ : Value), r5)) ((znw N a0).bind fun r6 =>
  (zdn N r6 a1 a2).bind fun r7 => some (r7.1, r7.2))
def zgx.k (N : Nat) : Kq := ⟨208, (cvv [Ty.Value, T6] [Ty.Number, Ty.DataType, Ty.bool] (zgx N)), go [zas.k, zan.k, za4.k N, zp.k N, zev.k, znw.k N, zdn.k N] {lits := [10, 12, 16, 17, 24]} [] Proofs.Tryz.func208⟩
def zb0.b0 (N : Nat) (s0 : Int) (s5 : List Int) (s6 : Int) : Option (Stp (Int × (List Int) × Int)) :=
 cond (decide (s6 ≥ 0)) (if 0 ≤ s6 then (if s6 < (s5.length : Int) then ((s5[s6.toNat]?).bind fun x1001 =>
  some (.again ((w6 (s0.tdiv 10)), (s5.set s6.toNat (IntKind.wrap .u8 (s0.tmod 10))), (w6 (s6 - 1))))) else none) else none)
  (some (.leave (s0, s5, s6)))
def zb0.r0 (N : Nat) (x : Int × (List Int) × Int) := zb0.b0 N x.1 x.2.1 x.2.2
def zb0 (N : Nat) (a0 : Int) (a1 : Int) : Option ((List Int)) :=
 if 0 ≤ a1 then (if a1 ≤ a1 then (cond (Nat.ble (a1.toNat * 1) zac)
  ((zr (zb0.r0 N) N (a0, (List.replicate a1.toNat (0 : Int)), (w6 (a1 - 1)))).bind fun y1 => some y1.2.1) none) else none) else none
def zb0.k (N : Nat) : Kq := ⟨322, (ctv [.val T6, .val T6] [(Ty.sl (Ty.int .u8))] [] [0] [T6, T6] (zb0 N)), go [] {} [(0, .plain { slots := [(0, .val T6), (5, .own 5000005 (Ty.int .u8)), (6, .val T6)], boxes := [] } [T6, (Ty.sl (Ty.int .u8)), T6] (zr (zb0.r0 N) N))] Proofs.Tryz.func322 (hL := ⟨⟨_, _, rfl, by kernel_rfl⟩, trivial⟩)⟩
def zbb.b0 (N : Nat) (s0 : List Int) (s3 : List Int) (s4 : Int) : Option (Stp ((List Int) × (List Int) × Int)) :=
 cond (decide (s4 < (s0.length : Int))) ((idx s0 s4).bind fun x1001 => (idx s0 (w6 (s4 + 1))).bind fun x1002 =>
  cond (Nat.ble ((s3.length + ([(orI .u8 (IntKind.wrap .u8 (x1001 * 2 ^ (min (4 : Int).toNat 8))) x1002)] : List Int).length) * 1) zac)
  (some (.again (s0, (s3 ++ ([(orI .u8 (IntKind.wrap .u8 (x1001 * 2 ^ (min (4 : Int).toNat 8))) x1002)] : List Int)), (w6 (s4 + 2))))) none)
  (some (.leave (s0, s3, s4)))
def zbb.r0 (N : Nat) (x : (List Int) × (List Int) × Int) := zbb.b0 N x.1 x.2.1 x.2.2
def zbb (N : Nat) (a0 : List Int) : Option ByteArray :=
 (zr (zbb.r0 N) N (a0, [], 0)).bind fun y1 => some (zct y1.2.1)
def zbb.k (N : Nat) : Kq := ⟨323, (cvv [Ty.str] [(Ty.sl (Ty.int .u8))] (zbb N)), go [] {lits := [23]} [(0, .plain { slots := [(0, .val (Ty.sl (Ty.int .u8))), (3, .own 5000003 (Ty.int .u8)), (4, .val T6)], boxes := [] } [(Ty.sl (Ty.int .u8)), (Ty.sl (Ty.int .u8)), T6] (zr (zbb.r0 N) N))] Proofs.Tryz.func323 (hL := ⟨⟨_, _, rfl, by kernel_rfl⟩, trivial⟩)⟩
def zaf.b1 (N : Nat) (s5 : List Int) (s25 : Int) (s26 : Int) (b3 : Value) : Option (Stp ((List Int) × Int × Int × Value)) :=
 cond (decide (s26 < s25)) (if 0 ≤ s26 then (if s26 < (s5.length : Int) then ((s5[s26.toNat]?).bind fun x2001 =>
  if 0 ≤ s26 then (if s26 < (s5.length : Int) then ((s5[s26.toNat]?).bind fun x2002 =>
  some (.again ((s5.set s26.toNat (IntKind.wrap .u8 (x2001 + 240))), s25, (w6 (s26 + 1)), b3))) else none) else none) else none) else none)
  (some (.leave (s5, s25, s26, b3)))
def zaf.r1 (N : Nat) (x : (List Int) × Int × Int × Value) := zaf.b1 N x.1 x.2.1 x.2.2.1 x.2.2.2
def zaf.b3 (N : Nat) (s8 : List Int) (s9 : Int) (s10 : Int) : Option (Stp ((List Int) × Int × Int)) :=
 cond (decide (s9 ≥ 0)) (if 0 ≤ s9 then (if s9 < (s8.length : Int) then ((s8[s9.toNat]?).bind fun x4001 =>
  some (.again ((s8.set s9.toNat (IntKind.wrap .u8 s10)), (w6 (s9 - 1)), (s10.fdiv (2 ^ (min (8 : Int).toNat 64)))))) else none) else none)
  (some (.leave (s8, s9, s10)))
def zaf.r3 (N : Nat) (x : (List Int) × Int × Int) := zaf.b3 N x.1 x.2.1 x.2.2
def zaf (N : Nat) (a0 : DataType) (a1 : Value) : Option ByteArray :=
 (zb0 N (if (w6 (0 - a1.N)) > a1.N then (w6 (0 - a1.N)) else a1.N) a0.Length).bind fun r1 => cond (a0.Kind == 2)
  ((zr (zaf.r1 N) N (r1, (r1.length : Int), 0, a1)).bind fun y2 => cond (decide (y2.2.2.2.N < 0))
  (if 0 ≤ (w6 ((y2.1.length : Int) - 1)) then (if (w6 ((y2.1.length : Int) - 1)) < (y2.1.length : Int) then ((y2.1[(w6 ((y2.1.length : Int) - 1)).toNat]?).bind fun x3 =>
  if 0 ≤ (w6 ((y2.1.length : Int) - 1)) then (if (w6 ((y2.1.length : Int) - 1)) < (y2.1.length : Int) then ((y2.1[(w6 ((y2.1.length : Int) - 1)).toNat]?).bind fun x4 =>
  some (zct (y2.1.set ((w6 ((y2.1.length : Int) - 1)).toNat) (IntKind.wrap .u8 (x3 - 32))))) else none) else none) else none) else none) (some (zct y2.1)))
  (cond (a0.Kind == 1) (cond (decide (a1.N < 0)) (cond (((r1.length : Int).tmod 2) == 0) (cond (Nat.ble ((([0] : List Int).length + r1.length) * 1) zac)
  (cond (Nat.ble (((([0] : List Int) ++ r1).length + ([13] : List Int).length) * 1) zac) ((zbb N ((([0] : List Int) ++ r1) ++ ([13] : List Int))).bind fun r5 =>
  some r5) none) none) (cond (Nat.ble ((r1.length + ([13] : List Int).length) * 1) zac) ((zbb N (r1 ++ ([13] : List Int))).bind fun r6 => some r6) none))
  (cond (((r1.length : Int).tmod 2) == 0) (cond (Nat.ble ((([0] : List Int).length + r1.length) * 1) zac)
  (cond (Nat.ble (((([0] : List Int) ++ r1).length + ([15] : List Int).length) * 1) zac) ((zbb N ((([0] : List Int) ++ r1) ++ ([15] : List Int))).bind fun r7 =>
  some r7) none) none) (cond (Nat.ble ((r1.length + ([15] : List Int).length) * 1) zac) ((zbb N (r1 ++ ([15] : List Int))).bind fun r8 => some r8) none)))
  (cond (a0.Kind == 3) ((zf4 a0).bind fun r9 => if 0 ≤ r9 then (if r9 ≤ r9 then (cond (Nat.ble (r9.toNat * 1) zac)
  ((zr (zaf.r3 N) N ((List.replicate r9.toNat (0 : Int)), (w6 (((List.replicate r9.toNat (0 : Int)).length : Int) - 1)), a1.N)).bind fun y10 =>
  some (zct y10.1)) none) else none) else none) (some a1.S)))
def zaf.k (N : Nat) : Kq := ⟨274, (cvv [Ty.str] [Ty.DataType, Ty.Value] (zaf N)), go [zf4.k, zb0.k N, zbb.k N] {lits := [16, 63, 64]} [(1, .plain { slots := [(3, .ptr 3 0), (5, .own 5000005 (Ty.int .u8)), (25, .val T6), (26, .val T6)], boxes := [(3, Ty.Value, [])] } [(Ty.sl (Ty.int .u8)), T6, T6, Ty.Value] (zr (zaf.r1 N) N)), (3, .plain { slots := [(8, .own 5000008 (Ty.int .u8)), (9, .val T6), (10, .val T6)], boxes := [] } [(Ty.sl (Ty.int .u8)), T6, T6] (zr (zaf.r3 N) N))] Proofs.Tryz.func274 (hL := ⟨⟨_, _, rfl, by kernel_rfl⟩, ⟨_, _, rfl, by kernel_rfl⟩, trivial⟩)⟩
def ziv (N : Nat) (a0 : DataType) (a1 : Value) : Option (ByteArray × Int) :=
 (zdo N a0 a1).bind fun r1 => cond (r1 != 0) (some ((⟨#[]⟩ : ByteArray), r1)) ((zaf N a0 a1).bind fun r2 => some (r2, 0))
def ziv.k (N : Nat) : Kq := ⟨209, (cvv [Ty.str, T6] [Ty.DataType, Ty.Value] (ziv N)), go [zdo.k N, zaf.k N] {} [] Proofs.Tryz.func209⟩
def zk0 (N : Nat) (a0 : Storage) (a1 : Int) (a2 : Int) : Option Int :=
 (zw N a0).bind fun r1 => cond (r1.2 != 0) (some r1.2) ((cond (decide (a1 < 0)) (some true) (some (decide (a2 < 0)))).bind fun g2 => (cond g2 (some true)
  (some (decide (a1 > (a0.Bytes.size : Int))))).bind fun g3 => (cond g3 (some true) (some (decide (a2 > (w6 ((a0.Bytes.size : Int) - a1)))))).bind fun g4 =>
  cond g4 (some 3) (some 0))
def zk0.k (N : Nat) : Kq := ⟨284, (cvv [T6] [Ty.Storage, T6, T6] (zk0 N)), go [zw.k N] {} [] Proofs.Tryz.func284⟩
def zjl (a0 : Storage) (a1 : Int) (a2 : ByteArray) : Option Storage :=
 if 0 ≤ a1 ∧ a1 ≤ (a0.Bytes.size : Int) then (if 0 ≤ (0 : Int) ∧ (0 : Int) ≤ a1 then (if (((a0.Bytes.extract (0 : Int).toNat a1.toNat).size + a2.size : Nat) : Int) > IntKind.i64.max then none else if 0 ≤ (w6 (a1 + (a2.size : Int))) ∧ (w6 (a1 + (a2.size : Int))) ≤ (a0.Bytes.size : Int) then (if ((((a0.Bytes.extract (0 : Int).toNat a1.toNat) ++ a2).size + (a0.Bytes.extract (w6 (a1 + (a2.size : Int))).toNat a0.Bytes.size).size : Nat) : Int) > IntKind.i64.max then none else (zda 1 a0.Tags).bind fun r1 =>
  cond (!(a2.toList == (⟨#[]⟩ : ByteArray).toList))
  (if 0 ≤ (w6 ((w6 ((w6 ((w6 (a1 + (a2.size : Int))) - 1)).tdiv 16)) + 1)) ∧ (w6 ((w6 ((w6 ((w6 (a1 + (a2.size : Int))) - 1)).tdiv 16)) + 1)) ≤ (r1.length : Int) then (if 0 ≤ (w6 (a1.tdiv 16)) ∧ (w6 (a1.tdiv 16)) ≤ (w6 ((w6 ((w6 ((w6 (a1 + (a2.size : Int))) - 1)).tdiv 16)) + 1)) then (some (⟨(((a0.Bytes.extract (0 : Int).toNat a1.toNat) ++ a2) ++ (a0.Bytes.extract (w6 (a1 + (a2.size : Int))).toNat a0.Bytes.size)), (r1.take ((w6 (a1.tdiv 16)).toNat) ++ List.replicate ((w6 ((w6 ((w6 ((w6 (a1 + (a2.size : Int))) - 1)).tdiv 16)) + 1)).toNat - (w6 (a1.tdiv 16)).toNat)
  (false : Bool) ++ r1.drop ((w6 (a1.tdiv 16)).toNat + ((w6 ((w6 ((w6 ((w6 (a1 + (a2.size : Int))) - 1)).tdiv 16)) + 1)).toNat - (w6 (a1.tdiv 16)).toNat)))⟩ : Storage)) else none) else none)
  (some (⟨(((a0.Bytes.extract (0 : Int).toNat a1.toNat) ++ a2) ++ (a0.Bytes.extract (w6 (a1 + (a2.size : Int))).toNat a0.Bytes.size)), r1⟩ : Storage))) else none) else none) else none
def zjl.k : Kq := ⟨281, (ctv [.val Ty.Storage, .val T6, .val Ty.str] [Ty.Storage] [] [1] [Ty.Storage, T6, Ty.str] zjl), go [x76.k] {} [] Proofs.Tryz.func281⟩
def zgv (N : Nat) (a0 : Storage) (a1 : Int) (a2 : ByteArray) : Option (Storage × Int) :=
 (zk0 N a0 a1 (a2.size : Int)).bind fun r1 => cond (r1 != 0) (some ((⟨(⟨#[]⟩ : ByteArray), []⟩ : Storage), r1)) ((zjl a0 a1 a2).bind fun r2 => some (r2, 0))
def zgv.k (N : Nat) : Kq := ⟨228, (cvv [Ty.Storage, T6] [Ty.Storage, T6, Ty.str] (zgv N)), go [zjl.k, zk0.k N] {lits := [12]} [] Proofs.Tryz.func228⟩
def za2 (N : Nat) (a0 : zC) (a1 : zO) (a2 : ByteArray) : Option zC :=
 (za0 N a0 a1 (a2.size : Int)).bind fun r1 => cond r1.2.1 ((zgv N r1.2.2.zA.Storage r1.1 a2).bind fun r2 =>
  some (⟨(⟨r1.2.2.zA.Registers, r1.2.2.zA.Condition, r2.1, r1.2.2.zA.At, r1.2.2.zA.Stack, r1.2.2.zA.Lines, r1.2.2.zA.Status, r1.2.2.zA.Exception, r1.2.2.zA.Marks, r1.2.2.zA.Steps⟩ : zA), r1.2.2.code, r1.2.2.raised⟩ : zC))
  (some r1.2.2)
def za2.k (N : Nat) : Kq := ⟨210, (ctv [.ptr Ty.zC true [], .val Ty.zO, .val Ty.str] [] [Ty.zC] [] [Ty.zC, Ty.zO, Ty.str] (za2 N)), go [za0.k N, zgv.k N] {lits := [12], pk := [1000000]} [] Proofs.Tryz.func210⟩
def zeu (N : Nat) (a0 : zC) (a1 : zB) : Option zC :=
 (idx a0.zA.Registers a1.R).bind fun x1 => (zgx N x1 a1.zF a1.Half).bind fun r2 => (zf a0 (r2.2 != 0) 2).bind fun r3 =>
  cond r3.1 ((ziv N a1.zF r2.1).bind fun r4 => (za2 N r3.2 a1.Place r4.1).bind fun r5 => some r5) (some r3.2)
def zeu.k (N : Nat) : Kq := ⟨148, (ctv [.ptr Ty.zC true [], .val Ty.zB] [] [Ty.zC] [] [Ty.zC, Ty.zB] (zeu N)), go [zf.k, zgx.k N, ziv.k N, za2.k N] {pk := [1000000]} [] Proofs.Tryz.func148⟩
def zlu (a0 : Int) : Option Bool :=
 (zd0 a0 0 4).bind fun r1 => some r1
def zlu.k : Kq := ⟨275, (cvv [Ty.bool] [T6] zlu), go [zd0.k] {} [] Proofs.Tryz.func275⟩
def zjo (a0 : Int) : Option Bool :=
 (cond (a0 == 3) (some true) (some (a0 == 4))).bind fun g1 => some g1
def zjo.k : Kq := ⟨324, (cvv [Ty.bool] [T6] zjo), go [] {} [] Proofs.Tryz.func324⟩
def zd4 (N : Nat) (a0 : Number) (a1 : Number) : Option (zI × zI × Int) :=
 (zcg N a0 (w6 ((if a1.Scale > a0.Scale then a1.Scale else a0.Scale) - a0.Scale))).bind fun r1 =>
  (zcg N a1 (w6 ((if a1.Scale > a0.Scale then a1.Scale else a0.Scale) - a1.Scale))).bind fun r2 =>
  some (r1, r2, (if a1.Scale > a0.Scale then a1.Scale else a0.Scale))
def zd4.k (N : Nat) : Kq := ⟨277, (cvv [Ty.zI, Ty.zI, T6] [Ty.Number, Ty.Number] (zd4 N)), go [zcg.k N] {} [] Proofs.Tryz.func277⟩
def zjy (N : Nat) (a0 : Number) (a1 : Number) : Option zQ :=
 (zd4 N a0 a1).bind fun r1 => (zy N r1.1 r1.2.1).bind fun r2 => (zba 1).bind fun r3 => (zk N r3 r1.2.2).bind fun r4 =>
  cond (!((decide (a0.N < 0)) == (decide (a1.N < 0)))) ((zx N r1.1 r1.2.1).bind fun r5 => (zl N r1.1 r1.2.1).bind fun r6 => cond (decide (r6 < 0))
  ((zx N r1.2.1 r1.1).bind fun r7 => some (⟨(decide (a1.N < 0)), r7, r4⟩ : zQ)) (some (⟨(decide (a0.N < 0)), r5, r4⟩ : zQ)))
  (some (⟨(decide (a0.N < 0)), r2, r4⟩ : zQ))
def zjy.k (N : Nat) : Kq := ⟨348, (cvv [Ty.zQ] [Ty.Number, Ty.Number] (zjy N)), go [zd4.k N, zl.k N, zba.k, zk.k N, zy.k N, zx.k N] {lits := [22]} [] Proofs.Tryz.func348⟩
def zkf (N : Nat) (a0 : Int) (a1 : Number) (a2 : Number) : Option zQ :=
 cond (a0 == 0) ((zjy N a1 a2).bind fun r1 => some r1) (cond (a0 == 1) ((zjy N a1 (⟨(w6 (0 - a2.N)), a2.Scale⟩ : Number)).bind fun r2 => some r2)
  (cond (a0 == 2) ((zcg N a1 0).bind fun r3 =>
  (zar N r3 (IntKind.wrap .u64 (if (w6 (0 - a2.N)) > a2.N then (w6 (0 - a2.N)) else a2.N))).bind fun r4 =>
  (zba 1).bind fun r5 => (zk N r5 (w6 (a1.Scale + a2.Scale))).bind fun r6 =>
  some (⟨(!((decide (a1.N < 0)) == (decide (a2.N < 0)))), r4, r6⟩ : zQ)) (cond (a0 == 3) ((zcg N a1 a2.Scale).bind fun r7 =>
  (zcg N a2 a1.Scale).bind fun r8 => some (⟨(!((decide (a1.N < 0)) == (decide (a2.N < 0)))), r7, r8⟩ : zQ)) ((zd4 N a1 a2).bind fun r9 =>
  (zau N r9.1 r9.2.1).bind fun r10 => (zba 1).bind fun r11 => (zk N r11 r9.2.2).bind fun r12 =>
  some (⟨(decide (a1.N < 0)), r10.2, r12⟩ : zQ)))))
def zkf.k (N : Nat) : Kq := ⟨325, (cvv [Ty.zQ] [T6, Ty.Number, Ty.Number] (zkf N)), go [zd4.k N, zcg.k N, zba.k, zk.k N, zau.k N, zar.k N, zjy.k N] {lits := [40, 49, 86]} [] Proofs.Tryz.func325⟩
def zhv (N : Nat) (a0 : Int) (a1 : Number) (a2 : Number) (a3 : DataType) (a4 : Bool) : Option (Value × Int) :=
 (zjo a0).bind fun r1 => (cond r1 (some (a2.N == 0)) (some false)).bind fun g2 => cond g2 (some ((⟨0, (⟨#[]⟩ : ByteArray)⟩ : Value), 20))
  ((zkf N a0 a1 a2).bind fun r3 => (zdn N r3 a3 a4).bind fun r4 => some (r4.1, r4.2))
def zhv.k (N : Nat) : Kq := ⟨276, (cvv [Ty.Value, T6] [T6, Ty.Number, Ty.Number, Ty.DataType, Ty.bool] (zhv N)), go [zdn.k N, zjo.k, zkf.k N] {lits := [23]} [] Proofs.Tryz.func276⟩
def zce (N : Nat) (a0 : Int) (a1 : Number) (a2 : Number) (a3 : DataType) (a4 : Bool) : Option (Value × Int) :=
 (zlu a0).bind fun r1 => (zan (!r1) 4).bind fun r2 => (zas a1).bind fun r3 => (zas a2).bind fun r4 =>
  (za4 N a3).bind fun r5 => (zev a3).bind fun r6 => (zan (!r6) 17).bind fun r7 =>
  (zp N ([r2, r3, r4, r5, r7] : List Int)).bind fun r8 => cond (r8 != 0) (some ((⟨0, (⟨#[]⟩ : ByteArray)⟩ : Value), r8))
  ((zhv N a0 a1 a2 a3 a4).bind fun r9 => some (r9.1, r9.2))
def zce.k (N : Nat) : Kq := ⟨211, (cvv [Ty.Value, T6] [T6, Ty.Number, Ty.Number, Ty.DataType, Ty.bool] (zce N)), go [zas.k, zan.k, za4.k N, zp.k N, zev.k, zlu.k, zhv.k N] {lits := [16, 18, 20, 22, 26, 27]} [] Proofs.Tryz.func211⟩
def zgc (N : Nat) (a0 : zC) (a1 : zB) : Option zC :=
 cond a1.zL ((zbf N a0 a1.Place a1.Second).bind fun r1 => cond (!r1.2.1) (some r1.2.2) ((idx r1.2.2.zA.Registers a1.A).bind fun x2 =>
  (zce N a1.zJ x2 r1.1 a1.zF false).bind fun r3 => (zf r1.2.2 (r3.2 == 20) 3).bind fun r4 =>
  cond r4.1 ((zf r4.2 (r3.2 != 0) 2).bind fun r5 => cond r5.1 ((zaa r5.2 a1.R (⟨r3.1.N, a1.zF.Scale⟩ : Number)).bind fun r6 => some r6)
  (some r5.2)) (some r4.2))) ((idx a0.zA.Registers a1.B).bind fun x7 => (idx a0.zA.Registers a1.A).bind fun x8 =>
  (zce N a1.zJ x8 x7 a1.zF false).bind fun r9 => (zf a0 (r9.2 == 20) 3).bind fun r10 =>
  cond r10.1 ((zf r10.2 (r9.2 != 0) 2).bind fun r11 => cond r11.1 ((zaa r11.2 a1.R (⟨r9.1.N, a1.zF.Scale⟩ : Number)).bind fun r12 =>
  some r12) (some r11.2)) (some r10.2))
def zgc.k (N : Nat) : Kq := ⟨149, (ctv [.ptr Ty.zC true [], .val Ty.zB] [] [Ty.zC] [] [Ty.zC, Ty.zB] (zgc N)), go [zbf.k N, zaa.k, zf.k, zce.k N] {pk := [1000000]} [] Proofs.Tryz.func149⟩
def zhf (N : Nat) (a0 : Number) (a1 : Number) : Option (Int × Int) :=
 (zas a0).bind fun r1 => (zas a1).bind fun r2 => (zp N ([r1, r2] : List Int)).bind fun r3 => cond (r3 != 0) (some (0, r3))
  ((zd4 N a0 a1).bind fun r4 => (cond (decide (a0.N < 0)) (some (decide (a1.N < 0))) (some false)).bind fun g5 =>
  cond g5 ((zl N r4.2.1 r4.1).bind fun r6 => some (r6, 0)) (cond (decide (a0.N < 0)) (some ((-1), 0)) (cond (decide (a1.N < 0)) (some (1, 0))
  ((zl N r4.1 r4.2.1).bind fun r7 => some (r7, 0)))))
def zhf.k (N : Nat) : Kq := ⟨212, (cvv [T6, T6] [Ty.Number, Ty.Number] (zhf N)), go [zas.k, zp.k N, zd4.k N, zl.k N] {lits := [11, 13, 14]} [] Proofs.Tryz.func212⟩
def zea (a0 : Int) : Option Int :=
 cond (decide (a0 < 0)) (some 1) (cond (decide (a0 > 0)) (some 4) (some 2))
def zea.k : Kq := ⟨213, (cvv [T6] [T6] zea), go [] {} [] Proofs.Tryz.func213⟩
def zat (N : Nat) (a0 : zC) (a1 : zB) : Option Int :=
 (idx a0.zA.Registers a1.A).bind fun x1 => (idx a0.zA.Registers a1.B).bind fun x2 => (zhf N x1 x2).bind fun r3 => (zea r3.1).bind fun r4 =>
  some r4
def zat.k (N : Nat) : Kq := ⟨150, (ctv [.ptr Ty.zC false [], .val Ty.zB] [T6] [] [] [Ty.zC, Ty.zB] (zat N)), go [zhf.k N, zea.k] {ro := [1000000], pk := [1000000]} [] Proofs.Tryz.func150⟩
def zxw : Ct U := { params := [.val Ty.str, .val T6], results := [Ty.str], outs := [], fresh := [], fn := app U [Ty.str, T6] (R := PT U [Ty.str]) (zob) }
theorem zxw.meets : zij (zso [] [] [] [] [] [] [] []) 279 zxw :=
 zxl ⟨_, Proofs.Tryz.func279, rfl, by kernel_rfl⟩ (t := Ty.str) rfl rfl rfl rfl fun ds y hy E0 h0 ha μ H w us hA hm hG => by
  obtain ⟨s, n, rfl, hx⟩ := app2 hy; unfold zob at hx; split at hx
  · rename_i hn; cases hx; have hE : some ([.sc (.string s), .sc (.int .i64 n)], []) = some (E0, h0) := ha; cases hE; cases hA with
    | cons h1 h2 =>
     cases h2 with
     | cons h2 h3 =>
      cases h3; have hu := h1.int; have hu2 := h2.int; subst hu hu2; refine ⟨_, rfl, ?_⟩; have hc := Proofs.Tryz.strings_Repeat s n.toNat w (by omega) hn.2.2; have he : ((n.toNat : Nat) : Int) = n := by omega
      rw [he] at hc; exact hc.mono fun e w' hh => ⟨_, hh.1, z4p hh.2, .sc _⟩
  · cases hx
def zxw.k : Kq := ⟨279, zxw, zxw.meets⟩
def zdq (a0 : ByteArray) (a1 : Int) : Option ByteArray :=
 (zob (⟨#[32]⟩ : ByteArray) (if 0 > (w6 (a1 - (a0.size : Int))) then 0 else (w6 (a1 - (a0.size : Int))))).bind fun r1 =>
  if ((a0.size + r1.size : Nat) : Int) > IntKind.i64.max then none else some (a0 ++ r1)
def zdq.k : Kq := ⟨214, (cvv [Ty.str] [Ty.str, T6] zdq), go [zxw.k] {lits := [10]} [] Proofs.Tryz.func214⟩
def zgb (N : Nat) (a0 : zC) (a1 : zB) : Option zC :=
 cond (a1.Op == 9) ((zu N a0 a1.From a1.Second).bind fun r1 => cond r1.2.1 ((zdq r1.1 a1.zF.Length).bind fun r2 =>
  if 0 ≤ a1.zF.Length ∧ a1.zF.Length ≤ (r2.size : Int) then (if 0 ≤ (0 : Int) ∧ (0 : Int) ≤ a1.zF.Length then ((za2 N r1.2.2 a1.Place (r2.extract (0 : Int).toNat a1.zF.Length.toNat)).bind fun r3 =>
  some r3) else none) else none) (some r1.2.2)) ((zdq a1.Text a1.zF.Length).bind fun r4 =>
  if 0 ≤ a1.zF.Length ∧ a1.zF.Length ≤ (r4.size : Int) then (if 0 ≤ (0 : Int) ∧ (0 : Int) ≤ a1.zF.Length then ((za2 N a0 a1.Place (r4.extract (0 : Int).toNat a1.zF.Length.toNat)).bind fun r5 =>
  some r5) else none) else none)
def zgb.k (N : Nat) : Kq := ⟨151, (ctv [.ptr Ty.zC true [], .val Ty.zB] [] [Ty.zC] [] [Ty.zC, Ty.zB] (zgb N)), go [zu.k N, za2.k N, zdq.k] {pk := [1000000]} [] Proofs.Tryz.func151⟩
def zdp (a0 : ByteArray) (a1 : ByteArray) : Option Int :=
 some (Extern.BytealgCompare.cmp a0 a1)
def zdp.k : Kq := ⟨280, (cvv [T6] [Ty.str, Ty.str] zdp), go [] {X := [(331, 2)]} [] Proofs.Tryz.func280 (hX := all_cons (zaez) (zc8))⟩
def zjm (a0 : ByteArray) (a1 : ByteArray) : Option Int :=
 (zdp a0 a1).bind fun r1 => some r1
def zjm.k : Kq := ⟨215, (cvv [T6] [Ty.str, Ty.str] zjm), go [zdp.k] {} [] Proofs.Tryz.func215⟩
def zch (a0 : ByteArray) (a1 : ByteArray) : Option Int :=
 (zdq a0 (a1.size : Int)).bind fun r1 => (zdq a1 (a0.size : Int)).bind fun r2 => (zjm r1 r2).bind fun r3 => (zea r3).bind fun r4 =>
  some r4
def zch.k : Kq := ⟨153, (cvv [T6] [Ty.str, Ty.str] zch), go [zea.k, zdq.k, zjm.k] {lits := [7, 8, 11, 12, 13]} [] Proofs.Tryz.func153⟩
def ze4 (N : Nat) (a0 : zC) (a1 : zB) : Option zC :=
 (zu N a0 a1.Place a1.zF).bind fun r1 => (cond r1.2.1 (some (a1.Op == 11)) (some false)).bind fun g2 =>
  cond g2 ((zu N r1.2.2 a1.From a1.Second).bind fun r3 => cond r3.2.1 ((zch r1.1 r3.1).bind fun r4 =>
  some (⟨(⟨r3.2.2.zA.Registers, r4, r3.2.2.zA.Storage, r3.2.2.zA.At, r3.2.2.zA.Stack, r3.2.2.zA.Lines, r3.2.2.zA.Status, r3.2.2.zA.Exception, r3.2.2.zA.Marks, r3.2.2.zA.Steps⟩ : zA), r3.2.2.code, r3.2.2.raised⟩ : zC))
  (some r3.2.2)) (cond r1.2.1 ((zch r1.1 a1.Text).bind fun r5 =>
  some (⟨(⟨r1.2.2.zA.Registers, r5, r1.2.2.zA.Storage, r1.2.2.zA.At, r1.2.2.zA.Stack, r1.2.2.zA.Lines, r1.2.2.zA.Status, r1.2.2.zA.Exception, r1.2.2.zA.Marks, r1.2.2.zA.Steps⟩ : zA), r1.2.2.code, r1.2.2.raised⟩ : zC))
  (some r1.2.2))
def ze4.k (N : Nat) : Kq := ⟨152, (ctv [.ptr Ty.zC true [], .val Ty.zB] [] [Ty.zC] [] [Ty.zC, Ty.zB] (ze4 N)), go [zch.k, zu.k N] {pk := [1000000]} [] Proofs.Tryz.func152⟩
def zbt.b0 (N : Nat) (s0 : Int) (s1 : Int) (s5 : List Int) (s10 : Int) (s11 : Int) : Option (Stp (Int × Int × (List Int) × Int × Int)) :=
 cond (decide (s11 < s10))
  (if (w6 (8 * s11)) < 0 then none else if 0 ≤ (w6 ((w6 (s1 - 1)) - s11)) then (if (w6 ((w6 (s1 - 1)) - s11)) < (s5.length : Int) then ((s5[(w6 ((w6 (s1 - 1)) - s11)).toNat]?).bind fun x1001 =>
  some (.again (s0, s1, (s5.set ((w6 ((w6 (s1 - 1)) - s11)).toNat)
  (IntKind.wrap .u8 ((s0 : Int).fdiv (2 ^ (min (w6 (8 * s11)).toNat 64))))), s10, (w6 (s11 + 1))))) else none) else none)
  (some (.leave (s0, s1, s5, s10, s11)))
def zbt.r0 (N : Nat) (x : Int × Int × (List Int) × Int × Int) := zbt.b0 N x.1 x.2.1 x.2.2.1 x.2.2.2.1 x.2.2.2.2
def zbt (N : Nat) (a0 : Int) (a1 : Int) : Option ((List Int)) :=
 if 0 ≤ a1 then (if a1 ≤ a1 then (cond (Nat.ble (a1.toNat * 1) zac)
  ((zr (zbt.r0 N) N (a0, a1, (List.replicate a1.toNat (0 : Int)), ((List.replicate a1.toNat (0 : Int)).length : Int), 0)).bind fun y1 =>
  some y1.2.2.1) none) else none) else none
def zbt.k (N : Nat) : Kq := ⟨333, (cvv [(Ty.sl (Ty.int .u8))] [T6, T6] (zbt N)), go [] {} [(0, .plain { slots := [(0, .val T6), (1, .val T6), (5, .own 5000005 (Ty.int .u8)), (10, .val T6), (11, .val T6)], boxes := [] } [T6, T6, (Ty.sl (Ty.int .u8)), T6, T6] (zr (zbt.r0 N) N))] Proofs.Tryz.func333 (hL := ⟨⟨_, _, rfl, by kernel_rfl⟩, trivial⟩)⟩
def zi3 (a0 : Unit) (a1 : Int) : Option ((List Int)) :=
 cond (decide (a1 < 0)) (none) (cond (decide ((w6 (a1 - 0)) > 0))
  (if 0 ≤ (w6 (a1 - 0)) then (cond (Nat.ble ((w6 (a1 - 0)).toNat * 1) zac)
  (if 0 ≤ (0 : Int) ∧ (0 : Int) ≤ ((List.replicate (w6 (a1 - 0)).toNat (0 : Int)).length : Int) then (if 0 ≤ (0 : Int) ∧ (0 : Int) ≤ (0 : Int) then (some (((List.replicate (w6 (a1 - 0)).toNat (0 : Int)).drop ((0 : Int).toNat)).take ((0 : Int).toNat - (0 : Int).toNat))) else none) else none) none) else none)
  (some []))
def zi3.k : Kq := ⟨352, (ctv [.val Ty.nil, .val T6] [(Ty.sl (Ty.int .u8))] [] [0] [Ty.nil, T6] zi3), go [] {} [] Proofs.Tryz.func352⟩
def zax.b0 (N : Nat) (s0 : List (List Int)) (s3 : Int) (s9 : List (List Int)) (s10 : Int) (s11 : Int) : Option (Stp ((List (List Int)) × Int × (List (List Int)) × Int × Int)) :=
 cond (decide (s11 < s10)) ((idx s9 s11).bind fun x1001 => cond (decide ((w6 (s3 + (x1001.length : Int))) < 0)) (none)
  (some (.again (s0, (w6 (s3 + (x1001.length : Int))), s9, s10, (w6 (s11 + 1)))))) (some (.leave (s0, s3, s9, s10, s11)))
def zax.r0 (N : Nat) (x : (List (List Int)) × Int × (List (List Int)) × Int × Int) := zax.b0 N x.1 x.2.1 x.2.2.1 x.2.2.2.1 x.2.2.2.2
def zax.b2 (N : Nat) (s6 : List Int) (s25 : List (List Int)) (s26 : Int) (s27 : Int) : Option (Stp ((List Int) × (List (List Int)) × Int × Int)) :=
 cond (decide (s27 < s26)) ((idx s25 s27).bind fun x3001 => cond (Nat.ble ((s6.length + x3001.length) * 1) zac)
  (some (.again ((s6 ++ x3001), s25, s26, (w6 (s27 + 1))))) none) (some (.leave (s6, s25, s26, s27)))
def zax.r2 (N : Nat) (x : (List Int) × (List (List Int)) × Int × Int) := zax.b2 N x.1 x.2.1 x.2.2.1 x.2.2.2
def zax (N : Nat) (a0 : List (List Int)) : Option ((List Int)) :=
 (zr (zax.r0 N) N (a0, 0, a0, (a0.length : Int), 0)).bind fun y1 => (zi3 () y1.2.1).bind fun r2 =>
  (zr (zax.r2 N) N (r2, y1.1, (y1.1.length : Int), 0)).bind fun y3 => some y3.1
def zax.k (N : Nat) : Kq := ⟨332, (ctv [.val (Ty.sl (Ty.sl (Ty.int .u8)))] [(Ty.sl (Ty.int .u8))] [] [0] [(Ty.sl (Ty.sl (Ty.int .u8)))] (zax N)), go [zi3.k] {} [(0, .plain { slots := [(0, .val (Ty.sl (Ty.sl (Ty.int .u8)))), (3, .val T6), (9, .val (Ty.sl (Ty.sl (Ty.int .u8)))), (10, .val T6), (11, .val T6)], boxes := [] } [(Ty.sl (Ty.sl (Ty.int .u8))), T6, (Ty.sl (Ty.sl (Ty.int .u8))), T6, T6] (zr (zax.r0 N) N)), (2, .plain { slots := [(6, .own 5000006 (Ty.int .u8)), (25, .val (Ty.sl (Ty.sl (Ty.int .u8)))), (26, .val T6), (27, .val T6)], boxes := [] } [(Ty.sl (Ty.int .u8)), (Ty.sl (Ty.sl (Ty.int .u8))), T6, T6] (zr (zax.r2 N) N))] Proofs.Tryz.func332 (hL := ⟨⟨_, _, rfl, by kernel_rfl⟩, ⟨_, _, rfl, by kernel_rfl⟩, trivial⟩)⟩
def zis (N : Nat) (a0 : Pointer) : Option ByteArray :=
 (zbt N a0.Kind 1).bind fun r1 => (zbt N 0 1).bind fun r2 => (zbt N a0.Authority 2).bind fun r3 => (zbt N a0.Address.zZ 6).bind fun r4 =>
  (zbt N a0.Address.Offset 6).bind fun r5 => (zax N ([r1, r2, r3, r4, r5] : List (List Int))).bind fun r6 => some (zct r6)
def zis.k (N : Nat) : Kq := ⟨282, (cvv [Ty.str] [Ty.Pointer] (zis N)), go [zax.k N, zbt.k N] {lits := [5, 6, 9, 13, 17, 18]} [] Proofs.Tryz.func282⟩
def zb4 (N : Nat) (a0 : Storage) (a1 : Int) (a2 : Pointer) : Option (Storage × Int) :=
 (zhs N a0 a1).bind fun r1 => cond (r1 != 0) (some ((⟨(⟨#[]⟩ : ByteArray), []⟩ : Storage), r1)) ((zdx a2).bind fun r2 => cond (r2 != 0)
  (some ((⟨(⟨#[]⟩ : ByteArray), []⟩ : Storage), r2)) ((zis N a2).bind fun r3 => (zjl a0 a1 r3).bind fun r4 =>
  if 0 ≤ (w6 (a1.tdiv 16)) then (if (w6 (a1.tdiv 16)) < (r4.Tags.length : Int) then ((r4.Tags[(w6 (a1.tdiv 16)).toNat]?).bind fun x5 =>
  some ((⟨r4.Bytes, (r4.Tags.set ((w6 (a1.tdiv 16)).toNat) true)⟩ : Storage), 0)) else none) else none))
def zb4.k (N : Nat) : Kq := ⟨217, (cvv [Ty.Storage, T6] [Ty.Storage, T6, Ty.Pointer] (zb4 N)), go [zdx.k, zhs.k N, zjl.k, zis.k N] {lits := [27]} [] Proofs.Tryz.func217⟩
def zbl.b0 (N : Nat) (s4 : Int) (s5 : Int) (b1 : Number) : Option (Stp (Int × Int × Number)) :=
 cond (decide (s5 < s4)) (some (.again (s4, (w6 (s5 + 1)), (⟨(w6 (b1.N.tdiv 10)), b1.Scale⟩ : Number)))) (some (.leave (s4, s5, b1)))
def zbl.r0 (N : Nat) (x : Int × Int × Number) := zbl.b0 N x.1 x.2.1 x.2.2
def zbl (N : Nat) (a0 : Number) : Option Int :=
 (zr (zbl.r0 N) N (a0.Scale, 0, a0)).bind fun y1 => some y1.2.2.N
def zbl.k (N : Nat) : Kq := ⟨220, (cvv [T6] [Ty.Number] (zbl N)), go [] {} [(0, .plain { slots := [(1, .ptr 1 0), (4, .val T6), (5, .val T6)], boxes := [(1, Ty.Number, [])] } [T6, T6, Ty.Number] (zr (zbl.r0 N) N))] Proofs.Tryz.func220 (hL := ⟨⟨_, _, rfl, by kernel_rfl⟩, trivial⟩)⟩
def zd3 (N : Nat) (a0 : zC) (a1 : zB) : Option zC :=
 (zav N a0 a1.Pointer).bind fun r1 => cond (!r1.2.1) (some r1.2.2) ((idx r1.2.2.zA.Registers a1.R).bind fun x2 => (zbl N x2).bind fun r3 =>
  (zae (w6 (r1.1.Address.Offset + r3)) 0 16777215).bind fun r4 => (zf r1.2.2 (!r4) 5).bind fun r5 =>
  cond r5.1 ((zb4 N r5.2.zA.Storage a1.Pointer (⟨r1.1.Kind, (⟨r1.1.Address.zZ, (w6 (r1.1.Address.Offset + r3))⟩ : Address), r1.1.Authority⟩ : Pointer)).bind fun r6 =>
  some (⟨(⟨r5.2.zA.Registers, r5.2.zA.Condition, r6.1, r5.2.zA.At, r5.2.zA.Stack, r5.2.zA.Lines, r5.2.zA.Status, r5.2.zA.Exception, r5.2.zA.Marks, r5.2.zA.Steps⟩ : zA), r5.2.code, r5.2.raised⟩ : zC))
  (some r5.2))
def zd3.k (N : Nat) : Kq := ⟨219, (ctv [.ptr Ty.zC true [], .val Ty.zB] [] [Ty.zC] [] [Ty.zC, Ty.zB] (zd3 N)), go [zae.k, zf.k, zb4.k N, zav.k N, zbl.k N] {pk := [1000000]} [] Proofs.Tryz.func219⟩
def zgm (N : Nat) (a0 : zC) (a1 : zB) : Option zC :=
 cond (a1.Op == 14) ((zeo N a1.zF).bind fun r1 => (za0 N a0 a1.Place r1).bind fun r2 =>
  cond r2.2.1 ((zb4 N r2.2.2.zA.Storage a1.Pointer (⟨0, (⟨1, r2.1⟩ : Address), 0⟩ : Pointer)).bind fun r3 =>
  some (⟨(⟨r2.2.2.zA.Registers, r2.2.2.zA.Condition, r3.1, r2.2.2.zA.At, r2.2.2.zA.Stack, r2.2.2.zA.Lines, r2.2.2.zA.Status, r2.2.2.zA.Exception, r2.2.2.zA.Marks, r2.2.2.zA.Steps⟩ : zA), r2.2.2.code, r2.2.2.raised⟩ : zC))
  (some r2.2.2)) (cond (a1.Op == 15) ((zav N a0 a1.Source).bind fun r4 =>
  cond r4.2.1 ((zb4 N r4.2.2.zA.Storage a1.Pointer r4.1).bind fun r5 =>
  some (⟨(⟨r4.2.2.zA.Registers, r4.2.2.zA.Condition, r5.1, r4.2.2.zA.At, r4.2.2.zA.Stack, r4.2.2.zA.Lines, r4.2.2.zA.Status, r4.2.2.zA.Exception, r4.2.2.zA.Marks, r4.2.2.zA.Steps⟩ : zA), r4.2.2.code, r4.2.2.raised⟩ : zC))
  (some r4.2.2)) (cond (a1.Op == 16) ((zd3 N a0 a1).bind fun r6 => some r6) (cond (a1.Op == 17) ((zav N a0 a1.Pointer).bind fun r7 =>
  some r7.2.2) (some a0))))
def zgm.k (N : Nat) : Kq := ⟨154, (ctv [.ptr Ty.zC true [], .val Ty.zB] [] [Ty.zC] [] [Ty.zC, Ty.zB] (zgm N)), go [zeo.k N, za0.k N, zb4.k N, zav.k N, zd3.k N] {lits := [18], pk := [1000000]} [] Proofs.Tryz.func154⟩
def zeb (N : Nat) (a0 : zC) (a1 : zB) : Option zC :=
 (idx a0.zA.Registers a1.R).bind fun x1 => (zbl N x1).bind fun r2 => (zae r2 100 999).bind fun r3 => cond (!r3)
  ((zf a0 true 2).bind fun r4 => some r4.2) ((zf a0 true r2).bind fun r5 => some r5.2)
def zeb.k (N : Nat) : Kq := ⟨155, (ctv [.ptr Ty.zC true [], .val Ty.zB] [] [Ty.zC] [] [Ty.zC, Ty.zB] (zeb N)), go [zae.k, zf.k, zbl.k N] {pk := [1000000]} [] Proofs.Tryz.func155⟩
def zz8 : Ct U := { params := [.val T6], results := [Ty.str], outs := [], fresh := [], fn := app U [T6] (R := PT U [Ty.str]) (zy1) }
theorem zz8.meets : zij (zso [] [] [] [] [] [] [] []) 283 zz8 :=
 zxl ⟨_, Proofs.Tryz.func283, rfl, by kernel_rfl⟩ (t := Ty.str) rfl rfl rfl rfl fun ds y hy E0 h0 ha μ H w us hA hm hG => by
  obtain ⟨n, rfl, hx⟩ := z0v hy; unfold zy1 at hx; split at hx
  · rename_i hn; cases hx; have hE : some ([.sc (.int .i64 n)], []) = some (E0, h0) := ha; cases hE; cases hA with
    | cons h1 h2 =>
     cases h2; have hu := h1.int; subst hu; have ht := zadh hG hm (g := 3) (name := "internal/strconv.uint64pow10") (t := Ty.int .u64) (xs := zabc) (k := .u64) (zs := Lib.pow10Tab) rfl (by kernel_rfl) (fun i x hi => ⟨x, hi, rfl⟩) rfl rfl; refine ⟨_, rfl, (Proofs.Tryz.strconv_Itoa n hn.1 hn.2 w ht).mono fun e w' hh => ?_⟩; obtain ⟨rfl, k, os, rfl⟩ := hh; exact ⟨_, rfl, zabm w k os, .sc _⟩
  · cases hx
def zz8.k : Kq := ⟨283, zz8, zz8.meets⟩
def zee (a0 : Number) : Option (ByteArray × Int) :=
 (zas a0).bind fun r1 => cond (r1 != 0) (some ((⟨#[]⟩ : ByteArray), r1))
  ((zy1 (if (w6 (0 - a0.N)) > a0.N then (w6 (0 - a0.N)) else a0.N)).bind fun r2 => cond (decide ((r2.size : Int) ≤ a0.Scale))
  ((zob (⟨#[48]⟩ : ByteArray) (w6 ((w6 (a0.Scale + 1)) - (r2.size : Int)))).bind fun r3 =>
  if ((r3.size + r2.size : Nat) : Int) > IntKind.i64.max then none else cond (decide (a0.Scale > 0))
  (if 0 ≤ (w6 (((r3 ++ r2).size : Int) - a0.Scale)) ∧ (w6 (((r3 ++ r2).size : Int) - a0.Scale)) ≤ ((r3 ++ r2).size : Int) then (if 0 ≤ (0 : Int) ∧ (0 : Int) ≤ (w6 (((r3 ++ r2).size : Int) - a0.Scale)) then (if ((((r3 ++ r2).extract (0 : Int).toNat (w6 (((r3 ++ r2).size : Int) - a0.Scale)).toNat).size + (⟨#[46]⟩ : ByteArray).size : Nat) : Int) > IntKind.i64.max then none else if 0 ≤ (w6 (((r3 ++ r2).size : Int) - a0.Scale)) ∧ (w6 (((r3 ++ r2).size : Int) - a0.Scale)) ≤ ((r3 ++ r2).size : Int) then (if (((((r3 ++ r2).extract (0 : Int).toNat (w6 (((r3 ++ r2).size : Int) - a0.Scale)).toNat) ++ (⟨#[46]⟩ : ByteArray)).size + ((r3 ++ r2).extract (w6 (((r3 ++ r2).size : Int) - a0.Scale)).toNat (r3 ++ r2).size).size : Nat) : Int) > IntKind.i64.max then none else cond (decide (a0.N < 0))
  (if (((⟨#[45]⟩ : ByteArray).size + ((((r3 ++ r2).extract (0 : Int).toNat (w6 (((r3 ++ r2).size : Int) - a0.Scale)).toNat) ++ (⟨#[46]⟩ : ByteArray)) ++ ((r3 ++ r2).extract (w6 (((r3 ++ r2).size : Int) - a0.Scale)).toNat (r3 ++ r2).size)).size : Nat) : Int) > IntKind.i64.max then none else some (((⟨#[45]⟩ : ByteArray) ++ ((((r3 ++ r2).extract (0 : Int).toNat (w6 (((r3 ++ r2).size : Int) - a0.Scale)).toNat) ++ (⟨#[46]⟩ : ByteArray)) ++ ((r3 ++ r2).extract (w6 (((r3 ++ r2).size : Int) - a0.Scale)).toNat (r3 ++ r2).size))), 0))
  (some (((((r3 ++ r2).extract (0 : Int).toNat (w6 (((r3 ++ r2).size : Int) - a0.Scale)).toNat) ++ (⟨#[46]⟩ : ByteArray)) ++ ((r3 ++ r2).extract (w6 (((r3 ++ r2).size : Int) - a0.Scale)).toNat (r3 ++ r2).size)), 0))) else none) else none) else none)
  (cond (decide (a0.N < 0)) (if (((⟨#[45]⟩ : ByteArray).size + (r3 ++ r2).size : Nat) : Int) > IntKind.i64.max then none else some (((⟨#[45]⟩ : ByteArray) ++ (r3 ++ r2)), 0))
  (some ((r3 ++ r2), 0)))) (cond (decide (a0.Scale > 0))
  (if 0 ≤ (w6 ((r2.size : Int) - a0.Scale)) ∧ (w6 ((r2.size : Int) - a0.Scale)) ≤ (r2.size : Int) then (if 0 ≤ (0 : Int) ∧ (0 : Int) ≤ (w6 ((r2.size : Int) - a0.Scale)) then (if (((r2.extract (0 : Int).toNat (w6 ((r2.size : Int) - a0.Scale)).toNat).size + (⟨#[46]⟩ : ByteArray).size : Nat) : Int) > IntKind.i64.max then none else if 0 ≤ (w6 ((r2.size : Int) - a0.Scale)) ∧ (w6 ((r2.size : Int) - a0.Scale)) ≤ (r2.size : Int) then (if ((((r2.extract (0 : Int).toNat (w6 ((r2.size : Int) - a0.Scale)).toNat) ++ (⟨#[46]⟩ : ByteArray)).size + (r2.extract (w6 ((r2.size : Int) - a0.Scale)).toNat r2.size).size : Nat) : Int) > IntKind.i64.max then none else cond (decide (a0.N < 0))
  (if (((⟨#[45]⟩ : ByteArray).size + (((r2.extract (0 : Int).toNat (w6 ((r2.size : Int) - a0.Scale)).toNat) ++ (⟨#[46]⟩ : ByteArray)) ++ (r2.extract (w6 ((r2.size : Int) - a0.Scale)).toNat r2.size)).size : Nat) : Int) > IntKind.i64.max then none else some (((⟨#[45]⟩ : ByteArray) ++ (((r2.extract (0 : Int).toNat (w6 ((r2.size : Int) - a0.Scale)).toNat) ++ (⟨#[46]⟩ : ByteArray)) ++ (r2.extract (w6 ((r2.size : Int) - a0.Scale)).toNat r2.size))), 0))
  (some ((((r2.extract (0 : Int).toNat (w6 ((r2.size : Int) - a0.Scale)).toNat) ++ (⟨#[46]⟩ : ByteArray)) ++ (r2.extract (w6 ((r2.size : Int) - a0.Scale)).toNat r2.size)), 0))) else none) else none) else none)
  (cond (decide (a0.N < 0)) (if (((⟨#[45]⟩ : ByteArray).size + r2.size : Nat) : Int) > IntKind.i64.max then none else some (((⟨#[45]⟩ : ByteArray) ++ r2), 0)) (some (r2, 0)))))
def zee.k : Kq := ⟨221, (cvv [Ty.str, T6] [Ty.Number] zee), go [zas.k, zxw.k, zz8.k] {lits := [16]} [] Proofs.Tryz.func221⟩
def zz9 : Ct U := { params := [.val (Ty.sl Ty.str)], results := [(Ty.sl Ty.str)], outs := [], fresh := [0], fn := app U [(Ty.sl Ty.str)] (R := PT U [(Ty.sl Ty.str)]) (zda 16) }
theorem zz9.meets : zij (zso [] [] [] [] [] [] [] []) 222 zz9 :=
 zpa zw3 (zvy (l := []) rfl zc8) (zu5 (l := []) rfl zc8) (Lp := pick []) Proofs.Tryz.func222 (by kernel_rfl) (zv2 (l := []) rfl zc8) (fun y => by kernel_rfl) (e := 9) (t := Ty.str) rfl rfl rfl rfl rfl rfl rfl (by kernel_rfl) rfl rfl rfl rfl rfl rfl (fun xs => by kernel_rfl) fun ds y h => by
  obtain ⟨xs, rfl, hx⟩ := z0v h; refine ⟨xs, rfl, fun b hb => ?_⟩; cases b with
  | true =>
   have := hb rfl; subst this; exact Eq.trans (by kernel_rfl) hx
  | false => exact Eq.trans (b := cond (Nat.ble ((0 + xs.length) * 16) zac) (some xs) none) (by kernel_rfl) (by rw [Nat.zero_add]; exact hx)
def zz9.k : Kq := ⟨222, zz9, zz9.meets⟩
def zhq (N : Nat) (a0 : zC) (a1 : zB) : Option zC :=
 cond (a1.Op == 22) ((idx a0.zA.Registers a1.R).bind fun x1 => (zee x1).bind fun r2 => cond ((a0.zA.Lines.length : Int) == 40)
  (some (⟨(⟨a0.zA.Registers, a0.zA.Condition, a0.zA.Storage, a0.zA.At, a0.zA.Stack, a0.zA.Lines, 3, a0.zA.Exception, a0.zA.Marks, a0.zA.Steps⟩ : zA), a0.code, a0.raised⟩ : zC))
  ((zda 16 a0.zA.Lines).bind fun r3 => cond (Nat.ble ((r3.length + ([r2.1] : List ByteArray).length) * 16) zac)
  (some (⟨(⟨a0.zA.Registers, a0.zA.Condition, a0.zA.Storage, a0.zA.At, a0.zA.Stack, (r3 ++ ([r2.1] : List ByteArray)), a0.zA.Status, a0.zA.Exception, a0.zA.Marks, a0.zA.Steps⟩ : zA), a0.code, a0.raised⟩ : zC)) none))
  (cond (a1.Op == 23) ((zu N a0 a1.Place a1.zF).bind fun r4 => cond (!r4.2.1) (some r4.2.2) (cond ((r4.2.2.zA.Lines.length : Int) == 40)
  (some (⟨(⟨r4.2.2.zA.Registers, r4.2.2.zA.Condition, r4.2.2.zA.Storage, r4.2.2.zA.At, r4.2.2.zA.Stack, r4.2.2.zA.Lines, 3, r4.2.2.zA.Exception, r4.2.2.zA.Marks, r4.2.2.zA.Steps⟩ : zA), r4.2.2.code, r4.2.2.raised⟩ : zC))
  ((zda 16 r4.2.2.zA.Lines).bind fun r5 => cond (Nat.ble ((r5.length + ([r4.1] : List ByteArray).length) * 16) zac)
  (some (⟨(⟨r4.2.2.zA.Registers, r4.2.2.zA.Condition, r4.2.2.zA.Storage, r4.2.2.zA.At, r4.2.2.zA.Stack, (r5 ++ ([r4.1] : List ByteArray)), r4.2.2.zA.Status, r4.2.2.zA.Exception, r4.2.2.zA.Marks, r4.2.2.zA.Steps⟩ : zA), r4.2.2.code, r4.2.2.raised⟩ : zC)) none)))
  (cond ((a0.zA.Lines.length : Int) == 40)
  (some (⟨(⟨a0.zA.Registers, a0.zA.Condition, a0.zA.Storage, a0.zA.At, a0.zA.Stack, a0.zA.Lines, 3, a0.zA.Exception, a0.zA.Marks, a0.zA.Steps⟩ : zA), a0.code, a0.raised⟩ : zC))
  ((zda 16 a0.zA.Lines).bind fun r6 => cond (Nat.ble ((r6.length + ([a1.Text] : List ByteArray).length) * 16) zac)
  (some (⟨(⟨a0.zA.Registers, a0.zA.Condition, a0.zA.Storage, a0.zA.At, a0.zA.Stack, (r6 ++ ([a1.Text] : List ByteArray)), a0.zA.Status, a0.zA.Exception, a0.zA.Marks, a0.zA.Steps⟩ : zA), a0.code, a0.raised⟩ : zC)) none)))
def zhq.k (N : Nat) : Kq := ⟨156, (ctv [.ptr Ty.zC true [], .val Ty.zB] [] [Ty.zC] [] [Ty.zC, Ty.zB] (zhq N)), go [zu.k N, zee.k, zz9.k] {lits := [44], pk := [1000000]} [] Proofs.Tryz.func156⟩
def ze1 (a0 : zC) : Option zC :=
 cond (a0.zA.Marks == 300)
  (some (⟨(⟨a0.zA.Registers, a0.zA.Condition, a0.zA.Storage, a0.zA.At, a0.zA.Stack, a0.zA.Lines, 3, a0.zA.Exception, a0.zA.Marks, a0.zA.Steps⟩ : zA), a0.code, a0.raised⟩ : zC))
  (some (⟨(⟨a0.zA.Registers, a0.zA.Condition, a0.zA.Storage, a0.zA.At, a0.zA.Stack, a0.zA.Lines, a0.zA.Status, a0.zA.Exception, (w6 (a0.zA.Marks + 1)), a0.zA.Steps⟩ : zA), a0.code, a0.raised⟩ : zC))
def ze1.k : Kq := ⟨157, (ctv [.ptr Ty.zC true []] [] [Ty.zC] [] [Ty.zC] ze1), go [] {pk := [1000000]} [] Proofs.Tryz.func157⟩
def zu6 : Ct U := { params := [.val (Ty.sl T6)], results := [(Ty.sl T6)], outs := [], fresh := [0], fn := app U [(Ty.sl T6)] (R := PT U [(Ty.sl T6)]) (zda 8) }
theorem zu6.meets : zij (zso [] [] [] [] [] [] [] []) 160 zu6 :=
 zpa zw3 (zvy (l := []) rfl zc8) (zu5 (l := []) rfl zc8) (Lp := pick []) Proofs.Tryz.func160 (by kernel_rfl) (zv2 (l := []) rfl zc8) (fun y => by kernel_rfl) (e := 3) (t := T6) rfl rfl rfl rfl rfl rfl rfl (by kernel_rfl) rfl rfl rfl rfl rfl rfl (fun xs => by kernel_rfl) fun ds y h => by
  obtain ⟨xs, rfl, hx⟩ := z0v h; refine ⟨xs, rfl, fun b hb => ?_⟩; cases b with
  | true =>
   have := hb rfl; subst this; exact Eq.trans (by kernel_rfl) hx
  | false => exact Eq.trans (b := cond (Nat.ble ((0 + xs.length) * 8) zac) (some xs) none) (by kernel_rfl) (by rw [Nat.zero_add]; exact hx)
def zu6.k : Kq := ⟨160, zu6, zu6.meets⟩
def ze2 (a0 : zC) (a1 : Int) : Option (Int × zC) :=
 (zf a0 (decide ((a0.zA.Stack.length : Int) ≥ 6)) 6).bind fun r1 => cond r1.1 ((zda 8 r1.2.zA.Stack).bind fun r2 =>
  cond (Nat.ble ((r2.length + ([r1.2.zA.At] : List Int).length) * 8) zac)
  (some (a1, (⟨(⟨r1.2.zA.Registers, r1.2.zA.Condition, r1.2.zA.Storage, r1.2.zA.At, (r2 ++ ([r1.2.zA.At] : List Int)), r1.2.zA.Lines, r1.2.zA.Status, r1.2.zA.Exception, r1.2.zA.Marks, r1.2.zA.Steps⟩ : zA), r1.2.code, r1.2.raised⟩ : zC))) none)
  (some (a1, r1.2))
def ze2.k : Kq := ⟨223, (ctv [.ptr Ty.zC true [], .val T6] [T6] [Ty.zC] [] [Ty.zC, T6] ze2), go [zu6.k, zf.k] {lits := [26], pk := [1000000]} [] Proofs.Tryz.func223⟩
end
end Go.Proofs.YtppbpnknfigboaaGreatDoor.M
