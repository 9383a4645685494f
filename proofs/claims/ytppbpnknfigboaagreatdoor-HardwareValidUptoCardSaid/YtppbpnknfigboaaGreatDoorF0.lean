/- What the program's functions compute, each tied to its code: part 0. -/
import Derived.Test.YtppbpnknfigboaaGreatDoorU
namespace Go.Proofs.YtppbpnknfigboaaGreatDoor.M
open Go Go.Amx
set_option linter.unusedVariables false
set_option maxRecDepth 100000
noncomputable section
def zc0.b0 (N : Nat) (s0 : Int) (s1 : Int) (s5 : List Int) (s6 : Int) : Option (Stp (Int × Int × (List Int) × Int)) :=
 cond (decide (s6 < s1)) (cond (Nat.ble ((s5.length + ([s0] : List Int).length) * 1) zac) (some (.again (s0, s1, (s5 ++ ([s0] : List Int)), (w6 (s6 + 1))))) none)
  (some (.leave (s0, s1, s5, s6)))
def zc0.r0 (N : Nat) (x : Int × Int × (List Int) × Int) := zc0.b0 N x.1 x.2.1 x.2.2.1 x.2.2.2
def zc0 (N : Nat) (a0 : Int) (a1 : Int) : Option ByteArray :=
 (zq (zc0.r0 N) N (a0, a1, [], 0)).bind fun y1 => some (zc2 y1.2.2.1)
def zc0.k (N : Nat) : Kq := ⟨89, (cvv [Ty.str] [(Ty.int .u8), T6] (zc0 N)), go [] {lits := [14]} [(0, .plain { slots := [(0, .val (Ty.int .u8)), (1, .val T6), (5, .own 5000005 (Ty.int .u8)), (6, .val T6)], boxes := [] } [(Ty.int .u8), T6, (Ty.sl (Ty.int .u8)), T6] (zq (zc0.r0 N) N))] Proofs.Tryz.func89 (hL := ⟨⟨_, _, rfl, by kernel_rfl⟩, trivial⟩)⟩
def zru (N : Nat)  : Option zF :=
 (zc0 N 0 16).bind fun r1 =>
  some (⟨(⟨r1, ([false] : List Bool)⟩ : Storage), ([(⟨2, 0, 0, 0, 0, (⟨false, 0, 0⟩ : zO), (⟨false, 0, 0⟩ : zO), (⟨0, 0, 0⟩ : DataType), (⟨0, 0, 0⟩ : DataType), false, false, (⟨15, 1⟩ : Number), (⟨#[]⟩ : ByteArray), (⟨#[]⟩ : ByteArray), 0, 0, 0, 0⟩ : zB), (⟨1, 0, 0, 0, 0, (⟨false, 0, 0⟩ : zO), (⟨false, 0, 0⟩ : zO), (⟨1, 3, 0⟩ : DataType), (⟨0, 0, 0⟩ : DataType), true, false, (⟨0, 0⟩ : Number), (⟨#[]⟩ : ByteArray), (⟨#[]⟩ : ByteArray), 0, 0, 0, 0⟩ : zB), (⟨0, 1, 0, 0, 0, (⟨false, 0, 0⟩ : zO), (⟨false, 0, 0⟩ : zO), (⟨1, 3, 0⟩ : DataType), (⟨0, 0, 0⟩ : DataType), false, false, (⟨0, 0⟩ : Number), (⟨#[]⟩ : ByteArray), (⟨#[]⟩ : ByteArray), 0, 0, 0, 0⟩ : zB), (⟨22, 1, 0, 0, 0, (⟨false, 0, 0⟩ : zO), (⟨false, 0, 0⟩ : zO), (⟨0, 0, 0⟩ : DataType), (⟨0, 0, 0⟩ : DataType), false, false, (⟨0, 0⟩ : Number), (⟨#[]⟩ : ByteArray), (⟨#[]⟩ : ByteArray), 0, 0, 0, 0⟩ : zB)] : List zB), []⟩ : zF)
def zru.k (N : Nat) : Kq := ⟨45, (cvv [Ty.zF] [] (zru N)), go [zc0.k N] {} [] Proofs.Tryz.func45⟩
def z9 (a0 : Int) (a1 : Int) (a2 : Int) : Option Bool :=
 (cond (decide (a1 ≤ a0)) (some (decide (a0 ≤ a2))) (some false)).bind fun g1 => some g1
def z9.k : Kq := ⟨58, (cvv [Ty.bool] [T6, T6, T6] z9), go [] {} [] Proofs.Tryz.func58⟩
def zad (a0 : Bool) (a1 : Int) : Option Int :=
 cond a0 (some a1) (some 0)
def zad.k : Kq := ⟨49, (cvv [T6] [Ty.bool, T6] zad), go [] {} [] Proofs.Tryz.func49⟩
def zf0 (a0 : zI) : Option Int :=
 (z9 a0.Registers 2 8).bind fun r1 => (zad (!r1) 3).bind fun r2 => some r2
def zf0.k : Kq := ⟨17, (cvv [T6] [Ty.zI] zf0), go [zad.k, z9.k] {} [] Proofs.Tryz.func17⟩
def zb0.b0 (N : Nat) (s0 : ByteArray) (s3 : Int) (s6 : Int) (s7 : Int) : Option (Stp (ByteArray × Int × Int × Int)) :=
 cond (decide (s7 < s6)) ((zgw s0 s7).bind fun x1001 => some (.again (s0, (orI .i64 (w6 (s3 * 2 ^ (min (8 : Int).toNat 64)))
  (w6 (x1001.toNat : Int))), s6, (w6 (s7 + 1))))) (some (.leave (s0, s3, s6, s7)))
def zb0.r0 (N : Nat) (x : ByteArray × Int × Int × Int) := zb0.b0 N x.1 x.2.1 x.2.2.1 x.2.2.2
def zb0 (N : Nat) (a0 : ByteArray) : Option Int :=
 (zq (zb0.r0 N) N (a0, 0, (a0.size : Int), 0)).bind fun y1 => some y1.2.1
def zb0.k (N : Nat) : Kq := ⟨135, (cvv [T6] [Ty.str] (zb0 N)), go [] {} [(0, .plain { slots := [(0, .val Ty.str), (3, .val T6), (6, .val T6), (7, .val T6)], boxes := [] } [Ty.str, T6, T6, T6] (zq (zb0.r0 N) N))] Proofs.Tryz.func135 (hL := ⟨⟨_, _, rfl, by kernel_rfl⟩, trivial⟩)⟩
def zgc (a0 : Int) (a1 : Int) (a2 : Int) : Option Bool :=
 (cond (decide (a1 ≤ a0)) (some (decide (a0 ≤ a2))) (some false)).bind fun g1 => some g1
def zgc.k : Kq := ⟨201, (cvv [Ty.bool] [T6, T6, T6] zgc), go [] {} [] Proofs.Tryz.func201⟩
def zd1 (a0 : Pointer) : Option Int :=
 (zgc a0.Kind 0 2).bind fun r1 => cond (!r1) (some 4) (((zgc a0.Address.zY 0 1099511627775).bind fun r2 => cond (!r2) (some (!r2))
  ((zgc a0.Address.Offset 0 16777215).bind fun r3 => cond (!r3) (some (!r3)) ((zgc a0.Authority 0 1023).bind fun r4 => some (!r4)))).bind fun q5 =>
  cond q5 (some 3) ((cond (a0.Authority != 0) (some (a0.Kind != 1)) (some false)).bind fun g6 => cond g6 (some 5) (some 0)))
def zd1.k : Kq := ⟨136, (cvv [T6] [Ty.Pointer] zd1), go [zgc.k] {bj := [8]} [] Proofs.Tryz.func136⟩
def ze9 (N : Nat) (a0 : ByteArray) : Option (Pointer × Int) :=
 cond ((a0.size : Int) != 16) (some ((⟨0, (⟨0, 0⟩ : Address), 0⟩ : Pointer), 18)) ((zgw a0 1).bind fun x1 => cond ((x1.toNat : Int) != 0)
  (some ((⟨0, (⟨0, 0⟩ : Address), 0⟩ : Pointer), 5)) ((zgw a0 0).bind fun x2 =>
  if 0 ≤ (4 : Int) ∧ (4 : Int) ≤ (a0.size : Int) then (if 0 ≤ (2 : Int) ∧ (2 : Int) ≤ (4 : Int) then ((zb0 N (a0.extract (2 : Int).toNat (4 : Int).toNat)).bind fun r3 =>
  if 0 ≤ (10 : Int) ∧ (10 : Int) ≤ (a0.size : Int) then (if 0 ≤ (4 : Int) ∧ (4 : Int) ≤ (10 : Int) then ((zb0 N (a0.extract (4 : Int).toNat (10 : Int).toNat)).bind fun r4 =>
  if 0 ≤ (10 : Int) ∧ (10 : Int) ≤ (a0.size : Int) then ((zb0 N (a0.extract (10 : Int).toNat a0.size)).bind fun r5 =>
  (zd1 (⟨(w6 (x2.toNat : Int)), (⟨r4, r5⟩ : Address), r3⟩ : Pointer)).bind fun r6 => cond (r6 != 0)
  (some ((⟨0, (⟨0, 0⟩ : Address), 0⟩ : Pointer), r6))
  (some ((⟨(w6 (x2.toNat : Int)), (⟨r4, r5⟩ : Address), r3⟩ : Pointer), 0))) else none) else none) else none) else none) else none))
def ze9.k (N : Nat) : Kq := ⟨90, (cvv [Ty.Pointer, T6] [Ty.str] (ze9 N)), go [zb0.k N, zd1.k] {} [] Proofs.Tryz.func90⟩
def zo.b1 (N : Nat) (s27 : List Bool) (s28 : Int) (s29 : Int) (b1 : Storage) : Option (Round (Int × Int) ((List Bool) × Int × Int × Storage)) :=
 cond (decide (s29 < s28)) ((idx s27 s29).bind fun x2001 => cond (!x2001) (some (.again (s27, s28, (w6 (s29 + 1)), b1)))
  (if 0 ≤ (w6 ((w6 (s29 * 16)) + 16)) ∧ (w6 ((w6 (s29 * 16)) + 16)) ≤ (b1.Bytes.size : Int) then (if 0 ≤ (w6 (s29 * 16)) ∧ (w6 (s29 * 16)) ≤ (w6 ((w6 (s29 * 16)) + 16)) then ((ze9 N (b1.Bytes.extract (w6 (s29 * 16)).toNat (w6 ((w6 (s29 * 16)) + 16)).toNat)).bind fun r2002 =>
  cond (r2002.2 != 0) (some (.result (s29, 22))) (some (.again (s27, s28, (w6 (s29 + 1)), b1)))) else none) else none)) (some (.leave (s27, s28, s29, b1)))
def zo.r1 (N : Nat) (x : (List Bool) × Int × Int × Storage) := zo.b1 N x.1 x.2.1 x.2.2.1 x.2.2.2
def zo (N : Nat) (a0 : Storage) : Option (Int × Int) :=
 cond (decide ((a0.Bytes.size : Int) > 1024)) (some (0, 2)) (cond (((a0.Bytes.size : Int).tmod 16) != 0) (some (0, 18))
  (cond ((a0.Tags.length : Int) != (w6 ((a0.Bytes.size : Int).tdiv 16))) (some (0, 6))
  ((zn (zo.r1 N) N (a0.Tags, (a0.Tags.length : Int), 0, a0)).bind fun z2 => zb3 z2 (fun z => some z) (fun y1 => some ((y1.2.2.2.Tags.length : Int), 0)))))
def zo.k (N : Nat) : Kq := ⟨47, (cvv [T6, T6] [Ty.Storage] (zo N)), go [ze9.k N] {} [(1, .rets { slots := [(1, .ptr 1 0), (27, .val (Ty.sl Ty.bool)), (28, .val T6), (29, .val T6)], boxes := [(1, Ty.Storage, [])] } [(Ty.sl Ty.bool), T6, T6, Ty.Storage] (zn (zo.r1 N) N))] Proofs.Tryz.func47 (hL := ⟨⟨_, _, rfl, by kernel_rfl⟩, trivial⟩)⟩
def zbm.b0 (N : Nat) (s0 : List Bool) (s1 : Bool) (s7 : Int) (s8 : Int) : Option (Round Int ((List Bool) × Bool × Int × Int)) :=
 cond (decide (s8 < s7)) ((idx s0 s8).bind fun x1001 => cond (s1 == x1001) (some (.result s8)) (some (.again (s0, s1, s7, (w6 (s8 + 1))))))
  (some (.leave (s0, s1, s7, s8)))
def zbm.r0 (N : Nat) (x : (List Bool) × Bool × Int × Int) := zbm.b0 N x.1 x.2.1 x.2.2.1 x.2.2.2
def zbm (N : Nat) (a0 : List Bool) (a1 : Bool) : Option Int :=
 (zn (zbm.r0 N) N (a0, a1, (a0.length : Int), 0)).bind fun z2 => zb3 z2 (fun z => some z) (fun y1 => some (-1))
def zbm.k (N : Nat) : Kq := ⟨91, (cvv [T6] [(Ty.sl Ty.bool), Ty.bool] (zbm N)), go [] {} [(0, .rets { slots := [(0, .val (Ty.sl Ty.bool)), (1, .val Ty.bool), (7, .val T6), (8, .val T6)], boxes := [] } [(Ty.sl Ty.bool), Ty.bool, T6, T6] (zn (zbm.r0 N) N))] Proofs.Tryz.func91 (hL := ⟨⟨_, _, rfl, by kernel_rfl⟩, trivial⟩)⟩
def zfm (N : Nat) (a0 : List Bool) (a1 : Bool) : Option Bool :=
 (zbm N a0 a1).bind fun r1 => some (decide (r1 ≥ 0))
def zfm.k (N : Nat) : Kq := ⟨50, (cvv [Ty.bool] [(Ty.sl Ty.bool), Ty.bool] (zfm N)), go [zbm.k N] {} [] Proofs.Tryz.func50⟩
def zw.b0 (N : Nat) (s5 : List Int) (s6 : Int) (s7 : Int) : Option (Round Int ((List Int) × Int × Int)) :=
 cond (decide (s7 < s6)) ((idx s5 s7).bind fun x1001 => cond (x1001 != 0) (some (.result x1001)) (some (.again (s5, s6, (w6 (s7 + 1)))))) (some (.leave (s5, s6, s7)))
def zw.r0 (N : Nat) (x : (List Int) × Int × Int) := zw.b0 N x.1 x.2.1 x.2.2
def zw (N : Nat) (a0 : List Int) : Option Int :=
 (zn (zw.r0 N) N (a0, (a0.length : Int), 0)).bind fun z2 => zb3 z2 (fun z => some z) (fun y1 => some 0)
def zw.k (N : Nat) : Kq := ⟨48, (cvv [T6] [(Ty.sl T6)] (zw N)), go [] {} [(0, .rets { slots := [(5, .val (Ty.sl T6)), (6, .val T6), (7, .val T6)], boxes := [] } [(Ty.sl T6), T6, T6] (zn (zw.r0 N) N))] Proofs.Tryz.func48 (hL := ⟨⟨_, _, rfl, by kernel_rfl⟩, trivial⟩)⟩
def zbt (a0 : zB) : Option zP :=
 (idx z6w a0.Op).bind fun x1 => (cond (a0.Op == 4) (some a0.zM) (some false)).bind fun g2 =>
  cond g2 (some (⟨(orI .i64 (orI .i64 (z5u .i64 x1.fields 4) 8) 64), x1.types⟩ : zP)) (some x1)
def zbt.k : Kq := ⟨94, (cvv [Ty.zP] [Ty.zB] zbt), go [] {} [] Proofs.Tryz.func94⟩
def zcd (a0 : Int) (a1 : Int) (a2 : Int) : Option Int :=
 cond ((zh .i64 a2 a0) == 0) (some 0) (some a1)
def zcd.k : Kq := ⟨137, (ctv [.val T6, .ptr T6 true [], .ptr T6 false []] [] [T6] [] [T6, T6, T6] zcd), go [] {ro := [1000001], pk := [1000000, 1000001]} [] Proofs.Tryz.func137⟩
def zhk (a0 : zO) (a1 : Bool) : Option zO :=
 cond (!a1) (some (⟨false, 0, 0⟩ : zO)) (cond (!a0.Based) (some (⟨a0.Based, 0, a0.Offset⟩ : zO)) (some a0))
def zhk.k : Kq := ⟨138, (cvv [Ty.zO] [Ty.zO, Ty.bool] zhk), go [] {} [] Proofs.Tryz.func138⟩
def zjg (a0 : zB) : Option zB :=
 (zbt a0).bind fun r1 => (zcd 1 a0.R r1.fields).bind fun r2 => (zcd 2 a0.A r1.fields).bind fun r3 =>
  (zcd 4 a0.B r1.fields).bind fun r4 => (zcd 2048 a0.Mask r1.fields).bind fun r5 => (zcd 4096 a0.Target r1.fields).bind fun r6 =>
  (zcd 8192 a0.Pointer r1.fields).bind fun r7 => (zcd 16384 a0.Source r1.fields).bind fun r8 =>
  (zcd 32768 a0.zK r1.fields).bind fun r9 => (zhk a0.Place ((zh .i64 r1.fields 8) != 0)).bind fun r10 =>
  (zhk a0.From ((zh .i64 r1.fields 16) != 0)).bind fun r11 => cond ((zh .i64 r1.fields 32) == 0) (cond ((zh .i64 r1.fields 64) == 0)
  (cond ((zh .i64 r1.fields 256) == 0) (cond ((zh .i64 r1.fields 512) == 0) (cond ((zh .i64 r1.fields 1024) == 0) ((cond a0.Half (some ((zh .i64 r1.fields 128) != 0))
  (some false)).bind fun g12 => (cond a0.zM (some (a0.Op == 4)) (some false)).bind fun g13 =>
  some (⟨a0.Op, r2, r3, r4, r9, r10, r11, (⟨0, 0, 0⟩ : DataType), (⟨0, 0, 0⟩ : DataType), g12, g13, (⟨0, 0⟩ : Number), (⟨#[]⟩ : ByteArray), (⟨#[]⟩ : ByteArray), r5, r6, r7, r8⟩ : zB))
  ((cond a0.Half (some ((zh .i64 r1.fields 128) != 0)) (some false)).bind fun g14 => (cond a0.zM (some (a0.Op == 4)) (some false)).bind fun g15 =>
  some (⟨a0.Op, r2, r3, r4, r9, r10, r11, (⟨0, 0, 0⟩ : DataType), (⟨0, 0, 0⟩ : DataType), g14, g15, (⟨0, 0⟩ : Number), (⟨#[]⟩ : ByteArray), a0.Other, r5, r6, r7, r8⟩ : zB)))
  (cond ((zh .i64 r1.fields 1024) == 0) ((cond a0.Half (some ((zh .i64 r1.fields 128) != 0)) (some false)).bind fun g16 => (cond a0.zM (some (a0.Op == 4))
  (some false)).bind fun g17 =>
  some (⟨a0.Op, r2, r3, r4, r9, r10, r11, (⟨0, 0, 0⟩ : DataType), (⟨0, 0, 0⟩ : DataType), g16, g17, (⟨0, 0⟩ : Number), a0.Text, (⟨#[]⟩ : ByteArray), r5, r6, r7, r8⟩ : zB))
  ((cond a0.Half (some ((zh .i64 r1.fields 128) != 0)) (some false)).bind fun g18 => (cond a0.zM (some (a0.Op == 4)) (some false)).bind fun g19 =>
  some (⟨a0.Op, r2, r3, r4, r9, r10, r11, (⟨0, 0, 0⟩ : DataType), (⟨0, 0, 0⟩ : DataType), g18, g19, (⟨0, 0⟩ : Number), a0.Text, a0.Other, r5, r6, r7, r8⟩ : zB))))
  (cond ((zh .i64 r1.fields 512) == 0) (cond ((zh .i64 r1.fields 1024) == 0) ((cond a0.Half (some ((zh .i64 r1.fields 128) != 0)) (some false)).bind fun g20 =>
  (cond a0.zM (some (a0.Op == 4)) (some false)).bind fun g21 =>
  some (⟨a0.Op, r2, r3, r4, r9, r10, r11, (⟨0, 0, 0⟩ : DataType), (⟨0, 0, 0⟩ : DataType), g20, g21, a0.Number, (⟨#[]⟩ : ByteArray), (⟨#[]⟩ : ByteArray), r5, r6, r7, r8⟩ : zB))
  ((cond a0.Half (some ((zh .i64 r1.fields 128) != 0)) (some false)).bind fun g22 => (cond a0.zM (some (a0.Op == 4)) (some false)).bind fun g23 =>
  some (⟨a0.Op, r2, r3, r4, r9, r10, r11, (⟨0, 0, 0⟩ : DataType), (⟨0, 0, 0⟩ : DataType), g22, g23, a0.Number, (⟨#[]⟩ : ByteArray), a0.Other, r5, r6, r7, r8⟩ : zB)))
  (cond ((zh .i64 r1.fields 1024) == 0) ((cond a0.Half (some ((zh .i64 r1.fields 128) != 0)) (some false)).bind fun g24 => (cond a0.zM (some (a0.Op == 4))
  (some false)).bind fun g25 =>
  some (⟨a0.Op, r2, r3, r4, r9, r10, r11, (⟨0, 0, 0⟩ : DataType), (⟨0, 0, 0⟩ : DataType), g24, g25, a0.Number, a0.Text, (⟨#[]⟩ : ByteArray), r5, r6, r7, r8⟩ : zB))
  ((cond a0.Half (some ((zh .i64 r1.fields 128) != 0)) (some false)).bind fun g26 => (cond a0.zM (some (a0.Op == 4)) (some false)).bind fun g27 =>
  some (⟨a0.Op, r2, r3, r4, r9, r10, r11, (⟨0, 0, 0⟩ : DataType), (⟨0, 0, 0⟩ : DataType), g26, g27, a0.Number, a0.Text, a0.Other, r5, r6, r7, r8⟩ : zB)))))
  (cond ((zh .i64 r1.fields 256) == 0) (cond ((zh .i64 r1.fields 512) == 0) (cond ((zh .i64 r1.fields 1024) == 0) ((cond a0.Half (some ((zh .i64 r1.fields 128) != 0))
  (some false)).bind fun g28 => (cond a0.zM (some (a0.Op == 4)) (some false)).bind fun g29 =>
  some (⟨a0.Op, r2, r3, r4, r9, r10, r11, (⟨0, 0, 0⟩ : DataType), a0.Second, g28, g29, (⟨0, 0⟩ : Number), (⟨#[]⟩ : ByteArray), (⟨#[]⟩ : ByteArray), r5, r6, r7, r8⟩ : zB))
  ((cond a0.Half (some ((zh .i64 r1.fields 128) != 0)) (some false)).bind fun g30 => (cond a0.zM (some (a0.Op == 4)) (some false)).bind fun g31 =>
  some (⟨a0.Op, r2, r3, r4, r9, r10, r11, (⟨0, 0, 0⟩ : DataType), a0.Second, g30, g31, (⟨0, 0⟩ : Number), (⟨#[]⟩ : ByteArray), a0.Other, r5, r6, r7, r8⟩ : zB)))
  (cond ((zh .i64 r1.fields 1024) == 0) ((cond a0.Half (some ((zh .i64 r1.fields 128) != 0)) (some false)).bind fun g32 => (cond a0.zM (some (a0.Op == 4))
  (some false)).bind fun g33 =>
  some (⟨a0.Op, r2, r3, r4, r9, r10, r11, (⟨0, 0, 0⟩ : DataType), a0.Second, g32, g33, (⟨0, 0⟩ : Number), a0.Text, (⟨#[]⟩ : ByteArray), r5, r6, r7, r8⟩ : zB))
  ((cond a0.Half (some ((zh .i64 r1.fields 128) != 0)) (some false)).bind fun g34 => (cond a0.zM (some (a0.Op == 4)) (some false)).bind fun g35 =>
  some (⟨a0.Op, r2, r3, r4, r9, r10, r11, (⟨0, 0, 0⟩ : DataType), a0.Second, g34, g35, (⟨0, 0⟩ : Number), a0.Text, a0.Other, r5, r6, r7, r8⟩ : zB))))
  (cond ((zh .i64 r1.fields 512) == 0) (cond ((zh .i64 r1.fields 1024) == 0) ((cond a0.Half (some ((zh .i64 r1.fields 128) != 0)) (some false)).bind fun g36 =>
  (cond a0.zM (some (a0.Op == 4)) (some false)).bind fun g37 =>
  some (⟨a0.Op, r2, r3, r4, r9, r10, r11, (⟨0, 0, 0⟩ : DataType), a0.Second, g36, g37, a0.Number, (⟨#[]⟩ : ByteArray), (⟨#[]⟩ : ByteArray), r5, r6, r7, r8⟩ : zB))
  ((cond a0.Half (some ((zh .i64 r1.fields 128) != 0)) (some false)).bind fun g38 => (cond a0.zM (some (a0.Op == 4)) (some false)).bind fun g39 =>
  some (⟨a0.Op, r2, r3, r4, r9, r10, r11, (⟨0, 0, 0⟩ : DataType), a0.Second, g38, g39, a0.Number, (⟨#[]⟩ : ByteArray), a0.Other, r5, r6, r7, r8⟩ : zB)))
  (cond ((zh .i64 r1.fields 1024) == 0) ((cond a0.Half (some ((zh .i64 r1.fields 128) != 0)) (some false)).bind fun g40 => (cond a0.zM (some (a0.Op == 4))
  (some false)).bind fun g41 =>
  some (⟨a0.Op, r2, r3, r4, r9, r10, r11, (⟨0, 0, 0⟩ : DataType), a0.Second, g40, g41, a0.Number, a0.Text, (⟨#[]⟩ : ByteArray), r5, r6, r7, r8⟩ : zB))
  ((cond a0.Half (some ((zh .i64 r1.fields 128) != 0)) (some false)).bind fun g42 => (cond a0.zM (some (a0.Op == 4)) (some false)).bind fun g43 =>
  some (⟨a0.Op, r2, r3, r4, r9, r10, r11, (⟨0, 0, 0⟩ : DataType), a0.Second, g42, g43, a0.Number, a0.Text, a0.Other, r5, r6, r7, r8⟩ : zB))))))
  (cond ((zh .i64 r1.fields 64) == 0) (cond ((zh .i64 r1.fields 256) == 0) (cond ((zh .i64 r1.fields 512) == 0) (cond ((zh .i64 r1.fields 1024) == 0)
  ((cond a0.Half (some ((zh .i64 r1.fields 128) != 0)) (some false)).bind fun g44 => (cond a0.zM (some (a0.Op == 4)) (some false)).bind fun g45 =>
  some (⟨a0.Op, r2, r3, r4, r9, r10, r11, a0.zG, (⟨0, 0, 0⟩ : DataType), g44, g45, (⟨0, 0⟩ : Number), (⟨#[]⟩ : ByteArray), (⟨#[]⟩ : ByteArray), r5, r6, r7, r8⟩ : zB))
  ((cond a0.Half (some ((zh .i64 r1.fields 128) != 0)) (some false)).bind fun g46 => (cond a0.zM (some (a0.Op == 4)) (some false)).bind fun g47 =>
  some (⟨a0.Op, r2, r3, r4, r9, r10, r11, a0.zG, (⟨0, 0, 0⟩ : DataType), g46, g47, (⟨0, 0⟩ : Number), (⟨#[]⟩ : ByteArray), a0.Other, r5, r6, r7, r8⟩ : zB)))
  (cond ((zh .i64 r1.fields 1024) == 0) ((cond a0.Half (some ((zh .i64 r1.fields 128) != 0)) (some false)).bind fun g48 => (cond a0.zM (some (a0.Op == 4))
  (some false)).bind fun g49 =>
  some (⟨a0.Op, r2, r3, r4, r9, r10, r11, a0.zG, (⟨0, 0, 0⟩ : DataType), g48, g49, (⟨0, 0⟩ : Number), a0.Text, (⟨#[]⟩ : ByteArray), r5, r6, r7, r8⟩ : zB))
  ((cond a0.Half (some ((zh .i64 r1.fields 128) != 0)) (some false)).bind fun g50 => (cond a0.zM (some (a0.Op == 4)) (some false)).bind fun g51 =>
  some (⟨a0.Op, r2, r3, r4, r9, r10, r11, a0.zG, (⟨0, 0, 0⟩ : DataType), g50, g51, (⟨0, 0⟩ : Number), a0.Text, a0.Other, r5, r6, r7, r8⟩ : zB))))
  (cond ((zh .i64 r1.fields 512) == 0) (cond ((zh .i64 r1.fields 1024) == 0) ((cond a0.Half (some ((zh .i64 r1.fields 128) != 0)) (some false)).bind fun g52 =>
  (cond a0.zM (some (a0.Op == 4)) (some false)).bind fun g53 =>
  some (⟨a0.Op, r2, r3, r4, r9, r10, r11, a0.zG, (⟨0, 0, 0⟩ : DataType), g52, g53, a0.Number, (⟨#[]⟩ : ByteArray), (⟨#[]⟩ : ByteArray), r5, r6, r7, r8⟩ : zB))
  ((cond a0.Half (some ((zh .i64 r1.fields 128) != 0)) (some false)).bind fun g54 => (cond a0.zM (some (a0.Op == 4)) (some false)).bind fun g55 =>
  some (⟨a0.Op, r2, r3, r4, r9, r10, r11, a0.zG, (⟨0, 0, 0⟩ : DataType), g54, g55, a0.Number, (⟨#[]⟩ : ByteArray), a0.Other, r5, r6, r7, r8⟩ : zB)))
  (cond ((zh .i64 r1.fields 1024) == 0) ((cond a0.Half (some ((zh .i64 r1.fields 128) != 0)) (some false)).bind fun g56 => (cond a0.zM (some (a0.Op == 4))
  (some false)).bind fun g57 =>
  some (⟨a0.Op, r2, r3, r4, r9, r10, r11, a0.zG, (⟨0, 0, 0⟩ : DataType), g56, g57, a0.Number, a0.Text, (⟨#[]⟩ : ByteArray), r5, r6, r7, r8⟩ : zB))
  ((cond a0.Half (some ((zh .i64 r1.fields 128) != 0)) (some false)).bind fun g58 => (cond a0.zM (some (a0.Op == 4)) (some false)).bind fun g59 =>
  some (⟨a0.Op, r2, r3, r4, r9, r10, r11, a0.zG, (⟨0, 0, 0⟩ : DataType), g58, g59, a0.Number, a0.Text, a0.Other, r5, r6, r7, r8⟩ : zB)))))
  (cond ((zh .i64 r1.fields 256) == 0) (cond ((zh .i64 r1.fields 512) == 0) (cond ((zh .i64 r1.fields 1024) == 0) ((cond a0.Half (some ((zh .i64 r1.fields 128) != 0))
  (some false)).bind fun g60 => (cond a0.zM (some (a0.Op == 4)) (some false)).bind fun g61 =>
  some (⟨a0.Op, r2, r3, r4, r9, r10, r11, a0.zG, a0.Second, g60, g61, (⟨0, 0⟩ : Number), (⟨#[]⟩ : ByteArray), (⟨#[]⟩ : ByteArray), r5, r6, r7, r8⟩ : zB))
  ((cond a0.Half (some ((zh .i64 r1.fields 128) != 0)) (some false)).bind fun g62 => (cond a0.zM (some (a0.Op == 4)) (some false)).bind fun g63 =>
  some (⟨a0.Op, r2, r3, r4, r9, r10, r11, a0.zG, a0.Second, g62, g63, (⟨0, 0⟩ : Number), (⟨#[]⟩ : ByteArray), a0.Other, r5, r6, r7, r8⟩ : zB)))
  (cond ((zh .i64 r1.fields 1024) == 0) ((cond a0.Half (some ((zh .i64 r1.fields 128) != 0)) (some false)).bind fun g64 => (cond a0.zM (some (a0.Op == 4))
  (some false)).bind fun g65 =>
  some (⟨a0.Op, r2, r3, r4, r9, r10, r11, a0.zG, a0.Second, g64, g65, (⟨0, 0⟩ : Number), a0.Text, (⟨#[]⟩ : ByteArray), r5, r6, r7, r8⟩ : zB))
  ((cond a0.Half (some ((zh .i64 r1.fields 128) != 0)) (some false)).bind fun g66 => (cond a0.zM (some (a0.Op == 4)) (some false)).bind fun g67 =>
  some (⟨a0.Op, r2, r3, r4, r9, r10, r11, a0.zG, a0.Second, g66, g67, (⟨0, 0⟩ : Number), a0.Text, a0.Other, r5, r6, r7, r8⟩ : zB))))
  (cond ((zh .i64 r1.fields 512) == 0) (cond ((zh .i64 r1.fields 1024) == 0) ((cond a0.Half (some ((zh .i64 r1.fields 128) != 0)) (some false)).bind fun g68 =>
  (cond a0.zM (some (a0.Op == 4)) (some false)).bind fun g69 =>
  some (⟨a0.Op, r2, r3, r4, r9, r10, r11, a0.zG, a0.Second, g68, g69, a0.Number, (⟨#[]⟩ : ByteArray), (⟨#[]⟩ : ByteArray), r5, r6, r7, r8⟩ : zB))
  ((cond a0.Half (some ((zh .i64 r1.fields 128) != 0)) (some false)).bind fun g70 => (cond a0.zM (some (a0.Op == 4)) (some false)).bind fun g71 =>
  some (⟨a0.Op, r2, r3, r4, r9, r10, r11, a0.zG, a0.Second, g70, g71, a0.Number, (⟨#[]⟩ : ByteArray), a0.Other, r5, r6, r7, r8⟩ : zB)))
  (cond ((zh .i64 r1.fields 1024) == 0) ((cond a0.Half (some ((zh .i64 r1.fields 128) != 0)) (some false)).bind fun g72 => (cond a0.zM (some (a0.Op == 4))
  (some false)).bind fun g73 => some (⟨a0.Op, r2, r3, r4, r9, r10, r11, a0.zG, a0.Second, g72, g73, a0.Number, a0.Text, (⟨#[]⟩ : ByteArray), r5, r6, r7, r8⟩ : zB))
  ((cond a0.Half (some ((zh .i64 r1.fields 128) != 0)) (some false)).bind fun g74 => (cond a0.zM (some (a0.Op == 4)) (some false)).bind fun g75 =>
  some (⟨a0.Op, r2, r3, r4, r9, r10, r11, a0.zG, a0.Second, g74, g75, a0.Number, a0.Text, a0.Other, r5, r6, r7, r8⟩ : zB))))))
def zjg.k : Kq := ⟨92, (cvv [Ty.zB] [Ty.zB] zjg), go [zbt.k, zcd.k, zhk.k] {} [] Proofs.Tryz.func92⟩
def zgx (a0 : zI) (a1 : zB) : Option Bool :=
 (cond (a1.Op != 7) (some true) (some a0.yH)).bind fun g1 => (cond g1 ((cond (a1.Op != 4) (some true) (some (!a1.zM))).bind fun g2 => (cond g2 (some true)
  (some a0.yF)).bind fun g3 => some g3) (some false)).bind fun g4 => some g4
def zgx.k : Kq := ⟨63, (cvv [Ty.bool] [Ty.zI, Ty.zB] zgx), go [] {} [] Proofs.Tryz.func63⟩
def zd3 (a0 : Int) (a1 : Int) (a2 : Int) : Option Bool :=
 (cond (decide (a1 ≤ a0)) (some (decide (a0 ≤ a2))) (some false)).bind fun g1 => some g1
def zd3.k : Kq := ⟨119, (cvv [Ty.bool] [T6, T6, T6] zd3), go [] {} [] Proofs.Tryz.func119⟩
def zaq (a0 : Bool) (a1 : Int) : Option Int :=
 cond a0 (some a1) (some 0)
def zaq.k : Kq := ⟨118, (cvv [T6] [Ty.bool, T6] zaq), go [] {} [] Proofs.Tryz.func118⟩
def zp.b0 (N : Nat) (s5 : List Int) (s6 : Int) (s7 : Int) : Option (Round Int ((List Int) × Int × Int)) :=
 cond (decide (s7 < s6)) ((idx s5 s7).bind fun x1001 => cond (x1001 != 0) (some (.result x1001)) (some (.again (s5, s6, (w6 (s7 + 1)))))) (some (.leave (s5, s6, s7)))
def zp.r0 (N : Nat) (x : (List Int) × Int × Int) := zp.b0 N x.1 x.2.1 x.2.2
def zp (N : Nat) (a0 : List Int) : Option Int :=
 (zn (zp.r0 N) N (a0, (a0.length : Int), 0)).bind fun z2 => zb3 z2 (fun z => some z) (fun y1 => some 0)
def zp.k (N : Nat) : Kq := ⟨265, (cvv [T6] [(Ty.sl T6)] (zp N)), go [] {} [(0, .rets { slots := [(5, .val (Ty.sl T6)), (6, .val T6), (7, .val T6)], boxes := [] } [(Ty.sl T6), T6, T6] (zn (zp.r0 N) N))] Proofs.Tryz.func265 (hL := ⟨⟨_, _, rfl, by kernel_rfl⟩, trivial⟩)⟩
def za9 (N : Nat) (a0 : DataType) : Option Int :=
 cond (a0.Kind == 0) ((zd3 a0.Length 1 256).bind fun r1 => (zaq (!r1) 18).bind fun r2 => (zaq (!(a0.Scale == 0)) 3).bind fun r3 =>
  (zp N ([r2, r3] : List Int)).bind fun r4 => some r4) ((cond (a0.Kind == 1) (some (a0.Kind == 1)) (some (a0.Kind == 2))).bind fun q5 =>
  cond q5 ((zd3 a0.Length 1 15).bind fun r6 => (zd3 a0.Scale 0 a0.Length).bind fun r7 => (zaq (!r6) 18).bind fun r8 => (zaq (!r7) 3).bind fun r9 =>
  (zp N ([r8, r9] : List Int)).bind fun r10 => some r10) (cond (a0.Kind == 3) ((cond (a0.Length == 4) (some true) (some (a0.Length == 9))).bind fun g11 =>
  (zd3 a0.Scale 0 a0.Length).bind fun r12 => (zaq (!g11) 18).bind fun r13 => (zaq (!r12) 3).bind fun r14 =>
  (zp N ([r13, r14] : List Int)).bind fun r15 => some r15) (cond (a0.Kind == 4) ((zaq (!(a0.Length == 0)) 18).bind fun r16 =>
  (zaq (!(a0.Scale == 0)) 3).bind fun r17 => (zp N ([r16, r17] : List Int)).bind fun r18 => some r18) (some 4))))
def za9.k (N : Nat) : Kq := ⟨202, (cvv [T6] [Ty.DataType] (za9 N)), go [zaq.k, zd3.k, zp.k N] {lits := [48, 51, 52], bj := [15]} [] Proofs.Tryz.func202⟩
def zff (N : Nat) (a0 : DataType) (a1 : Int) : Option Int :=
 (cond (a0.Kind == 4) (some true) ((cond (a1 == 1) (some (a0.Kind == 0)) (some false)).bind fun g1 => some g1)).bind fun g2 => (cond g2 (some true) ((cond (a1 == 2)
  (some (a0.Kind != 0)) (some false)).bind fun g3 => some g3)).bind fun g4 => (za9 N a0).bind fun r5 => (zad g4 17).bind fun r6 =>
  (zw N ([r5, r6] : List Int)).bind fun r7 => some r7
def zff.k (N : Nat) : Kq := ⟨139, (cvv [T6] [Ty.DataType, T6] (zff N)), go [zw.k N, zad.k, za9.k N] {lits := [28, 30, 31]} [] Proofs.Tryz.func139⟩
def zg3 (N : Nat) (a0 : zB) (a1 : zP) : Option Int :=
 cond ((zh .i64 a1.fields 32) != 0) ((zff N a0.zG a1.types).bind fun r1 => cond (r1 != 0) (some r1) (cond ((zh .i64 a1.fields 64) != 0)
  ((zff N a0.Second a1.types).bind fun r2 => some r2) (some 0))) (cond ((zh .i64 a1.fields 64) != 0) ((zff N a0.Second a1.types).bind fun r3 => some r3)
  (some 0))
def zg3.k (N : Nat) : Kq := ⟨93, (cvv [T6] [Ty.zB, Ty.zP] (zg3 N)), go [zff.k N] {} [] Proofs.Tryz.func93⟩
def zt.b0 (N : Nat) (s3 : List Int) (s4 : Int) (s16 : List Int) (s17 : Int) (s18 : Int) : Option (Stp ((List Int) × Int × (List Int) × Int × Int)) :=
 cond (decide (s18 < s17)) (if 0 ≤ s18 then (if s18 < (s16.length : Int) then ((s16[s18.toNat]?).bind fun x1001 =>
  if s18 < 0 then none else cond ((zh .i64 s4 (w6 (1 * 2 ^ (min s18.toNat 64)))) != 0) (cond (Nat.ble ((s3.length + ([x1001] : List Int).length) * 8) zac)
  (some (.again ((s3 ++ ([x1001] : List Int)), s4, s16, s17, (w6 (s18 + 1))))) none)
  (some (.again (s3, s4, s16, s17, (w6 (s18 + 1)))))) else none) else none) (some (.leave (s3, s4, s16, s17, s18)))
def zt.r0 (N : Nat) (x : (List Int) × Int × (List Int) × Int × Int) := zt.b0 N x.1 x.2.1 x.2.2.1 x.2.2.2.1 x.2.2.2.2
def zt (N : Nat) (a0 : zB) : Option ((List Int)) :=
 (zbt a0).bind fun r1 =>
  (zq (zt.r0 N) N ([], r1.fields, ([a0.R, a0.A, a0.B] : List Int), (([a0.R, a0.A, a0.B] : List Int).length : Int), 0)).bind fun y2 => some y2.1
def zt.k (N : Nat) : Kq := ⟨65, (cvv [(Ty.sl T6)] [Ty.zB] (zt N)), go [zbt.k] {lits := [30]} [(0, .plain { slots := [(3, .own 5000003 T6), (4, .val T6), (16, .own 5000016 T6), (17, .val T6), (18, .val T6)], boxes := [] } [(Ty.sl T6), T6, (Ty.sl T6), T6, T6] (zq (zt.r0 N) N))] Proofs.Tryz.func65 (hL := ⟨⟨_, _, rfl, by kernel_rfl⟩, trivial⟩)⟩
def zfy (a0 : Int) (a1 : zI) : Option Bool :=
 (z9 a0 0 (w6 (a1.Registers - 1))).bind fun r1 => some (!r1)
def zfy.k : Kq := ⟨140, (ctv [.val T6, .ptr Ty.zI false []] [Ty.bool] [] [] [T6, Ty.zI] zfy), go [z9.k] {ro := [1000000], pk := [1000000]} [] Proofs.Tryz.func140⟩
def zah.b0 (N : Nat) (s0 : List Int) (s7 : Int) (s8 : Int) (b1000000 : zI) : Option (Round Int ((List Int) × Int × Int × zI)) :=
 cond (decide (s8 < s7)) ((idx s0 s8).bind fun x1001 => (zfy x1001 b1000000).bind fun r1002 => cond r1002 (some (.result s8))
  (some (.again (s0, s7, (w6 (s8 + 1)), b1000000)))) (some (.leave (s0, s7, s8, b1000000)))
def zah.r0 (N : Nat) (x : (List Int) × Int × Int × zI) := zah.b0 N x.1 x.2.1 x.2.2.1 x.2.2.2
def zah (N : Nat) (a0 : List Int) (a1 : zI) : Option Int :=
 (zn (zah.r0 N) N (a0, (a0.length : Int), 0, a1)).bind fun z2 => zb3 z2 (fun z => some z) (fun y1 => some (-1))
def zah.k (N : Nat) : Kq := ⟨106, (ctv [.val (Ty.sl T6), .clo 140 1, .ptr Ty.zI false []] [T6] [] [] [(Ty.sl T6), Ty.zI] (zah N)), go [zfy.k] {ro := [1000000], pk := [1000000]} [(0, .rets { slots := [(0, .val (Ty.sl T6)), (1, .fn 140 [1000000]), (7, .val T6), (8, .val T6)], boxes := [(1000000, Ty.zI, [])] } [(Ty.sl T6), T6, T6, Ty.zI] (zn (zah.r0 N) N))] Proofs.Tryz.func106 (hL := ⟨⟨_, _, rfl, by kernel_rfl⟩, trivial⟩)⟩
def zc1 (N : Nat) (a0 : List Int) (a1 : zI) : Option Bool :=
 (zah N a0 a1).bind fun r1 => some (decide (r1 ≥ 0))
def zc1.k (N : Nat) : Kq := ⟨64, (ctv [.val (Ty.sl T6), .clo 140 1, .ptr Ty.zI false []] [Ty.bool] [] [] [(Ty.sl T6), Ty.zI] (zc1 N)), go [zah.k N] {ro := [1000000], pk := [1000000]} [] Proofs.Tryz.func64⟩
def zdv (a0 : Storage) (a1 : Int) : Option Bool :=
 (cond (decide (a1 ≥ 0)) (some ((a1.tmod 16) == 0)) (some false)).bind fun g1 => (cond g1 (some (decide (a1 < (a0.Bytes.size : Int)))) (some false)).bind fun g2 => some g2
def zdv.k : Kq := ⟨141, (cvv [Ty.bool] [Ty.Storage, T6] zdv), go [] {} [] Proofs.Tryz.func141⟩
def zf6 (a0 : DataType) : Option Int :=
 cond (a0.Kind == 1) (some (w6 ((w6 (a0.Length.tdiv 2)) + 1))) (cond (a0.Kind == 3)
  (some (w6 (2 + (w6 ((w6 (a0.Length.tdiv 9)) * 2))))) (cond (a0.Kind == 4) (some 16) (some a0.Length)))
def zf6.k : Kq := ⟨267, (cvv [T6] [Ty.DataType] zf6), go [] {} [] Proofs.Tryz.func267⟩
def zkb (N : Nat) (a0 : DataType) : Option (Int × Int) :=
 (za9 N a0).bind fun r1 => cond (r1 != 0) (some (0, r1)) ((zf6 a0).bind fun r2 => some (r2, 0))
def zkb.k (N : Nat) : Kq := ⟨266, (cvv [T6, T6] [Ty.DataType] (zkb N)), go [za9.k N, zf6.k] {} [] Proofs.Tryz.func266⟩
def zeq (N : Nat) (a0 : DataType) : Option Int :=
 (zkb N a0).bind fun r1 => some r1.1
def zeq.k (N : Nat) : Kq := ⟨203, (cvv [T6] [Ty.DataType] (zeq N)), go [zkb.k N] {} [] Proofs.Tryz.func203⟩
def zc9 (N : Nat) (a0 : Storage) (a1 : zO) (a2 : DataType) : Option Bool :=
 cond a1.Based ((zdv a0 a1.Pointer).bind fun r1 => (cond r1 ((z9 a1.Offset 0 256).bind fun r2 => some r2) (some false)).bind fun g3 => some g3)
  ((zeq N a2).bind fun r4 => (z9 a1.Offset 0 (w6 ((a0.Bytes.size : Int) - r4))).bind fun r5 => some r5)
def zc9.k (N : Nat) : Kq := ⟨142, (cvv [Ty.bool] [Ty.Storage, Ty.zO, Ty.DataType] (zc9 N)), go [z9.k, zdv.k, zeq.k N] {} [] Proofs.Tryz.func142⟩
def zhl (N : Nat) (a0 : zI) (a1 : zF) (a2 : zB) : Option Bool :=
 (zbt a2).bind fun r1 => (zt N a2).bind fun r2 => (zc1 N r2 a0).bind fun r3 => cond r3 (some false)
  ((cond ((zh .i64 r1.fields 8) != 0) (some (a2.Op == 4)) (some false)).bind fun g4 => cond g4 ((cond ((zh .i64 r1.fields 4096) != 0)
  ((z9 a2.Target 0 (w6 ((a1.zD.length : Int) - 1))).bind fun r5 => some (!r5)) (some false)).bind fun g6 => (cond g6 (some true)
  ((cond ((zh .i64 r1.fields 2048) != 0) ((z9 a2.Mask 1 7).bind fun r7 => some (!r7)) (some false)).bind fun g8 => some g8)).bind fun g9 => (cond g9 (some true)
  ((cond ((zh .i64 r1.fields 8192) != 0) ((zdv a1.Storage a2.Pointer).bind fun r10 => some (!r10)) (some false)).bind fun g11 => some g11)).bind fun g12 =>
  (cond g12 (some true) ((cond ((zh .i64 r1.fields 16384) != 0) ((zdv a1.Storage a2.Source).bind fun r13 => some (!r13)) (some false)).bind fun g14 =>
  some g14)).bind fun g15 => (cond g15 (some true) ((cond ((zh .i64 r1.fields 8) != 0) ((zc9 N a1.Storage a2.Place a2.Second).bind fun r16 => some (!r16))
  (some false)).bind fun g17 => some g17)).bind fun g18 => (cond g18 (some true) ((cond ((zh .i64 r1.fields 16) != 0)
  ((zc9 N a1.Storage a2.From a2.Second).bind fun r19 => some (!r19)) (some false)).bind fun g20 => some g20)).bind fun g21 => (cond g21 (some true)
  ((cond ((zh .i64 r1.fields 32768) != 0) ((z9 a2.zK 0 4).bind fun r22 => some (!r22)) (some false)).bind fun g23 => some g23)).bind fun g24 => some (!g24))
  ((cond ((zh .i64 r1.fields 4096) != 0) ((z9 a2.Target 0 (w6 ((a1.zD.length : Int) - 1))).bind fun r25 => some (!r25))
  (some false)).bind fun g26 => (cond g26 (some true) ((cond ((zh .i64 r1.fields 2048) != 0) ((z9 a2.Mask 1 7).bind fun r27 => some (!r27)) (some false)).bind fun g28 =>
  some g28)).bind fun g29 => (cond g29 (some true) ((cond ((zh .i64 r1.fields 8192) != 0) ((zdv a1.Storage a2.Pointer).bind fun r30 => some (!r30))
  (some false)).bind fun g31 => some g31)).bind fun g32 => (cond g32 (some true) ((cond ((zh .i64 r1.fields 16384) != 0) ((zdv a1.Storage a2.Source).bind fun r33 =>
  some (!r33)) (some false)).bind fun g34 => some g34)).bind fun g35 => (cond g35 (some true) ((cond ((zh .i64 r1.fields 8) != 0)
  ((zc9 N a1.Storage a2.Place a2.zG).bind fun r36 => some (!r36)) (some false)).bind fun g37 => some g37)).bind fun g38 => (cond g38 (some true)
  ((cond ((zh .i64 r1.fields 16) != 0) ((zc9 N a1.Storage a2.From a2.Second).bind fun r39 => some (!r39)) (some false)).bind fun g40 => some g40)).bind fun g41 =>
  (cond g41 (some true) ((cond ((zh .i64 r1.fields 32768) != 0) ((z9 a2.zK 0 4).bind fun r42 => some (!r42)) (some false)).bind fun g43 =>
  some g43)).bind fun g44 => some (!g44)))
def zhl.k (N : Nat) : Kq := ⟨95, (cvv [Ty.bool] [Ty.zI, Ty.zF, Ty.zB] (zhl N)), go [z9.k, zc1.k N, zt.k N, zbt.k, zdv.k, zc9.k N] {lits := [13]} [] Proofs.Tryz.func95⟩
def zan (a0 : Number) : Option Int :=
 (zd3 a0.N (-999999999999999) 999999999999999).bind fun r1 => (cond (!r1) (some true) ((zd3 a0.Scale 0 15).bind fun r2 => some (!r2))).bind fun g3 =>
  (zaq g3 3).bind fun r4 => some r4
def zan.k : Kq := ⟨78, (cvv [T6] [Ty.Number] zan), go [zaq.k, zd3.k] {} [] Proofs.Tryz.func78⟩
def zcp (N : Nat) (a0 : zI) (a1 : zF) (a2 : zB) : Option Int :=
 (z9 a2.Op 0 26).bind fun r1 => cond (!r1) (some 4) ((zjg a2).bind fun r2 =>
  (zad (!(zfv [(r2.Op == a2.Op), (r2.R == a2.R), (r2.A == a2.A), (r2.B == a2.B), (r2.zK == a2.zK), (r2.Place.Based == a2.Place.Based), (r2.Place.Pointer == a2.Place.Pointer), (r2.Place.Offset == a2.Place.Offset), (r2.From.Based == a2.From.Based), (r2.From.Pointer == a2.From.Pointer), (r2.From.Offset == a2.From.Offset), (r2.zG.Kind == a2.zG.Kind), (r2.zG.Length == a2.zG.Length), (r2.zG.Scale == a2.zG.Scale), (r2.Second.Kind == a2.Second.Kind), (r2.Second.Length == a2.Second.Length), (r2.Second.Scale == a2.Second.Scale), (r2.Half == a2.Half), (r2.zM == a2.zM), (r2.Number.N == a2.Number.N), (r2.Number.Scale == a2.Number.Scale), (r2.Text == a2.Text), (r2.Other == a2.Other), (r2.Mask == a2.Mask), (r2.Target == a2.Target), (r2.Pointer == a2.Pointer), (r2.Source == a2.Source)])) 5).bind fun r3 =>
  (zgx a0 a2).bind fun r4 => (zad (!r4) 39).bind fun r5 => (zbt a2).bind fun r6 => (zg3 N a2 r6).bind fun r7 =>
  (zw N ([r3, r5, r7] : List Int)).bind fun r8 => cond (r8 != 0) (some r8) ((zhl N a0 a1 a2).bind fun r9 => (zad (!r9) 3).bind fun r10 =>
  (zan a2.Number).bind fun r11 => (cond (decide ((a2.Text.size : Int) > 256)) (some true) (some (decide ((a2.Other.size : Int) > 256)))).bind fun g12 =>
  (zad g12 2).bind fun r13 => (zw N ([r10, r11, r13] : List Int)).bind fun r14 => some r14))
def zcp.k (N : Nat) : Kq := ⟨51, (cvv [T6] [Ty.zI, Ty.zF, Ty.zB] (zcp N)), go [zw.k N, zad.k, z9.k, zgx.k, zan.k, zjg.k, zg3.k N, zbt.k, zhl.k N] {lits := [16, 21, 24, 25, 26, 36, 39, 50, 51]} [] Proofs.Tryz.func51⟩
def zhj (a0 : zF) (a1 : zT) : Option Int :=
 (z9 a1.From 0 a1.To).bind fun r1 => (cond r1 (some (decide (a1.To ≤ (a0.zD.length : Int)))) (some false)).bind fun g2 =>
  (cond g2 ((z9 a1.Exception 0 999).bind fun r3 => some r3) (some false)).bind fun g4 =>
  (cond g4 ((z9 a1.Handler 0 (w6 ((a0.zD.length : Int) - 1))).bind fun r5 => some r5) (some false)).bind fun g6 =>
  (zad (!g6) 3).bind fun r7 => some r7
def zhj.k : Kq := ⟨52, (cvv [T6] [Ty.zF, Ty.zT] zhj), go [zad.k, z9.k] {} [] Proofs.Tryz.func52⟩
def zl.b0 (N : Nat) (s57 : List zB) (s58 : Int) (s59 : Int) (b2 : zI) (b3 : zF) : Option (Round (Int × Int) ((List zB) × Int × Int × zI × zF)) :=
 cond (decide (s59 < s58)) ((idx s57 s59).bind fun x1001 => (zcp N b2 b3 x1001).bind fun r1002 => cond (r1002 != 0) (some (.result (s59, r1002)))
  (some (.again (s57, s58, (w6 (s59 + 1)), b2, b3)))) (some (.leave (s57, s58, s59, b2, b3)))
def zl.r0 (N : Nat) (x : (List zB) × Int × Int × zI × zF) := zl.b0 N x.1 x.2.1 x.2.2.1 x.2.2.2.1 x.2.2.2.2
def zl.b2 (N : Nat) (s74 : List zT) (s75 : Int) (s76 : Int) (b3 : zF) : Option (Round (Int × Int) ((List zT) × Int × Int × zF)) :=
 cond (decide (s76 < s75)) ((idx s74 s76).bind fun x3001 => (zhj b3 x3001).bind fun r3002 => cond (r3002 != 0) (some (.result (s76, r3002)))
  (some (.again (s74, s75, (w6 (s76 + 1)), b3)))) (some (.leave (s74, s75, s76, b3)))
def zl.r2 (N : Nat) (x : (List zT) × Int × Int × zF) := zl.b2 N x.1 x.2.1 x.2.2.1 x.2.2.2
def zl (N : Nat) (a0 : zI) (a1 : zF) : Option (Int × Int) :=
 (zf0 a0).bind fun r1 => cond (r1 != 0) (some (0, r1)) ((zo N a1.Storage).bind fun r2 => cond (r2.2 != 0) (some (0, r2.2))
  ((zfm N a1.Storage.Tags true).bind fun r3 => (zad r3 22).bind fun r4 => (zad ((a1.zD.length : Int) == 0) 1).bind fun r5 =>
  (cond (decide ((a1.zD.length : Int) > 240)) (some true) (some (decide ((a1.zN.length : Int) > 40)))).bind fun g6 => (zad g6 2).bind fun r7 =>
  (zw N ([r4, r5, r7] : List Int)).bind fun r8 => cond (r8 != 0) (some (0, r8))
  ((zn (zl.r0 N) N (a1.zD, (a1.zD.length : Int), 0, a0, a1)).bind fun z10 => zb3 z10 (fun z => some z) (fun y9 =>
  (zn (zl.r2 N) N (y9.2.2.2.2.zN, (y9.2.2.2.2.zN.length : Int), 0, y9.2.2.2.2)).bind fun z12 => zb3 z12 (fun z => some z) (fun y11 =>
  some ((y11.2.2.2.zD.length : Int), 0))))))
def zl.k (N : Nat) : Kq := ⟨14, (cvv [T6, T6] [Ty.zI, Ty.zF] (zl N)), go [zf0.k, zo.k N, zw.k N, zad.k, zfm.k N, zcp.k N, zhj.k] {lits := [33, 34, 39, 50, 51]} [(0, .rets { slots := [(2, .ptr 2 0), (3, .ptr 3 0), (57, .val (Ty.sl Ty.zB)), (58, .val T6), (59, .val T6)], boxes := [(2, Ty.zI, []), (3, Ty.zF, [])] } [(Ty.sl Ty.zB), T6, T6, Ty.zI, Ty.zF] (zn (zl.r0 N) N)), (2, .rets { slots := [(3, .ptr 3 0), (74, .val (Ty.sl Ty.zT)), (75, .val T6), (76, .val T6)], boxes := [(3, Ty.zF, [])] } [(Ty.sl Ty.zT), T6, T6, Ty.zF] (zn (zl.r2 N) N))] Proofs.Tryz.func14 (hL := ⟨⟨_, _, rfl, by kernel_rfl⟩, ⟨_, _, rfl, by kernel_rfl⟩, trivial⟩)⟩
def zda (N : Nat) (a0 : zI) (a1 : zF) : Option Int :=
 (zl N a0 a1).bind fun r1 => some r1.2
def zda.k (N : Nat) : Kq := ⟨60, (cvv [T6] [Ty.zI, Ty.zF] (zda N)), go [zl.k N] {} [] Proofs.Tryz.func60⟩
def x76 : Ct U := { params := [.val (Ty.sl Ty.bool)], results := [(Ty.sl Ty.bool)], outs := [], fresh := [0], fn := app U [(Ty.sl Ty.bool)] (R := PT U [(Ty.sl Ty.bool)]) (zdi 1) }
theorem x76.meets : zii (zsj [] [] [] [] [] [] [] []) 76 x76 :=
 zo8 zwo (zvj (l := []) rfl zdg) (zur (l := []) rfl zdg) (Lp := pick []) Proofs.Tryz.func76 (by kernel_rfl) (zvn (l := []) rfl zdg) (fun y => by kernel_rfl) (e := 4) (t := Ty.bool) rfl rfl rfl rfl rfl rfl rfl (by kernel_rfl) rfl rfl rfl rfl rfl rfl (fun xs => by kernel_rfl) fun ds y h => by
  obtain ⟨xs, rfl, hx⟩ := z0i h; refine ⟨xs, rfl, fun b hb => ?_⟩; cases b with
  | true =>
   have := hb rfl; subst this; exact Eq.trans (by kernel_rfl) hx
  | false => exact Eq.trans (b := cond (Nat.ble ((0 + xs.length) * 1) zac) (some xs) none) (by kernel_rfl) (by rw [Nat.zero_add]; exact hx)
def x76.k : Kq := ⟨76, x76, x76.meets⟩
def zgn (N : Nat) (a0 : zI) (a1 : zF) : Option (zA × Int) :=
 (zda N a0 a1).bind fun r1 => cond (r1 != 0) (some ((⟨[], 0, (⟨(⟨#[]⟩ : ByteArray), []⟩ : Storage), 0, [], [], 0, 0, 0, 0⟩ : zA), r1))
  ((zdi 1 a1.Storage.Tags).bind fun r2 => if 0 ≤ a0.Registers then (if a0.Registers ≤ a0.Registers then (cond (Nat.ble (a0.Registers.toNat * 16) zac)
  (some ((⟨(List.replicate a0.Registers.toNat ((⟨0, 0⟩ : Number) : Number)), 0, (⟨a1.Storage.Bytes, r2⟩ : Storage), 0, [], [], 0, 0, 0, 0⟩ : zA), 0)) none) else none) else none)
def zgn.k (N : Nat) : Kq := ⟨34, (cvv [Ty.zA, T6] [Ty.zI, Ty.zF] (zgn N)), go [zda.k N, x76.k] {} [] Proofs.Tryz.func34⟩
def zgs (N : Nat) (a0 : Storage) (a1 : Int) : Option Int :=
 (zo N a0).bind fun r1 => cond (r1.2 != 0) (some r1.2) ((cond (decide (a1 < 0)) (some true) (some (decide (a1 ≥ (a0.Bytes.size : Int))))).bind fun g2 =>
  (cond g2 (some true) (some ((a1.tmod 16) != 0))).bind fun g3 => cond g3 (some 3) (some 0))
def zgs.k (N : Nat) : Kq := ⟨186, (cvv [T6] [Ty.Storage, T6] (zgs N)), go [zo.k N] {} [] Proofs.Tryz.func186⟩
def zcw (N : Nat) (a0 : Storage) (a1 : Int) : Option (Pointer × Int) :=
 (zgs N a0 a1).bind fun r1 => cond (r1 != 0) (some ((⟨0, (⟨0, 0⟩ : Address), 0⟩ : Pointer), r1)) ((idx a0.Tags (w6 (a1.tdiv 16))).bind fun x2 => cond (!x2)
  (some ((⟨0, (⟨0, 0⟩ : Address), 0⟩ : Pointer), 22))
  (if 0 ≤ (w6 (a1 + 16)) ∧ (w6 (a1 + 16)) ≤ (a0.Bytes.size : Int) then (if 0 ≤ a1 ∧ a1 ≤ (w6 (a1 + 16)) then ((ze9 N (a0.Bytes.extract a1.toNat (w6 (a1 + 16)).toNat)).bind fun r3 =>
  some (r3.1, r3.2)) else none) else none))
def zcw.k (N : Nat) : Kq := ⟨123, (cvv [Ty.Pointer, T6] [Ty.Storage, T6] (zcw N)), go [ze9.k N, zgs.k N] {} [] Proofs.Tryz.func123⟩
def zf (a0 : zC) (a1 : Bool) (a2 : Int) : Option (Bool × zC) :=
 (cond a1 (some (a0.raised == 0)) (some false)).bind fun g1 => cond g1 (some ((a2 == 0), (⟨a0.zA, a0.code, a2⟩ : zC))) (some ((a0.raised == 0), a0))
def zf.k : Kq := ⟨206, (ctv [.ptr Ty.zC true [], .val Ty.bool, .val T6] [Ty.bool] [Ty.zC] [] [Ty.zC, Ty.bool, T6] zf), go [] {pk := [1000000]} [] Proofs.Tryz.func206⟩
def zax (N : Nat) (a0 : zC) (a1 : Int) : Option (Pointer × Bool × zC) :=
 (zcw N a0.zA.Storage a1).bind fun r1 => (zf a0 (r1.2 != 0) 4).bind fun r2 => some (r1.1, r2.1, r2.2)
def zax.k (N : Nat) : Kq := ⟨218, (ctv [.ptr Ty.zC true [], .val T6] [Ty.Pointer, Ty.bool] [Ty.zC] [] [Ty.zC, T6] (zax N)), go [zcw.k N, zf.k] {pk := [1000000]} [] Proofs.Tryz.func218⟩
def za4 (N : Nat) (a0 : zC) (a1 : zO) (a2 : Int) : Option (Int × Bool × zC) :=
 cond (!a1.Based) (some (a1.Offset, true, a0)) ((zax N a0 a1.Pointer).bind fun r1 => cond (!r1.2.1) (some (0, false, r1.2.2))
  ((zf r1.2.2 (decide ((w6 (r1.1.Address.Offset + a1.Offset)) > (w6 ((r1.2.2.zA.Storage.Bytes.size : Int) - a2)))) 5).bind fun r2 =>
  some ((w6 (r1.1.Address.Offset + a1.Offset)), r2.1, r2.2)))
def za4.k (N : Nat) : Kq := ⟨216, (ctv [.ptr Ty.zC true [], .val Ty.zO, .val T6] [T6, Ty.bool] [Ty.zC] [] [Ty.zC, Ty.zO, T6] (za4 N)), go [zf.k, zax.k N] {pk := [1000000]} [] Proofs.Tryz.func216⟩
def zu (N : Nat) (a0 : zC) (a1 : zO) (a2 : DataType) : Option (ByteArray × Bool × zC) :=
 (zeq N a2).bind fun r1 => (za4 N a0 a1 r1).bind fun r2 => cond (!r2.2.1) (some ((⟨#[]⟩ : ByteArray), false, r2.2.2))
  (if 0 ≤ (w6 (r2.1 + r1)) ∧ (w6 (r2.1 + r1)) ≤ (r2.2.2.zA.Storage.Bytes.size : Int) then (if 0 ≤ r2.1 ∧ r2.1 ≤ (w6 (r2.1 + r1)) then (some ((r2.2.2.zA.Storage.Bytes.extract r2.1.toNat (w6 (r2.1 + r1)).toNat), true, r2.2.2)) else none) else none)
def zu.k (N : Nat) : Kq := ⟨204, (ctv [.ptr Ty.zC true [], .val Ty.zO, .val Ty.DataType] [Ty.str, Ty.bool] [Ty.zC] [] [Ty.zC, Ty.zO, Ty.DataType] (zu N)), go [zeq.k N, za4.k N] {pk := [1000000]} [] Proofs.Tryz.func204⟩
def zbv.b0 (N : Nat) (s3 : Int) (s12 : List Int) (s13 : Int) (s14 : Int) : Option (Stp (Int × (List Int) × Int × Int)) :=
 cond (decide (s14 < s13)) (if 0 ≤ s14 then (if s14 < (s12.length : Int) then ((s12[s14.toNat]?).bind fun x1001 =>
  some (.again ((orI .i64 (w6 (s3 * 2 ^ (min (8 : Int).toNat 64))) (w6 x1001)), s12, s13, (w6 (s14 + 1))))) else none) else none)
  (some (.leave (s3, s12, s13, s14)))
def zbv.r0 (N : Nat) (x : Int × (List Int) × Int × Int) := zbv.b0 N x.1 x.2.1 x.2.2.1 x.2.2.2
def zbv (N : Nat) (a0 : ByteArray) : Option Int :=
 (zgw a0 0).bind fun x1 =>
  if 0 ≤ (1 : Int) ∧ (1 : Int) ≤ (a0.size : Int) then ((zq (zbv.r0 N) N ((w6 (IntKind.wrap .i8 (x1.toNat : Int))), (zjf (a0.extract (1 : Int).toNat a0.size)), ((zjf (a0.extract (1 : Int).toNat a0.size)).length : Int), 0)).bind fun y2 =>
  some y2.1) else none
def zbv.k (N : Nat) : Kq := ⟨268, (cvv [T6] [Ty.str] (zbv N)), go [] {} [(0, .plain { slots := [(3, .val T6), (12, .own 5000012 (Ty.int .u8)), (13, .val T6), (14, .val T6)], boxes := [] } [T6, (Ty.sl (Ty.int .u8)), T6, T6] (zq (zbv.r0 N) N))] Proofs.Tryz.func268 (hL := ⟨⟨_, _, rfl, by kernel_rfl⟩, trivial⟩)⟩
def zcg.b0 (N : Nat) (s3 : Int) (s5 : Int) (s6 : Int) : Option (Stp (Int × Int × Int)) :=
 cond (decide (s6 < s5)) (some (.again ((w6 (s3 * 10)), s5, (w6 (s6 + 1))))) (some (.leave (s3, s5, s6)))
def zcg.r0 (N : Nat) (x : Int × Int × Int) := zcg.b0 N x.1 x.2.1 x.2.2
def zcg (N : Nat) (a0 : Int) : Option Int :=
 (zq (zcg.r0 N) N (1, (if 18 < a0 then 18 else a0), 0)).bind fun y1 => some y1.1
def zcg.k (N : Nat) : Kq := ⟨315, (cvv [T6] [T6] (zcg N)), go [] {} [(0, .plain { slots := [(3, .val T6), (5, .val T6), (6, .val T6)], boxes := [] } [T6, T6, T6] (zq (zcg.r0 N) N))] Proofs.Tryz.func315 (hL := ⟨⟨_, _, rfl, by kernel_rfl⟩, trivial⟩)⟩
def zds (N : Nat) (a0 : DataType) (a1 : Value) : Option Int :=
 (za9 N a0).bind fun r1 => (zaq (a0.Kind == 4) 17).bind fun r2 => (zp N ([r1, r2] : List Int)).bind fun r3 => cond (r3 != 0) (some r3)
  (cond (a0.Kind == 0) ((zaq (a1.N != 0) 5).bind fun r4 => (zaq ((a1.S.size : Int) != a0.Length) 18).bind fun r5 =>
  (zp N ([r4, r5] : List Int)).bind fun r6 => some r6) ((zcg N a0.Length).bind fun r7 =>
  (zaq (!(a1.S.toList == (⟨#[]⟩ : ByteArray).toList)) 5).bind fun r8 => (zd3 a1.N (w6 (0 - (w6 (r7 - 1))))
  (w6 (r7 - 1))).bind fun r9 => (zaq (!r9) 19).bind fun r10 => (zp N ([r8, r10] : List Int)).bind fun r11 => some r11))
def zds.k (N : Nat) : Kq := ⟨269, (cvv [T6] [Ty.DataType, Ty.Value] (zds N)), go [zaq.k, zd3.k, za9.k N, zp.k N, zcg.k N] {lits := [8, 12, 13, 24, 31, 32, 41, 49, 50]} [] Proofs.Tryz.func269⟩
def za5.b0 (N : Nat) (s1 : ByteArray) (s4 : List Int) (s5 : List Int) (s10 : Int) (s11 : Int) (b2 : DataType) : Option (Stp (ByteArray × (List Int) × (List Int) × Int × Int × DataType)) :=
 cond (decide (s11 < s10)) ((zgw s1 s11).bind fun x1001 => (zgw s1 s11).bind fun x1002 => cond (b2.Kind == 1)
  (cond (Nat.ble ((s4.length + ([((x1001.toNat : Int).fdiv (2 ^ (min (4 : Int).toNat 8))), (zh .u8 (x1002.toNat : Int) 15)] : List Int).length) * 1) zac)
  (cond (Nat.ble ((s5.length + ([s11, s11] : List Int).length) * 8) zac)
  (some (.again (s1, (s4 ++ ([((x1001.toNat : Int).fdiv (2 ^ (min (4 : Int).toNat 8))), (zh .u8 (x1002.toNat : Int) 15)] : List Int)), (s5 ++ ([s11, s11] : List Int)), s10, (w6 (s11 + 1)), b2))) none) none)
  (cond (Nat.ble ((s4.length + ([(zh .u8 (x1002.toNat : Int) 15)] : List Int).length) * 1) zac) (cond (Nat.ble ((s5.length + ([s11] : List Int).length) * 8) zac)
  (some (.again (s1, (s4 ++ ([(zh .u8 (x1002.toNat : Int) 15)] : List Int)), (s5 ++ ([s11] : List Int)), s10, (w6 (s11 + 1)), b2))) none) none))
  (some (.leave (s1, s4, s5, s10, s11, b2)))
def za5.r0 (N : Nat) (x : ByteArray × (List Int) × (List Int) × Int × Int × DataType) := za5.b0 N x.1 x.2.1 x.2.2.1 x.2.2.2.1 x.2.2.2.2.1 x.2.2.2.2.2
def za5 (N : Nat) (a0 : DataType) (a1 : ByteArray) : Option ((List Int) × (List Int)) :=
 (zq (za5.r0 N) N (a1, [], [], (a1.size : Int), 0, a0)).bind fun y1 => cond (y1.2.2.2.2.2.Kind == 2)
  ((zgw y1.1 (w6 ((y1.1.size : Int) - 1))).bind fun x2 =>
  cond (Nat.ble ((y1.2.1.length + ([((x2.toNat : Int).fdiv (2 ^ (min (4 : Int).toNat 8)))] : List Int).length) * 1) zac)
  (cond (Nat.ble ((y1.2.2.1.length + ([(w6 ((y1.1.size : Int) - 1))] : List Int).length) * 8) zac)
  (some ((y1.2.1 ++ ([((x2.toNat : Int).fdiv (2 ^ (min (4 : Int).toNat 8)))] : List Int)), (y1.2.2.1 ++ ([(w6 ((y1.1.size : Int) - 1))] : List Int)))) none) none)
  (some (y1.2.1, y1.2.2.1))
def za5.k (N : Nat) : Kq := ⟨316, (cvv [(Ty.sl (Ty.int .u8)), (Ty.sl T6)] [Ty.DataType, Ty.str] (za5 N)), go [] {lits := [24, 28, 37, 42, 55, 61]} [(0, .plain { slots := [(1, .val Ty.str), (2, .ptr 2 0), (4, .own 5000004 (Ty.int .u8)), (5, .own 5000005 T6), (10, .val T6), (11, .val T6)], boxes := [(2, Ty.DataType, [])] } [Ty.str, (Ty.sl (Ty.int .u8)), (Ty.sl T6), T6, T6, Ty.DataType] (zq (za5.r0 N) N))] Proofs.Tryz.func316 (hL := ⟨⟨_, _, rfl, by kernel_rfl⟩, trivial⟩)⟩
def zbn.b0 (N : Nat) (s7 : List Int) (s8 : List Int) (s9 : Int) (s10 : Int) (s24 : List Int) (s25 : Int) (s26 : Int) (b2 : DataType) : Option (Round (Int × Int × Int) ((List Int) × (List Int) × Int × Int × (List Int) × Int × Int × DataType)) :=
 cond (decide (s26 < s25)) ((idx s24 s26).bind fun x1001 => (cond (decide (x1001 > 9)) (some true) ((cond (decide (x1001 > 0))
  (some (decide (s26 < (w6 (s9 - b2.Length))))) (some false)).bind fun g1002 => some g1002)).bind fun g1003 => cond g1003 ((idx s8 s26).bind fun x1004 =>
  some (.result (0, x1004, 21)))
  (some (.again (s7, s8, s9, (w6 ((w6 (s10 * 10)) + (w6 x1001))), s24, s25, (w6 (s26 + 1)), b2))))
  (some (.leave (s7, s8, s9, s10, s24, s25, s26, b2)))
def zbn.r0 (N : Nat) (x : (List Int) × (List Int) × Int × Int × (List Int) × Int × Int × DataType) := zbn.b0 N x.1 x.2.1 x.2.2.1 x.2.2.2.1 x.2.2.2.2.1 x.2.2.2.2.2.1 x.2.2.2.2.2.2.1 x.2.2.2.2.2.2.2
def zbn (N : Nat) (a0 : DataType) (a1 : ByteArray) : Option (Int × Int × Int) :=
 (za5 N a0 a1).bind fun r1 =>
  if 0 ≤ (w6 ((r1.1.length : Int) - 1)) ∧ (w6 ((r1.1.length : Int) - 1)) ≤ (r1.1.length : Int) then (if 0 ≤ (0 : Int) ∧ (0 : Int) ≤ (w6 ((r1.1.length : Int) - 1)) then ((zn (zbn.r0 N) N (r1.1, r1.2, (w6 ((r1.1.length : Int) - 1)), 0, ((r1.1.take (w6 ((r1.1.length : Int) - 1)).toNat).drop (0 : Int).toNat), (((r1.1.take (w6 ((r1.1.length : Int) - 1)).toNat).drop (0 : Int).toNat).length : Int), 0, a0)).bind fun z3 =>
  zb3 z3 (fun z => some z) (fun y2 => (idx y2.1 y2.2.2.1).bind fun x4 => cond (decide (x4 < 10)) ((idx y2.2.1 y2.2.2.1).bind fun x5 => some (0, x5, 21))
  ((idx y2.1 y2.2.2.1).bind fun x6 => (cond (x6 == 11) (some true) ((idx y2.1 y2.2.2.1).bind fun x7 => some (x7 == 13))).bind fun g8 =>
  cond g8 (some ((w6 (0 - y2.2.2.2.1)), 0, 0)) (some (y2.2.2.2.1, 0, 0))))) else none) else none
def zbn.k (N : Nat) : Kq := ⟨270, (cvv [T6, T6, T6] [Ty.DataType, Ty.str] (zbn N)), go [za5.k N] {} [(0, .rets { slots := [(2, .ptr 2 0), (7, .val (Ty.sl (Ty.int .u8))), (8, .val (Ty.sl T6)), (9, .val T6), (10, .val T6), (24, .val (Ty.sl (Ty.int .u8))), (25, .val T6), (26, .val T6)], boxes := [(2, Ty.DataType, [])] } [(Ty.sl (Ty.int .u8)), (Ty.sl T6), T6, T6, (Ty.sl (Ty.int .u8)), T6, T6, Ty.DataType] (zn (zbn.r0 N) N))] Proofs.Tryz.func270 (hL := ⟨⟨_, _, rfl, by kernel_rfl⟩, trivial⟩)⟩
def ziw (N : Nat) (a0 : DataType) (a1 : ByteArray) : Option (Value × Int × Int) :=
 (za9 N a0).bind fun r1 => (zaq (a0.Kind == 4) 17).bind fun r2 => (zp N ([r1, r2] : List Int)).bind fun r3 => cond (r3 == 0)
  ((zf6 a0).bind fun r4 => (zaq ((a1.size : Int) != r4) 18).bind fun r5 => cond (r5 != 0) (some ((⟨0, (⟨#[]⟩ : ByteArray)⟩ : Value), 0, r5)) (cond (a0.Kind == 0)
  (some ((⟨0, a1⟩ : Value), 0, 0)) (cond (a0.Kind == 3) ((zbv N a1).bind fun r6 => (zds N a0 (⟨r6, (⟨#[]⟩ : ByteArray)⟩ : Value)).bind fun r7 =>
  cond (r7 != 0) (some ((⟨0, (⟨#[]⟩ : ByteArray)⟩ : Value), 0, r7)) (some ((⟨r6, (⟨#[]⟩ : ByteArray)⟩ : Value), 0, 0))) ((zbn N a0 a1).bind fun r8 =>
  some ((⟨r8.1, (⟨#[]⟩ : ByteArray)⟩ : Value), r8.2.1, r8.2.2))))) (cond (r3 != 0) (some ((⟨0, (⟨#[]⟩ : ByteArray)⟩ : Value), 0, r3)) (cond (a0.Kind == 0)
  (some ((⟨0, a1⟩ : Value), 0, 0)) (cond (a0.Kind == 3) ((zbv N a1).bind fun r9 => (zds N a0 (⟨r9, (⟨#[]⟩ : ByteArray)⟩ : Value)).bind fun r10 =>
  cond (r10 != 0) (some ((⟨0, (⟨#[]⟩ : ByteArray)⟩ : Value), 0, r10)) (some ((⟨r9, (⟨#[]⟩ : ByteArray)⟩ : Value), 0, 0))) ((zbn N a0 a1).bind fun r11 =>
  some ((⟨r11.1, (⟨#[]⟩ : ByteArray)⟩ : Value), r11.2.1, r11.2.2)))))
def ziw.k (N : Nat) : Kq := ⟨205, (cvv [Ty.Value, T6, T6] [Ty.DataType, Ty.str] (ziw N)), go [zaq.k, za9.k N, zp.k N, zf6.k, zbv.k N, zds.k N, zbn.k N] {lits := [13, 17, 18]} [] Proofs.Tryz.func205⟩
def zbj (N : Nat) (a0 : zC) (a1 : zO) (a2 : DataType) : Option (Number × Bool × zC) :=
 (zu N a0 a1 a2).bind fun r1 => cond (!r1.2.1) (some ((⟨0, 0⟩ : Number), false, r1.2.2)) ((ziw N a2 r1.1).bind fun r2 =>
  (zf r1.2.2 (r2.2.2 != 0) 1).bind fun r3 => some ((⟨r2.1.N, a2.Scale⟩ : Number), r3.1, r3.2))
def zbj.k (N : Nat) : Kq := ⟨146, (ctv [.ptr Ty.zC true [], .val Ty.zO, .val Ty.DataType] [Ty.Number, Ty.bool] [Ty.zC] [] [Ty.zC, Ty.zO, Ty.DataType] (zbj N)), go [zu.k N, ziw.k N, zf.k] {pk := [1000000]} [] Proofs.Tryz.func146⟩
def zzx : Ct U := { params := [.val (Ty.sl Ty.Number)], results := [(Ty.sl Ty.Number)], outs := [], fresh := [0], fn := app U [(Ty.sl Ty.Number)] (R := PT U [(Ty.sl Ty.Number)]) (zdi 16) }
theorem zzx.meets : zii (zsj [] [] [] [] [] [] [] []) 207 zzx :=
 zo8 zwo (zvj (l := []) rfl zdg) (zur (l := []) rfl zdg) (Lp := pick []) Proofs.Tryz.func207 (by kernel_rfl) (zvn (l := []) rfl zdg) (fun y => by kernel_rfl) (e := 84) (t := Ty.Number) rfl rfl rfl rfl rfl rfl rfl (by kernel_rfl) rfl rfl rfl rfl rfl rfl (fun xs => by kernel_rfl) fun ds y h => by
  obtain ⟨xs, rfl, hx⟩ := z0i h; refine ⟨xs, rfl, fun b hb => ?_⟩; cases b with
  | true =>
   have := hb rfl; subst this; exact Eq.trans (by kernel_rfl) hx
  | false => exact Eq.trans (b := cond (Nat.ble ((0 + xs.length) * 16) zac) (some xs) none) (by kernel_rfl) (by rw [Nat.zero_add]; exact hx)
def zzx.k : Kq := ⟨207, zzx, zzx.meets⟩
def zab (a0 : zC) (a1 : Int) (a2 : Number) : Option zC :=
 (zdi 16 a0.zA.Registers).bind fun r1 => if 0 ≤ a1 then (if a1 < (r1.length : Int) then ((r1[a1.toNat]?).bind fun x2 =>
  some (⟨(⟨(r1.set a1.toNat a2), a0.zA.Condition, a0.zA.Storage, a0.zA.At, a0.zA.Stack, a0.zA.Lines, a0.zA.Status, a0.zA.Exception, a0.zA.Marks, a0.zA.Steps⟩ : zA), a0.code, a0.raised⟩ : zC)) else none) else none
def zab.k : Kq := ⟨147, (ctv [.ptr Ty.zC true [], .val T6, .val Ty.Number] [] [Ty.zC] [] [Ty.zC, T6, Ty.Number] zab), go [zzx.k] {pk := [1000000]} [] Proofs.Tryz.func147⟩
def zez (a0 : DataType) : Option Bool :=
 (cond (a0.Kind == 1) (some true) (some (a0.Kind == 2))).bind fun g1 => (cond g1 (some true) (some (a0.Kind == 3))).bind fun g2 => some g2
def zez.k : Kq := ⟨271, (cvv [Ty.bool] [Ty.DataType] zez), go [] {} [] Proofs.Tryz.func271⟩
def zbf (a0 : Int) : Option zH :=
 some (⟨a0, 0, 0, 0⟩ : zH)
def zbf.k : Kq := ⟨318, (cvv [Ty.zH] [(Ty.int .u64)] zbf), go [] {} [] Proofs.Tryz.func318⟩
def zd9 (a0 : Int) (a1 : Int) : Option (Int × Int) :=
 some ((IntKind.wrap .u64 ((IntKind.wrap .u64 ((IntKind.wrap .u64 ((a0.fdiv (2 ^ (min (32 : Int).toNat 64))) * (a1.fdiv (2 ^ (min (32 : Int).toNat 64))))) + ((IntKind.wrap .u64 ((IntKind.wrap .u64 ((a0.fdiv (2 ^ (min (32 : Int).toNat 64))) * (zh .u64 a1 4294967295))) + ((IntKind.wrap .u64 ((zh .u64 a0 4294967295) * (zh .u64 a1 4294967295))).fdiv (2 ^ (min (32 : Int).toNat 64))))).fdiv (2 ^ (min (32 : Int).toNat 64))))) + ((IntKind.wrap .u64 ((zh .u64 (IntKind.wrap .u64 ((IntKind.wrap .u64 ((a0.fdiv (2 ^ (min (32 : Int).toNat 64))) * (zh .u64 a1 4294967295))) + ((IntKind.wrap .u64 ((zh .u64 a0 4294967295) * (zh .u64 a1 4294967295))).fdiv (2 ^ (min (32 : Int).toNat 64))))) 4294967295) + (IntKind.wrap .u64 ((zh .u64 a0 4294967295) * (a1.fdiv (2 ^ (min (32 : Int).toNat 64))))))).fdiv (2 ^ (min (32 : Int).toNat 64))))), (IntKind.wrap .u64 (a0 * a1)))
def zd9.k : Kq := ⟨342, (cvv [(Ty.int .u64), (Ty.int .u64)] [(Ty.int .u64), (Ty.int .u64)] zd9), go [] {} [] Proofs.Tryz.func342⟩
def zau.b0 (N : Nat) (s1 : Int) (s6 : Int) (s12 : Int) (b2 : zH) (b4 : zH) (b5 : zH) : Option (Stp (Int × Int × Int × zH × zH × zH)) :=
 cond (decide (s12 < 4)) (if 0 ≤ s12 then (if s12 < 4 then ((zd9 (zar [b2.e0, b2.e1, b2.e2, b2.e3] s12.toNat) s1).bind fun r1001 =>
  if 0 ≤ s12 then (if s12 < 4 then (some (.again (s1, (IntKind.wrap .u64 (r1001.1 + (((r1001.2.toNat + s6.toNat + (0 : Int).toNat) / 2 ^ 64 : Nat) : Int))), (w6 (s12 + 1)), b2, b4, (⟨(if s12.toNat = 0 then (((r1001.2.toNat + s6.toNat + (0 : Int).toNat) % 2 ^ 64 : Nat) : Int) else b5.e0), (if s12.toNat = 1 then (((r1001.2.toNat + s6.toNat + (0 : Int).toNat) % 2 ^ 64 : Nat) : Int) else b5.e1), (if s12.toNat = 2 then (((r1001.2.toNat + s6.toNat + (0 : Int).toNat) % 2 ^ 64 : Nat) : Int) else b5.e2), (if s12.toNat = 3 then (((r1001.2.toNat + s6.toNat + (0 : Int).toNat) % 2 ^ 64 : Nat) : Int) else b5.e3)⟩ : zH)))) else none) else none) else none) else none)
  (some (.leave (s1, s6, s12, b2, b4, b5)))
def zau.r0 (N : Nat) (x : Int × Int × Int × zH × zH × zH) := zau.b0 N x.1 x.2.1 x.2.2.1 x.2.2.2.1 x.2.2.2.2.1 x.2.2.2.2.2
def zau (N : Nat) (a0 : zH) (a1 : Int) : Option zH :=
 (zq (zau.r0 N) N (a1, 0, 0, a0, (⟨0, 0, 0, 0⟩ : zH), (⟨0, 0, 0, 0⟩ : zH))).bind fun y1 => some y1.2.2.2.2.2
def zau.k (N : Nat) : Kq := ⟨345, (cvv [Ty.zH] [Ty.zH, (Ty.int .u64)] (zau N)), go [zd9.k] {X := [(347, 0)]} [(0, .plain { slots := [(1, .val (Ty.int .u64)), (2, .ptr 2 0), (4, .ptr 4 0), (5, .ptr 5 0), (6, .val (Ty.int .u64)), (12, .val T6)], boxes := [(2, Ty.zH, []), (4, Ty.zH, []), (5, Ty.zH, [])] } [(Ty.int .u64), (Ty.int .u64), T6, Ty.zH, Ty.zH, Ty.zH] (zq (zau.r0 N) N))] Proofs.Tryz.func345 (hL := ⟨⟨_, _, rfl, by kernel_rfl⟩, trivial⟩) (hX := all_cons (zaay) (zdg))⟩
def zj.b0 (N : Nat) (s5 : Int) (s6 : Int) (b2 : zH) (b4 : zH) : Option (Stp (Int × Int × zH × zH)) :=
 cond (decide (s6 < s5)) ((zau N b2 10).bind fun r1001 => some (.again (s5, (w6 (s6 + 1)), r1001, b4))) (some (.leave (s5, s6, b2, b4)))
def zj.r0 (N : Nat) (x : Int × Int × zH × zH) := zj.b0 N x.1 x.2.1 x.2.2.1 x.2.2.2
def zj (N : Nat) (a0 : zH) (a1 : Int) : Option zH :=
 (zq (zj.r0 N) N (a1, 0, a0, (⟨0, 0, 0, 0⟩ : zH))).bind fun y1 => some y1.2.2.1
def zj.k (N : Nat) : Kq := ⟨319, (cvv [Ty.zH] [Ty.zH, T6] (zj N)), go [zau.k N] {} [(0, .plain { slots := [(2, .ptr 2 0), (4, .ptr 4 0), (5, .val T6), (6, .val T6)], boxes := [(2, Ty.zH, []), (4, Ty.zH, [])] } [T6, T6, Ty.zH, Ty.zH] (zq (zj.r0 N) N))] Proofs.Tryz.func319 (hL := ⟨⟨_, _, rfl, by kernel_rfl⟩, trivial⟩)⟩
def zcm (N : Nat) (a0 : Number) (a1 : Int) : Option zH :=
 (zbf (IntKind.wrap .u64 (if (w6 (0 - a0.N)) > a0.N then (w6 (0 - a0.N)) else a0.N))).bind fun r1 =>
  (zj N r1 a1).bind fun r2 => some r2
def zcm.k (N : Nat) : Kq := ⟨317, (cvv [Ty.zH] [Ty.Number, T6] (zcm N)), go [zbf.k, zj.k N] {lits := [12]} [] Proofs.Tryz.func317⟩
def zny (N : Nat) (a0 : Number) : Option zQ :=
 (zcm N a0 0).bind fun r1 => (zbf 1).bind fun r2 => (zj N r2 a0.Scale).bind fun r3 => some (⟨(decide (a0.N < 0)), r1, r3⟩ : zQ)
def zny.k (N : Nat) : Kq := ⟨272, (cvv [Ty.zQ] [Ty.Number] (zny N)), go [zcm.k N, zbf.k, zj.k N] {lits := [8]} [] Proofs.Tryz.func272⟩
def zy.b0 (N : Nat) (s6 : Int) (s8 : Int) (b2 : zH) (b3 : zH) (b4 : zH) (b5 : zH) : Option (Stp (Int × Int × zH × zH × zH × zH)) :=
 cond (decide (s8 < 4))
  (if 0 ≤ s8 then (if s8 < 4 then (if 0 ≤ s8 then (if s8 < 4 then (if s6.toNat > 1 then none else if 0 ≤ s8 then (if s8 < 4 then (some (.again (((((zar [b2.e0, b2.e1, b2.e2, b2.e3] s8.toNat).toNat + (zar [b3.e0, b3.e1, b3.e2, b3.e3] s8.toNat).toNat + s6.toNat) / 2 ^ 64 : Nat) : Int), (w6 (s8 + 1)), b2, b3, b4, (⟨(if s8.toNat = 0 then ((((zar [b2.e0, b2.e1, b2.e2, b2.e3] s8.toNat).toNat + (zar [b3.e0, b3.e1, b3.e2, b3.e3] s8.toNat).toNat + s6.toNat) % 2 ^ 64 : Nat) : Int) else b5.e0), (if s8.toNat = 1 then ((((zar [b2.e0, b2.e1, b2.e2, b2.e3] s8.toNat).toNat + (zar [b3.e0, b3.e1, b3.e2, b3.e3] s8.toNat).toNat + s6.toNat) % 2 ^ 64 : Nat) : Int) else b5.e1), (if s8.toNat = 2 then ((((zar [b2.e0, b2.e1, b2.e2, b2.e3] s8.toNat).toNat + (zar [b3.e0, b3.e1, b3.e2, b3.e3] s8.toNat).toNat + s6.toNat) % 2 ^ 64 : Nat) : Int) else b5.e2), (if s8.toNat = 3 then ((((zar [b2.e0, b2.e1, b2.e2, b2.e3] s8.toNat).toNat + (zar [b3.e0, b3.e1, b3.e2, b3.e3] s8.toNat).toNat + s6.toNat) % 2 ^ 64 : Nat) : Int) else b5.e3)⟩ : zH)))) else none) else none) else none) else none) else none) else none)
  (some (.leave (s6, s8, b2, b3, b4, b5)))
def zy.r0 (N : Nat) (x : Int × Int × zH × zH × zH × zH) := zy.b0 N x.1 x.2.1 x.2.2.1 x.2.2.2.1 x.2.2.2.2.1 x.2.2.2.2.2
def zy (N : Nat) (a0 : zH) (a1 : zH) : Option zH :=
 (zq (zy.r0 N) N (0, 0, a0, a1, (⟨0, 0, 0, 0⟩ : zH), (⟨0, 0, 0, 0⟩ : zH))).bind fun y1 => some y1.2.2.2.2.2
def zy.k (N : Nat) : Kq := ⟨321, (cvv [Ty.zH] [Ty.zH, Ty.zH] (zy N)), go [] {X := [(347, 0)]} [(0, .plain { slots := [(2, .ptr 2 0), (3, .ptr 3 0), (4, .ptr 4 0), (5, .ptr 5 0), (6, .val (Ty.int .u64)), (8, .val T6)], boxes := [(2, Ty.zH, []), (3, Ty.zH, []), (4, Ty.zH, []), (5, Ty.zH, [])] } [(Ty.int .u64), T6, Ty.zH, Ty.zH, Ty.zH, Ty.zH] (zq (zy.r0 N) N))] Proofs.Tryz.func321 (hL := ⟨⟨_, _, rfl, by kernel_rfl⟩, trivial⟩) (hX := all_cons (zaay) (zdg))⟩
def zk.b0 (N : Nat) (s5 : Int) (b2 : zH) (b3 : zH) : Option (Round Int (Int × zH × zH)) :=
 cond (decide (s5 ≥ 0))
  (if 0 ≤ s5 then (if s5 < 4 then (if 0 ≤ s5 then (if s5 < 4 then (cond (decide ((zar [b2.e0, b2.e1, b2.e2, b2.e3] s5.toNat) < (zar [b3.e0, b3.e1, b3.e2, b3.e3] s5.toNat)))
  (some (.result (-1)))
  (if 0 ≤ s5 then (if s5 < 4 then (if 0 ≤ s5 then (if s5 < 4 then (cond (decide ((zar [b2.e0, b2.e1, b2.e2, b2.e3] s5.toNat) > (zar [b3.e0, b3.e1, b3.e2, b3.e3] s5.toNat)))
  (some (.result 1)) (some (.again ((w6 (s5 - 1)), b2, b3)))) else none) else none) else none) else none)) else none) else none) else none) else none)
  (some (.leave (s5, b2, b3)))
def zk.r0 (N : Nat) (x : Int × zH × zH) := zk.b0 N x.1 x.2.1 x.2.2
def zk (N : Nat) (a0 : zH) (a1 : zH) : Option Int :=
 (zn (zk.r0 N) N (3, a0, a1)).bind fun z2 => zb3 z2 (fun z => some z) (fun y1 => some 0)
def zk.k (N : Nat) : Kq := ⟨278, (cvv [T6] [Ty.zH, Ty.zH] (zk N)), go [] {} [(0, .rets { slots := [(2, .ptr 2 0), (3, .ptr 3 0), (5, .val T6)], boxes := [(2, Ty.zH, []), (3, Ty.zH, [])] } [T6, Ty.zH, Ty.zH] (zn (zk.r0 N) N))] Proofs.Tryz.func278 (hL := ⟨⟨_, _, rfl, by kernel_rfl⟩, trivial⟩)⟩
def zx.b0 (N : Nat) (s6 : Int) (s8 : Int) (b2 : zH) (b3 : zH) (b4 : zH) (b5 : zH) : Option (Stp (Int × Int × zH × zH × zH × zH)) :=
 cond (decide (s8 < 4))
  (if 0 ≤ s8 then (if s8 < 4 then (if 0 ≤ s8 then (if s8 < 4 then (if s6.toNat > 1 then none else if 0 ≤ s8 then (if s8 < 4 then (some (.again (((if (zar [b2.e0, b2.e1, b2.e2, b2.e3] s8.toNat).toNat < (zar [b3.e0, b3.e1, b3.e2, b3.e3] s8.toNat).toNat + s6.toNat then 1 else 0 : Nat) : Int), (w6 (s8 + 1)), b2, b3, b4, (⟨(if s8.toNat = 0 then ((((zar [b2.e0, b2.e1, b2.e2, b2.e3] s8.toNat).toNat + 2 ^ 64 - (zar [b3.e0, b3.e1, b3.e2, b3.e3] s8.toNat).toNat - s6.toNat) % 2 ^ 64 : Nat) : Int) else b5.e0), (if s8.toNat = 1 then ((((zar [b2.e0, b2.e1, b2.e2, b2.e3] s8.toNat).toNat + 2 ^ 64 - (zar [b3.e0, b3.e1, b3.e2, b3.e3] s8.toNat).toNat - s6.toNat) % 2 ^ 64 : Nat) : Int) else b5.e1), (if s8.toNat = 2 then ((((zar [b2.e0, b2.e1, b2.e2, b2.e3] s8.toNat).toNat + 2 ^ 64 - (zar [b3.e0, b3.e1, b3.e2, b3.e3] s8.toNat).toNat - s6.toNat) % 2 ^ 64 : Nat) : Int) else b5.e2), (if s8.toNat = 3 then ((((zar [b2.e0, b2.e1, b2.e2, b2.e3] s8.toNat).toNat + 2 ^ 64 - (zar [b3.e0, b3.e1, b3.e2, b3.e3] s8.toNat).toNat - s6.toNat) % 2 ^ 64 : Nat) : Int) else b5.e3)⟩ : zH)))) else none) else none) else none) else none) else none) else none)
  (some (.leave (s6, s8, b2, b3, b4, b5)))
def zx.r0 (N : Nat) (x : Int × Int × zH × zH × zH × zH) := zx.b0 N x.1 x.2.1 x.2.2.1 x.2.2.2.1 x.2.2.2.2.1 x.2.2.2.2.2
def zx (N : Nat) (a0 : zH) (a1 : zH) : Option zH :=
 (zq (zx.r0 N) N (0, 0, a0, a1, (⟨0, 0, 0, 0⟩ : zH), (⟨0, 0, 0, 0⟩ : zH))).bind fun y1 => some y1.2.2.2.2.2
def zx.k (N : Nat) : Kq := ⟨346, (cvv [Ty.zH] [Ty.zH, Ty.zH] (zx N)), go [] {X := [(355, 1)]} [(0, .plain { slots := [(2, .ptr 2 0), (3, .ptr 3 0), (4, .ptr 4 0), (5, .ptr 5 0), (6, .val (Ty.int .u64)), (8, .val T6)], boxes := [(2, Ty.zH, []), (3, Ty.zH, []), (4, Ty.zH, []), (5, Ty.zH, [])] } [(Ty.int .u64), T6, Ty.zH, Ty.zH, Ty.zH, Ty.zH] (zq (zx.r0 N) N))] Proofs.Tryz.func346 (hL := ⟨⟨_, _, rfl, by kernel_rfl⟩, trivial⟩) (hX := all_cons (zafe) (zdg))⟩
def zaw.b0 (N : Nat) (s6 : Int) (b2 : zH) (b3 : zH) (b4 : zH) (b5 : zH) : Option (Stp (Int × zH × zH × zH × zH)) :=
 cond (decide (s6 ≥ 0)) ((zy N b5 b5).bind fun r1001 =>
  if 0 ≤ (w6 (s6.tdiv 64)) then (if (w6 (s6.tdiv 64)) < 4 then (if (s6.tmod 64) < 0 then none else (zk N (⟨(if 0 = 0 then (orI .u64 (zar [r1001.e0, r1001.e1, r1001.e2, r1001.e3] 0)
  (zh .u64 (((zar [b2.e0, b2.e1, b2.e2, b2.e3] ((w6 (s6.tdiv 64)).toNat)) : Int).fdiv (2 ^ (min (s6.tmod 64).toNat 64))) 1)) else r1001.e0), (if 0 = 1 then (orI .u64 (zar [r1001.e0, r1001.e1, r1001.e2, r1001.e3] 0)
  (zh .u64 (((zar [b2.e0, b2.e1, b2.e2, b2.e3] ((w6 (s6.tdiv 64)).toNat)) : Int).fdiv (2 ^ (min (s6.tmod 64).toNat 64))) 1)) else r1001.e1), (if 0 = 2 then (orI .u64 (zar [r1001.e0, r1001.e1, r1001.e2, r1001.e3] 0)
  (zh .u64 (((zar [b2.e0, b2.e1, b2.e2, b2.e3] ((w6 (s6.tdiv 64)).toNat)) : Int).fdiv (2 ^ (min (s6.tmod 64).toNat 64))) 1)) else r1001.e2), (if 0 = 3 then (orI .u64 (zar [r1001.e0, r1001.e1, r1001.e2, r1001.e3] 0)
  (zh .u64 (((zar [b2.e0, b2.e1, b2.e2, b2.e3] ((w6 (s6.tdiv 64)).toNat)) : Int).fdiv (2 ^ (min (s6.tmod 64).toNat 64))) 1)) else r1001.e3)⟩ : zH) b3).bind fun r1002 =>
  cond (decide (r1002 ≥ 0)) ((zx N (⟨(if 0 = 0 then (orI .u64 (zar [r1001.e0, r1001.e1, r1001.e2, r1001.e3] 0)
  (zh .u64 (((zar [b2.e0, b2.e1, b2.e2, b2.e3] ((w6 (s6.tdiv 64)).toNat)) : Int).fdiv (2 ^ (min (s6.tmod 64).toNat 64))) 1)) else r1001.e0), (if 0 = 1 then (orI .u64 (zar [r1001.e0, r1001.e1, r1001.e2, r1001.e3] 0)
  (zh .u64 (((zar [b2.e0, b2.e1, b2.e2, b2.e3] ((w6 (s6.tdiv 64)).toNat)) : Int).fdiv (2 ^ (min (s6.tmod 64).toNat 64))) 1)) else r1001.e1), (if 0 = 2 then (orI .u64 (zar [r1001.e0, r1001.e1, r1001.e2, r1001.e3] 0)
  (zh .u64 (((zar [b2.e0, b2.e1, b2.e2, b2.e3] ((w6 (s6.tdiv 64)).toNat)) : Int).fdiv (2 ^ (min (s6.tmod 64).toNat 64))) 1)) else r1001.e2), (if 0 = 3 then (orI .u64 (zar [r1001.e0, r1001.e1, r1001.e2, r1001.e3] 0)
  (zh .u64 (((zar [b2.e0, b2.e1, b2.e2, b2.e3] ((w6 (s6.tdiv 64)).toNat)) : Int).fdiv (2 ^ (min (s6.tmod 64).toNat 64))) 1)) else r1001.e3)⟩ : zH) b3).bind fun r1003 =>
  if 0 ≤ (w6 (s6.tdiv 64)) then (if (w6 (s6.tdiv 64)) < 4 then (if (s6.tmod 64) < 0 then none else if 0 ≤ (w6 (s6.tdiv 64)) then (if (w6 (s6.tdiv 64)) < 4 then (some (.again ((w6 (s6 - 1)), b2, b3, (⟨(if (w6 (s6.tdiv 64)).toNat = 0 then (orI .u64 (zar [b4.e0, b4.e1, b4.e2, b4.e3] ((w6 (s6.tdiv 64)).toNat))
  (IntKind.wrap .u64 (1 * 2 ^ (min (s6.tmod 64).toNat 64)))) else b4.e0), (if (w6 (s6.tdiv 64)).toNat = 1 then (orI .u64 (zar [b4.e0, b4.e1, b4.e2, b4.e3] ((w6 (s6.tdiv 64)).toNat))
  (IntKind.wrap .u64 (1 * 2 ^ (min (s6.tmod 64).toNat 64)))) else b4.e1), (if (w6 (s6.tdiv 64)).toNat = 2 then (orI .u64 (zar [b4.e0, b4.e1, b4.e2, b4.e3] ((w6 (s6.tdiv 64)).toNat))
  (IntKind.wrap .u64 (1 * 2 ^ (min (s6.tmod 64).toNat 64)))) else b4.e2), (if (w6 (s6.tdiv 64)).toNat = 3 then (orI .u64 (zar [b4.e0, b4.e1, b4.e2, b4.e3] ((w6 (s6.tdiv 64)).toNat))
  (IntKind.wrap .u64 (1 * 2 ^ (min (s6.tmod 64).toNat 64)))) else b4.e3)⟩ : zH), r1003))) else none) else none) else none) else none)
  (some (.again ((w6 (s6 - 1)), b2, b3, b4, (⟨(if 0 = 0 then (orI .u64 (zar [r1001.e0, r1001.e1, r1001.e2, r1001.e3] 0)
  (zh .u64 (((zar [b2.e0, b2.e1, b2.e2, b2.e3] ((w6 (s6.tdiv 64)).toNat)) : Int).fdiv (2 ^ (min (s6.tmod 64).toNat 64))) 1)) else r1001.e0), (if 0 = 1 then (orI .u64 (zar [r1001.e0, r1001.e1, r1001.e2, r1001.e3] 0)
  (zh .u64 (((zar [b2.e0, b2.e1, b2.e2, b2.e3] ((w6 (s6.tdiv 64)).toNat)) : Int).fdiv (2 ^ (min (s6.tmod 64).toNat 64))) 1)) else r1001.e1), (if 0 = 2 then (orI .u64 (zar [r1001.e0, r1001.e1, r1001.e2, r1001.e3] 0)
  (zh .u64 (((zar [b2.e0, b2.e1, b2.e2, b2.e3] ((w6 (s6.tdiv 64)).toNat)) : Int).fdiv (2 ^ (min (s6.tmod 64).toNat 64))) 1)) else r1001.e2), (if 0 = 3 then (orI .u64 (zar [r1001.e0, r1001.e1, r1001.e2, r1001.e3] 0)
  (zh .u64 (((zar [b2.e0, b2.e1, b2.e2, b2.e3] ((w6 (s6.tdiv 64)).toNat)) : Int).fdiv (2 ^ (min (s6.tmod 64).toNat 64))) 1)) else r1001.e3)⟩ : zH))))) else none) else none)
  (some (.leave (s6, b2, b3, b4, b5)))
def zaw.r0 (N : Nat) (x : Int × zH × zH × zH × zH) := zaw.b0 N x.1 x.2.1 x.2.2.1 x.2.2.2.1 x.2.2.2.2
def zaw (N : Nat) (a0 : zH) (a1 : zH) : Option (zH × zH) :=
 (zq (zaw.r0 N) N (255, a0, a1, (⟨0, 0, 0, 0⟩ : zH), (⟨0, 0, 0, 0⟩ : zH))).bind fun y1 => some (y1.2.2.2.1, y1.2.2.2.2)
def zaw.k (N : Nat) : Kq := ⟨320, (cvv [Ty.zH, Ty.zH] [Ty.zH, Ty.zH] (zaw N)), go [zk.k N, zy.k N, zx.k N] {} [(0, .plain { slots := [(2, .ptr 2 0), (3, .ptr 3 0), (4, .ptr 4 0), (5, .ptr 5 0), (6, .val T6)], boxes := [(2, Ty.zH, []), (3, Ty.zH, []), (4, Ty.zH, []), (5, Ty.zH, [])] } [T6, Ty.zH, Ty.zH, Ty.zH, Ty.zH] (zq (zaw.r0 N) N))] Proofs.Tryz.func320 (hL := ⟨⟨_, _, rfl, by kernel_rfl⟩, trivial⟩)⟩
def zdr (N : Nat) (a0 : zQ) (a1 : DataType) (a2 : Bool) : Option (Value × Int) :=
 (zj N a0.amount a1.Scale).bind fun r1 => (zaw N r1 a0.division).bind fun r2 => (cond a2 ((zy N r2.2 r2.2).bind fun r3 =>
  (zk N r3 a0.division).bind fun r4 => some (decide (r4 ≥ 0))) (some false)).bind fun g5 => cond g5 ((zbf 1).bind fun r6 =>
  (zy N r2.1 r6).bind fun r7 => (zbf 1).bind fun r8 => (zj N r8 a1.Length).bind fun r9 => (zk N r7 r9).bind fun r10 =>
  cond (decide (r10 ≥ 0)) (some ((⟨0, (⟨#[]⟩ : ByteArray)⟩ : Value), 19))
  (cond a0.below (some ((⟨(w6 (0 - (w6 (zar [r7.e0, r7.e1, r7.e2, r7.e3] 0)))), (⟨#[]⟩ : ByteArray)⟩ : Value), 0))
  (some ((⟨(w6 (zar [r7.e0, r7.e1, r7.e2, r7.e3] 0)), (⟨#[]⟩ : ByteArray)⟩ : Value), 0)))) ((zbf 1).bind fun r11 =>
  (zj N r11 a1.Length).bind fun r12 => (zk N r2.1 r12).bind fun r13 => cond (decide (r13 ≥ 0)) (some ((⟨0, (⟨#[]⟩ : ByteArray)⟩ : Value), 19))
  (cond a0.below (some ((⟨(w6 (0 - (w6 (zar [r2.1.e0, r2.1.e1, r2.1.e2, r2.1.e3] 0)))), (⟨#[]⟩ : ByteArray)⟩ : Value), 0))
  (some ((⟨(w6 (zar [r2.1.e0, r2.1.e1, r2.1.e2, r2.1.e3] 0)), (⟨#[]⟩ : ByteArray)⟩ : Value), 0))))
def zdr.k (N : Nat) : Kq := ⟨273, (cvv [Ty.Value, T6] [Ty.zQ, Ty.DataType, Ty.bool] (zdr N)), go [zk.k N, zbf.k, zj.k N, zaw.k N, zy.k N] {lits := [16, 26, 33, 36, 39]} [] Proofs.Tryz.func273⟩
def zg2 (N : Nat) (a0 : Number) (a1 : DataType) (a2 : Bool) : Option (Value × Int) :=
 (zan a0).bind fun r1 => (za9 N a1).bind fun r2 => (zez a1).bind fun r3 => (zaq (!r3) 17).bind fun r4 =>
  (zp N ([r1, r2, r4] : List Int)).bind fun r5 => cond (r5 != 0) (some ((⟨0, (⟨#[]⟩ : ByteArray)⟩ : Value), r5)) ((zny N a0).bind fun r6 =>
  (zdr N r6 a1 a2).bind fun r7 => some (r7.1, r7.2))
def zg2.k (N : Nat) : Kq := ⟨208, (cvv [Ty.Value, T6] [Ty.Number, Ty.DataType, Ty.bool] (zg2 N)), go [zan.k, zaq.k, za9.k N, zp.k N, zez.k, zny.k N, zdr.k N] {lits := [10, 12, 16, 17, 24]} [] Proofs.Tryz.func208⟩
def zb6.b0 (N : Nat) (s0 : Int) (s5 : List Int) (s6 : Int) : Option (Stp (Int × (List Int) × Int)) :=
 cond (decide (s6 ≥ 0)) (if 0 ≤ s6 then (if s6 < (s5.length : Int) then ((s5[s6.toNat]?).bind fun x1001 =>
  some (.again ((w6 (s0.tdiv 10)), (s5.set s6.toNat (IntKind.wrap .u8 (s0.tmod 10))), (w6 (s6 - 1))))) else none) else none)
  (some (.leave (s0, s5, s6)))
def zb6.r0 (N : Nat) (x : Int × (List Int) × Int) := zb6.b0 N x.1 x.2.1 x.2.2
def zb6 (N : Nat) (a0 : Int) (a1 : Int) : Option ((List Int)) :=
 if 0 ≤ a1 then (if a1 ≤ a1 then (cond (Nat.ble (a1.toNat * 1) zac)
  ((zq (zb6.r0 N) N (a0, (List.replicate a1.toNat (0 : Int)), (w6 (a1 - 1)))).bind fun y1 => some y1.2.1) none) else none) else none
def zb6.k (N : Nat) : Kq := ⟨322, (ctv [.val T6, .val T6] [(Ty.sl (Ty.int .u8))] [] [0] [T6, T6] (zb6 N)), go [] {} [(0, .plain { slots := [(0, .val T6), (5, .own 5000005 (Ty.int .u8)), (6, .val T6)], boxes := [] } [T6, (Ty.sl (Ty.int .u8)), T6] (zq (zb6.r0 N) N))] Proofs.Tryz.func322 (hL := ⟨⟨_, _, rfl, by kernel_rfl⟩, trivial⟩)⟩
def zbg.b0 (N : Nat) (s0 : List Int) (s3 : List Int) (s4 : Int) : Option (Stp ((List Int) × (List Int) × Int)) :=
 cond (decide (s4 < (s0.length : Int))) ((idx s0 s4).bind fun x1001 => (idx s0 (w6 (s4 + 1))).bind fun x1002 =>
  cond (Nat.ble ((s3.length + ([(orI .u8 (IntKind.wrap .u8 (x1001 * 2 ^ (min (4 : Int).toNat 8))) x1002)] : List Int).length) * 1) zac)
  (some (.again (s0, (s3 ++ ([(orI .u8 (IntKind.wrap .u8 (x1001 * 2 ^ (min (4 : Int).toNat 8))) x1002)] : List Int)), (w6 (s4 + 2))))) none)
  (some (.leave (s0, s3, s4)))
def zbg.r0 (N : Nat) (x : (List Int) × (List Int) × Int) := zbg.b0 N x.1 x.2.1 x.2.2
def zbg (N : Nat) (a0 : List Int) : Option ByteArray :=
 (zq (zbg.r0 N) N (a0, [], 0)).bind fun y1 => some (zc2 y1.2.1)
def zbg.k (N : Nat) : Kq := ⟨323, (cvv [Ty.str] [(Ty.sl (Ty.int .u8))] (zbg N)), go [] {lits := [23]} [(0, .plain { slots := [(0, .val (Ty.sl (Ty.int .u8))), (3, .own 5000003 (Ty.int .u8)), (4, .val T6)], boxes := [] } [(Ty.sl (Ty.int .u8)), (Ty.sl (Ty.int .u8)), T6] (zq (zbg.r0 N) N))] Proofs.Tryz.func323 (hL := ⟨⟨_, _, rfl, by kernel_rfl⟩, trivial⟩)⟩
def zag.b1 (N : Nat) (s5 : List Int) (s25 : Int) (s26 : Int) (b3 : Value) : Option (Stp ((List Int) × Int × Int × Value)) :=
 cond (decide (s26 < s25)) (if 0 ≤ s26 then (if s26 < (s5.length : Int) then ((s5[s26.toNat]?).bind fun x2001 =>
  if 0 ≤ s26 then (if s26 < (s5.length : Int) then ((s5[s26.toNat]?).bind fun x2002 =>
  some (.again ((s5.set s26.toNat (IntKind.wrap .u8 (x2001 + 240))), s25, (w6 (s26 + 1)), b3))) else none) else none) else none) else none)
  (some (.leave (s5, s25, s26, b3)))
def zag.r1 (N : Nat) (x : (List Int) × Int × Int × Value) := zag.b1 N x.1 x.2.1 x.2.2.1 x.2.2.2
def zag.b3 (N : Nat) (s8 : List Int) (s9 : Int) (s10 : Int) : Option (Stp ((List Int) × Int × Int)) :=
 cond (decide (s9 ≥ 0)) (if 0 ≤ s9 then (if s9 < (s8.length : Int) then ((s8[s9.toNat]?).bind fun x4001 =>
  some (.again ((s8.set s9.toNat (IntKind.wrap .u8 s10)), (w6 (s9 - 1)), (s10.fdiv (2 ^ (min (8 : Int).toNat 64)))))) else none) else none)
  (some (.leave (s8, s9, s10)))
def zag.r3 (N : Nat) (x : (List Int) × Int × Int) := zag.b3 N x.1 x.2.1 x.2.2
def zag (N : Nat) (a0 : DataType) (a1 : Value) : Option ByteArray :=
 (zb6 N (if (w6 (0 - a1.N)) > a1.N then (w6 (0 - a1.N)) else a1.N) a0.Length).bind fun r1 => cond (a0.Kind == 2)
  ((zq (zag.r1 N) N (r1, (r1.length : Int), 0, a1)).bind fun y2 => cond (decide (y2.2.2.2.N < 0))
  (if 0 ≤ (w6 ((y2.1.length : Int) - 1)) then (if (w6 ((y2.1.length : Int) - 1)) < (y2.1.length : Int) then ((y2.1[(w6 ((y2.1.length : Int) - 1)).toNat]?).bind fun x3 =>
  if 0 ≤ (w6 ((y2.1.length : Int) - 1)) then (if (w6 ((y2.1.length : Int) - 1)) < (y2.1.length : Int) then ((y2.1[(w6 ((y2.1.length : Int) - 1)).toNat]?).bind fun x4 =>
  some (zc2 (y2.1.set ((w6 ((y2.1.length : Int) - 1)).toNat) (IntKind.wrap .u8 (x3 - 32))))) else none) else none) else none) else none) (some (zc2 y2.1)))
  (cond (a0.Kind == 1) (cond (decide (a1.N < 0)) (cond (((r1.length : Int).tmod 2) == 0) (cond (Nat.ble ((([0] : List Int).length + r1.length) * 1) zac)
  (cond (Nat.ble (((([0] : List Int) ++ r1).length + ([13] : List Int).length) * 1) zac) ((zbg N ((([0] : List Int) ++ r1) ++ ([13] : List Int))).bind fun r5 =>
  some r5) none) none) (cond (Nat.ble ((r1.length + ([13] : List Int).length) * 1) zac) ((zbg N (r1 ++ ([13] : List Int))).bind fun r6 => some r6) none))
  (cond (((r1.length : Int).tmod 2) == 0) (cond (Nat.ble ((([0] : List Int).length + r1.length) * 1) zac)
  (cond (Nat.ble (((([0] : List Int) ++ r1).length + ([15] : List Int).length) * 1) zac) ((zbg N ((([0] : List Int) ++ r1) ++ ([15] : List Int))).bind fun r7 =>
  some r7) none) none) (cond (Nat.ble ((r1.length + ([15] : List Int).length) * 1) zac) ((zbg N (r1 ++ ([15] : List Int))).bind fun r8 => some r8) none)))
  (cond (a0.Kind == 3) ((zf6 a0).bind fun r9 => if 0 ≤ r9 then (if r9 ≤ r9 then (cond (Nat.ble (r9.toNat * 1) zac)
  ((zq (zag.r3 N) N ((List.replicate r9.toNat (0 : Int)), (w6 (((List.replicate r9.toNat (0 : Int)).length : Int) - 1)), a1.N)).bind fun y10 =>
  some (zc2 y10.1)) none) else none) else none) (some a1.S)))
def zag.k (N : Nat) : Kq := ⟨274, (cvv [Ty.str] [Ty.DataType, Ty.Value] (zag N)), go [zf6.k, zb6.k N, zbg.k N] {lits := [16, 63, 64]} [(1, .plain { slots := [(3, .ptr 3 0), (5, .own 5000005 (Ty.int .u8)), (25, .val T6), (26, .val T6)], boxes := [(3, Ty.Value, [])] } [(Ty.sl (Ty.int .u8)), T6, T6, Ty.Value] (zq (zag.r1 N) N)), (3, .plain { slots := [(8, .own 5000008 (Ty.int .u8)), (9, .val T6), (10, .val T6)], boxes := [] } [(Ty.sl (Ty.int .u8)), T6, T6] (zq (zag.r3 N) N))] Proofs.Tryz.func274 (hL := ⟨⟨_, _, rfl, by kernel_rfl⟩, ⟨_, _, rfl, by kernel_rfl⟩, trivial⟩)⟩
def ziv (N : Nat) (a0 : DataType) (a1 : Value) : Option (ByteArray × Int) :=
 (zds N a0 a1).bind fun r1 => cond (r1 != 0) (some ((⟨#[]⟩ : ByteArray), r1)) ((zag N a0 a1).bind fun r2 => some (r2, 0))
def ziv.k (N : Nat) : Kq := ⟨209, (cvv [Ty.str, T6] [Ty.DataType, Ty.Value] (ziv N)), go [zds.k N, zag.k N] {} [] Proofs.Tryz.func209⟩
def zkw (N : Nat) (a0 : Storage) (a1 : Int) (a2 : Int) : Option Int :=
 (zo N a0).bind fun r1 => cond (r1.2 != 0) (some r1.2) ((cond (decide (a1 < 0)) (some true) (some (decide (a2 < 0)))).bind fun g2 => (cond g2 (some true)
  (some (decide (a1 > (a0.Bytes.size : Int))))).bind fun g3 => (cond g3 (some true) (some (decide (a2 > (w6 ((a0.Bytes.size : Int) - a1)))))).bind fun g4 =>
  cond g4 (some 3) (some 0))
def zkw.k (N : Nat) : Kq := ⟨284, (cvv [T6] [Ty.Storage, T6, T6] (zkw N)), go [zo.k N] {} [] Proofs.Tryz.func284⟩
def zji (a0 : Storage) (a1 : Int) (a2 : ByteArray) : Option Storage :=
 if 0 ≤ a1 ∧ a1 ≤ (a0.Bytes.size : Int) then (if 0 ≤ (0 : Int) ∧ (0 : Int) ≤ a1 then (if (((a0.Bytes.extract (0 : Int).toNat a1.toNat).size + a2.size : Nat) : Int) > IntKind.i64.max then none else if 0 ≤ (w6 (a1 + (a2.size : Int))) ∧ (w6 (a1 + (a2.size : Int))) ≤ (a0.Bytes.size : Int) then (if ((((a0.Bytes.extract (0 : Int).toNat a1.toNat) ++ a2).size + (a0.Bytes.extract (w6 (a1 + (a2.size : Int))).toNat a0.Bytes.size).size : Nat) : Int) > IntKind.i64.max then none else (zdi 1 a0.Tags).bind fun r1 =>
  cond (!(a2.toList == (⟨#[]⟩ : ByteArray).toList))
  (if 0 ≤ (w6 ((w6 ((w6 ((w6 (a1 + (a2.size : Int))) - 1)).tdiv 16)) + 1)) ∧ (w6 ((w6 ((w6 ((w6 (a1 + (a2.size : Int))) - 1)).tdiv 16)) + 1)) ≤ (r1.length : Int) then (if 0 ≤ (w6 (a1.tdiv 16)) ∧ (w6 (a1.tdiv 16)) ≤ (w6 ((w6 ((w6 ((w6 (a1 + (a2.size : Int))) - 1)).tdiv 16)) + 1)) then (some (⟨(((a0.Bytes.extract (0 : Int).toNat a1.toNat) ++ a2) ++ (a0.Bytes.extract (w6 (a1 + (a2.size : Int))).toNat a0.Bytes.size)), (r1.take ((w6 (a1.tdiv 16)).toNat) ++ List.replicate ((w6 ((w6 ((w6 ((w6 (a1 + (a2.size : Int))) - 1)).tdiv 16)) + 1)).toNat - (w6 (a1.tdiv 16)).toNat)
  (false : Bool) ++ r1.drop ((w6 (a1.tdiv 16)).toNat + ((w6 ((w6 ((w6 ((w6 (a1 + (a2.size : Int))) - 1)).tdiv 16)) + 1)).toNat - (w6 (a1.tdiv 16)).toNat)))⟩ : Storage)) else none) else none)
  (some (⟨(((a0.Bytes.extract (0 : Int).toNat a1.toNat) ++ a2) ++ (a0.Bytes.extract (w6 (a1 + (a2.size : Int))).toNat a0.Bytes.size)), r1⟩ : Storage))) else none) else none) else none
def zji.k : Kq := ⟨281, (ctv [.val Ty.Storage, .val T6, .val Ty.str] [Ty.Storage] [] [1] [Ty.Storage, T6, Ty.str] zji), go [x76.k] {} [] Proofs.Tryz.func281⟩
def zg0 (N : Nat) (a0 : Storage) (a1 : Int) (a2 : ByteArray) : Option (Storage × Int) :=
 (zkw N a0 a1 (a2.size : Int)).bind fun r1 => cond (r1 != 0) (some ((⟨(⟨#[]⟩ : ByteArray), []⟩ : Storage), r1)) ((zji a0 a1 a2).bind fun r2 => some (r2, 0))
def zg0.k (N : Nat) : Kq := ⟨228, (cvv [Ty.Storage, T6] [Ty.Storage, T6, Ty.str] (zg0 N)), go [zji.k, zkw.k N] {lits := [12]} [] Proofs.Tryz.func228⟩
def za6 (N : Nat) (a0 : zC) (a1 : zO) (a2 : ByteArray) : Option zC :=
 (za4 N a0 a1 (a2.size : Int)).bind fun r1 => cond r1.2.1 ((zg0 N r1.2.2.zA.Storage r1.1 a2).bind fun r2 =>
  some (⟨(⟨r1.2.2.zA.Registers, r1.2.2.zA.Condition, r2.1, r1.2.2.zA.At, r1.2.2.zA.Stack, r1.2.2.zA.Lines, r1.2.2.zA.Status, r1.2.2.zA.Exception, r1.2.2.zA.Marks, r1.2.2.zA.Steps⟩ : zA), r1.2.2.code, r1.2.2.raised⟩ : zC))
  (some r1.2.2)
def za6.k (N : Nat) : Kq := ⟨210, (ctv [.ptr Ty.zC true [], .val Ty.zO, .val Ty.str] [] [Ty.zC] [] [Ty.zC, Ty.zO, Ty.str] (za6 N)), go [za4.k N, zg0.k N] {lits := [12], pk := [1000000]} [] Proofs.Tryz.func210⟩
def zex (N : Nat) (a0 : zC) (a1 : zB) : Option zC :=
 (idx a0.zA.Registers a1.R).bind fun x1 => (zg2 N x1 a1.zG a1.Half).bind fun r2 => (zf a0 (r2.2 != 0) 2).bind fun r3 =>
  cond r3.1 ((ziv N a1.zG r2.1).bind fun r4 => (za6 N r3.2 a1.Place r4.1).bind fun r5 => some r5) (some r3.2)
def zex.k (N : Nat) : Kq := ⟨148, (ctv [.ptr Ty.zC true [], .val Ty.zB] [] [Ty.zC] [] [Ty.zC, Ty.zB] (zex N)), go [zf.k, zg2.k N, ziv.k N, za6.k N] {pk := [1000000]} [] Proofs.Tryz.func148⟩
def zlu (a0 : Int) : Option Bool :=
 (zd3 a0 0 4).bind fun r1 => some r1
def zlu.k : Kq := ⟨275, (cvv [Ty.bool] [T6] zlu), go [zd3.k] {} [] Proofs.Tryz.func275⟩
def zjm (a0 : Int) : Option Bool :=
 (cond (a0 == 3) (some true) (some (a0 == 4))).bind fun g1 => some g1
def zjm.k : Kq := ⟨324, (cvv [Ty.bool] [T6] zjm), go [] {} [] Proofs.Tryz.func324⟩
def zd8 (N : Nat) (a0 : Number) (a1 : Number) : Option (zH × zH × Int) :=
 (zcm N a0 (w6 ((if a1.Scale > a0.Scale then a1.Scale else a0.Scale) - a0.Scale))).bind fun r1 =>
  (zcm N a1 (w6 ((if a1.Scale > a0.Scale then a1.Scale else a0.Scale) - a1.Scale))).bind fun r2 =>
  some (r1, r2, (if a1.Scale > a0.Scale then a1.Scale else a0.Scale))
def zd8.k (N : Nat) : Kq := ⟨277, (cvv [Ty.zH, Ty.zH, T6] [Ty.Number, Ty.Number] (zd8 N)), go [zcm.k N] {} [] Proofs.Tryz.func277⟩
def zjw (N : Nat) (a0 : Number) (a1 : Number) : Option zQ :=
 (zd8 N a0 a1).bind fun r1 => (zy N r1.1 r1.2.1).bind fun r2 => (zbf 1).bind fun r3 => (zj N r3 r1.2.2).bind fun r4 =>
  cond (!((decide (a0.N < 0)) == (decide (a1.N < 0)))) ((zx N r1.1 r1.2.1).bind fun r5 => (zk N r1.1 r1.2.1).bind fun r6 => cond (decide (r6 < 0))
  ((zx N r1.2.1 r1.1).bind fun r7 => some (⟨(decide (a1.N < 0)), r7, r4⟩ : zQ)) (some (⟨(decide (a0.N < 0)), r5, r4⟩ : zQ)))
  (some (⟨(decide (a0.N < 0)), r2, r4⟩ : zQ))
def zjw.k (N : Nat) : Kq := ⟨348, (cvv [Ty.zQ] [Ty.Number, Ty.Number] (zjw N)), go [zd8.k N, zk.k N, zbf.k, zj.k N, zy.k N, zx.k N] {lits := [22]} [] Proofs.Tryz.func348⟩
def zka (N : Nat) (a0 : Int) (a1 : Number) (a2 : Number) : Option zQ :=
 cond (a0 == 0) ((zjw N a1 a2).bind fun r1 => some r1) (cond (a0 == 1) ((zjw N a1 (⟨(w6 (0 - a2.N)), a2.Scale⟩ : Number)).bind fun r2 => some r2)
  (cond (a0 == 2) ((zcm N a1 0).bind fun r3 =>
  (zau N r3 (IntKind.wrap .u64 (if (w6 (0 - a2.N)) > a2.N then (w6 (0 - a2.N)) else a2.N))).bind fun r4 =>
  (zbf 1).bind fun r5 => (zj N r5 (w6 (a1.Scale + a2.Scale))).bind fun r6 =>
  some (⟨(!((decide (a1.N < 0)) == (decide (a2.N < 0)))), r4, r6⟩ : zQ)) (cond (a0 == 3) ((zcm N a1 a2.Scale).bind fun r7 =>
  (zcm N a2 a1.Scale).bind fun r8 => some (⟨(!((decide (a1.N < 0)) == (decide (a2.N < 0)))), r7, r8⟩ : zQ)) ((zd8 N a1 a2).bind fun r9 =>
  (zaw N r9.1 r9.2.1).bind fun r10 => (zbf 1).bind fun r11 => (zj N r11 r9.2.2).bind fun r12 =>
  some (⟨(decide (a1.N < 0)), r10.2, r12⟩ : zQ)))))
def zka.k (N : Nat) : Kq := ⟨325, (cvv [Ty.zQ] [T6, Ty.Number, Ty.Number] (zka N)), go [zd8.k N, zcm.k N, zbf.k, zj.k N, zaw.k N, zau.k N, zjw.k N] {lits := [40, 49, 86]} [] Proofs.Tryz.func325⟩
def zhw (N : Nat) (a0 : Int) (a1 : Number) (a2 : Number) (a3 : DataType) (a4 : Bool) : Option (Value × Int) :=
 (zjm a0).bind fun r1 => (cond r1 (some (a2.N == 0)) (some false)).bind fun g2 => cond g2 (some ((⟨0, (⟨#[]⟩ : ByteArray)⟩ : Value), 20))
  ((zka N a0 a1 a2).bind fun r3 => (zdr N r3 a3 a4).bind fun r4 => some (r4.1, r4.2))
def zhw.k (N : Nat) : Kq := ⟨276, (cvv [Ty.Value, T6] [T6, Ty.Number, Ty.Number, Ty.DataType, Ty.bool] (zhw N)), go [zdr.k N, zjm.k, zka.k N] {lits := [23]} [] Proofs.Tryz.func276⟩
def zci (N : Nat) (a0 : Int) (a1 : Number) (a2 : Number) (a3 : DataType) (a4 : Bool) : Option (Value × Int) :=
 (zlu a0).bind fun r1 => (zaq (!r1) 4).bind fun r2 => (zan a1).bind fun r3 => (zan a2).bind fun r4 =>
  (za9 N a3).bind fun r5 => (zez a3).bind fun r6 => (zaq (!r6) 17).bind fun r7 =>
  (zp N ([r2, r3, r4, r5, r7] : List Int)).bind fun r8 => cond (r8 != 0) (some ((⟨0, (⟨#[]⟩ : ByteArray)⟩ : Value), r8))
  ((zhw N a0 a1 a2 a3 a4).bind fun r9 => some (r9.1, r9.2))
def zci.k (N : Nat) : Kq := ⟨211, (cvv [Ty.Value, T6] [T6, Ty.Number, Ty.Number, Ty.DataType, Ty.bool] (zci N)), go [zan.k, zaq.k, za9.k N, zp.k N, zez.k, zlu.k, zhw.k N] {lits := [16, 18, 20, 22, 26, 27]} [] Proofs.Tryz.func211⟩
def zgg (N : Nat) (a0 : zC) (a1 : zB) : Option zC :=
 cond a1.zM ((zbj N a0 a1.Place a1.Second).bind fun r1 => cond (!r1.2.1) (some r1.2.2) ((idx r1.2.2.zA.Registers a1.A).bind fun x2 =>
  (zci N a1.zK x2 r1.1 a1.zG false).bind fun r3 => (zf r1.2.2 (r3.2 == 20) 3).bind fun r4 =>
  cond r4.1 ((zf r4.2 (r3.2 != 0) 2).bind fun r5 => cond r5.1 ((zab r5.2 a1.R (⟨r3.1.N, a1.zG.Scale⟩ : Number)).bind fun r6 => some r6)
  (some r5.2)) (some r4.2))) ((idx a0.zA.Registers a1.B).bind fun x7 => (idx a0.zA.Registers a1.A).bind fun x8 =>
  (zci N a1.zK x8 x7 a1.zG false).bind fun r9 => (zf a0 (r9.2 == 20) 3).bind fun r10 =>
  cond r10.1 ((zf r10.2 (r9.2 != 0) 2).bind fun r11 => cond r11.1 ((zab r11.2 a1.R (⟨r9.1.N, a1.zG.Scale⟩ : Number)).bind fun r12 =>
  some r12) (some r11.2)) (some r10.2))
def zgg.k (N : Nat) : Kq := ⟨149, (ctv [.ptr Ty.zC true [], .val Ty.zB] [] [Ty.zC] [] [Ty.zC, Ty.zB] (zgg N)), go [zbj.k N, zab.k, zf.k, zci.k N] {pk := [1000000]} [] Proofs.Tryz.func149⟩
def zhh (N : Nat) (a0 : Number) (a1 : Number) : Option (Int × Int) :=
 (zan a0).bind fun r1 => (zan a1).bind fun r2 => (zp N ([r1, r2] : List Int)).bind fun r3 => cond (r3 != 0) (some (0, r3))
  ((zd8 N a0 a1).bind fun r4 => (cond (decide (a0.N < 0)) (some (decide (a1.N < 0))) (some false)).bind fun g5 =>
  cond g5 ((zk N r4.2.1 r4.1).bind fun r6 => some (r6, 0)) (cond (decide (a0.N < 0)) (some ((-1), 0)) (cond (decide (a1.N < 0)) (some (1, 0))
  ((zk N r4.1 r4.2.1).bind fun r7 => some (r7, 0)))))
def zhh.k (N : Nat) : Kq := ⟨212, (cvv [T6, T6] [Ty.Number, Ty.Number] (zhh N)), go [zan.k, zp.k N, zd8.k N, zk.k N] {lits := [11, 13, 14]} [] Proofs.Tryz.func212⟩
def zee (a0 : Int) : Option Int :=
 cond (decide (a0 < 0)) (some 1) (cond (decide (a0 > 0)) (some 4) (some 2))
def zee.k : Kq := ⟨213, (cvv [T6] [T6] zee), go [] {} [] Proofs.Tryz.func213⟩
def zav (N : Nat) (a0 : zC) (a1 : zB) : Option Int :=
 (idx a0.zA.Registers a1.A).bind fun x1 => (idx a0.zA.Registers a1.B).bind fun x2 => (zhh N x1 x2).bind fun r3 => (zee r3.1).bind fun r4 =>
  some r4
def zav.k (N : Nat) : Kq := ⟨150, (ctv [.ptr Ty.zC false [], .val Ty.zB] [T6] [] [] [Ty.zC, Ty.zB] (zav N)), go [zhh.k N, zee.k] {ro := [1000000], pk := [1000000]} [] Proofs.Tryz.func150⟩
def zxh : Ct U := { params := [.val Ty.str, .val T6], results := [Ty.str], outs := [], fresh := [], fn := app U [Ty.str, T6] (R := PT U [Ty.str]) (zob) }
theorem zxh.meets : zii (zsj [] [] [] [] [] [] [] []) 279 zxh :=
 zw6 ⟨_, Proofs.Tryz.func279, rfl, by kernel_rfl⟩ (t := Ty.str) rfl rfl rfl rfl fun ds y hy E0 h0 ha μ H w us hA hm hG => by
  obtain ⟨s, n, rfl, hx⟩ := app2 hy; unfold zob at hx; split at hx
  · rename_i hn; cases hx; have hE : some ([.sc (.string s), .sc (.int .i64 n)], []) = some (E0, h0) := ha; cases hE; cases hA with
    | cons h1 h2 =>
     cases h2 with
     | cons h2 h3 =>
      cases h3; have hu := h1.int; have hu2 := h2.int; subst hu hu2; refine ⟨_, rfl, ?_⟩; have hc := Proofs.Tryz.strings_Repeat s n.toNat w (by omega) hn.2.2; have he : ((n.toNat : Nat) : Int) = n := by omega
      rw [he] at hc; exact hc.mono fun e w' hh => ⟨_, hh.1, z4k hh.2, .sc _⟩
  · cases hx
def zxh.k : Kq := ⟨279, zxh, zxh.meets⟩
def zdu (a0 : ByteArray) (a1 : Int) : Option ByteArray :=
 (zob (⟨#[32]⟩ : ByteArray) (if 0 > (w6 (a1 - (a0.size : Int))) then 0 else (w6 (a1 - (a0.size : Int))))).bind fun r1 =>
  if ((a0.size + r1.size : Nat) : Int) > IntKind.i64.max then none else some (a0 ++ r1)
def zdu.k : Kq := ⟨214, (cvv [Ty.str] [Ty.str, T6] zdu), go [zxh.k] {lits := [10]} [] Proofs.Tryz.func214⟩
def zgf (N : Nat) (a0 : zC) (a1 : zB) : Option zC :=
 cond (a1.Op == 9) ((zu N a0 a1.From a1.Second).bind fun r1 => cond r1.2.1 ((zdu r1.1 a1.zG.Length).bind fun r2 =>
  if 0 ≤ a1.zG.Length ∧ a1.zG.Length ≤ (r2.size : Int) then (if 0 ≤ (0 : Int) ∧ (0 : Int) ≤ a1.zG.Length then ((za6 N r1.2.2 a1.Place (r2.extract (0 : Int).toNat a1.zG.Length.toNat)).bind fun r3 =>
  some r3) else none) else none) (some r1.2.2)) ((zdu a1.Text a1.zG.Length).bind fun r4 =>
  if 0 ≤ a1.zG.Length ∧ a1.zG.Length ≤ (r4.size : Int) then (if 0 ≤ (0 : Int) ∧ (0 : Int) ≤ a1.zG.Length then ((za6 N a0 a1.Place (r4.extract (0 : Int).toNat a1.zG.Length.toNat)).bind fun r5 =>
  some r5) else none) else none)
def zgf.k (N : Nat) : Kq := ⟨151, (ctv [.ptr Ty.zC true [], .val Ty.zB] [] [Ty.zC] [] [Ty.zC, Ty.zB] (zgf N)), go [zu.k N, za6.k N, zdu.k] {pk := [1000000]} [] Proofs.Tryz.func151⟩
def zdt (a0 : ByteArray) (a1 : ByteArray) : Option Int :=
 some (Extern.BytealgCompare.cmp a0 a1)
def zdt.k : Kq := ⟨280, (cvv [T6] [Ty.str, Ty.str] zdt), go [] {X := [(331, 2)]} [] Proofs.Tryz.func280 (hX := all_cons (zaff) (zdg))⟩
def zjj (a0 : ByteArray) (a1 : ByteArray) : Option Int :=
 (zdt a0 a1).bind fun r1 => some r1
def zjj.k : Kq := ⟨215, (cvv [T6] [Ty.str, Ty.str] zjj), go [zdt.k] {} [] Proofs.Tryz.func215⟩
def zcn (a0 : ByteArray) (a1 : ByteArray) : Option Int :=
 (zdu a0 (a1.size : Int)).bind fun r1 => (zdu a1 (a0.size : Int)).bind fun r2 => (zjj r1 r2).bind fun r3 => (zee r3).bind fun r4 =>
  some r4
def zcn.k : Kq := ⟨153, (cvv [T6] [Ty.str, Ty.str] zcn), go [zee.k, zdu.k, zjj.k] {lits := [7, 8, 11, 12, 13]} [] Proofs.Tryz.func153⟩
def ze7 (N : Nat) (a0 : zC) (a1 : zB) : Option zC :=
 (zu N a0 a1.Place a1.zG).bind fun r1 => (cond r1.2.1 (some (a1.Op == 11)) (some false)).bind fun g2 =>
  cond g2 ((zu N r1.2.2 a1.From a1.Second).bind fun r3 => cond r3.2.1 ((zcn r1.1 r3.1).bind fun r4 =>
  some (⟨(⟨r3.2.2.zA.Registers, r4, r3.2.2.zA.Storage, r3.2.2.zA.At, r3.2.2.zA.Stack, r3.2.2.zA.Lines, r3.2.2.zA.Status, r3.2.2.zA.Exception, r3.2.2.zA.Marks, r3.2.2.zA.Steps⟩ : zA), r3.2.2.code, r3.2.2.raised⟩ : zC))
  (some r3.2.2)) (cond r1.2.1 ((zcn r1.1 a1.Text).bind fun r5 =>
  some (⟨(⟨r1.2.2.zA.Registers, r5, r1.2.2.zA.Storage, r1.2.2.zA.At, r1.2.2.zA.Stack, r1.2.2.zA.Lines, r1.2.2.zA.Status, r1.2.2.zA.Exception, r1.2.2.zA.Marks, r1.2.2.zA.Steps⟩ : zA), r1.2.2.code, r1.2.2.raised⟩ : zC))
  (some r1.2.2))
def ze7.k (N : Nat) : Kq := ⟨152, (ctv [.ptr Ty.zC true [], .val Ty.zB] [] [Ty.zC] [] [Ty.zC, Ty.zB] (ze7 N)), go [zcn.k, zu.k N] {pk := [1000000]} [] Proofs.Tryz.func152⟩
def zby.b0 (N : Nat) (s0 : Int) (s1 : Int) (s5 : List Int) (s10 : Int) (s11 : Int) : Option (Stp (Int × Int × (List Int) × Int × Int)) :=
 cond (decide (s11 < s10))
  (if (w6 (8 * s11)) < 0 then none else if 0 ≤ (w6 ((w6 (s1 - 1)) - s11)) then (if (w6 ((w6 (s1 - 1)) - s11)) < (s5.length : Int) then ((s5[(w6 ((w6 (s1 - 1)) - s11)).toNat]?).bind fun x1001 =>
  some (.again (s0, s1, (s5.set ((w6 ((w6 (s1 - 1)) - s11)).toNat)
  (IntKind.wrap .u8 ((s0 : Int).fdiv (2 ^ (min (w6 (8 * s11)).toNat 64))))), s10, (w6 (s11 + 1))))) else none) else none)
  (some (.leave (s0, s1, s5, s10, s11)))
def zby.r0 (N : Nat) (x : Int × Int × (List Int) × Int × Int) := zby.b0 N x.1 x.2.1 x.2.2.1 x.2.2.2.1 x.2.2.2.2
def zby (N : Nat) (a0 : Int) (a1 : Int) : Option ((List Int)) :=
 if 0 ≤ a1 then (if a1 ≤ a1 then (cond (Nat.ble (a1.toNat * 1) zac)
  ((zq (zby.r0 N) N (a0, a1, (List.replicate a1.toNat (0 : Int)), ((List.replicate a1.toNat (0 : Int)).length : Int), 0)).bind fun y1 =>
  some y1.2.2.1) none) else none) else none
def zby.k (N : Nat) : Kq := ⟨333, (cvv [(Ty.sl (Ty.int .u8))] [T6, T6] (zby N)), go [] {} [(0, .plain { slots := [(0, .val T6), (1, .val T6), (5, .own 5000005 (Ty.int .u8)), (10, .val T6), (11, .val T6)], boxes := [] } [T6, T6, (Ty.sl (Ty.int .u8)), T6, T6] (zq (zby.r0 N) N))] Proofs.Tryz.func333 (hL := ⟨⟨_, _, rfl, by kernel_rfl⟩, trivial⟩)⟩
def zi2 (a0 : Unit) (a1 : Int) : Option ((List Int)) :=
 cond (decide (a1 < 0)) (none) (cond (decide ((w6 (a1 - 0)) > 0))
  (if 0 ≤ (w6 (a1 - 0)) then (cond (Nat.ble ((w6 (a1 - 0)).toNat * 1) zac)
  (if 0 ≤ (0 : Int) ∧ (0 : Int) ≤ ((List.replicate (w6 (a1 - 0)).toNat (0 : Int)).length : Int) then (if 0 ≤ (0 : Int) ∧ (0 : Int) ≤ (0 : Int) then (some (((List.replicate (w6 (a1 - 0)).toNat (0 : Int)).drop ((0 : Int).toNat)).take ((0 : Int).toNat - (0 : Int).toNat))) else none) else none) none) else none)
  (some []))
def zi2.k : Kq := ⟨352, (ctv [.val Ty.nil, .val T6] [(Ty.sl (Ty.int .u8))] [] [0] [Ty.nil, T6] zi2), go [] {} [] Proofs.Tryz.func352⟩
def za0.b0 (N : Nat) (s0 : List (List Int)) (s3 : Int) (s9 : List (List Int)) (s10 : Int) (s11 : Int) : Option (Stp ((List (List Int)) × Int × (List (List Int)) × Int × Int)) :=
 cond (decide (s11 < s10)) ((idx s9 s11).bind fun x1001 => cond (decide ((w6 (s3 + (x1001.length : Int))) < 0)) (none)
  (some (.again (s0, (w6 (s3 + (x1001.length : Int))), s9, s10, (w6 (s11 + 1)))))) (some (.leave (s0, s3, s9, s10, s11)))
def za0.r0 (N : Nat) (x : (List (List Int)) × Int × (List (List Int)) × Int × Int) := za0.b0 N x.1 x.2.1 x.2.2.1 x.2.2.2.1 x.2.2.2.2
def za0.b2 (N : Nat) (s6 : List Int) (s25 : List (List Int)) (s26 : Int) (s27 : Int) : Option (Stp ((List Int) × (List (List Int)) × Int × Int)) :=
 cond (decide (s27 < s26)) ((idx s25 s27).bind fun x3001 => cond (Nat.ble ((s6.length + x3001.length) * 1) zac)
  (some (.again ((s6 ++ x3001), s25, s26, (w6 (s27 + 1))))) none) (some (.leave (s6, s25, s26, s27)))
def za0.r2 (N : Nat) (x : (List Int) × (List (List Int)) × Int × Int) := za0.b2 N x.1 x.2.1 x.2.2.1 x.2.2.2
def za0 (N : Nat) (a0 : List (List Int)) : Option ((List Int)) :=
 (zq (za0.r0 N) N (a0, 0, a0, (a0.length : Int), 0)).bind fun y1 => (zi2 () y1.2.1).bind fun r2 =>
  (zq (za0.r2 N) N (r2, y1.1, (y1.1.length : Int), 0)).bind fun y3 => some y3.1
def za0.k (N : Nat) : Kq := ⟨332, (ctv [.val (Ty.sl (Ty.sl (Ty.int .u8)))] [(Ty.sl (Ty.int .u8))] [] [0] [(Ty.sl (Ty.sl (Ty.int .u8)))] (za0 N)), go [zi2.k] {} [(0, .plain { slots := [(0, .val (Ty.sl (Ty.sl (Ty.int .u8)))), (3, .val T6), (9, .val (Ty.sl (Ty.sl (Ty.int .u8)))), (10, .val T6), (11, .val T6)], boxes := [] } [(Ty.sl (Ty.sl (Ty.int .u8))), T6, (Ty.sl (Ty.sl (Ty.int .u8))), T6, T6] (zq (za0.r0 N) N)), (2, .plain { slots := [(6, .own 5000006 (Ty.int .u8)), (25, .val (Ty.sl (Ty.sl (Ty.int .u8)))), (26, .val T6), (27, .val T6)], boxes := [] } [(Ty.sl (Ty.int .u8)), (Ty.sl (Ty.sl (Ty.int .u8))), T6, T6] (zq (za0.r2 N) N))] Proofs.Tryz.func332 (hL := ⟨⟨_, _, rfl, by kernel_rfl⟩, ⟨_, _, rfl, by kernel_rfl⟩, trivial⟩)⟩
def zir (N : Nat) (a0 : Pointer) : Option ByteArray :=
 (zby N a0.Kind 1).bind fun r1 => (zby N 0 1).bind fun r2 => (zby N a0.Authority 2).bind fun r3 => (zby N a0.Address.zY 6).bind fun r4 =>
  (zby N a0.Address.Offset 6).bind fun r5 => (za0 N ([r1, r2, r3, r4, r5] : List (List Int))).bind fun r6 => some (zc2 r6)
def zir.k (N : Nat) : Kq := ⟨282, (cvv [Ty.str] [Ty.Pointer] (zir N)), go [za0.k N, zby.k N] {lits := [5, 6, 9, 13, 17, 18]} [] Proofs.Tryz.func282⟩
def zca (N : Nat) (a0 : Storage) (a1 : Int) (a2 : Pointer) : Option (Storage × Int) :=
 (zgs N a0 a1).bind fun r1 => cond (r1 != 0) (some ((⟨(⟨#[]⟩ : ByteArray), []⟩ : Storage), r1)) ((zd1 a2).bind fun r2 => cond (r2 != 0)
  (some ((⟨(⟨#[]⟩ : ByteArray), []⟩ : Storage), r2)) ((zir N a2).bind fun r3 => (zji a0 a1 r3).bind fun r4 =>
  if 0 ≤ (w6 (a1.tdiv 16)) then (if (w6 (a1.tdiv 16)) < (r4.Tags.length : Int) then ((r4.Tags[(w6 (a1.tdiv 16)).toNat]?).bind fun x5 =>
  some ((⟨r4.Bytes, (r4.Tags.set ((w6 (a1.tdiv 16)).toNat) true)⟩ : Storage), 0)) else none) else none))
def zca.k (N : Nat) : Kq := ⟨217, (cvv [Ty.Storage, T6] [Ty.Storage, T6, Ty.Pointer] (zca N)), go [zd1.k, zgs.k N, zji.k, zir.k N] {lits := [27]} [] Proofs.Tryz.func217⟩
def zbp.b0 (N : Nat) (s4 : Int) (s5 : Int) (b1 : Number) : Option (Stp (Int × Int × Number)) :=
 cond (decide (s5 < s4)) (some (.again (s4, (w6 (s5 + 1)), (⟨(w6 (b1.N.tdiv 10)), b1.Scale⟩ : Number)))) (some (.leave (s4, s5, b1)))
def zbp.r0 (N : Nat) (x : Int × Int × Number) := zbp.b0 N x.1 x.2.1 x.2.2
def zbp (N : Nat) (a0 : Number) : Option Int :=
 (zq (zbp.r0 N) N (a0.Scale, 0, a0)).bind fun y1 => some y1.2.2.N
def zbp.k (N : Nat) : Kq := ⟨220, (cvv [T6] [Ty.Number] (zbp N)), go [] {} [(0, .plain { slots := [(1, .ptr 1 0), (4, .val T6), (5, .val T6)], boxes := [(1, Ty.Number, [])] } [T6, T6, Ty.Number] (zq (zbp.r0 N) N))] Proofs.Tryz.func220 (hL := ⟨⟨_, _, rfl, by kernel_rfl⟩, trivial⟩)⟩
def zd7 (N : Nat) (a0 : zC) (a1 : zB) : Option zC :=
 (zax N a0 a1.Pointer).bind fun r1 => cond (!r1.2.1) (some r1.2.2) ((idx r1.2.2.zA.Registers a1.R).bind fun x2 => (zbp N x2).bind fun r3 =>
  (z9 (w6 (r1.1.Address.Offset + r3)) 0 16777215).bind fun r4 => (zf r1.2.2 (!r4) 5).bind fun r5 =>
  cond r5.1 ((zca N r5.2.zA.Storage a1.Pointer (⟨r1.1.Kind, (⟨r1.1.Address.zY, (w6 (r1.1.Address.Offset + r3))⟩ : Address), r1.1.Authority⟩ : Pointer)).bind fun r6 =>
  some (⟨(⟨r5.2.zA.Registers, r5.2.zA.Condition, r6.1, r5.2.zA.At, r5.2.zA.Stack, r5.2.zA.Lines, r5.2.zA.Status, r5.2.zA.Exception, r5.2.zA.Marks, r5.2.zA.Steps⟩ : zA), r5.2.code, r5.2.raised⟩ : zC))
  (some r5.2))
def zd7.k (N : Nat) : Kq := ⟨219, (ctv [.ptr Ty.zC true [], .val Ty.zB] [] [Ty.zC] [] [Ty.zC, Ty.zB] (zd7 N)), go [z9.k, zf.k, zca.k N, zax.k N, zbp.k N] {pk := [1000000]} [] Proofs.Tryz.func219⟩
def zgp (N : Nat) (a0 : zC) (a1 : zB) : Option zC :=
 cond (a1.Op == 14) ((zeq N a1.zG).bind fun r1 => (za4 N a0 a1.Place r1).bind fun r2 =>
  cond r2.2.1 ((zca N r2.2.2.zA.Storage a1.Pointer (⟨0, (⟨1, r2.1⟩ : Address), 0⟩ : Pointer)).bind fun r3 =>
  some (⟨(⟨r2.2.2.zA.Registers, r2.2.2.zA.Condition, r3.1, r2.2.2.zA.At, r2.2.2.zA.Stack, r2.2.2.zA.Lines, r2.2.2.zA.Status, r2.2.2.zA.Exception, r2.2.2.zA.Marks, r2.2.2.zA.Steps⟩ : zA), r2.2.2.code, r2.2.2.raised⟩ : zC))
  (some r2.2.2)) (cond (a1.Op == 15) ((zax N a0 a1.Source).bind fun r4 =>
  cond r4.2.1 ((zca N r4.2.2.zA.Storage a1.Pointer r4.1).bind fun r5 =>
  some (⟨(⟨r4.2.2.zA.Registers, r4.2.2.zA.Condition, r5.1, r4.2.2.zA.At, r4.2.2.zA.Stack, r4.2.2.zA.Lines, r4.2.2.zA.Status, r4.2.2.zA.Exception, r4.2.2.zA.Marks, r4.2.2.zA.Steps⟩ : zA), r4.2.2.code, r4.2.2.raised⟩ : zC))
  (some r4.2.2)) (cond (a1.Op == 16) ((zd7 N a0 a1).bind fun r6 => some r6) (cond (a1.Op == 17) ((zax N a0 a1.Pointer).bind fun r7 =>
  some r7.2.2) (some a0))))
def zgp.k (N : Nat) : Kq := ⟨154, (ctv [.ptr Ty.zC true [], .val Ty.zB] [] [Ty.zC] [] [Ty.zC, Ty.zB] (zgp N)), go [zeq.k N, za4.k N, zca.k N, zax.k N, zd7.k N] {lits := [18], pk := [1000000]} [] Proofs.Tryz.func154⟩
def zef (N : Nat) (a0 : zC) (a1 : zB) : Option zC :=
 (idx a0.zA.Registers a1.R).bind fun x1 => (zbp N x1).bind fun r2 => (z9 r2 100 999).bind fun r3 => cond (!r3)
  ((zf a0 true 2).bind fun r4 => some r4.2) ((zf a0 true r2).bind fun r5 => some r5.2)
def zef.k (N : Nat) : Kq := ⟨155, (ctv [.ptr Ty.zC true [], .val Ty.zB] [] [Ty.zC] [] [Ty.zC, Ty.zB] (zef N)), go [z9.k, zf.k, zbp.k N] {pk := [1000000]} [] Proofs.Tryz.func155⟩
def zzv : Ct U := { params := [.val T6], results := [Ty.str], outs := [], fresh := [], fn := app U [T6] (R := PT U [Ty.str]) (zyn) }
theorem zzv.meets : zii (zsj [] [] [] [] [] [] [] []) 283 zzv :=
 zw6 ⟨_, Proofs.Tryz.func283, rfl, by kernel_rfl⟩ (t := Ty.str) rfl rfl rfl rfl fun ds y hy E0 h0 ha μ H w us hA hm hG => by
  obtain ⟨n, rfl, hx⟩ := z0i hy; unfold zyn at hx; split at hx
  · rename_i hn; cases hx; have hE : some ([.sc (.int .i64 n)], []) = some (E0, h0) := ha; cases hE; cases hA with
    | cons h1 h2 =>
     cases h2; have hu := h1.int; subst hu; have ht := zadn hG hm (g := 3) (name := "internal/strconv.uint64pow10") (t := Ty.int .u64) (xs := zaba) (k := .u64) (zs := Lib.pow10Tab) rfl (by kernel_rfl) (fun i x hi => ⟨x, hi, rfl⟩) rfl rfl; refine ⟨_, rfl, (Proofs.Tryz.strconv_Itoa n hn.1 hn.2 w ht).mono fun e w' hh => ?_⟩; obtain ⟨rfl, k, os, rfl⟩ := hh; exact ⟨_, rfl, zabk w k os, .sc _⟩
  · cases hx
def zzv.k : Kq := ⟨283, zzv, zzv.meets⟩
def zeh (a0 : Number) : Option (ByteArray × Int) :=
 (zan a0).bind fun r1 => cond (r1 != 0) (some ((⟨#[]⟩ : ByteArray), r1))
  ((zyn (if (w6 (0 - a0.N)) > a0.N then (w6 (0 - a0.N)) else a0.N)).bind fun r2 => cond (decide ((r2.size : Int) ≤ a0.Scale))
  ((zob (⟨#[48]⟩ : ByteArray) (w6 ((w6 (a0.Scale + 1)) - (r2.size : Int)))).bind fun r3 =>
  if ((r3.size + r2.size : Nat) : Int) > IntKind.i64.max then none else cond (decide (a0.Scale > 0))
  (if 0 ≤ (w6 (((r3 ++ r2).size : Int) - a0.Scale)) ∧ (w6 (((r3 ++ r2).size : Int) - a0.Scale)) ≤ ((r3 ++ r2).size : Int) then (if 0 ≤ (0 : Int) ∧ (0 : Int) ≤ (w6 (((r3 ++ r2).size : Int) - a0.Scale)) then (if ((((r3 ++ r2).extract (0 : Int).toNat (w6 (((r3 ++ r2).size : Int) - a0.Scale)).toNat).size + (⟨#[46]⟩ : ByteArray).size : Nat) : Int) > IntKind.i64.max then none else if 0 ≤ (w6 (((r3 ++ r2).size : Int) - a0.Scale)) ∧ (w6 (((r3 ++ r2).size : Int) - a0.Scale)) ≤ ((r3 ++ r2).size : Int) then (if (((((r3 ++ r2).extract (0 : Int).toNat (w6 (((r3 ++ r2).size : Int) - a0.Scale)).toNat) ++ (⟨#[46]⟩ : ByteArray)).size + ((r3 ++ r2).extract (w6 (((r3 ++ r2).size : Int) - a0.Scale)).toNat (r3 ++ r2).size).size : Nat) : Int) > IntKind.i64.max then none else cond (decide (a0.N < 0))
  (if (((⟨#[45]⟩ : ByteArray).size + ((((r3 ++ r2).extract (0 : Int).toNat (w6 (((r3 ++ r2).size : Int) - a0.Scale)).toNat) ++ (⟨#[46]⟩ : ByteArray)) ++ ((r3 ++ r2).extract (w6 (((r3 ++ r2).size : Int) - a0.Scale)).toNat (r3 ++ r2).size)).size : Nat) : Int) > IntKind.i64.max then none else some (((⟨#[45]⟩ : ByteArray) ++ ((((r3 ++ r2).extract (0 : Int).toNat (w6 (((r3 ++ r2).size : Int) - a0.Scale)).toNat) ++ (⟨#[46]⟩ : ByteArray)) ++ ((r3 ++ r2).extract (w6 (((r3 ++ r2).size : Int) - a0.Scale)).toNat (r3 ++ r2).size))), 0))
  (some (((((r3 ++ r2).extract (0 : Int).toNat (w6 (((r3 ++ r2).size : Int) - a0.Scale)).toNat) ++ (⟨#[46]⟩ : ByteArray)) ++ ((r3 ++ r2).extract (w6 (((r3 ++ r2).size : Int) - a0.Scale)).toNat (r3 ++ r2).size)), 0))) else none) else none) else none)
  (cond (decide (a0.N < 0)) (if (((⟨#[45]⟩ : ByteArray).size + (r3 ++ r2).size : Nat) : Int) > IntKind.i64.max then none else some (((⟨#[45]⟩ : ByteArray) ++ (r3 ++ r2)), 0))
  (some ((r3 ++ r2), 0)))) (cond (decide (a0.Scale > 0))
  (if 0 ≤ (w6 ((r2.size : Int) - a0.Scale)) ∧ (w6 ((r2.size : Int) - a0.Scale)) ≤ (r2.size : Int) then (if 0 ≤ (0 : Int) ∧ (0 : Int) ≤ (w6 ((r2.size : Int) - a0.Scale)) then (if (((r2.extract (0 : Int).toNat (w6 ((r2.size : Int) - a0.Scale)).toNat).size + (⟨#[46]⟩ : ByteArray).size : Nat) : Int) > IntKind.i64.max then none else if 0 ≤ (w6 ((r2.size : Int) - a0.Scale)) ∧ (w6 ((r2.size : Int) - a0.Scale)) ≤ (r2.size : Int) then (if ((((r2.extract (0 : Int).toNat (w6 ((r2.size : Int) - a0.Scale)).toNat) ++ (⟨#[46]⟩ : ByteArray)).size + (r2.extract (w6 ((r2.size : Int) - a0.Scale)).toNat r2.size).size : Nat) : Int) > IntKind.i64.max then none else cond (decide (a0.N < 0))
  (if (((⟨#[45]⟩ : ByteArray).size + (((r2.extract (0 : Int).toNat (w6 ((r2.size : Int) - a0.Scale)).toNat) ++ (⟨#[46]⟩ : ByteArray)) ++ (r2.extract (w6 ((r2.size : Int) - a0.Scale)).toNat r2.size)).size : Nat) : Int) > IntKind.i64.max then none else some (((⟨#[45]⟩ : ByteArray) ++ (((r2.extract (0 : Int).toNat (w6 ((r2.size : Int) - a0.Scale)).toNat) ++ (⟨#[46]⟩ : ByteArray)) ++ (r2.extract (w6 ((r2.size : Int) - a0.Scale)).toNat r2.size))), 0))
  (some ((((r2.extract (0 : Int).toNat (w6 ((r2.size : Int) - a0.Scale)).toNat) ++ (⟨#[46]⟩ : ByteArray)) ++ (r2.extract (w6 ((r2.size : Int) - a0.Scale)).toNat r2.size)), 0))) else none) else none) else none)
  (cond (decide (a0.N < 0)) (if (((⟨#[45]⟩ : ByteArray).size + r2.size : Nat) : Int) > IntKind.i64.max then none else some (((⟨#[45]⟩ : ByteArray) ++ r2), 0)) (some (r2, 0)))))
def zeh.k : Kq := ⟨221, (cvv [Ty.str, T6] [Ty.Number] zeh), go [zan.k, zxh.k, zzv.k] {lits := [16]} [] Proofs.Tryz.func221⟩
def zzw : Ct U := { params := [.val (Ty.sl Ty.str)], results := [(Ty.sl Ty.str)], outs := [], fresh := [0], fn := app U [(Ty.sl Ty.str)] (R := PT U [(Ty.sl Ty.str)]) (zdi 16) }
theorem zzw.meets : zii (zsj [] [] [] [] [] [] [] []) 222 zzw :=
 zo8 zwo (zvj (l := []) rfl zdg) (zur (l := []) rfl zdg) (Lp := pick []) Proofs.Tryz.func222 (by kernel_rfl) (zvn (l := []) rfl zdg) (fun y => by kernel_rfl) (e := 9) (t := Ty.str) rfl rfl rfl rfl rfl rfl rfl (by kernel_rfl) rfl rfl rfl rfl rfl rfl (fun xs => by kernel_rfl) fun ds y h => by
  obtain ⟨xs, rfl, hx⟩ := z0i h; refine ⟨xs, rfl, fun b hb => ?_⟩; cases b with
  | true =>
   have := hb rfl; subst this; exact Eq.trans (by kernel_rfl) hx
  | false => exact Eq.trans (b := cond (Nat.ble ((0 + xs.length) * 16) zac) (some xs) none) (by kernel_rfl) (by rw [Nat.zero_add]; exact hx)
def zzw.k : Kq := ⟨222, zzw, zzw.meets⟩
def zhs (N : Nat) (a0 : zC) (a1 : zB) : Option zC :=
 cond (a1.Op == 22) ((idx a0.zA.Registers a1.R).bind fun x1 => (zeh x1).bind fun r2 => cond ((a0.zA.Lines.length : Int) == 40)
  (some (⟨(⟨a0.zA.Registers, a0.zA.Condition, a0.zA.Storage, a0.zA.At, a0.zA.Stack, a0.zA.Lines, 3, a0.zA.Exception, a0.zA.Marks, a0.zA.Steps⟩ : zA), a0.code, a0.raised⟩ : zC))
  ((zdi 16 a0.zA.Lines).bind fun r3 => cond (Nat.ble ((r3.length + ([r2.1] : List ByteArray).length) * 16) zac)
  (some (⟨(⟨a0.zA.Registers, a0.zA.Condition, a0.zA.Storage, a0.zA.At, a0.zA.Stack, (r3 ++ ([r2.1] : List ByteArray)), a0.zA.Status, a0.zA.Exception, a0.zA.Marks, a0.zA.Steps⟩ : zA), a0.code, a0.raised⟩ : zC)) none))
  (cond (a1.Op == 23) ((zu N a0 a1.Place a1.zG).bind fun r4 => cond (!r4.2.1) (some r4.2.2) (cond ((r4.2.2.zA.Lines.length : Int) == 40)
  (some (⟨(⟨r4.2.2.zA.Registers, r4.2.2.zA.Condition, r4.2.2.zA.Storage, r4.2.2.zA.At, r4.2.2.zA.Stack, r4.2.2.zA.Lines, 3, r4.2.2.zA.Exception, r4.2.2.zA.Marks, r4.2.2.zA.Steps⟩ : zA), r4.2.2.code, r4.2.2.raised⟩ : zC))
  ((zdi 16 r4.2.2.zA.Lines).bind fun r5 => cond (Nat.ble ((r5.length + ([r4.1] : List ByteArray).length) * 16) zac)
  (some (⟨(⟨r4.2.2.zA.Registers, r4.2.2.zA.Condition, r4.2.2.zA.Storage, r4.2.2.zA.At, r4.2.2.zA.Stack, (r5 ++ ([r4.1] : List ByteArray)), r4.2.2.zA.Status, r4.2.2.zA.Exception, r4.2.2.zA.Marks, r4.2.2.zA.Steps⟩ : zA), r4.2.2.code, r4.2.2.raised⟩ : zC)) none)))
  (cond ((a0.zA.Lines.length : Int) == 40)
  (some (⟨(⟨a0.zA.Registers, a0.zA.Condition, a0.zA.Storage, a0.zA.At, a0.zA.Stack, a0.zA.Lines, 3, a0.zA.Exception, a0.zA.Marks, a0.zA.Steps⟩ : zA), a0.code, a0.raised⟩ : zC))
  ((zdi 16 a0.zA.Lines).bind fun r6 => cond (Nat.ble ((r6.length + ([a1.Text] : List ByteArray).length) * 16) zac)
  (some (⟨(⟨a0.zA.Registers, a0.zA.Condition, a0.zA.Storage, a0.zA.At, a0.zA.Stack, (r6 ++ ([a1.Text] : List ByteArray)), a0.zA.Status, a0.zA.Exception, a0.zA.Marks, a0.zA.Steps⟩ : zA), a0.code, a0.raised⟩ : zC)) none)))
def zhs.k (N : Nat) : Kq := ⟨156, (ctv [.ptr Ty.zC true [], .val Ty.zB] [] [Ty.zC] [] [Ty.zC, Ty.zB] (zhs N)), go [zu.k N, zeh.k, zzw.k] {lits := [44], pk := [1000000]} [] Proofs.Tryz.func156⟩
def ze4 (a0 : zC) : Option zC :=
 cond (a0.zA.Marks == 300)
  (some (⟨(⟨a0.zA.Registers, a0.zA.Condition, a0.zA.Storage, a0.zA.At, a0.zA.Stack, a0.zA.Lines, 3, a0.zA.Exception, a0.zA.Marks, a0.zA.Steps⟩ : zA), a0.code, a0.raised⟩ : zC))
  (some (⟨(⟨a0.zA.Registers, a0.zA.Condition, a0.zA.Storage, a0.zA.At, a0.zA.Stack, a0.zA.Lines, a0.zA.Status, a0.zA.Exception, (w6 (a0.zA.Marks + 1)), a0.zA.Steps⟩ : zA), a0.code, a0.raised⟩ : zC))
def ze4.k : Kq := ⟨157, (ctv [.ptr Ty.zC true []] [] [Ty.zC] [] [Ty.zC] ze4), go [] {pk := [1000000]} [] Proofs.Tryz.func157⟩
def zus : Ct U := { params := [.val (Ty.sl T6)], results := [(Ty.sl T6)], outs := [], fresh := [0], fn := app U [(Ty.sl T6)] (R := PT U [(Ty.sl T6)]) (zdi 8) }
theorem zus.meets : zii (zsj [] [] [] [] [] [] [] []) 160 zus :=
 zo8 zwo (zvj (l := []) rfl zdg) (zur (l := []) rfl zdg) (Lp := pick []) Proofs.Tryz.func160 (by kernel_rfl) (zvn (l := []) rfl zdg) (fun y => by kernel_rfl) (e := 3) (t := T6) rfl rfl rfl rfl rfl rfl rfl (by kernel_rfl) rfl rfl rfl rfl rfl rfl (fun xs => by kernel_rfl) fun ds y h => by
  obtain ⟨xs, rfl, hx⟩ := z0i h; refine ⟨xs, rfl, fun b hb => ?_⟩; cases b with
  | true =>
   have := hb rfl; subst this; exact Eq.trans (by kernel_rfl) hx
  | false => exact Eq.trans (b := cond (Nat.ble ((0 + xs.length) * 8) zac) (some xs) none) (by kernel_rfl) (by rw [Nat.zero_add]; exact hx)
def zus.k : Kq := ⟨160, zus, zus.meets⟩
def ze5 (a0 : zC) (a1 : Int) : Option (Int × zC) :=
 (zf a0 (decide ((a0.zA.Stack.length : Int) ≥ 6)) 6).bind fun r1 => cond r1.1 ((zdi 8 r1.2.zA.Stack).bind fun r2 =>
  cond (Nat.ble ((r2.length + ([r1.2.zA.At] : List Int).length) * 8) zac)
  (some (a1, (⟨(⟨r1.2.zA.Registers, r1.2.zA.Condition, r1.2.zA.Storage, r1.2.zA.At, (r2 ++ ([r1.2.zA.At] : List Int)), r1.2.zA.Lines, r1.2.zA.Status, r1.2.zA.Exception, r1.2.zA.Marks, r1.2.zA.Steps⟩ : zA), r1.2.code, r1.2.raised⟩ : zC))) none)
  (some (a1, r1.2))
def ze5.k : Kq := ⟨223, (ctv [.ptr Ty.zC true [], .val T6] [T6] [Ty.zC] [] [Ty.zC, T6] ze5), go [zus.k, zf.k] {lits := [26], pk := [1000000]} [] Proofs.Tryz.func223⟩
end
end Go.Proofs.YtppbpnknfigboaaGreatDoor.M
