/- What the program's functions compute, each tied to its code: part 0. -/
import Derived.Test.YtnpfkhdbmlhfhaaGreatDoorOrd
namespace Go.Proofs.YtnpfkhdbmlhfhaaGreatDoor.M
open Go Go.Amx
set_option linter.unusedVariables false
set_option maxRecDepth 100000
noncomputable section
def zct.b0 (N : Nat) (s0 : Int) (s1 : Int) (s5 : List Int) (s6 : Int) : Option (Stp (Int × Int × (List Int) × Int)) :=
 cond (decide (s6 < s1)) (cond (Nat.ble ((s5.length + ([s0] : List Int).length) * 1) zah) (some (.again (s0, s1, (s5 ++ ([s0] : List Int)), (w6 (s6 + 1))))) none)
  (some (.leave (s0, s1, s5, s6)))
def zct.r0 (N : Nat) (x : Int × Int × (List Int) × Int) := zct.b0 N x.1 x.2.1 x.2.2.1 x.2.2.2
def zct (N : Nat) (a0 : Int) (a1 : Int) : Option ByteArray :=
 (zi (zct.r0 N) N (a0, a1, [], 0)).bind fun y1 => some (ze6 y1.2.2.1)
def zct.k (N : Nat) : Kq := ⟨73, (cvv [Ty.str] [(Ty.int .u8), T6] (zct N)), go [] {lits := [14]} [(0, .plain { slots := [(0, .val (Ty.int .u8)), (1, .val T6), (5, .own 5000005 (Ty.int .u8)), (6, .val T6)], boxes := [] } [(Ty.int .u8), T6, (Ty.sl (Ty.int .u8)), T6] (zi (zct.r0 N) N))] Proofs.Tryz.func73 (hL := ⟨⟨_, _, rfl, by kernel_rfl⟩, trivial⟩)⟩
def znd (N : Nat)  : Option zI :=
 (zct N 241 16).bind fun r1 =>
  some (⟨(⟨r1, ([false] : List Bool)⟩ : Storage), ([(⟨0, 0, 0, 0, 0, (⟨false, 0, 0⟩ : zM), (⟨false, 0, 0⟩ : zM), (⟨2, 1, 0⟩ : DataType), (⟨0, 0, 0⟩ : DataType), false, false, (⟨0, 0⟩ : Number), (⟨#[]⟩ : ByteArray), (⟨#[]⟩ : ByteArray), 0, 0, 0, 0⟩ : zC), (⟨0, 1, 0, 0, 0, (⟨false, 0, 0⟩ : zM), (⟨false, 0, 0⟩ : zM), (⟨2, 1, 0⟩ : DataType), (⟨0, 0, 0⟩ : DataType), false, false, (⟨0, 0⟩ : Number), (⟨#[]⟩ : ByteArray), (⟨#[]⟩ : ByteArray), 0, 0, 0, 0⟩ : zC), (⟨22, 1, 0, 0, 0, (⟨false, 0, 0⟩ : zM), (⟨false, 0, 0⟩ : zM), (⟨0, 0, 0⟩ : DataType), (⟨0, 0, 0⟩ : DataType), false, false, (⟨0, 0⟩ : Number), (⟨#[]⟩ : ByteArray), (⟨#[]⟩ : ByteArray), 0, 0, 0, 0⟩ : zC)] : List zC), []⟩ : zI)
def znd.k (N : Nat) : Kq := ⟨26, (cvv [Ty.zI] [] (znd N)), go [zct.k N] {} [] Proofs.Tryz.func26⟩
def zbh (a0 : Int) (a1 : Int) (a2 : Int) : Option Bool :=
 (cond (decide (a1 ≤ a0)) (some (decide (a0 ≤ a2))) (some false)).bind fun g1 => some g1
def zbh.k : Kq := ⟨99, (cvv [Ty.bool] [T6, T6, T6] zbh), go [] {} [] Proofs.Tryz.func99⟩
def zb1 (a0 : Bool) (a1 : Int) : Option Int :=
 cond a0 (some a1) (some 0)
def zb1.k : Kq := ⟨98, (cvv [T6] [Ty.bool, T6] zb1), go [] {} [] Proofs.Tryz.func98⟩
def zcs (a0 : zL) : Option Int :=
 (zbh a0.Registers 2 8).bind fun r1 => (zb1 (!r1) 3).bind fun r2 => some r2
def zcs.k : Kq := ⟨51, (cvv [T6] [Ty.zL] zcs), go [zb1.k, zbh.k] {} [] Proofs.Tryz.func51⟩
def zap.b0 (N : Nat) (s0 : ByteArray) (s3 : Int) (s6 : Int) (s7 : Int) : Option (Stp (ByteArray × Int × Int × Int)) :=
 cond (decide (s7 < s6)) ((zi9 s0 s7).bind fun x1001 => some (.again (s0, (orI .i64 (w6 (s3 * 2 ^ (min (8 : Int).toNat 64)))
  (w6 (x1001.toNat : Int))), s6, (w6 (s7 + 1))))) (some (.leave (s0, s3, s6, s7)))
def zap.r0 (N : Nat) (x : ByteArray × Int × Int × Int) := zap.b0 N x.1 x.2.1 x.2.2.1 x.2.2.2
def zap (N : Nat) (a0 : ByteArray) : Option Int :=
 (zi (zap.r0 N) N (a0, 0, (a0.size : Int), 0)).bind fun y1 => some y1.2.1
def zap.k (N : Nat) : Kq := ⟨229, (cvv [T6] [Ty.str] (zap N)), go [] {} [(0, .plain { slots := [(0, .val Ty.str), (3, .val T6), (6, .val T6), (7, .val T6)], boxes := [] } [Ty.str, T6, T6, T6] (zi (zap.r0 N) N))] Proofs.Tryz.func229 (hL := ⟨⟨_, _, rfl, by kernel_rfl⟩, trivial⟩)⟩
def zdy (a0 : Int) (a1 : Int) (a2 : Int) : Option Bool :=
 (cond (decide (a1 ≤ a0)) (some (decide (a0 ≤ a2))) (some false)).bind fun g1 => some g1
def zdy.k : Kq := ⟨162, (cvv [Ty.bool] [T6, T6, T6] zdy), go [] {} [] Proofs.Tryz.func162⟩
def zdl (a0 : Pointer) : Option Int :=
 (zdy a0.Kind 0 2).bind fun r1 => cond (!r1) (some 4) (((zdy a0.Address.yA 0 1099511627775).bind fun r2 => cond (!r2) (some (!r2))
  ((zdy a0.Address.Offset 0 16777215).bind fun r3 => cond (!r3) (some (!r3)) ((zdy a0.Authority 0 1023).bind fun r4 => some (!r4)))).bind fun q5 =>
  cond q5 (some 3) ((cond (a0.Authority != 0) (some (a0.Kind != 1)) (some false)).bind fun g6 => cond g6 (some 5) (some 0)))
def zdl.k : Kq := ⟨230, (cvv [T6] [Ty.Pointer] zdl), go [zdy.k] {bj := [8]} [] Proofs.Tryz.func230⟩
def zel (N : Nat) (a0 : ByteArray) : Option (Pointer × Int) :=
 cond ((a0.size : Int) != 16) (some ((⟨0, (⟨0, 0⟩ : Address), 0⟩ : Pointer), 18)) ((zi9 a0 1).bind fun x1 => cond ((x1.toNat : Int) != 0)
  (some ((⟨0, (⟨0, 0⟩ : Address), 0⟩ : Pointer), 5)) ((zi9 a0 0).bind fun x2 =>
  if 0 ≤ (4 : Int) ∧ (4 : Int) ≤ (a0.size : Int) then (if 0 ≤ (2 : Int) ∧ (2 : Int) ≤ (4 : Int) then ((zap N (a0.extract (2 : Int).toNat (4 : Int).toNat)).bind fun r3 =>
  if 0 ≤ (10 : Int) ∧ (10 : Int) ≤ (a0.size : Int) then (if 0 ≤ (4 : Int) ∧ (4 : Int) ≤ (10 : Int) then ((zap N (a0.extract (4 : Int).toNat (10 : Int).toNat)).bind fun r4 =>
  if 0 ≤ (10 : Int) ∧ (10 : Int) ≤ (a0.size : Int) then ((zap N (a0.extract (10 : Int).toNat a0.size)).bind fun r5 =>
  (zdl (⟨(w6 (x2.toNat : Int)), (⟨r4, r5⟩ : Address), r3⟩ : Pointer)).bind fun r6 => cond (r6 != 0)
  (some ((⟨0, (⟨0, 0⟩ : Address), 0⟩ : Pointer), r6))
  (some ((⟨(w6 (x2.toNat : Int)), (⟨r4, r5⟩ : Address), r3⟩ : Pointer), 0))) else none) else none) else none) else none) else none))
def zel.k (N : Nat) : Kq := ⟨182, (cvv [Ty.Pointer, T6] [Ty.str] (zel N)), go [zap.k N, zdl.k] {} [] Proofs.Tryz.func182⟩
def zn.b1 (N : Nat) (s27 : List Bool) (s28 : Int) (s29 : Int) (b1 : Storage) : Option (Round (Int × Int) ((List Bool) × Int × Int × Storage)) :=
 cond (decide (s29 < s28)) ((idx s27 s29).bind fun x2001 => cond (!x2001) (some (.again (s27, s28, (w6 (s29 + 1)), b1)))
  (if 0 ≤ (w6 ((w6 (s29 * 16)) + 16)) ∧ (w6 ((w6 (s29 * 16)) + 16)) ≤ (b1.Bytes.size : Int) then (if 0 ≤ (w6 (s29 * 16)) ∧ (w6 (s29 * 16)) ≤ (w6 ((w6 (s29 * 16)) + 16)) then ((zel N (b1.Bytes.extract (w6 (s29 * 16)).toNat (w6 ((w6 (s29 * 16)) + 16)).toNat)).bind fun r2002 =>
  cond (r2002.2 != 0) (some (.result (s29, 22))) (some (.again (s27, s28, (w6 (s29 + 1)), b1)))) else none) else none)) (some (.leave (s27, s28, s29, b1)))
def zn.r1 (N : Nat) (x : (List Bool) × Int × Int × Storage) := zn.b1 N x.1 x.2.1 x.2.2.1 x.2.2.2
def zn (N : Nat) (a0 : Storage) : Option (Int × Int) :=
 cond (decide ((a0.Bytes.size : Int) > 1024)) (some (0, 2)) (cond (((a0.Bytes.size : Int).tmod 16) != 0) (some (0, 18))
  (cond ((a0.Tags.length : Int) != (w6 ((a0.Bytes.size : Int).tdiv 16))) (some (0, 6))
  ((zf (zn.r1 N) N (a0.Tags, (a0.Tags.length : Int), 0, a0)).bind fun z2 => zbc z2 (fun z => some z) (fun y1 => some ((y1.2.2.2.Tags.length : Int), 0)))))
def zn.k (N : Nat) : Kq := ⟨128, (cvv [T6, T6] [Ty.Storage] (zn N)), go [zel.k N] {} [(1, .rets { slots := [(1, .ptr 1 0), (27, .val (Ty.sl Ty.bool)), (28, .val T6), (29, .val T6)], boxes := [(1, Ty.Storage, [])] } [(Ty.sl Ty.bool), T6, T6, Ty.Storage] (zf (zn.r1 N) N))] Proofs.Tryz.func128 (hL := ⟨⟨_, _, rfl, by kernel_rfl⟩, trivial⟩)⟩
def zbi.b0 (N : Nat) (s0 : List Bool) (s1 : Bool) (s7 : Int) (s8 : Int) : Option (Round Int ((List Bool) × Bool × Int × Int)) :=
 cond (decide (s8 < s7)) ((idx s0 s8).bind fun x1001 => cond (s1 == x1001) (some (.result s8)) (some (.again (s0, s1, s7, (w6 (s8 + 1))))))
  (some (.leave (s0, s1, s7, s8)))
def zbi.r0 (N : Nat) (x : (List Bool) × Bool × Int × Int) := zbi.b0 N x.1 x.2.1 x.2.2.1 x.2.2.2
def zbi (N : Nat) (a0 : List Bool) (a1 : Bool) : Option Int :=
 (zf (zbi.r0 N) N (a0, a1, (a0.length : Int), 0)).bind fun z2 => zbc z2 (fun z => some z) (fun y1 => some (-1))
def zbi.k (N : Nat) : Kq := ⟨115, (cvv [T6] [(Ty.sl Ty.bool), Ty.bool] (zbi N)), go [] {} [(0, .rets { slots := [(0, .val (Ty.sl Ty.bool)), (1, .val Ty.bool), (7, .val T6), (8, .val T6)], boxes := [] } [(Ty.sl Ty.bool), Ty.bool, T6, T6] (zf (zbi.r0 N) N))] Proofs.Tryz.func115 (hL := ⟨⟨_, _, rfl, by kernel_rfl⟩, trivial⟩)⟩
def ze0 (N : Nat) (a0 : List Bool) (a1 : Bool) : Option Bool :=
 (zbi N a0 a1).bind fun r1 => some (decide (r1 ≥ 0))
def ze0.k (N : Nat) : Kq := ⟨130, (cvv [Ty.bool] [(Ty.sl Ty.bool), Ty.bool] (ze0 N)), go [zbi.k N] {} [] Proofs.Tryz.func130⟩
def zak.b0 (N : Nat) (s5 : List Int) (s6 : Int) (s7 : Int) : Option (Round Int ((List Int) × Int × Int)) :=
 cond (decide (s7 < s6)) ((idx s5 s7).bind fun x1001 => cond (x1001 != 0) (some (.result x1001)) (some (.again (s5, s6, (w6 (s7 + 1)))))) (some (.leave (s5, s6, s7)))
def zak.r0 (N : Nat) (x : (List Int) × Int × Int) := zak.b0 N x.1 x.2.1 x.2.2
def zak (N : Nat) (a0 : List Int) : Option Int :=
 (zf (zak.r0 N) N (a0, (a0.length : Int), 0)).bind fun z2 => zbc z2 (fun z => some z) (fun y1 => some 0)
def zak.k (N : Nat) : Kq := ⟨129, (cvv [T6] [(Ty.sl T6)] (zak N)), go [] {} [(0, .rets { slots := [(5, .val (Ty.sl T6)), (6, .val T6), (7, .val T6)], boxes := [] } [(Ty.sl T6), T6, T6] (zf (zak.r0 N) N))] Proofs.Tryz.func129 (hL := ⟨⟨_, _, rfl, by kernel_rfl⟩, trivial⟩)⟩
def zbt (a0 : zC) : Option zT :=
 (idx z2u a0.Op).bind fun x1 => (cond (a0.Op == 4) (some a0.zO) (some false)).bind fun g2 =>
  cond g2 (some (⟨(orI .i64 (orI .i64 (z1o .i64 x1.fields 4) 8) 64), x1.types⟩ : zT)) (some x1)
def zbt.k : Kq := ⟨186, (cvv [Ty.zT] [Ty.zC] zbt), go [] {} [] Proofs.Tryz.func186⟩
def zch (a0 : Int) (a1 : Int) (a2 : Int) : Option Int :=
 cond ((zk .i64 a2 a0) == 0) (some 0) (some a1)
def zch.k : Kq := ⟨231, (ctv [.val T6, .ptr T6 true [], .ptr T6 false []] [] [T6] [] [T6, T6, T6] zch), go [] {ro := [1000001], pk := [1000000, 1000001]} [] Proofs.Tryz.func231⟩
def zgq (a0 : zM) (a1 : Bool) : Option zM :=
 cond (!a1) (some (⟨false, 0, 0⟩ : zM)) (cond (!a0.Based) (some (⟨a0.Based, 0, a0.Offset⟩ : zM)) (some a0))
def zgq.k : Kq := ⟨232, (cvv [Ty.zM] [Ty.zM, Ty.bool] zgq), go [] {} [] Proofs.Tryz.func232⟩
def zid (a0 : zC) : Option zC :=
 (zbt a0).bind fun r1 => (zch 1 a0.R r1.fields).bind fun r2 => (zch 2 a0.A r1.fields).bind fun r3 =>
  (zch 4 a0.B r1.fields).bind fun r4 => (zch 2048 a0.Mask r1.fields).bind fun r5 => (zch 4096 a0.Target r1.fields).bind fun r6 =>
  (zch 8192 a0.Pointer r1.fields).bind fun r7 => (zch 16384 a0.Source r1.fields).bind fun r8 =>
  (zch 32768 a0.zS r1.fields).bind fun r9 => (zgq a0.Place ((zk .i64 r1.fields 8) != 0)).bind fun r10 =>
  (zgq a0.From ((zk .i64 r1.fields 16) != 0)).bind fun r11 => cond ((zk .i64 r1.fields 32) == 0) (cond ((zk .i64 r1.fields 64) == 0)
  (cond ((zk .i64 r1.fields 256) == 0) (cond ((zk .i64 r1.fields 512) == 0) (cond ((zk .i64 r1.fields 1024) == 0) ((cond a0.Half (some ((zk .i64 r1.fields 128) != 0))
  (some false)).bind fun g12 => (cond a0.zO (some (a0.Op == 4)) (some false)).bind fun g13 =>
  some (⟨a0.Op, r2, r3, r4, r9, r10, r11, (⟨0, 0, 0⟩ : DataType), (⟨0, 0, 0⟩ : DataType), g12, g13, (⟨0, 0⟩ : Number), (⟨#[]⟩ : ByteArray), (⟨#[]⟩ : ByteArray), r5, r6, r7, r8⟩ : zC))
  ((cond a0.Half (some ((zk .i64 r1.fields 128) != 0)) (some false)).bind fun g14 => (cond a0.zO (some (a0.Op == 4)) (some false)).bind fun g15 =>
  some (⟨a0.Op, r2, r3, r4, r9, r10, r11, (⟨0, 0, 0⟩ : DataType), (⟨0, 0, 0⟩ : DataType), g14, g15, (⟨0, 0⟩ : Number), (⟨#[]⟩ : ByteArray), a0.Other, r5, r6, r7, r8⟩ : zC)))
  (cond ((zk .i64 r1.fields 1024) == 0) ((cond a0.Half (some ((zk .i64 r1.fields 128) != 0)) (some false)).bind fun g16 => (cond a0.zO (some (a0.Op == 4))
  (some false)).bind fun g17 =>
  some (⟨a0.Op, r2, r3, r4, r9, r10, r11, (⟨0, 0, 0⟩ : DataType), (⟨0, 0, 0⟩ : DataType), g16, g17, (⟨0, 0⟩ : Number), a0.Text, (⟨#[]⟩ : ByteArray), r5, r6, r7, r8⟩ : zC))
  ((cond a0.Half (some ((zk .i64 r1.fields 128) != 0)) (some false)).bind fun g18 => (cond a0.zO (some (a0.Op == 4)) (some false)).bind fun g19 =>
  some (⟨a0.Op, r2, r3, r4, r9, r10, r11, (⟨0, 0, 0⟩ : DataType), (⟨0, 0, 0⟩ : DataType), g18, g19, (⟨0, 0⟩ : Number), a0.Text, a0.Other, r5, r6, r7, r8⟩ : zC))))
  (cond ((zk .i64 r1.fields 512) == 0) (cond ((zk .i64 r1.fields 1024) == 0) ((cond a0.Half (some ((zk .i64 r1.fields 128) != 0)) (some false)).bind fun g20 =>
  (cond a0.zO (some (a0.Op == 4)) (some false)).bind fun g21 =>
  some (⟨a0.Op, r2, r3, r4, r9, r10, r11, (⟨0, 0, 0⟩ : DataType), (⟨0, 0, 0⟩ : DataType), g20, g21, a0.Number, (⟨#[]⟩ : ByteArray), (⟨#[]⟩ : ByteArray), r5, r6, r7, r8⟩ : zC))
  ((cond a0.Half (some ((zk .i64 r1.fields 128) != 0)) (some false)).bind fun g22 => (cond a0.zO (some (a0.Op == 4)) (some false)).bind fun g23 =>
  some (⟨a0.Op, r2, r3, r4, r9, r10, r11, (⟨0, 0, 0⟩ : DataType), (⟨0, 0, 0⟩ : DataType), g22, g23, a0.Number, (⟨#[]⟩ : ByteArray), a0.Other, r5, r6, r7, r8⟩ : zC)))
  (cond ((zk .i64 r1.fields 1024) == 0) ((cond a0.Half (some ((zk .i64 r1.fields 128) != 0)) (some false)).bind fun g24 => (cond a0.zO (some (a0.Op == 4))
  (some false)).bind fun g25 =>
  some (⟨a0.Op, r2, r3, r4, r9, r10, r11, (⟨0, 0, 0⟩ : DataType), (⟨0, 0, 0⟩ : DataType), g24, g25, a0.Number, a0.Text, (⟨#[]⟩ : ByteArray), r5, r6, r7, r8⟩ : zC))
  ((cond a0.Half (some ((zk .i64 r1.fields 128) != 0)) (some false)).bind fun g26 => (cond a0.zO (some (a0.Op == 4)) (some false)).bind fun g27 =>
  some (⟨a0.Op, r2, r3, r4, r9, r10, r11, (⟨0, 0, 0⟩ : DataType), (⟨0, 0, 0⟩ : DataType), g26, g27, a0.Number, a0.Text, a0.Other, r5, r6, r7, r8⟩ : zC)))))
  (cond ((zk .i64 r1.fields 256) == 0) (cond ((zk .i64 r1.fields 512) == 0) (cond ((zk .i64 r1.fields 1024) == 0) ((cond a0.Half (some ((zk .i64 r1.fields 128) != 0))
  (some false)).bind fun g28 => (cond a0.zO (some (a0.Op == 4)) (some false)).bind fun g29 =>
  some (⟨a0.Op, r2, r3, r4, r9, r10, r11, (⟨0, 0, 0⟩ : DataType), a0.Second, g28, g29, (⟨0, 0⟩ : Number), (⟨#[]⟩ : ByteArray), (⟨#[]⟩ : ByteArray), r5, r6, r7, r8⟩ : zC))
  ((cond a0.Half (some ((zk .i64 r1.fields 128) != 0)) (some false)).bind fun g30 => (cond a0.zO (some (a0.Op == 4)) (some false)).bind fun g31 =>
  some (⟨a0.Op, r2, r3, r4, r9, r10, r11, (⟨0, 0, 0⟩ : DataType), a0.Second, g30, g31, (⟨0, 0⟩ : Number), (⟨#[]⟩ : ByteArray), a0.Other, r5, r6, r7, r8⟩ : zC)))
  (cond ((zk .i64 r1.fields 1024) == 0) ((cond a0.Half (some ((zk .i64 r1.fields 128) != 0)) (some false)).bind fun g32 => (cond a0.zO (some (a0.Op == 4))
  (some false)).bind fun g33 =>
  some (⟨a0.Op, r2, r3, r4, r9, r10, r11, (⟨0, 0, 0⟩ : DataType), a0.Second, g32, g33, (⟨0, 0⟩ : Number), a0.Text, (⟨#[]⟩ : ByteArray), r5, r6, r7, r8⟩ : zC))
  ((cond a0.Half (some ((zk .i64 r1.fields 128) != 0)) (some false)).bind fun g34 => (cond a0.zO (some (a0.Op == 4)) (some false)).bind fun g35 =>
  some (⟨a0.Op, r2, r3, r4, r9, r10, r11, (⟨0, 0, 0⟩ : DataType), a0.Second, g34, g35, (⟨0, 0⟩ : Number), a0.Text, a0.Other, r5, r6, r7, r8⟩ : zC))))
  (cond ((zk .i64 r1.fields 512) == 0) (cond ((zk .i64 r1.fields 1024) == 0) ((cond a0.Half (some ((zk .i64 r1.fields 128) != 0)) (some false)).bind fun g36 =>
  (cond a0.zO (some (a0.Op == 4)) (some false)).bind fun g37 =>
  some (⟨a0.Op, r2, r3, r4, r9, r10, r11, (⟨0, 0, 0⟩ : DataType), a0.Second, g36, g37, a0.Number, (⟨#[]⟩ : ByteArray), (⟨#[]⟩ : ByteArray), r5, r6, r7, r8⟩ : zC))
  ((cond a0.Half (some ((zk .i64 r1.fields 128) != 0)) (some false)).bind fun g38 => (cond a0.zO (some (a0.Op == 4)) (some false)).bind fun g39 =>
  some (⟨a0.Op, r2, r3, r4, r9, r10, r11, (⟨0, 0, 0⟩ : DataType), a0.Second, g38, g39, a0.Number, (⟨#[]⟩ : ByteArray), a0.Other, r5, r6, r7, r8⟩ : zC)))
  (cond ((zk .i64 r1.fields 1024) == 0) ((cond a0.Half (some ((zk .i64 r1.fields 128) != 0)) (some false)).bind fun g40 => (cond a0.zO (some (a0.Op == 4))
  (some false)).bind fun g41 =>
  some (⟨a0.Op, r2, r3, r4, r9, r10, r11, (⟨0, 0, 0⟩ : DataType), a0.Second, g40, g41, a0.Number, a0.Text, (⟨#[]⟩ : ByteArray), r5, r6, r7, r8⟩ : zC))
  ((cond a0.Half (some ((zk .i64 r1.fields 128) != 0)) (some false)).bind fun g42 => (cond a0.zO (some (a0.Op == 4)) (some false)).bind fun g43 =>
  some (⟨a0.Op, r2, r3, r4, r9, r10, r11, (⟨0, 0, 0⟩ : DataType), a0.Second, g42, g43, a0.Number, a0.Text, a0.Other, r5, r6, r7, r8⟩ : zC))))))
  (cond ((zk .i64 r1.fields 64) == 0) (cond ((zk .i64 r1.fields 256) == 0) (cond ((zk .i64 r1.fields 512) == 0) (cond ((zk .i64 r1.fields 1024) == 0)
  ((cond a0.Half (some ((zk .i64 r1.fields 128) != 0)) (some false)).bind fun g44 => (cond a0.zO (some (a0.Op == 4)) (some false)).bind fun g45 =>
  some (⟨a0.Op, r2, r3, r4, r9, r10, r11, a0.zG, (⟨0, 0, 0⟩ : DataType), g44, g45, (⟨0, 0⟩ : Number), (⟨#[]⟩ : ByteArray), (⟨#[]⟩ : ByteArray), r5, r6, r7, r8⟩ : zC))
  ((cond a0.Half (some ((zk .i64 r1.fields 128) != 0)) (some false)).bind fun g46 => (cond a0.zO (some (a0.Op == 4)) (some false)).bind fun g47 =>
  some (⟨a0.Op, r2, r3, r4, r9, r10, r11, a0.zG, (⟨0, 0, 0⟩ : DataType), g46, g47, (⟨0, 0⟩ : Number), (⟨#[]⟩ : ByteArray), a0.Other, r5, r6, r7, r8⟩ : zC)))
  (cond ((zk .i64 r1.fields 1024) == 0) ((cond a0.Half (some ((zk .i64 r1.fields 128) != 0)) (some false)).bind fun g48 => (cond a0.zO (some (a0.Op == 4))
  (some false)).bind fun g49 =>
  some (⟨a0.Op, r2, r3, r4, r9, r10, r11, a0.zG, (⟨0, 0, 0⟩ : DataType), g48, g49, (⟨0, 0⟩ : Number), a0.Text, (⟨#[]⟩ : ByteArray), r5, r6, r7, r8⟩ : zC))
  ((cond a0.Half (some ((zk .i64 r1.fields 128) != 0)) (some false)).bind fun g50 => (cond a0.zO (some (a0.Op == 4)) (some false)).bind fun g51 =>
  some (⟨a0.Op, r2, r3, r4, r9, r10, r11, a0.zG, (⟨0, 0, 0⟩ : DataType), g50, g51, (⟨0, 0⟩ : Number), a0.Text, a0.Other, r5, r6, r7, r8⟩ : zC))))
  (cond ((zk .i64 r1.fields 512) == 0) (cond ((zk .i64 r1.fields 1024) == 0) ((cond a0.Half (some ((zk .i64 r1.fields 128) != 0)) (some false)).bind fun g52 =>
  (cond a0.zO (some (a0.Op == 4)) (some false)).bind fun g53 =>
  some (⟨a0.Op, r2, r3, r4, r9, r10, r11, a0.zG, (⟨0, 0, 0⟩ : DataType), g52, g53, a0.Number, (⟨#[]⟩ : ByteArray), (⟨#[]⟩ : ByteArray), r5, r6, r7, r8⟩ : zC))
  ((cond a0.Half (some ((zk .i64 r1.fields 128) != 0)) (some false)).bind fun g54 => (cond a0.zO (some (a0.Op == 4)) (some false)).bind fun g55 =>
  some (⟨a0.Op, r2, r3, r4, r9, r10, r11, a0.zG, (⟨0, 0, 0⟩ : DataType), g54, g55, a0.Number, (⟨#[]⟩ : ByteArray), a0.Other, r5, r6, r7, r8⟩ : zC)))
  (cond ((zk .i64 r1.fields 1024) == 0) ((cond a0.Half (some ((zk .i64 r1.fields 128) != 0)) (some false)).bind fun g56 => (cond a0.zO (some (a0.Op == 4))
  (some false)).bind fun g57 =>
  some (⟨a0.Op, r2, r3, r4, r9, r10, r11, a0.zG, (⟨0, 0, 0⟩ : DataType), g56, g57, a0.Number, a0.Text, (⟨#[]⟩ : ByteArray), r5, r6, r7, r8⟩ : zC))
  ((cond a0.Half (some ((zk .i64 r1.fields 128) != 0)) (some false)).bind fun g58 => (cond a0.zO (some (a0.Op == 4)) (some false)).bind fun g59 =>
  some (⟨a0.Op, r2, r3, r4, r9, r10, r11, a0.zG, (⟨0, 0, 0⟩ : DataType), g58, g59, a0.Number, a0.Text, a0.Other, r5, r6, r7, r8⟩ : zC)))))
  (cond ((zk .i64 r1.fields 256) == 0) (cond ((zk .i64 r1.fields 512) == 0) (cond ((zk .i64 r1.fields 1024) == 0) ((cond a0.Half (some ((zk .i64 r1.fields 128) != 0))
  (some false)).bind fun g60 => (cond a0.zO (some (a0.Op == 4)) (some false)).bind fun g61 =>
  some (⟨a0.Op, r2, r3, r4, r9, r10, r11, a0.zG, a0.Second, g60, g61, (⟨0, 0⟩ : Number), (⟨#[]⟩ : ByteArray), (⟨#[]⟩ : ByteArray), r5, r6, r7, r8⟩ : zC))
  ((cond a0.Half (some ((zk .i64 r1.fields 128) != 0)) (some false)).bind fun g62 => (cond a0.zO (some (a0.Op == 4)) (some false)).bind fun g63 =>
  some (⟨a0.Op, r2, r3, r4, r9, r10, r11, a0.zG, a0.Second, g62, g63, (⟨0, 0⟩ : Number), (⟨#[]⟩ : ByteArray), a0.Other, r5, r6, r7, r8⟩ : zC)))
  (cond ((zk .i64 r1.fields 1024) == 0) ((cond a0.Half (some ((zk .i64 r1.fields 128) != 0)) (some false)).bind fun g64 => (cond a0.zO (some (a0.Op == 4))
  (some false)).bind fun g65 =>
  some (⟨a0.Op, r2, r3, r4, r9, r10, r11, a0.zG, a0.Second, g64, g65, (⟨0, 0⟩ : Number), a0.Text, (⟨#[]⟩ : ByteArray), r5, r6, r7, r8⟩ : zC))
  ((cond a0.Half (some ((zk .i64 r1.fields 128) != 0)) (some false)).bind fun g66 => (cond a0.zO (some (a0.Op == 4)) (some false)).bind fun g67 =>
  some (⟨a0.Op, r2, r3, r4, r9, r10, r11, a0.zG, a0.Second, g66, g67, (⟨0, 0⟩ : Number), a0.Text, a0.Other, r5, r6, r7, r8⟩ : zC))))
  (cond ((zk .i64 r1.fields 512) == 0) (cond ((zk .i64 r1.fields 1024) == 0) ((cond a0.Half (some ((zk .i64 r1.fields 128) != 0)) (some false)).bind fun g68 =>
  (cond a0.zO (some (a0.Op == 4)) (some false)).bind fun g69 =>
  some (⟨a0.Op, r2, r3, r4, r9, r10, r11, a0.zG, a0.Second, g68, g69, a0.Number, (⟨#[]⟩ : ByteArray), (⟨#[]⟩ : ByteArray), r5, r6, r7, r8⟩ : zC))
  ((cond a0.Half (some ((zk .i64 r1.fields 128) != 0)) (some false)).bind fun g70 => (cond a0.zO (some (a0.Op == 4)) (some false)).bind fun g71 =>
  some (⟨a0.Op, r2, r3, r4, r9, r10, r11, a0.zG, a0.Second, g70, g71, a0.Number, (⟨#[]⟩ : ByteArray), a0.Other, r5, r6, r7, r8⟩ : zC)))
  (cond ((zk .i64 r1.fields 1024) == 0) ((cond a0.Half (some ((zk .i64 r1.fields 128) != 0)) (some false)).bind fun g72 => (cond a0.zO (some (a0.Op == 4))
  (some false)).bind fun g73 => some (⟨a0.Op, r2, r3, r4, r9, r10, r11, a0.zG, a0.Second, g72, g73, a0.Number, a0.Text, (⟨#[]⟩ : ByteArray), r5, r6, r7, r8⟩ : zC))
  ((cond a0.Half (some ((zk .i64 r1.fields 128) != 0)) (some false)).bind fun g74 => (cond a0.zO (some (a0.Op == 4)) (some false)).bind fun g75 =>
  some (⟨a0.Op, r2, r3, r4, r9, r10, r11, a0.zG, a0.Second, g74, g75, a0.Number, a0.Text, a0.Other, r5, r6, r7, r8⟩ : zC))))))
def zid.k : Kq := ⟨183, (cvv [Ty.zC] [Ty.zC] zid), go [zbt.k, zch.k, zgq.k] {} [] Proofs.Tryz.func183⟩
def zg2 (a0 : zL) (a1 : zC) : Option Bool :=
 (cond (a1.Op != 7) (some true) (some a0.yC)).bind fun g1 => (cond g1 ((cond (a1.Op != 4) (some true) (some (!a1.zO))).bind fun g2 => (cond g2 (some true)
  (some a0.yB)).bind fun g3 => some g3) (some false)).bind fun g4 => some g4
def zg2.k : Kq := ⟨184, (cvv [Ty.bool] [Ty.zL, Ty.zC] zg2), go [] {} [] Proofs.Tryz.func184⟩
def zeg (a0 : Int) (a1 : Int) (a2 : Int) : Option Bool :=
 (cond (decide (a1 ≤ a0)) (some (decide (a0 ≤ a2))) (some false)).bind fun g1 => some g1
def zeg.k : Kq := ⟨217, (cvv [Ty.bool] [T6, T6, T6] zeg), go [] {} [] Proofs.Tryz.func217⟩
def zby (a0 : Bool) (a1 : Int) : Option Int :=
 cond a0 (some a1) (some 0)
def zby.k : Kq := ⟨215, (cvv [T6] [Ty.bool, T6] zby), go [] {} [] Proofs.Tryz.func215⟩
def zai.b0 (N : Nat) (s5 : List Int) (s6 : Int) (s7 : Int) : Option (Round Int ((List Int) × Int × Int)) :=
 cond (decide (s7 < s6)) ((idx s5 s7).bind fun x1001 => cond (x1001 != 0) (some (.result x1001)) (some (.again (s5, s6, (w6 (s7 + 1)))))) (some (.leave (s5, s6, s7)))
def zai.r0 (N : Nat) (x : (List Int) × Int × Int) := zai.b0 N x.1 x.2.1 x.2.2
def zai (N : Nat) (a0 : List Int) : Option Int :=
 (zf (zai.r0 N) N (a0, (a0.length : Int), 0)).bind fun z2 => zbc z2 (fun z => some z) (fun y1 => some 0)
def zai.k (N : Nat) : Kq := ⟨214, (cvv [T6] [(Ty.sl T6)] (zai N)), go [] {} [(0, .rets { slots := [(5, .val (Ty.sl T6)), (6, .val T6), (7, .val T6)], boxes := [] } [(Ty.sl T6), T6, T6] (zf (zai.r0 N) N))] Proofs.Tryz.func214 (hL := ⟨⟨_, _, rfl, by kernel_rfl⟩, trivial⟩)⟩
def zck (N : Nat) (a0 : DataType) : Option Int :=
 cond (a0.Kind == 0) ((zeg a0.Length 1 256).bind fun r1 => (zby (!r1) 18).bind fun r2 => (zby (!(a0.Scale == 0)) 3).bind fun r3 =>
  (zai N ([r2, r3] : List Int)).bind fun r4 => some r4) ((cond (a0.Kind == 1) (some (a0.Kind == 1)) (some (a0.Kind == 2))).bind fun q5 =>
  cond q5 ((zeg a0.Length 1 15).bind fun r6 => (zeg a0.Scale 0 a0.Length).bind fun r7 => (zby (!r6) 18).bind fun r8 => (zby (!r7) 3).bind fun r9 =>
  (zai N ([r8, r9] : List Int)).bind fun r10 => some r10) (cond (a0.Kind == 3) ((cond (a0.Length == 4) (some true) (some (a0.Length == 9))).bind fun g11 =>
  (zeg a0.Scale 0 a0.Length).bind fun r12 => (zby (!g11) 18).bind fun r13 => (zby (!r12) 3).bind fun r14 =>
  (zai N ([r13, r14] : List Int)).bind fun r15 => some r15) (cond (a0.Kind == 4) ((zby (!(a0.Length == 0)) 18).bind fun r16 =>
  (zby (!(a0.Scale == 0)) 3).bind fun r17 => (zai N ([r16, r17] : List Int)).bind fun r18 => some r18) (some 4))))
def zck.k (N : Nat) : Kq := ⟨175, (cvv [T6] [Ty.DataType] (zck N)), go [zai.k N, zby.k, zeg.k] {lits := [48, 51, 52], bj := [15]} [] Proofs.Tryz.func175⟩
def zet (N : Nat) (a0 : DataType) (a1 : Int) : Option Int :=
 (cond (a0.Kind == 4) (some true) ((cond (a1 == 1) (some (a0.Kind == 0)) (some false)).bind fun g1 => some g1)).bind fun g2 => (cond g2 (some true) ((cond (a1 == 2)
  (some (a0.Kind != 0)) (some false)).bind fun g3 => some g3)).bind fun g4 => (zck N a0).bind fun r5 => (zb1 g4 17).bind fun r6 =>
  (zak N ([r5, r6] : List Int)).bind fun r7 => some r7
def zet.k (N : Nat) : Kq := ⟨233, (cvv [T6] [Ty.DataType, T6] (zet N)), go [zb1.k, zak.k N, zck.k N] {lits := [28, 30, 31]} [] Proofs.Tryz.func233⟩
def zgc (N : Nat) (a0 : zC) (a1 : zT) : Option Int :=
 cond ((zk .i64 a1.fields 32) != 0) ((zet N a0.zG a1.types).bind fun r1 => cond (r1 != 0) (some r1) (cond ((zk .i64 a1.fields 64) != 0)
  ((zet N a0.Second a1.types).bind fun r2 => some r2) (some 0))) (cond ((zk .i64 a1.fields 64) != 0) ((zet N a0.Second a1.types).bind fun r3 => some r3)
  (some 0))
def zgc.k (N : Nat) : Kq := ⟨185, (cvv [T6] [Ty.zC, Ty.zT] (zgc N)), go [zet.k N] {} [] Proofs.Tryz.func185⟩
def zq.b0 (N : Nat) (s3 : List Int) (s4 : Int) (s16 : List Int) (s17 : Int) (s18 : Int) : Option (Stp ((List Int) × Int × (List Int) × Int × Int)) :=
 cond (decide (s18 < s17)) (if 0 ≤ s18 then (if s18 < (s16.length : Int) then ((s16[s18.toNat]?).bind fun x1001 =>
  if s18 < 0 then none else cond ((zk .i64 s4 (w6 (1 * 2 ^ (min s18.toNat 64)))) != 0) (cond (Nat.ble ((s3.length + ([x1001] : List Int).length) * 8) zah)
  (some (.again ((s3 ++ ([x1001] : List Int)), s4, s16, s17, (w6 (s18 + 1))))) none)
  (some (.again (s3, s4, s16, s17, (w6 (s18 + 1)))))) else none) else none) (some (.leave (s3, s4, s16, s17, s18)))
def zq.r0 (N : Nat) (x : (List Int) × Int × (List Int) × Int × Int) := zq.b0 N x.1 x.2.1 x.2.2.1 x.2.2.2.1 x.2.2.2.2
def zq (N : Nat) (a0 : zC) : Option ((List Int)) :=
 (zbt a0).bind fun r1 =>
  (zi (zq.r0 N) N ([], r1.fields, ([a0.R, a0.A, a0.B] : List Int), (([a0.R, a0.A, a0.B] : List Int).length : Int), 0)).bind fun y2 => some y2.1
def zq.k (N : Nat) : Kq := ⟨235, (cvv [(Ty.sl T6)] [Ty.zC] (zq N)), go [zbt.k] {lits := [30]} [(0, .plain { slots := [(3, .own 5000003 T6), (4, .val T6), (16, .own 5000016 T6), (17, .val T6), (18, .val T6)], boxes := [] } [(Ty.sl T6), T6, (Ty.sl T6), T6, T6] (zi (zq.r0 N) N))] Proofs.Tryz.func235 (hL := ⟨⟨_, _, rfl, by kernel_rfl⟩, trivial⟩)⟩
def zfh (a0 : Int) (a1 : zL) : Option Bool :=
 (zbh a0 0 (w6 (a1.Registers - 1))).bind fun r1 => some (!r1)
def zfh.k : Kq := ⟨236, (ctv [.val T6, .ptr Ty.zL false []] [Ty.bool] [] [] [T6, Ty.zL] zfh), go [zbh.k] {ro := [1000000], pk := [1000000]} [] Proofs.Tryz.func236⟩
def zad.b0 (N : Nat) (s0 : List Int) (s7 : Int) (s8 : Int) (b1000000 : zL) : Option (Round Int ((List Int) × Int × Int × zL)) :=
 cond (decide (s8 < s7)) ((idx s0 s8).bind fun x1001 => (zfh x1001 b1000000).bind fun r1002 => cond r1002 (some (.result s8))
  (some (.again (s0, s7, (w6 (s8 + 1)), b1000000)))) (some (.leave (s0, s7, s8, b1000000)))
def zad.r0 (N : Nat) (x : (List Int) × Int × Int × zL) := zad.b0 N x.1 x.2.1 x.2.2.1 x.2.2.2
def zad (N : Nat) (a0 : List Int) (a1 : zL) : Option Int :=
 (zf (zad.r0 N) N (a0, (a0.length : Int), 0, a1)).bind fun z2 => zbc z2 (fun z => some z) (fun y1 => some (-1))
def zad.k (N : Nat) : Kq := ⟨256, (ctv [.val (Ty.sl T6), .clo 236 1, .ptr Ty.zL false []] [T6] [] [] [(Ty.sl T6), Ty.zL] (zad N)), go [zfh.k] {ro := [1000000], pk := [1000000]} [(0, .rets { slots := [(0, .val (Ty.sl T6)), (1, .fn 236 [1000000]), (7, .val T6), (8, .val T6)], boxes := [(1000000, Ty.zL, [])] } [(Ty.sl T6), T6, T6, Ty.zL] (zf (zad.r0 N) N))] Proofs.Tryz.func256 (hL := ⟨⟨_, _, rfl, by kernel_rfl⟩, trivial⟩)⟩
def zc1 (N : Nat) (a0 : List Int) (a1 : zL) : Option Bool :=
 (zad N a0 a1).bind fun r1 => some (decide (r1 ≥ 0))
def zc1.k (N : Nat) : Kq := ⟨234, (ctv [.val (Ty.sl T6), .clo 236 1, .ptr Ty.zL false []] [Ty.bool] [] [] [(Ty.sl T6), Ty.zL] (zc1 N)), go [zad.k N] {ro := [1000000], pk := [1000000]} [] Proofs.Tryz.func234⟩
def zdf (a0 : Storage) (a1 : Int) : Option Bool :=
 (cond (decide (a1 ≥ 0)) (some ((a1.tmod 16) == 0)) (some false)).bind fun g1 => (cond g1 (some (decide (a1 < (a0.Bytes.size : Int)))) (some false)).bind fun g2 => some g2
def zdf.k : Kq := ⟨237, (cvv [Ty.bool] [Ty.Storage, T6] zdf), go [] {} [] Proofs.Tryz.func237⟩
def zgz (a0 : DataType) : Option Int :=
 cond (a0.Kind == 1) (some (w6 ((w6 (a0.Length.tdiv 2)) + 1))) (cond (a0.Kind == 3)
  (some (w6 (2 + (w6 ((w6 (a0.Length.tdiv 9)) * 2))))) (cond (a0.Kind == 4) (some 16) (some a0.Length)))
def zgz.k : Kq := ⟨220, (cvv [T6] [Ty.DataType] zgz), go [] {} [] Proofs.Tryz.func220⟩
def zd6 (N : Nat) (a0 : DataType) : Option (Int × Int) :=
 (zck N a0).bind fun r1 => cond (r1 != 0) (some (0, r1)) ((zgz a0).bind fun r2 => some (r2, 0))
def zd6.k (N : Nat) : Kq := ⟨206, (cvv [T6, T6] [Ty.DataType] (zd6 N)), go [zck.k N, zgz.k] {} [] Proofs.Tryz.func206⟩
def zic (N : Nat) (a0 : DataType) : Option Int :=
 (zd6 N a0).bind fun r1 => some r1.1
def zic.k (N : Nat) : Kq := ⟨257, (cvv [T6] [Ty.DataType] (zic N)), go [zd6.k N] {} [] Proofs.Tryz.func257⟩
def zc5 (N : Nat) (a0 : Storage) (a1 : zM) (a2 : DataType) : Option Bool :=
 cond a1.Based ((zdf a0 a1.Pointer).bind fun r1 => (cond r1 ((zbh a1.Offset 0 256).bind fun r2 => some r2) (some false)).bind fun g3 => some g3)
  ((zic N a2).bind fun r4 => (zbh a1.Offset 0 (w6 ((a0.Bytes.size : Int) - r4))).bind fun r5 => some r5)
def zc5.k (N : Nat) : Kq := ⟨238, (cvv [Ty.bool] [Ty.Storage, Ty.zM, Ty.DataType] (zc5 N)), go [zbh.k, zdf.k, zic.k N] {} [] Proofs.Tryz.func238⟩
def zgr (N : Nat) (a0 : zL) (a1 : zI) (a2 : zC) : Option Bool :=
 (zbt a2).bind fun r1 => (zq N a2).bind fun r2 => (zc1 N r2 a0).bind fun r3 => cond r3 (some false)
  ((cond ((zk .i64 r1.fields 8) != 0) (some (a2.Op == 4)) (some false)).bind fun g4 => cond g4 ((cond ((zk .i64 r1.fields 4096) != 0)
  ((zbh a2.Target 0 (w6 ((a1.zA.length : Int) - 1))).bind fun r5 => some (!r5)) (some false)).bind fun g6 => (cond g6 (some true)
  ((cond ((zk .i64 r1.fields 2048) != 0) ((zbh a2.Mask 1 7).bind fun r7 => some (!r7)) (some false)).bind fun g8 => some g8)).bind fun g9 => (cond g9 (some true)
  ((cond ((zk .i64 r1.fields 8192) != 0) ((zdf a1.Storage a2.Pointer).bind fun r10 => some (!r10)) (some false)).bind fun g11 => some g11)).bind fun g12 =>
  (cond g12 (some true) ((cond ((zk .i64 r1.fields 16384) != 0) ((zdf a1.Storage a2.Source).bind fun r13 => some (!r13)) (some false)).bind fun g14 =>
  some g14)).bind fun g15 => (cond g15 (some true) ((cond ((zk .i64 r1.fields 8) != 0) ((zc5 N a1.Storage a2.Place a2.Second).bind fun r16 => some (!r16))
  (some false)).bind fun g17 => some g17)).bind fun g18 => (cond g18 (some true) ((cond ((zk .i64 r1.fields 16) != 0)
  ((zc5 N a1.Storage a2.From a2.Second).bind fun r19 => some (!r19)) (some false)).bind fun g20 => some g20)).bind fun g21 => (cond g21 (some true)
  ((cond ((zk .i64 r1.fields 32768) != 0) ((zbh a2.zS 0 4).bind fun r22 => some (!r22)) (some false)).bind fun g23 => some g23)).bind fun g24 => some (!g24))
  ((cond ((zk .i64 r1.fields 4096) != 0) ((zbh a2.Target 0 (w6 ((a1.zA.length : Int) - 1))).bind fun r25 => some (!r25))
  (some false)).bind fun g26 => (cond g26 (some true) ((cond ((zk .i64 r1.fields 2048) != 0) ((zbh a2.Mask 1 7).bind fun r27 => some (!r27)) (some false)).bind fun g28 =>
  some g28)).bind fun g29 => (cond g29 (some true) ((cond ((zk .i64 r1.fields 8192) != 0) ((zdf a1.Storage a2.Pointer).bind fun r30 => some (!r30))
  (some false)).bind fun g31 => some g31)).bind fun g32 => (cond g32 (some true) ((cond ((zk .i64 r1.fields 16384) != 0) ((zdf a1.Storage a2.Source).bind fun r33 =>
  some (!r33)) (some false)).bind fun g34 => some g34)).bind fun g35 => (cond g35 (some true) ((cond ((zk .i64 r1.fields 8) != 0)
  ((zc5 N a1.Storage a2.Place a2.zG).bind fun r36 => some (!r36)) (some false)).bind fun g37 => some g37)).bind fun g38 => (cond g38 (some true)
  ((cond ((zk .i64 r1.fields 16) != 0) ((zc5 N a1.Storage a2.From a2.Second).bind fun r39 => some (!r39)) (some false)).bind fun g40 => some g40)).bind fun g41 =>
  (cond g41 (some true) ((cond ((zk .i64 r1.fields 32768) != 0) ((zbh a2.zS 0 4).bind fun r42 => some (!r42)) (some false)).bind fun g43 =>
  some g43)).bind fun g44 => some (!g44)))
def zgr.k (N : Nat) : Kq := ⟨187, (cvv [Ty.bool] [Ty.zL, Ty.zI, Ty.zC] (zgr N)), go [zbh.k, zbt.k, zc1.k N, zq.k N, zdf.k, zc5.k N] {lits := [13]} [] Proofs.Tryz.func187⟩
def zff (a0 : Number) : Option Int :=
 (zeg a0.N (-999999999999999) 999999999999999).bind fun r1 => (cond (!r1) (some true) ((zeg a0.Scale 0 15).bind fun r2 => some (!r2))).bind fun g3 =>
  (zby g3 3).bind fun r4 => some r4
def zff.k : Kq := ⟨188, (cvv [T6] [Ty.Number] zff), go [zby.k, zeg.k] {} [] Proofs.Tryz.func188⟩
def zcw (N : Nat) (a0 : zL) (a1 : zI) (a2 : zC) : Option Int :=
 (zbh a2.Op 0 26).bind fun r1 => cond (!r1) (some 4) ((zid a2).bind fun r2 =>
  (zb1 (!(zcp [(r2.Op == a2.Op), (r2.R == a2.R), (r2.A == a2.A), (r2.B == a2.B), (r2.zS == a2.zS), (r2.Place.Based == a2.Place.Based), (r2.Place.Pointer == a2.Place.Pointer), (r2.Place.Offset == a2.Place.Offset), (r2.From.Based == a2.From.Based), (r2.From.Pointer == a2.From.Pointer), (r2.From.Offset == a2.From.Offset), (r2.zG.Kind == a2.zG.Kind), (r2.zG.Length == a2.zG.Length), (r2.zG.Scale == a2.zG.Scale), (r2.Second.Kind == a2.Second.Kind), (r2.Second.Length == a2.Second.Length), (r2.Second.Scale == a2.Second.Scale), (r2.Half == a2.Half), (r2.zO == a2.zO), (r2.Number.N == a2.Number.N), (r2.Number.Scale == a2.Number.Scale), (r2.Text == a2.Text), (r2.Other == a2.Other), (r2.Mask == a2.Mask), (r2.Target == a2.Target), (r2.Pointer == a2.Pointer), (r2.Source == a2.Source)])) 5).bind fun r3 =>
  (zg2 a0 a2).bind fun r4 => (zb1 (!r4) 39).bind fun r5 => (zbt a2).bind fun r6 => (zgc N a2 r6).bind fun r7 =>
  (zak N ([r3, r5, r7] : List Int)).bind fun r8 => cond (r8 != 0) (some r8) ((zgr N a0 a1 a2).bind fun r9 => (zb1 (!r9) 3).bind fun r10 =>
  (zff a2.Number).bind fun r11 => (cond (decide ((a2.Text.size : Int) > 256)) (some true) (some (decide ((a2.Other.size : Int) > 256)))).bind fun g12 =>
  (zb1 g12 2).bind fun r13 => (zak N ([r10, r11, r13] : List Int)).bind fun r14 => some r14))
def zcw.k (N : Nat) : Kq := ⟨131, (cvv [T6] [Ty.zL, Ty.zI, Ty.zC] (zcw N)), go [zb1.k, zbh.k, zak.k N, zid.k, zg2.k, zgc.k N, zbt.k, zgr.k N, zff.k] {lits := [16, 21, 24, 25, 26, 36, 39, 50, 51]} [] Proofs.Tryz.func131⟩
def zgp (a0 : zI) (a1 : zR) : Option Int :=
 (zbh a1.From 0 a1.To).bind fun r1 => (cond r1 (some (decide (a1.To ≤ (a0.zA.length : Int)))) (some false)).bind fun g2 =>
  (cond g2 ((zbh a1.Exception 0 999).bind fun r3 => some r3) (some false)).bind fun g4 =>
  (cond g4 ((zbh a1.Handler 0 (w6 ((a0.zA.length : Int) - 1))).bind fun r5 => some r5) (some false)).bind fun g6 =>
  (zb1 (!g6) 3).bind fun r7 => some r7
def zgp.k : Kq := ⟨132, (cvv [T6] [Ty.zI, Ty.zR] zgp), go [zb1.k, zbh.k] {} [] Proofs.Tryz.func132⟩
def zl.b0 (N : Nat) (s57 : List zC) (s58 : Int) (s59 : Int) (b2 : zL) (b3 : zI) : Option (Round (Int × Int) ((List zC) × Int × Int × zL × zI)) :=
 cond (decide (s59 < s58)) ((idx s57 s59).bind fun x1001 => (zcw N b2 b3 x1001).bind fun r1002 => cond (r1002 != 0) (some (.result (s59, r1002)))
  (some (.again (s57, s58, (w6 (s59 + 1)), b2, b3)))) (some (.leave (s57, s58, s59, b2, b3)))
def zl.r0 (N : Nat) (x : (List zC) × Int × Int × zL × zI) := zl.b0 N x.1 x.2.1 x.2.2.1 x.2.2.2.1 x.2.2.2.2
def zl.b2 (N : Nat) (s74 : List zR) (s75 : Int) (s76 : Int) (b3 : zI) : Option (Round (Int × Int) ((List zR) × Int × Int × zI)) :=
 cond (decide (s76 < s75)) ((idx s74 s76).bind fun x3001 => (zgp b3 x3001).bind fun r3002 => cond (r3002 != 0) (some (.result (s76, r3002)))
  (some (.again (s74, s75, (w6 (s76 + 1)), b3)))) (some (.leave (s74, s75, s76, b3)))
def zl.r2 (N : Nat) (x : (List zR) × Int × Int × zI) := zl.b2 N x.1 x.2.1 x.2.2.1 x.2.2.2
def zl (N : Nat) (a0 : zL) (a1 : zI) : Option (Int × Int) :=
 (zcs a0).bind fun r1 => cond (r1 != 0) (some (0, r1)) ((zn N a1.Storage).bind fun r2 => cond (r2.2 != 0) (some (0, r2.2))
  ((ze0 N a1.Storage.Tags true).bind fun r3 => (zb1 r3 22).bind fun r4 => (zb1 ((a1.zA.length : Int) == 0) 1).bind fun r5 =>
  (cond (decide ((a1.zA.length : Int) > 240)) (some true) (some (decide ((a1.zV.length : Int) > 40)))).bind fun g6 => (zb1 g6 2).bind fun r7 =>
  (zak N ([r4, r5, r7] : List Int)).bind fun r8 => cond (r8 != 0) (some (0, r8))
  ((zf (zl.r0 N) N (a1.zA, (a1.zA.length : Int), 0, a0, a1)).bind fun z10 => zbc z10 (fun z => some z) (fun y9 =>
  (zf (zl.r2 N) N (y9.2.2.2.2.zV, (y9.2.2.2.2.zV.length : Int), 0, y9.2.2.2.2)).bind fun z12 => zbc z12 (fun z => some z) (fun y11 =>
  some ((y11.2.2.2.zA.length : Int), 0))))))
def zl.k (N : Nat) : Kq := ⟨77, (cvv [T6, T6] [Ty.zL, Ty.zI] (zl N)), go [zcs.k, zb1.k, zn.k N, zak.k N, ze0.k N, zcw.k N, zgp.k] {lits := [33, 34, 39, 50, 51]} [(0, .rets { slots := [(2, .ptr 2 0), (3, .ptr 3 0), (57, .val (Ty.sl Ty.zC)), (58, .val T6), (59, .val T6)], boxes := [(2, Ty.zL, []), (3, Ty.zI, [])] } [(Ty.sl Ty.zC), T6, T6, Ty.zL, Ty.zI] (zf (zl.r0 N) N)), (2, .rets { slots := [(3, .ptr 3 0), (74, .val (Ty.sl Ty.zR)), (75, .val T6), (76, .val T6)], boxes := [(3, Ty.zI, [])] } [(Ty.sl Ty.zR), T6, T6, Ty.zI] (zf (zl.r2 N) N))] Proofs.Tryz.func77 (hL := ⟨⟨_, _, rfl, by kernel_rfl⟩, ⟨_, _, rfl, by kernel_rfl⟩, trivial⟩)⟩
def ze9 (N : Nat) (a0 : zL) (a1 : zI) : Option Int :=
 (zl N a0 a1).bind fun r1 => some r1.2
def ze9.k (N : Nat) : Kq := ⟨30, (cvv [T6] [Ty.zL, Ty.zI] (ze9 N)), go [zl.k N] {} [] Proofs.Tryz.func30⟩
def zcq.b0 (N : Nat) (s3 : List Int) (s7 : List zC) (s8 : Int) (s9 : Int) (b1 : zI) : Option (Stp ((List Int) × (List zC) × Int × Int × zI)) :=
 cond (decide (s9 < s8)) ((idx s7 s9).bind fun x1001 => (cond (x1001.Op == 18) (some (decide ((w6 (s9 + 1)) < (b1.zA.length : Int))))
  (some false)).bind fun g1002 => cond g1002 (cond (Nat.ble ((s3.length + ([(w6 (s9 + 1))] : List Int).length) * 8) zah)
  (some (.again ((s3 ++ ([(w6 (s9 + 1))] : List Int)), s7, s8, (w6 (s9 + 1)), b1))) none)
  (some (.again (s3, s7, s8, (w6 (s9 + 1)), b1)))) (some (.leave (s3, s7, s8, s9, b1)))
def zcq.r0 (N : Nat) (x : (List Int) × (List zC) × Int × Int × zI) := zcq.b0 N x.1 x.2.1 x.2.2.1 x.2.2.2.1 x.2.2.2.2
def zcq (N : Nat) (a0 : zI) : Option ((List Int)) :=
 (zi (zcq.r0 N) N ([], a0.zA, (a0.zA.length : Int), 0, a0)).bind fun y1 => some y1.1
def zcq.k (N : Nat) : Kq := ⟨133, (cvv [(Ty.sl T6)] [Ty.zI] (zcq N)), go [] {lits := [28]} [(0, .plain { slots := [(1, .ptr 1 0), (3, .own 5000003 T6), (7, .val (Ty.sl Ty.zC)), (8, .val T6), (9, .val T6)], boxes := [(1, Ty.zI, [])] } [(Ty.sl T6), (Ty.sl Ty.zC), T6, T6, Ty.zI] (zi (zcq.r0 N) N))] Proofs.Tryz.func133 (hL := ⟨⟨_, _, rfl, by kernel_rfl⟩, trivial⟩)⟩
def zbr.b0 (N : Nat) (s3 : List Bool) (s15 : List zR) (s16 : Int) (s17 : Int) (b1 : zI) : Option (Stp ((List Bool) × (List zR) × Int × Int × zI)) :=
 cond (decide (s17 < s16)) ((idx s15 s17).bind fun x1001 => if 0 ≤ x1001.Handler then (if x1001.Handler < (s3.length : Int) then ((s3[x1001.Handler.toNat]?).bind fun x1002 =>
  some (.again ((s3.set x1001.Handler.toNat true), s15, s16, (w6 (s17 + 1)), b1))) else none) else none) (some (.leave (s3, s15, s16, s17, b1)))
def zbr.r0 (N : Nat) (x : (List Bool) × (List zR) × Int × Int × zI) := zbr.b0 N x.1 x.2.1 x.2.2.1 x.2.2.2.1 x.2.2.2.2
def zbr.b2 (N : Nat) (s3 : List Bool) (s27 : List Int) (s28 : Int) (s29 : Int) : Option (Stp ((List Bool) × (List Int) × Int × Int)) :=
 cond (decide (s29 < s28)) ((idx s27 s29).bind fun x3001 => if 0 ≤ x3001 then (if x3001 < (s3.length : Int) then ((s3[x3001.toNat]?).bind fun x3002 =>
  some (.again ((s3.set x3001.toNat true), s27, s28, (w6 (s29 + 1))))) else none) else none) (some (.leave (s3, s27, s28, s29)))
def zbr.r2 (N : Nat) (x : (List Bool) × (List Int) × Int × Int) := zbr.b2 N x.1 x.2.1 x.2.2.1 x.2.2.2
def zbr (N : Nat) (a0 : zI) : Option ((List Bool)) :=
 if 0 ≤ (a0.zA.length : Int) then (if (a0.zA.length : Int) ≤ (a0.zA.length : Int) then (cond (Nat.ble ((a0.zA.length : Int).toNat * 1) zah)
  (if 0 ≤ (0 : Int) then (if (0 : Int) < ((List.replicate (a0.zA.length : Int).toNat (false : Bool)).length : Int) then (((List.replicate (a0.zA.length : Int).toNat (false : Bool))[(0 : Int).toNat]?).bind fun x1 =>
  (zi (zbr.r0 N) N (((List.replicate (a0.zA.length : Int).toNat (false : Bool)).set ((0 : Int).toNat) true), a0.zV, (a0.zV.length : Int), 0, a0)).bind fun y2 =>
  (zcq N y2.2.2.2.2).bind fun r3 => (zi (zbr.r2 N) N (y2.1, r3, (r3.length : Int), 0)).bind fun y4 =>
  some y4.1) else none) else none) none) else none) else none
def zbr.k (N : Nat) : Kq := ⟨78, (cvv [(Ty.sl Ty.bool)] [Ty.zI] (zbr N)), go [zcq.k N] {} [(0, .plain { slots := [(1, .ptr 1 0), (3, .own 5000003 Ty.bool), (15, .val (Ty.sl Ty.zR)), (16, .val T6), (17, .val T6)], boxes := [(1, Ty.zI, [])] } [(Ty.sl Ty.bool), (Ty.sl Ty.zR), T6, T6, Ty.zI] (zi (zbr.r0 N) N)), (2, .plain { slots := [(3, .own 5000003 Ty.bool), (27, .val (Ty.sl T6)), (28, .val T6), (29, .val T6)], boxes := [] } [(Ty.sl Ty.bool), (Ty.sl T6), T6, T6] (zi (zbr.r2 N) N))] Proofs.Tryz.func78 (hL := ⟨⟨_, _, rfl, by kernel_rfl⟩, ⟨_, _, rfl, by kernel_rfl⟩, trivial⟩)⟩
def zcg (a0 : Int) : Option Bool :=
 (cond (a0 == 6) (some true) (some (a0 == 7))).bind fun g1 => (cond g1 (some true) (some (a0 == 8))).bind fun g2 => (cond g2 (some true) (some (a0 == 18))).bind fun g3 => some g3
def zcg.k : Kq := ⟨56, (cvv [Ty.bool] [T6] zcg), go [] {} [] Proofs.Tryz.func56⟩
def zez (a0 : zI) (a1 : Int) : Option ((List Int)) :=
 (idx a0.zA a1).bind fun x1 => (cond (x1.Op == 8) (some (x1.Op == 8)) (cond (x1.Op == 18) (some (x1.Op == 18)) (cond (x1.Op == 19) (some (x1.Op == 19))
  (cond (x1.Op == 20) (some (x1.Op == 20)) (some (x1.Op == 26)))))).bind fun q2 => cond q2 ((zcg x1.Op).bind fun r3 =>
  cond r3 (cond (Nat.ble (([x1.Target] : List Int).length * 8) zah) (some ([x1.Target] : List Int)) none) (some []))
  (cond (decide ((w6 (a1 + 1)) < (a0.zA.length : Int))) (cond (Nat.ble (([(w6 (a1 + 1))] : List Int).length * 8) zah)
  ((zcg x1.Op).bind fun r4 => cond r4 (cond (Nat.ble ((([(w6 (a1 + 1))] : List Int).length + ([x1.Target] : List Int).length) * 8) zah)
  (some (([(w6 (a1 + 1))] : List Int) ++ ([x1.Target] : List Int))) none) (some ([(w6 (a1 + 1))] : List Int))) none)
  ((zcg x1.Op).bind fun r5 => cond r5 (cond (Nat.ble (([x1.Target] : List Int).length * 8) zah) (some ([x1.Target] : List Int)) none) (some [])))
def zez.k : Kq := ⟨81, (cvv [(Ty.sl T6)] [Ty.zI, T6] zez), go [zcg.k] {lits := [23, 37], bj := [25]} [] Proofs.Tryz.func81⟩
def zbq.b0 (N : Nat) (s5 : List Bool) (s6 : List Int) (s13 : List Bool) (s14 : Int) (s15 : Int) (b2 : zI) : Option (Stp ((List Bool) × (List Int) × (List Bool) × Int × Int × zI)) :=
 cond (decide (s15 < s14)) ((idx s13 s15).bind fun x1001 => cond x1001 (cond (Nat.ble ((s6.length + ([s15] : List Int).length) * 8) zah)
  (some (.again (s5, (s6 ++ ([s15] : List Int)), s13, s14, (w6 (s15 + 1)), b2))) none) (some (.again (s5, s6, s13, s14, (w6 (s15 + 1)), b2))))
  (some (.leave (s5, s6, s13, s14, s15, b2)))
def zbq.r0 (N : Nat) (x : (List Bool) × (List Int) × (List Bool) × Int × Int × zI) := zbq.b0 N x.1 x.2.1 x.2.2.1 x.2.2.2.1 x.2.2.2.2.1 x.2.2.2.2.2
def zbq.b2 (N : Nat) (s5 : List Bool) (s6 : List Int) (b2 : zI) : Option (Stp ((List Bool) × (List Int) × zI)) :=
 cond (decide ((s6.length : Int) > 0)) (if 0 ≤ (0 : Int) then (if (0 : Int) < (s6.length : Int) then ((s6[(0 : Int).toNat]?).bind fun x3001 =>
  if 0 ≤ (1 : Int) ∧ (1 : Int) ≤ (s6.length : Int) then (if 0 ≤ x3001 then (if x3001 < (s5.length : Int) then ((s5[x3001.toNat]?).bind fun x3002 => cond (!x3002)
  (if 0 ≤ x3001 then (if x3001 < (s5.length : Int) then ((s5[x3001.toNat]?).bind fun x3003 => (zez b2 x3001).bind fun r3004 =>
  cond (Nat.ble (((s6.drop ((1 : Int).toNat)).length + r3004.length) * 8) zah)
  (some (.again ((s5.set x3001.toNat true), ((s6.drop ((1 : Int).toNat)) ++ r3004), b2))) none) else none) else none)
  (some (.again (s5, (s6.drop ((1 : Int).toNat)), b2)))) else none) else none) else none) else none) else none) (some (.leave (s5, s6, b2)))
def zbq.r2 (N : Nat) (x : (List Bool) × (List Int) × zI) := zbq.b2 N x.1 x.2.1 x.2.2
def zbq (N : Nat) (a0 : zI) (a1 : List Bool) : Option ((List Bool)) :=
 if 0 ≤ (a1.length : Int) then (if (a1.length : Int) ≤ (a1.length : Int) then (cond (Nat.ble ((a1.length : Int).toNat * 1) zah)
  ((zi (zbq.r0 N) N ((List.replicate (a1.length : Int).toNat (false : Bool)), [], a1, (a1.length : Int), 0, a0)).bind fun y1 =>
  (zi (zbq.r2 N) N (y1.1, y1.2.1, y1.2.2.2.2.2)).bind fun y2 => some y2.1) none) else none) else none
def zbq.k (N : Nat) : Kq := ⟨79, (cvv [(Ty.sl Ty.bool)] [Ty.zI, (Ty.sl Ty.bool)] (zbq N)), go [zez.k] {lits := [23, 45]} [(0, .plain { slots := [(2, .ptr 2 0), (5, .own 5000005 Ty.bool), (6, .own 5000006 T6), (13, .val (Ty.sl Ty.bool)), (14, .val T6), (15, .val T6)], boxes := [(2, Ty.zI, [])] } [(Ty.sl Ty.bool), (Ty.sl T6), (Ty.sl Ty.bool), T6, T6, Ty.zI] (zi (zbq.r0 N) N)), (2, .plain { slots := [(2, .ptr 2 0), (5, .own 5000005 Ty.bool), (6, .own 5000006 T6)], boxes := [(2, Ty.zI, [])] } [(Ty.sl Ty.bool), (Ty.sl T6), Ty.zI] (zi (zbq.r2 N) N))] Proofs.Tryz.func79 (hL := ⟨⟨_, _, rfl, by kernel_rfl⟩, ⟨_, _, rfl, by kernel_rfl⟩, trivial⟩)⟩
def zey (a0 : zF) (a1 : Int) : Option Bool :=
 some (a0.Register == a1)
def zey.k : Kq := ⟨193, (ctv [.val Ty.zF, .ptr T6 false []] [Ty.bool] [] [] [Ty.zF, T6] zey), go [] {ro := [1000000], pk := [1000000]} [] Proofs.Tryz.func193⟩
def za2.b0 (N : Nat) (s0 : List zF) (s7 : Int) (s8 : Int) (b1000000 : Int) : Option (Round Int ((List zF) × Int × Int × Int)) :=
 cond (decide (s8 < s7)) ((idx s0 s8).bind fun x1001 => (zey x1001 b1000000).bind fun r1002 => cond r1002 (some (.result s8))
  (some (.again (s0, s7, (w6 (s8 + 1)), b1000000)))) (some (.leave (s0, s7, s8, b1000000)))
def za2.r0 (N : Nat) (x : (List zF) × Int × Int × Int) := za2.b0 N x.1 x.2.1 x.2.2.1 x.2.2.2
def za2 (N : Nat) (a0 : List zF) (a1 : Int) : Option Int :=
 (zf (za2.r0 N) N (a0, (a0.length : Int), 0, a1)).bind fun z2 => zbc z2 (fun z => some z) (fun y1 => some (-1))
def za2.k (N : Nat) : Kq := ⟨177, (ctv [.val (Ty.sl Ty.zF), .clo 193 1, .ptr T6 false []] [T6] [] [] [(Ty.sl Ty.zF), T6] (za2 N)), go [zey.k] {ro := [1000000], pk := [1000000]} [(0, .rets { slots := [(0, .val (Ty.sl Ty.zF)), (1, .fn 193 [1000000]), (7, .val T6), (8, .val T6)], boxes := [(1000000, T6, [])] } [(Ty.sl Ty.zF), T6, T6, T6] (zf (za2.r0 N) N))] Proofs.Tryz.func177 (hL := ⟨⟨_, _, rfl, by kernel_rfl⟩, trivial⟩)⟩
def zat.b0 (N : Nat) (s0 : List zF) (s5 : Int) (s6 : Int) (b1000000 : Int) : Option (Stp ((List zF) × Int × Int × Int)) :=
 cond (decide (s6 < (s0.length : Int))) (if 0 ≤ s6 then (if s6 < (s0.length : Int) then ((s0[s6.toNat]?).bind fun x1001 => (zey x1001 b1000000).bind fun r1002 =>
  cond (!r1002) (if 0 ≤ s5 then (if s5 < (s0.length : Int) then ((s0[s5.toNat]?).bind fun x1003 =>
  some (.again ((s0.set s5.toNat x1001), (w6 (s5 + 1)), (w6 (s6 + 1)), b1000000))) else none) else none)
  (some (.again (s0, s5, (w6 (s6 + 1)), b1000000)))) else none) else none) (some (.leave (s0, s5, s6, b1000000)))
def zat.r0 (N : Nat) (x : (List zF) × Int × Int × Int) := zat.b0 N x.1 x.2.1 x.2.2.1 x.2.2.2
def zat (N : Nat) (a0 : List zF) (a1 : Int) : Option ((List zF)) :=
 (za2 N a0 a1).bind fun r1 => cond (r1 == (-1)) (some a0)
  ((zi (zat.r0 N) N (a0, r1, (w6 (r1 + 1)), a1)).bind fun y2 =>
  if 0 ≤ y2.2.1 ∧ y2.2.1 ≤ (y2.1.length : Int) then (if 0 ≤ y2.2.1 ∧ y2.2.1 ≤ ((y2.1.take y2.2.1.toNat ++ List.replicate (y2.1.length - y2.2.1.toNat)
  ((⟨0, (⟨0, 0, 0⟩ : DataType), 0⟩ : zF) : zF)).length : Int) then (if 0 ≤ (0 : Int) ∧ (0 : Int) ≤ y2.2.1 then (some (((y2.1.take y2.2.1.toNat ++ List.replicate (y2.1.length - y2.2.1.toNat)
  ((⟨0, (⟨0, 0, 0⟩ : DataType), 0⟩ : zF) : zF)).drop ((0 : Int).toNat)).take (y2.2.1.toNat - (0 : Int).toNat))) else none) else none) else none)
def zat.k (N : Nat) : Kq := ⟨140, (ctv [.mov Ty.zF, .clo 193 1, .ptr T6 false []] [(Ty.sl Ty.zF)] [] [0] [(Ty.sl Ty.zF), T6] (zat N)), go [za2.k N, zey.k] {ro := [1000000], pk := [1000000]} [(0, .plain { slots := [(0, .own 5000000 Ty.zF), (1, .fn 193 [1000000]), (5, .val T6), (6, .val T6)], boxes := [(1000000, T6, [])] } [(Ty.sl Ty.zF), T6, T6, T6] (zi (zat.r0 N) N))] Proofs.Tryz.func140 (hL := ⟨⟨_, _, rfl, by kernel_rfl⟩, trivial⟩)⟩
def zq2 : Ct U := { params := [.val (Ty.sl Ty.zF)], results := [(Ty.sl Ty.zF)], outs := [], fresh := [0], fn := app U [(Ty.sl Ty.zF)] (R := PT U [(Ty.sl Ty.zF)]) (zk7 40) }
theorem zq2.meets : zh9 (zqa [] [] [] [] [] [] [] []) 141 zq2 :=
 zub zx3 (zy9 (l := []) rfl zdp) (zx7 (l := []) rfl zdp) (Lp := pick []) Proofs.Tryz.func141 (by kernel_rfl) (zzi (l := []) rfl zdp) (fun y => by kernel_rfl) (e := 97) (t := Ty.zF) rfl rfl rfl rfl rfl rfl rfl (by kernel_rfl) rfl rfl rfl rfl rfl rfl (fun xs => by kernel_rfl) fun ds y h => by
  obtain ⟨xs, rfl, hx⟩ := z3a h; refine ⟨xs, rfl, fun b hb => ?_⟩; cases b with
  | true =>
   have := hb rfl; subst this; exact Eq.trans (by kernel_rfl) hx
  | false => exact Eq.trans (b := cond (Nat.ble ((0 + xs.length) * 40) zah) (some xs) none) (by kernel_rfl) (by rw [Nat.zero_add]; exact hx)
def zq2.k : Kq := ⟨141, zq2, zq2.meets⟩
def zd7 (N : Nat) (a0 : List zF) (a1 : Int) : Option ((List zF)) :=
 (zk7 40 a0).bind fun r1 => (zat N r1 a1).bind fun r2 => some r2
def zd7.k (N : Nat) : Kq := ⟨136, (ctv [.val (Ty.sl Ty.zF), .val T6] [(Ty.sl Ty.zF)] [] [0] [(Ty.sl Ty.zF), T6] (zd7 N)), go [zat.k N, zq2.k] {} [] Proofs.Tryz.func136⟩
def zdb.b0 (N : Nat) (s1 : Int) (s2 : Int) (s7 : List zF) (s10 : List zF) (s11 : Int) (s12 : Int) : Option (Stp (Int × Int × (List zF) × (List zF) × Int × Int)) :=
 cond (decide (s12 < s11)) ((idx s10 s12).bind fun x1001 => cond (x1001.Register == s1)
  (cond (Nat.ble ((s7.length + ([(⟨s2, x1001.zG, x1001.Offset⟩ : zF)] : List zF).length) * 40) zah)
  (some (.again (s1, s2, (s7 ++ ([(⟨s2, x1001.zG, x1001.Offset⟩ : zF)] : List zF)), s10, s11, (w6 (s12 + 1))))) none)
  (some (.again (s1, s2, s7, s10, s11, (w6 (s12 + 1)))))) (some (.leave (s1, s2, s7, s10, s11, s12)))
def zdb.r0 (N : Nat) (x : Int × Int × (List zF) × (List zF) × Int × Int) := zdb.b0 N x.1 x.2.1 x.2.2.1 x.2.2.2.1 x.2.2.2.2.1 x.2.2.2.2.2
def zdb (N : Nat) (a0 : List zF) (a1 : Int) (a2 : Int) : Option ((List zF)) :=
 (zi (zdb.r0 N) N (a1, a2, [], a0, (a0.length : Int), 0)).bind fun y1 => some y1.2.2.1
def zdb.k (N : Nat) : Kq := ⟨137, (cvv [(Ty.sl Ty.zF)] [(Ty.sl Ty.zF), T6, T6] (zdb N)), go [] {lits := [24]} [(0, .plain { slots := [(1, .val T6), (2, .val T6), (7, .own 5000007 Ty.zF), (10, .val (Ty.sl Ty.zF)), (11, .val T6), (12, .val T6)], boxes := [] } [T6, T6, (Ty.sl Ty.zF), (Ty.sl Ty.zF), T6, T6] (zi (zdb.r0 N) N))] Proofs.Tryz.func137 (hL := ⟨⟨_, _, rfl, by kernel_rfl⟩, trivial⟩)⟩
def zdw.b0 (N : Nat) (s1 : List zF) (s5 : List zF) (s34 : List zF) (s35 : Int) (s36 : Int) (b2 : zC) : Option (Stp ((List zF) × (List zF) × (List zF) × Int × Int × zC)) :=
 cond (decide (s36 < s35)) ((idx s34 s36).bind fun x1001 =>
  (cond (zcp [(x1001.zG.Kind == b2.zG.Kind), (x1001.zG.Length == b2.zG.Length), (x1001.zG.Scale == b2.zG.Scale)]) (some (x1001.Offset == b2.Place.Offset))
  (some false)).bind fun g1002 => cond g1002 ((zdb N s1 x1001.Register b2.R).bind fun r1003 => cond (Nat.ble ((s5.length + r1003.length) * 40) zah)
  (some (.again (s1, (s5 ++ r1003), s34, s35, (w6 (s36 + 1)), b2))) none) (some (.again (s1, s5, s34, s35, (w6 (s36 + 1)), b2))))
  (some (.leave (s1, s5, s34, s35, s36, b2)))
def zdw.r0 (N : Nat) (x : (List zF) × (List zF) × (List zF) × Int × Int × zC) := zdw.b0 N x.1 x.2.1 x.2.2.1 x.2.2.2.1 x.2.2.2.2.1 x.2.2.2.2.2
def zdw (N : Nat) (a0 : zC) (a1 : List zF) : Option ((List zF)) :=
 (zd7 N a1 a0.R).bind fun r1 => cond (Nat.ble ((r1.length + ([(⟨a0.R, a0.zG, (-1)⟩ : zF)] : List zF).length) * 40) zah)
  (cond a0.Place.Based (some (r1 ++ ([(⟨a0.R, a0.zG, (-1)⟩ : zF)] : List zF)))
  (cond (Nat.ble (((r1 ++ ([(⟨a0.R, a0.zG, (-1)⟩ : zF)] : List zF)).length + ([(⟨a0.R, a0.zG, a0.Place.Offset⟩ : zF)] : List zF).length) * 40) zah)
  ((zi (zdw.r0 N) N (a1, ((r1 ++ ([(⟨a0.R, a0.zG, (-1)⟩ : zF)] : List zF)) ++ ([(⟨a0.R, a0.zG, a0.Place.Offset⟩ : zF)] : List zF)), a1, (a1.length : Int), 0, a0)).bind fun y2 =>
  some y2.2.1) none)) none
def zdw.k (N : Nat) : Kq := ⟨135, (ctv [.val Ty.zC, .val (Ty.sl Ty.zF)] [(Ty.sl Ty.zF)] [] [0] [Ty.zC, (Ty.sl Ty.zF)] (zdw N)), go [zd7.k N, zdb.k N] {lits := [17, 32, 59]} [(0, .plain { slots := [(1, .val (Ty.sl Ty.zF)), (2, .ptr 2 0), (5, .own 5000005 Ty.zF), (34, .val (Ty.sl Ty.zF)), (35, .val T6), (36, .val T6)], boxes := [(2, Ty.zC, [])] } [(Ty.sl Ty.zF), (Ty.sl Ty.zF), (Ty.sl Ty.zF), T6, T6, Ty.zC] (zi (zdw.r0 N) N))] Proofs.Tryz.func135 (hL := ⟨⟨_, _, rfl, by kernel_rfl⟩, trivial⟩)⟩
def zf6 (a0 : zF) : Option Bool :=
 some (a0.Offset != (-1))
def zf6.k : Kq := ⟨244, (cvv [Ty.bool] [Ty.zF] zf6), go [] {} [] Proofs.Tryz.func244⟩
def za0.b0 (N : Nat) (s0 : List zF) (s7 : Int) (s8 : Int) : Option (Round Int ((List zF) × Int × Int)) :=
 cond (decide (s8 < s7)) ((idx s0 s8).bind fun x1001 => (zf6 x1001).bind fun r1002 => cond r1002 (some (.result s8))
  (some (.again (s0, s7, (w6 (s8 + 1)))))) (some (.leave (s0, s7, s8)))
def za0.r0 (N : Nat) (x : (List zF) × Int × Int) := za0.b0 N x.1 x.2.1 x.2.2
def za0 (N : Nat) (a0 : List zF) : Option Int :=
 (zf (za0.r0 N) N (a0, (a0.length : Int), 0)).bind fun z2 => zbc z2 (fun z => some z) (fun y1 => some (-1))
def za0.k (N : Nat) : Kq := ⟨177, (ctv [.val (Ty.sl Ty.zF), .clo 244 0] [T6] [] [] [(Ty.sl Ty.zF)] (za0 N)), go [zf6.k] {} [(0, .rets { slots := [(0, .val (Ty.sl Ty.zF)), (1, .fn 244 []), (7, .val T6), (8, .val T6)], boxes := [] } [(Ty.sl Ty.zF), T6, T6] (zf (za0.r0 N) N))] Proofs.Tryz.func177 (hL := ⟨⟨_, _, rfl, by kernel_rfl⟩, trivial⟩)⟩
def zar.b0 (N : Nat) (s0 : List zF) (s5 : Int) (s6 : Int) : Option (Stp ((List zF) × Int × Int)) :=
 cond (decide (s6 < (s0.length : Int))) (if 0 ≤ s6 then (if s6 < (s0.length : Int) then ((s0[s6.toNat]?).bind fun x1001 => (zf6 x1001).bind fun r1002 => cond (!r1002)
  (if 0 ≤ s5 then (if s5 < (s0.length : Int) then ((s0[s5.toNat]?).bind fun x1003 =>
  some (.again ((s0.set s5.toNat x1001), (w6 (s5 + 1)), (w6 (s6 + 1))))) else none) else none)
  (some (.again (s0, s5, (w6 (s6 + 1)))))) else none) else none) (some (.leave (s0, s5, s6)))
def zar.r0 (N : Nat) (x : (List zF) × Int × Int) := zar.b0 N x.1 x.2.1 x.2.2
def zar (N : Nat) (a0 : List zF) : Option ((List zF)) :=
 (za0 N a0).bind fun r1 => cond (r1 == (-1)) (some a0)
  ((zi (zar.r0 N) N (a0, r1, (w6 (r1 + 1)))).bind fun y2 =>
  if 0 ≤ y2.2.1 ∧ y2.2.1 ≤ (y2.1.length : Int) then (if 0 ≤ y2.2.1 ∧ y2.2.1 ≤ ((y2.1.take y2.2.1.toNat ++ List.replicate (y2.1.length - y2.2.1.toNat)
  ((⟨0, (⟨0, 0, 0⟩ : DataType), 0⟩ : zF) : zF)).length : Int) then (if 0 ≤ (0 : Int) ∧ (0 : Int) ≤ y2.2.1 then (some (((y2.1.take y2.2.1.toNat ++ List.replicate (y2.1.length - y2.2.1.toNat)
  ((⟨0, (⟨0, 0, 0⟩ : DataType), 0⟩ : zF) : zF)).drop ((0 : Int).toNat)).take (y2.2.1.toNat - (0 : Int).toNat))) else none) else none) else none)
def zar.k (N : Nat) : Kq := ⟨140, (ctv [.mov Ty.zF, .clo 244 0] [(Ty.sl Ty.zF)] [] [0] [(Ty.sl Ty.zF)] (zar N)), go [za0.k N, zf6.k] {} [(0, .plain { slots := [(0, .own 5000000 Ty.zF), (1, .fn 244 []), (5, .val T6), (6, .val T6)], boxes := [] } [(Ty.sl Ty.zF), T6, T6] (zi (zar.r0 N) N))] Proofs.Tryz.func140 (hL := ⟨⟨_, _, rfl, by kernel_rfl⟩, trivial⟩)⟩
def zks (N : Nat) (a0 : List zF) : Option ((List zF)) :=
 (zk7 40 a0).bind fun r1 => (zar N r1).bind fun r2 => some r2
def zks.k (N : Nat) : Kq := ⟨194, (ctv [.val (Ty.sl Ty.zF)] [(Ty.sl Ty.zF)] [] [0] [(Ty.sl Ty.zF)] (zks N)), go [zar.k N, zq2.k] {} [] Proofs.Tryz.func194⟩
def zhm (N : Nat) (a0 : DataType) : Option Int :=
 (zd6 N a0).bind fun r1 => some r1.1
def zhm.k (N : Nat) : Kq := ⟨176, (cvv [T6] [Ty.DataType] (zhm N)), go [zd6.k N] {} [] Proofs.Tryz.func176⟩
def zft (N : Nat) (a0 : zF) (a1 : Int) (a2 : Int) : Option Bool :=
 (cond (a0.Offset != (-1)) (some (decide (a0.Offset < (w6 (a1 + a2))))) (some false)).bind fun g1 => (cond g1 ((zhm N a0.zG).bind fun r2 =>
  some (decide (a1 < (w6 (a0.Offset + r2))))) (some false)).bind fun g3 => some g3
def zft.k (N : Nat) : Kq := ⟨195, (ctv [.val Ty.zF, .ptr T6 false [], .ptr T6 false []] [Ty.bool] [] [] [Ty.zF, T6, T6] (zft N)), go [zhm.k N] {ro := [1000000, 1000001], pk := [1000000, 1000001]} [] Proofs.Tryz.func195⟩
def za1.b0 (N : Nat) (s0 : List zF) (s7 : Int) (s8 : Int) (b1000000 : Int) (b1000001 : Int) : Option (Round Int ((List zF) × Int × Int × Int × Int)) :=
 cond (decide (s8 < s7)) ((idx s0 s8).bind fun x1001 => (zft N x1001 b1000000 b1000001).bind fun r1002 => cond r1002 (some (.result s8))
  (some (.again (s0, s7, (w6 (s8 + 1)), b1000000, b1000001)))) (some (.leave (s0, s7, s8, b1000000, b1000001)))
def za1.r0 (N : Nat) (x : (List zF) × Int × Int × Int × Int) := za1.b0 N x.1 x.2.1 x.2.2.1 x.2.2.2.1 x.2.2.2.2
def za1 (N : Nat) (a0 : List zF) (a1 : Int) (a2 : Int) : Option Int :=
 (zf (za1.r0 N) N (a0, (a0.length : Int), 0, a1, a2)).bind fun z2 => zbc z2 (fun z => some z) (fun y1 => some (-1))
def za1.k (N : Nat) : Kq := ⟨177, (ctv [.val (Ty.sl Ty.zF), .clo 195 2, .ptr T6 false [], .ptr T6 false []] [T6] [] [] [(Ty.sl Ty.zF), T6, T6] (za1 N)), go [zft.k N] {ro := [1000000, 1000001], pk := [1000000, 1000001]} [(0, .rets { slots := [(0, .val (Ty.sl Ty.zF)), (1, .fn 195 [1000000, 1000001]), (7, .val T6), (8, .val T6)], boxes := [(1000000, T6, []), (1000001, T6, [])] } [(Ty.sl Ty.zF), T6, T6, T6, T6] (zf (za1.r0 N) N))] Proofs.Tryz.func177 (hL := ⟨⟨_, _, rfl, by kernel_rfl⟩, trivial⟩)⟩
def zas.b0 (N : Nat) (s0 : List zF) (s5 : Int) (s6 : Int) (b1000000 : Int) (b1000001 : Int) : Option (Stp ((List zF) × Int × Int × Int × Int)) :=
 cond (decide (s6 < (s0.length : Int))) (if 0 ≤ s6 then (if s6 < (s0.length : Int) then ((s0[s6.toNat]?).bind fun x1001 =>
  (zft N x1001 b1000000 b1000001).bind fun r1002 => cond (!r1002) (if 0 ≤ s5 then (if s5 < (s0.length : Int) then ((s0[s5.toNat]?).bind fun x1003 =>
  some (.again ((s0.set s5.toNat x1001), (w6 (s5 + 1)), (w6 (s6 + 1)), b1000000, b1000001))) else none) else none)
  (some (.again (s0, s5, (w6 (s6 + 1)), b1000000, b1000001)))) else none) else none) (some (.leave (s0, s5, s6, b1000000, b1000001)))
def zas.r0 (N : Nat) (x : (List zF) × Int × Int × Int × Int) := zas.b0 N x.1 x.2.1 x.2.2.1 x.2.2.2.1 x.2.2.2.2
def zas (N : Nat) (a0 : List zF) (a1 : Int) (a2 : Int) : Option ((List zF)) :=
 (za1 N a0 a1 a2).bind fun r1 => cond (r1 == (-1)) (some a0)
  ((zi (zas.r0 N) N (a0, r1, (w6 (r1 + 1)), a1, a2)).bind fun y2 =>
  if 0 ≤ y2.2.1 ∧ y2.2.1 ≤ (y2.1.length : Int) then (if 0 ≤ y2.2.1 ∧ y2.2.1 ≤ ((y2.1.take y2.2.1.toNat ++ List.replicate (y2.1.length - y2.2.1.toNat)
  ((⟨0, (⟨0, 0, 0⟩ : DataType), 0⟩ : zF) : zF)).length : Int) then (if 0 ≤ (0 : Int) ∧ (0 : Int) ≤ y2.2.1 then (some (((y2.1.take y2.2.1.toNat ++ List.replicate (y2.1.length - y2.2.1.toNat)
  ((⟨0, (⟨0, 0, 0⟩ : DataType), 0⟩ : zF) : zF)).drop ((0 : Int).toNat)).take (y2.2.1.toNat - (0 : Int).toNat))) else none) else none) else none)
def zas.k (N : Nat) : Kq := ⟨140, (ctv [.mov Ty.zF, .clo 195 2, .ptr T6 false [], .ptr T6 false []] [(Ty.sl Ty.zF)] [] [0] [(Ty.sl Ty.zF), T6, T6] (zas N)), go [za1.k N, zft.k N] {ro := [1000000, 1000001], pk := [1000000, 1000001]} [(0, .plain { slots := [(0, .own 5000000 Ty.zF), (1, .fn 195 [1000000, 1000001]), (5, .val T6), (6, .val T6)], boxes := [(1000000, T6, []), (1000001, T6, [])] } [(Ty.sl Ty.zF), T6, T6, T6, T6] (zi (zas.r0 N) N))] Proofs.Tryz.func140 (hL := ⟨⟨_, _, rfl, by kernel_rfl⟩, trivial⟩)⟩
def zg6 (N : Nat) (a0 : List zF) (a1 : Int) (a2 : Int) : Option ((List zF)) :=
 (zk7 40 a0).bind fun r1 => (zas N r1 a1 a2).bind fun r2 => some r2
def zg6.k (N : Nat) : Kq := ⟨139, (ctv [.val (Ty.sl Ty.zF), .val T6, .val T6] [(Ty.sl Ty.zF)] [] [0] [(Ty.sl Ty.zF), T6, T6] (zg6 N)), go [zas.k N, zq2.k] {} [] Proofs.Tryz.func139⟩
def zce.b0 (N : Nat) (s0 : List zF) (s7 : Int) (s8 : Int) (b3 : zF) : Option (Round Int ((List zF) × Int × Int × zF)) :=
 cond (decide (s8 < s7)) ((idx s0 s8).bind fun x1001 =>
  cond (zcp [(b3.Register == x1001.Register), (b3.zG.Kind == x1001.zG.Kind), (b3.zG.Length == x1001.zG.Length), (b3.zG.Scale == x1001.zG.Scale), (b3.Offset == x1001.Offset)])
  (some (.result s8)) (some (.again (s0, s7, (w6 (s8 + 1)), b3)))) (some (.leave (s0, s7, s8, b3)))
def zce.r0 (N : Nat) (x : (List zF) × Int × Int × zF) := zce.b0 N x.1 x.2.1 x.2.2.1 x.2.2.2
def zce (N : Nat) (a0 : List zF) (a1 : zF) : Option Int :=
 (zf (zce.r0 N) N (a0, (a0.length : Int), 0, a1)).bind fun z2 => zbc z2 (fun z => some z) (fun y1 => some (-1))
def zce.k (N : Nat) : Kq := ⟨153, (cvv [T6] [(Ty.sl Ty.zF), Ty.zF] (zce N)), go [] {} [(0, .rets { slots := [(0, .val (Ty.sl Ty.zF)), (3, .ptr 3 0), (7, .val T6), (8, .val T6)], boxes := [(3, Ty.zF, [])] } [(Ty.sl Ty.zF), T6, T6, Ty.zF] (zf (zce.r0 N) N))] Proofs.Tryz.func153 (hL := ⟨⟨_, _, rfl, by kernel_rfl⟩, trivial⟩)⟩
def zca (N : Nat) (a0 : List zF) (a1 : zF) : Option Bool :=
 (zce N a0 a1).bind fun r1 => some (decide (r1 ≥ 0))
def zca.k (N : Nat) : Kq := ⟨96, (cvv [Ty.bool] [(Ty.sl Ty.zF), Ty.zF] (zca N)), go [zce.k N] {} [] Proofs.Tryz.func96⟩
def zi2 (N : Nat) (a0 : zC) (a1 : List zF) : Option ((List zF)) :=
 cond a0.Place.Based ((zks N a1).bind fun r1 => some r1) ((zhm N a0.zG).bind fun r2 => (zg6 N a1 a0.Place.Offset r2).bind fun r3 =>
  (cond (a0.Op == 1) ((zca N a1 (⟨a0.R, a0.zG, (-1)⟩ : zF)).bind fun r4 => some r4) (some false)).bind fun g5 =>
  cond g5 (cond (Nat.ble ((r3.length + ([(⟨a0.R, a0.zG, a0.Place.Offset⟩ : zF)] : List zF).length) * 40) zah)
  (some (r3 ++ ([(⟨a0.R, a0.zG, a0.Place.Offset⟩ : zF)] : List zF))) none) (some r3))
def zi2.k (N : Nat) : Kq := ⟨138, (ctv [.val Ty.zC, .val (Ty.sl Ty.zF)] [(Ty.sl Ty.zF)] [] [0] [Ty.zC, (Ty.sl Ty.zF)] (zi2 N)), go [zca.k N, zg6.k N, zhm.k N, zks.k N] {lits := [17, 40]} [] Proofs.Tryz.func138⟩
def zwc : Ct U := { params := [.mov Ty.zF], results := [(Ty.sl Ty.zF)], outs := [], fresh := [0], fn := app U [(Ty.sl Ty.zF)] (R := PT U [(Ty.sl Ty.zF)]) (zq1 Proofs.Tryz.ltF Proofs.Tryz.okF) }
theorem zwc.meets : zh9 (zqa [] [] [] [] [] [] [] []) 134 zwc := zxv
def zwc.k : Kq := ⟨134, zwc, zwc.meets⟩
def zjk (N : Nat) (a0 : zC) (a1 : List zF) : Option ((List zF)) :=
 cond (a0.Op == 0) ((zdw N a0 a1).bind fun r1 => (zq1 Proofs.Tryz.ltF Proofs.Tryz.okF r1).bind fun r2 => some r2) (cond (a0.Op == 4)
  ((zd7 N a1 a0.R).bind fun r3 => cond (Nat.ble ((r3.length + ([(⟨a0.R, a0.zG, (-1)⟩ : zF)] : List zF).length) * 40) zah)
  ((zq1 Proofs.Tryz.ltF Proofs.Tryz.okF (r3 ++ ([(⟨a0.R, a0.zG, (-1)⟩ : zF)] : List zF))).bind fun r4 => some r4) none) ((cond (a0.Op == 2) (some (a0.Op == 2))
  (some (a0.Op == 21))).bind fun q5 => cond q5 ((zd7 N a1 a0.R).bind fun r6 => some r6) (cond (a0.Op == 3) ((zd7 N a1 a0.R).bind fun r7 =>
  (zdb N a1 a0.A a0.R).bind fun r8 => cond (Nat.ble ((r7.length + r8.length) * 40) zah) ((zq1 Proofs.Tryz.ltF Proofs.Tryz.okF (r7 ++ r8)).bind fun r9 => some r9) none)
  ((cond (a0.Op == 1) (some (a0.Op == 1)) (cond (a0.Op == 9) (some (a0.Op == 9)) (some (a0.Op == 10)))).bind fun q10 => cond q10 ((zi2 N a0 a1).bind fun r11 =>
  (zq1 Proofs.Tryz.ltF Proofs.Tryz.okF r11).bind fun r12 => some r12) ((cond (a0.Op == 14) (some (a0.Op == 14)) (cond (a0.Op == 15) (some (a0.Op == 15))
  (some (a0.Op == 16)))).bind fun q13 => cond q13 ((zg6 N a1 a0.Pointer 16).bind fun r14 => some r14) (some a1))))))
def zjk.k (N : Nat) : Kq := ⟨80, (cvv [(Ty.sl Ty.zF)] [Ty.zC, (Ty.sl Ty.zF)] (zjk N)), go [zwc.k, zdw.k N, zd7.k N, zdb.k N, zi2.k N, zg6.k N] {lits := [24, 45], bj := [27, 48, 56]} [] Proofs.Tryz.func80⟩
def zfe (N : Nat) (a0 : zF) (a1 : List zF) : Option Bool :=
 (zca N a1 a0).bind fun r1 => some (!r1)
def zfe.k (N : Nat) : Kq := ⟨142, (ctv [.val Ty.zF, .ptr (Ty.sl Ty.zF) false []] [Ty.bool] [] [] [Ty.zF, (Ty.sl Ty.zF)] (zfe N)), go [zca.k N] {ro := [1000000], pk := [1000000]} [] Proofs.Tryz.func142⟩
def za3.b0 (N : Nat) (s0 : List zF) (s7 : Int) (s8 : Int) (b1000000 : List zF) : Option (Round Int ((List zF) × Int × Int × (List zF))) :=
 cond (decide (s8 < s7)) ((idx s0 s8).bind fun x1001 => (zfe N x1001 b1000000).bind fun r1002 => cond r1002 (some (.result s8))
  (some (.again (s0, s7, (w6 (s8 + 1)), b1000000)))) (some (.leave (s0, s7, s8, b1000000)))
def za3.r0 (N : Nat) (x : (List zF) × Int × Int × (List zF)) := za3.b0 N x.1 x.2.1 x.2.2.1 x.2.2.2
def za3 (N : Nat) (a0 : List zF) (a1 : List zF) : Option Int :=
 (zf (za3.r0 N) N (a0, (a0.length : Int), 0, a1)).bind fun z2 => zbc z2 (fun z => some z) (fun y1 => some (-1))
def za3.k (N : Nat) : Kq := ⟨177, (ctv [.val (Ty.sl Ty.zF), .clo 142 1, .ptr (Ty.sl Ty.zF) false []] [T6] [] [] [(Ty.sl Ty.zF), (Ty.sl Ty.zF)] (za3 N)), go [zfe.k N] {ro := [1000000], pk := [1000000]} [(0, .rets { slots := [(0, .val (Ty.sl Ty.zF)), (1, .fn 142 [1000000]), (7, .val T6), (8, .val T6)], boxes := [(1000000, (Ty.sl Ty.zF), [])] } [(Ty.sl Ty.zF), T6, T6, (Ty.sl Ty.zF)] (zf (za3.r0 N) N))] Proofs.Tryz.func177 (hL := ⟨⟨_, _, rfl, by kernel_rfl⟩, trivial⟩)⟩
def zau.b0 (N : Nat) (s0 : List zF) (s5 : Int) (s6 : Int) (b1000000 : List zF) : Option (Stp ((List zF) × Int × Int × (List zF))) :=
 cond (decide (s6 < (s0.length : Int))) (if 0 ≤ s6 then (if s6 < (s0.length : Int) then ((s0[s6.toNat]?).bind fun x1001 => (zfe N x1001 b1000000).bind fun r1002 =>
  cond (!r1002) (if 0 ≤ s5 then (if s5 < (s0.length : Int) then ((s0[s5.toNat]?).bind fun x1003 =>
  some (.again ((s0.set s5.toNat x1001), (w6 (s5 + 1)), (w6 (s6 + 1)), b1000000))) else none) else none)
  (some (.again (s0, s5, (w6 (s6 + 1)), b1000000)))) else none) else none) (some (.leave (s0, s5, s6, b1000000)))
def zau.r0 (N : Nat) (x : (List zF) × Int × Int × (List zF)) := zau.b0 N x.1 x.2.1 x.2.2.1 x.2.2.2
def zau (N : Nat) (a0 : List zF) (a1 : List zF) : Option ((List zF)) :=
 (za3 N a0 a1).bind fun r1 => cond (r1 == (-1)) (some a0)
  ((zi (zau.r0 N) N (a0, r1, (w6 (r1 + 1)), a1)).bind fun y2 =>
  if 0 ≤ y2.2.1 ∧ y2.2.1 ≤ (y2.1.length : Int) then (if 0 ≤ y2.2.1 ∧ y2.2.1 ≤ ((y2.1.take y2.2.1.toNat ++ List.replicate (y2.1.length - y2.2.1.toNat)
  ((⟨0, (⟨0, 0, 0⟩ : DataType), 0⟩ : zF) : zF)).length : Int) then (if 0 ≤ (0 : Int) ∧ (0 : Int) ≤ y2.2.1 then (some (((y2.1.take y2.2.1.toNat ++ List.replicate (y2.1.length - y2.2.1.toNat)
  ((⟨0, (⟨0, 0, 0⟩ : DataType), 0⟩ : zF) : zF)).drop ((0 : Int).toNat)).take (y2.2.1.toNat - (0 : Int).toNat))) else none) else none) else none)
def zau.k (N : Nat) : Kq := ⟨140, (ctv [.mov Ty.zF, .clo 142 1, .ptr (Ty.sl Ty.zF) false []] [(Ty.sl Ty.zF)] [] [0] [(Ty.sl Ty.zF), (Ty.sl Ty.zF)] (zau N)), go [zfe.k N, za3.k N] {ro := [1000000], pk := [1000000]} [(0, .plain { slots := [(0, .own 5000000 Ty.zF), (1, .fn 142 [1000000]), (5, .val T6), (6, .val T6)], boxes := [(1000000, (Ty.sl Ty.zF), [])] } [(Ty.sl Ty.zF), T6, T6, (Ty.sl Ty.zF)] (zi (zau.r0 N) N))] Proofs.Tryz.func140 (hL := ⟨⟨_, _, rfl, by kernel_rfl⟩, trivial⟩)⟩
def zjj (N : Nat) (a0 : List zF) (a1 : List zF) : Option ((List zF)) :=
 (zk7 40 a0).bind fun r1 => (zau N r1 a1).bind fun r2 => some r2
def zjj.k (N : Nat) : Kq := ⟨82, (cvv [(Ty.sl Ty.zF)] [(Ty.sl Ty.zF), (Ty.sl Ty.zF)] (zjj N)), go [zau.k N, zq2.k] {} [] Proofs.Tryz.func82⟩
def zan.b0 (N : Nat) (s3 : List Bool) (s4 : List Bool) (s5 : List (List zF)) (s6 : List Bool) (s7 : List Int) (s28 : Int) (s29 : Int) (b1 : zI) : Option (Stp ((List Bool) × (List Bool) × (List (List zF)) × (List Bool) × (List Int) × Int × Int × zI)) :=
 cond (decide (s29 < s28)) ((idx s3 s29).bind fun x1001 => (cond x1001 (some true) ((idx s4 s29).bind fun x1002 => some (!x1002))).bind fun g1003 =>
  cond g1003 (if 0 ≤ s29 then (if s29 < (s6.length : Int) then ((s6[s29.toNat]?).bind fun x1004 => cond (Nat.ble ((s7.length + ([s29] : List Int).length) * 8) zah)
  (some (.again (s3, s4, s5, (s6.set s29.toNat true), (s7 ++ ([s29] : List Int)), s28, (w6 (s29 + 1)), b1))) none) else none) else none)
  (some (.again (s3, s4, s5, s6, s7, s28, (w6 (s29 + 1)), b1)))) (some (.leave (s3, s4, s5, s6, s7, s28, s29, b1)))
def zan.r0 (N : Nat) (x : (List Bool) × (List Bool) × (List (List zF)) × (List Bool) × (List Int) × Int × Int × zI) := zan.b0 N x.1 x.2.1 x.2.2.1 x.2.2.2.1 x.2.2.2.2.1 x.2.2.2.2.2.1 x.2.2.2.2.2.2.1 x.2.2.2.2.2.2.2
def zan.b4 (N : Nat) (s3 : List Bool) (s4 : List Bool) (s5 : List (List zF)) (s6 : List Bool) (s10 : List zF) (s71 : List Int) (s72 : Int) (s73 : Int) (s7 : List Int) (b1 : zI) : Option (Stp ((List Bool) × (List Bool) × (List (List zF)) × (List Bool) × (List zF) × (List Int) × Int × Int × (List Int) × zI)) :=
 cond (decide (s73 < s72)) ((idx s71 s73).bind fun x5001 => (idx s3 x5001).bind fun x5002 => (cond x5002 (some true) ((idx s4 x5001).bind fun x5003 =>
  some (!x5003))).bind fun g5004 => cond g5004 (some (.again (s3, s4, s5, s6, s10, s71, s72, (w6 (s73 + 1)), s7, b1)))
  (if 0 ≤ x5001 then (if x5001 < (s6.length : Int) then ((s6[x5001.toNat]?).bind fun x5005 =>
  cond x5005 (if 0 ≤ x5001 then (if x5001 < (s5.length : Int) then ((s5[x5001.toNat]?).bind fun x5006 => (zjj N x5006 s10).bind fun r5007 =>
  if 0 ≤ x5001 then (if x5001 < (s6.length : Int) then ((s6[x5001.toNat]?).bind fun x5008 => (cond (!x5008) (some true)
  (if 0 ≤ x5001 then (if x5001 < (s5.length : Int) then ((s5[x5001.toNat]?).bind fun x5009 =>
  some (decide ((r5007.length : Int) < (x5009.length : Int)))) else none) else none)).bind fun g5010 =>
  cond g5010 (if 0 ≤ x5001 then (if x5001 < (s6.length : Int) then ((s6[x5001.toNat]?).bind fun x5011 =>
  if 0 ≤ x5001 then (if x5001 < (s5.length : Int) then ((s5[x5001.toNat]?).bind fun x5012 => cond (Nat.ble ((s7.length + ([x5001] : List Int).length) * 8) zah)
  (some (.again (s3, s4, (s5.set x5001.toNat r5007), (s6.set x5001.toNat true), s10, s71, s72, (w6 (s73 + 1)), (s7 ++ ([x5001] : List Int)), b1))) none) else none) else none) else none) else none)
  (some (.again (s3, s4, s5, s6, s10, s71, s72, (w6 (s73 + 1)), s7, b1)))) else none) else none) else none) else none)
  (if 0 ≤ x5001 then (if x5001 < (s6.length : Int) then ((s6[x5001.toNat]?).bind fun x5013 => (cond (!x5013) (some true)
  (if 0 ≤ x5001 then (if x5001 < (s5.length : Int) then ((s5[x5001.toNat]?).bind fun x5014 =>
  some (decide ((s10.length : Int) < (x5014.length : Int)))) else none) else none)).bind fun g5015 =>
  cond g5015 (if 0 ≤ x5001 then (if x5001 < (s6.length : Int) then ((s6[x5001.toNat]?).bind fun x5016 =>
  if 0 ≤ x5001 then (if x5001 < (s5.length : Int) then ((s5[x5001.toNat]?).bind fun x5017 => cond (Nat.ble ((s7.length + ([x5001] : List Int).length) * 8) zah)
  (some (.again (s3, s4, (s5.set x5001.toNat s10), (s6.set x5001.toNat true), s10, s71, s72, (w6 (s73 + 1)), (s7 ++ ([x5001] : List Int)), b1))) none) else none) else none) else none) else none)
  (some (.again (s3, s4, s5, s6, s10, s71, s72, (w6 (s73 + 1)), s7, b1)))) else none) else none)) else none) else none))
  (some (.leave (s3, s4, s5, s6, s10, s71, s72, s73, s7, b1)))
def zan.r4 (N : Nat) (x : (List Bool) × (List Bool) × (List (List zF)) × (List Bool) × (List zF) × (List Int) × Int × Int × (List Int) × zI) := zan.b4 N x.1 x.2.1 x.2.2.1 x.2.2.2.1 x.2.2.2.2.1 x.2.2.2.2.2.1 x.2.2.2.2.2.2.1 x.2.2.2.2.2.2.2.1 x.2.2.2.2.2.2.2.2.1 x.2.2.2.2.2.2.2.2.2
def zan.b2 (N : Nat) (s3 : List Bool) (s4 : List Bool) (s5 : List (List zF)) (s6 : List Bool) (s7 : List Int) (b1 : zI) : Option (Stp ((List Bool) × (List Bool) × (List (List zF)) × (List Bool) × (List Int) × zI)) :=
 cond (decide ((s7.length : Int) > 0)) (if 0 ≤ (0 : Int) then (if (0 : Int) < (s7.length : Int) then ((s7[(0 : Int).toNat]?).bind fun x3001 =>
  if 0 ≤ (1 : Int) ∧ (1 : Int) ≤ (s7.length : Int) then ((idx b1.zA x3001).bind fun x3002 =>
  if 0 ≤ x3001 then (if x3001 < (s5.length : Int) then ((s5[x3001.toNat]?).bind fun x3003 => (zjk N x3002 x3003).bind fun r3004 =>
  (zez b1 x3001).bind fun r3005 =>
  (zi (zan.r4 N) N (s3, s4, s5, s6, r3004, r3005, (r3005.length : Int), 0, (s7.drop ((1 : Int).toNat)), b1)).bind fun y3006 =>
  some (.again (y3006.1, y3006.2.1, y3006.2.2.1, y3006.2.2.2.1, y3006.2.2.2.2.2.2.2.2.1, y3006.2.2.2.2.2.2.2.2.2))) else none) else none) else none) else none) else none)
  (some (.leave (s3, s4, s5, s6, s7, b1)))
def zan.r2 (N : Nat) (x : (List Bool) × (List Bool) × (List (List zF)) × (List Bool) × (List Int) × zI) := zan.b2 N x.1 x.2.1 x.2.2.1 x.2.2.2.1 x.2.2.2.2.1 x.2.2.2.2.2
def zan (N : Nat) (a0 : zI) : Option ((List (List zF))) :=
 (zbr N a0).bind fun r1 => (zbq N a0 r1).bind fun r2 =>
  if 0 ≤ (a0.zA.length : Int) then (if (a0.zA.length : Int) ≤ (a0.zA.length : Int) then (cond (Nat.ble ((a0.zA.length : Int).toNat * 24) zah)
  (if 0 ≤ (a0.zA.length : Int) then (if (a0.zA.length : Int) ≤ (a0.zA.length : Int) then (cond (Nat.ble ((a0.zA.length : Int).toNat * 1) zah)
  ((zi (zan.r0 N) N (r1, r2, (List.replicate (a0.zA.length : Int).toNat ([] : List zF)), (List.replicate (a0.zA.length : Int).toNat (false : Bool)), [], ((List.replicate (a0.zA.length : Int).toNat ([] : List zF)).length : Int), 0, a0)).bind fun y3 =>
  (zi (zan.r2 N) N (y3.1, y3.2.1, y3.2.2.1, y3.2.2.2.1, y3.2.2.2.2.1, y3.2.2.2.2.2.2.2)).bind fun y4 =>
  some y4.2.2.1) none) else none) else none) none) else none) else none
def zan.k (N : Nat) : Kq := ⟨31, (cvv [(Ty.sl (Ty.sl Ty.zF))] [Ty.zI] (zan N)), go [zbr.k N, zbq.k N, zjk.k N, zez.k, zjj.k N] {lits := [48, 123]} [(0, .plain { slots := [(1, .ptr 1 0), (3, .val (Ty.sl Ty.bool)), (4, .val (Ty.sl Ty.bool)), (5, .own 5000005 (Ty.sl Ty.zF)), (6, .own 5000006 Ty.bool), (7, .own 5000007 T6), (28, .val T6), (29, .val T6)], boxes := [(1, Ty.zI, [])] } [(Ty.sl Ty.bool), (Ty.sl Ty.bool), (Ty.sl (Ty.sl Ty.zF)), (Ty.sl Ty.bool), (Ty.sl T6), T6, T6, Ty.zI] (zi (zan.r0 N) N)), (4, .plain { slots := [(1, .ptr 1 0), (3, .val (Ty.sl Ty.bool)), (4, .val (Ty.sl Ty.bool)), (5, .own 5000005 (Ty.sl Ty.zF)), (6, .own 5000006 Ty.bool), (10, .val (Ty.sl Ty.zF)), (71, .val (Ty.sl T6)), (72, .val T6), (73, .val T6), (7, .own 5000007 T6)], boxes := [(1, Ty.zI, [])] } [(Ty.sl Ty.bool), (Ty.sl Ty.bool), (Ty.sl (Ty.sl Ty.zF)), (Ty.sl Ty.bool), (Ty.sl Ty.zF), (Ty.sl T6), T6, T6, (Ty.sl T6), Ty.zI] (zi (zan.r4 N) N)), (2, .plain { slots := [(1, .ptr 1 0), (3, .val (Ty.sl Ty.bool)), (4, .val (Ty.sl Ty.bool)), (5, .own 5000005 (Ty.sl Ty.zF)), (6, .own 5000006 Ty.bool), (7, .own 5000007 T6)], boxes := [(1, Ty.zI, [])] } [(Ty.sl Ty.bool), (Ty.sl Ty.bool), (Ty.sl (Ty.sl Ty.zF)), (Ty.sl Ty.bool), (Ty.sl T6), Ty.zI] (zi (zan.r2 N) N))] Proofs.Tryz.func31 (hL := ⟨⟨_, _, rfl, by kernel_rfl⟩, ⟨_, _, rfl, by kernel_rfl⟩, ⟨_, _, rfl, by kernel_rfl⟩, trivial⟩)⟩
def zha (a0 : List zF) : Option Bool :=
 some (decide ((a0.length : Int) > 60))
def zha.k : Kq := ⟨33, (cvv [Ty.bool] [(Ty.sl Ty.zF)] zha), go [] {} [] Proofs.Tryz.func33⟩
def za4.b0 (N : Nat) (s0 : List (List zF)) (s7 : Int) (s8 : Int) : Option (Round Int ((List (List zF)) × Int × Int)) :=
 cond (decide (s8 < s7)) ((idx s0 s8).bind fun x1001 => (zha x1001).bind fun r1002 => cond r1002 (some (.result s8))
  (some (.again (s0, s7, (w6 (s8 + 1)))))) (some (.leave (s0, s7, s8)))
def za4.r0 (N : Nat) (x : (List (List zF)) × Int × Int) := za4.b0 N x.1 x.2.1 x.2.2
def za4 (N : Nat) (a0 : List (List zF)) : Option Int :=
 (zf (za4.r0 N) N (a0, (a0.length : Int), 0)).bind fun z2 => zbc z2 (fun z => some z) (fun y1 => some (-1))
def za4.k (N : Nat) : Kq := ⟨83, (ctv [.val (Ty.sl (Ty.sl Ty.zF)), .clo 33 0] [T6] [] [] [(Ty.sl (Ty.sl Ty.zF))] (za4 N)), go [zha.k] {} [(0, .rets { slots := [(0, .val (Ty.sl (Ty.sl Ty.zF))), (1, .fn 33 []), (7, .val T6), (8, .val T6)], boxes := [] } [(Ty.sl (Ty.sl Ty.zF)), T6, T6] (zf (za4.r0 N) N))] Proofs.Tryz.func83 (hL := ⟨⟨_, _, rfl, by kernel_rfl⟩, trivial⟩)⟩
def zdi (N : Nat) (a0 : List (List zF)) : Option Bool :=
 (za4 N a0).bind fun r1 => some (decide (r1 ≥ 0))
def zdi.k (N : Nat) : Kq := ⟨32, (ctv [.val (Ty.sl (Ty.sl Ty.zF)), .clo 33 0] [Ty.bool] [] [] [(Ty.sl (Ty.sl Ty.zF))] (zdi N)), go [za4.k N] {} [] Proofs.Tryz.func32⟩
def zi3 (N : Nat) (a0 : zL) (a1 : zI) : Option ((List (List zF)) × Int) :=
 (ze9 N a0 a1).bind fun r1 => cond (r1 != 0) (some ([], r1)) ((zan N a1).bind fun r2 => (zdi N r2).bind fun r3 =>
  cond r3 (some ([], 2)) (some (r2, 0)))
def zi3.k (N : Nat) : Kq := ⟨9, (cvv [(Ty.sl (Ty.sl Ty.zF)), T6] [Ty.zL, Ty.zI] (zi3 N)), go [ze9.k N, zan.k N, zdi.k N] {} [] Proofs.Tryz.func9⟩
def zeh (a0 : zC) : Option Bool :=
 (cond (a0.Op == 0) (some (!a0.Place.Based)) (some false)).bind fun g1 => some g1
def zeh.k : Kq := ⟨41, (cvv [Ty.bool] [Ty.zC] zeh), go [] {} [] Proofs.Tryz.func41⟩
def zg5 (N : Nat) (a0 : List zF) (a1 : zC) (a2 : Int) : Option Bool :=
 (zca N a0 (⟨a2, a1.zG, a1.Place.Offset⟩ : zF)).bind fun r1 => some r1
def zg5.k (N : Nat) : Kq := ⟨42, (cvv [Ty.bool] [(Ty.sl Ty.zF), Ty.zC, T6] (zg5 N)), go [zca.k N] {} [] Proofs.Tryz.func42⟩
def zed.b0 (N : Nat) (s3 : List Int) (s4 : Int) (s8 : List Int) (s9 : Int) (s10 : Int) : Option (Stp ((List Int) × Int × (List Int) × Int × Int)) :=
 cond (decide (s10 < s9)) ((idx s8 s10).bind fun x1001 => cond (x1001 != (-1)) (cond (Nat.ble ((s3.length + ([(w6 (s4 + 1))] : List Int).length) * 8) zah)
  (some (.again ((s3 ++ ([(w6 (s4 + 1))] : List Int)), (w6 (s4 + 1)), s8, s9, (w6 (s10 + 1))))) none)
  (cond (Nat.ble ((s3.length + ([s4] : List Int).length) * 8) zah) (some (.again ((s3 ++ ([s4] : List Int)), s4, s8, s9, (w6 (s10 + 1))))) none))
  (some (.leave (s3, s4, s8, s9, s10)))
def zed.r0 (N : Nat) (x : (List Int) × Int × (List Int) × Int × Int) := zed.b0 N x.1 x.2.1 x.2.2.1 x.2.2.2.1 x.2.2.2.2
def zed (N : Nat) (a0 : List Int) : Option ((List Int)) :=
 (zi (zed.r0 N) N (([0] : List Int), 0, a0, (a0.length : Int), 0)).bind fun y1 => some y1.1
def zed.k (N : Nat) : Kq := ⟨43, (cvv [(Ty.sl T6)] [(Ty.sl T6)] (zed N)), go [] {lits := [20]} [(0, .plain { slots := [(3, .own 5000003 T6), (4, .val T6), (8, .val (Ty.sl T6)), (9, .val T6), (10, .val T6)], boxes := [] } [(Ty.sl T6), T6, (Ty.sl T6), T6, T6] (zi (zed.r0 N) N))] Proofs.Tryz.func43 (hL := ⟨⟨_, _, rfl, by kernel_rfl⟩, trivial⟩)⟩
def zeb.b0 (N : Nat) (s1 : List Int) (s5 : List zR) (s8 : List zR) (s9 : Int) (s10 : Int) : Option (Stp ((List Int) × (List zR) × (List zR) × Int × Int)) :=
 cond (decide (s10 < s9)) ((idx s8 s10).bind fun x1001 => (idx s1 x1001.From).bind fun x1002 => (idx s1 x1001.To).bind fun x1003 => (idx s1 x1001.Handler).bind fun x1004 =>
  cond (Nat.ble ((s5.length + ([(⟨x1002, x1003, x1001.Exception, x1004⟩ : zR)] : List zR).length) * 32) zah)
  (some (.again (s1, (s5 ++ ([(⟨x1002, x1003, x1001.Exception, x1004⟩ : zR)] : List zR)), s8, s9, (w6 (s10 + 1))))) none) (some (.leave (s1, s5, s8, s9, s10)))
def zeb.r0 (N : Nat) (x : (List Int) × (List zR) × (List zR) × Int × Int) := zeb.b0 N x.1 x.2.1 x.2.2.1 x.2.2.2.1 x.2.2.2.2
def zeb (N : Nat) (a0 : List zR) (a1 : List Int) : Option ((List zR)) :=
 (zi (zeb.r0 N) N (a1, [], a0, (a0.length : Int), 0)).bind fun y1 => some y1.2.1
def zeb.k (N : Nat) : Kq := ⟨45, (cvv [(Ty.sl Ty.zR)] [(Ty.sl Ty.zR), (Ty.sl T6)] (zeb N)), go [] {lits := [33]} [(0, .plain { slots := [(1, .val (Ty.sl T6)), (5, .own 5000005 Ty.zR), (8, .val (Ty.sl Ty.zR)), (9, .val T6), (10, .val T6)], boxes := [] } [(Ty.sl T6), (Ty.sl Ty.zR), (Ty.sl Ty.zR), T6, T6] (zi (zeb.r0 N) N))] Proofs.Tryz.func45 (hL := ⟨⟨_, _, rfl, by kernel_rfl⟩, trivial⟩)⟩
def zdx.b0 (N : Nat) (s0 : List zF) (s11 : List zF) (s12 : Int) (s13 : Int) (b3 : zC) (b4 : zC) : Option (Round zC ((List zF) × (List zF) × Int × Int × zC × zC)) :=
 cond (decide (s13 < s12)) ((idx s11 s13).bind fun x1001 => (cond (x1001.Register != b3.R) ((zg5 N s0 b3 x1001.Register).bind fun r1002 => some r1002)
  (some false)).bind fun g1003 =>
  cond g1003 (some (.result (⟨3, b3.R, x1001.Register, 0, 0, (⟨false, 0, 0⟩ : zM), (⟨false, 0, 0⟩ : zM), (⟨0, 0, 0⟩ : DataType), (⟨0, 0, 0⟩ : DataType), false, false, (⟨0, 0⟩ : Number), (⟨#[]⟩ : ByteArray), (⟨#[]⟩ : ByteArray), 0, 0, 0, 0⟩ : zC)))
  (some (.again (s0, s11, s12, (w6 (s13 + 1)), b3, b4)))) (some (.leave (s0, s11, s12, s13, b3, b4)))
def zdx.r0 (N : Nat) (x : (List zF) × (List zF) × Int × Int × zC × zC) := zdx.b0 N x.1 x.2.1 x.2.2.1 x.2.2.2.1 x.2.2.2.2.1 x.2.2.2.2.2
def zdx (N : Nat) (a0 : List zF) (a1 : zC) : Option zC :=
 (zeh a1).bind fun r1 => cond (!r1) (some a1)
  ((zf (zdx.r0 N) N (a0, a0, (a0.length : Int), 0, a1, (⟨0, 0, 0, 0, 0, (⟨false, 0, 0⟩ : zM), (⟨false, 0, 0⟩ : zM), (⟨0, 0, 0⟩ : DataType), (⟨0, 0, 0⟩ : DataType), false, false, (⟨0, 0⟩ : Number), (⟨#[]⟩ : ByteArray), (⟨#[]⟩ : ByteArray), 0, 0, 0, 0⟩ : zC))).bind fun z3 =>
  zbc z3 (fun z => some z) (fun y2 => some y2.2.2.2.2.1))
def zdx.k (N : Nat) : Kq := ⟨47, (cvv [Ty.zC] [(Ty.sl Ty.zF), Ty.zC] (zdx N)), go [zeh.k, zg5.k N] {} [(0, .rets { slots := [(0, .val (Ty.sl Ty.zF)), (3, .ptr 3 0), (4, .ptr 4 0), (11, .val (Ty.sl Ty.zF)), (12, .val T6), (13, .val T6)], boxes := [(3, Ty.zC, []), (4, Ty.zC, [])] } [(Ty.sl Ty.zF), (Ty.sl Ty.zF), T6, T6, Ty.zC, Ty.zC] (zf (zdx.r0 N) N))] Proofs.Tryz.func47 (hL := ⟨⟨_, _, rfl, by kernel_rfl⟩, trivial⟩)⟩
def zji (a0 : zC) (a1 : List Int) : Option zC :=
 (zcg a0.Op).bind fun r1 => cond r1 ((idx a1 a0.Target).bind fun x2 =>
  some (⟨a0.Op, a0.R, a0.A, a0.B, a0.zS, a0.Place, a0.From, a0.zG, a0.Second, a0.Half, a0.zO, a0.Number, a0.Text, a0.Other, a0.Mask, x2, a0.Pointer, a0.Source⟩ : zC))
  (some a0)
def zji.k : Kq := ⟨46, (cvv [Ty.zC] [Ty.zC, (Ty.sl T6)] zji), go [zcg.k] {} [] Proofs.Tryz.func46⟩
def x44 : Ct U := { params := [.val (Ty.sl Ty.bool)], results := [(Ty.sl Ty.bool)], outs := [], fresh := [0], fn := app U [(Ty.sl Ty.bool)] (R := PT U [(Ty.sl Ty.bool)]) (zk7 1) }
theorem x44.meets : zh9 (zqa [] [] [] [] [] [] [] []) 44 x44 :=
 zub zx3 (zy9 (l := []) rfl zdp) (zx7 (l := []) rfl zdp) (Lp := pick []) Proofs.Tryz.func44 (by kernel_rfl) (zzi (l := []) rfl zdp) (fun y => by kernel_rfl) (e := 4) (t := Ty.bool) rfl rfl rfl rfl rfl rfl rfl (by kernel_rfl) rfl rfl rfl rfl rfl rfl (fun xs => by kernel_rfl) fun ds y h => by
  obtain ⟨xs, rfl, hx⟩ := z3a h; refine ⟨xs, rfl, fun b hb => ?_⟩; cases b with
  | true =>
   have := hb rfl; subst this; exact Eq.trans (by kernel_rfl) hx
  | false => exact Eq.trans (b := cond (Nat.ble ((0 + xs.length) * 1) zah) (some xs) none) (by kernel_rfl) (by rw [Nat.zero_add]; exact hx)
def x44.k : Kq := ⟨44, x44, x44.meets⟩
def zbk.b0 (N : Nat) (s7 : List (List zF)) (s9 : List Int) (s10 : Int) (s29 : List zC) (s30 : Int) (s31 : Int) (b3 : zI) (b4 : zI) (b5 : zX) : Option (Stp ((List (List zF)) × (List Int) × Int × (List zC) × Int × Int × zI × zI × zX)) :=
 cond (decide (s31 < s30)) ((idx s29 s31).bind fun x1001 => (cond (decide (s31 < (w6 ((b3.zA.length : Int) - 1))))
  ((zeh x1001).bind fun r1002 => some r1002) (some false)).bind fun g1003 => (cond g1003 ((idx s7 s31).bind fun x1004 =>
  (zg5 N x1004 x1001 x1001.R).bind fun r1005 => some r1005) (some false)).bind fun g1006 =>
  cond g1006 (cond (Nat.ble ((s9.length + ([(-1)] : List Int).length) * 8) zah)
  (some (.again (s7, (s9 ++ ([(-1)] : List Int)), s10, s29, s30, (w6 (s31 + 1)), b3, b4, b5))) none)
  (cond (Nat.ble ((s9.length + ([s10] : List Int).length) * 8) zah)
  (some (.again (s7, (s9 ++ ([s10] : List Int)), (w6 (s10 + 1)), s29, s30, (w6 (s31 + 1)), b3, b4, b5))) none))
  (some (.leave (s7, s9, s10, s29, s30, s31, b3, b4, b5)))
def zbk.r0 (N : Nat) (x : (List (List zF)) × (List Int) × Int × (List zC) × Int × Int × zI × zI × zX) := zbk.b0 N x.1 x.2.1 x.2.2.1 x.2.2.2.1 x.2.2.2.2.1 x.2.2.2.2.2.1 x.2.2.2.2.2.2.1 x.2.2.2.2.2.2.2.1 x.2.2.2.2.2.2.2.2
def zbk.b2 (N : Nat) (s7 : List (List zF)) (s9 : List Int) (s13 : List Int) (s82 : List zC) (s83 : Int) (s84 : Int) (b4 : zI) (b5 : zX) (b14 : zI) : Option (Stp ((List (List zF)) × (List Int) × (List Int) × (List zC) × Int × Int × zI × zX × zI)) :=
 cond (decide (s84 < s83)) ((idx s82 s84).bind fun x3001 => (idx s9 s84).bind fun x3002 => cond (x3002 != (-1)) ((idx s7 s84).bind fun x3003 =>
  (zdx N x3003 x3001).bind fun r3004 => (zji r3004 s13).bind fun r3005 =>
  cond (Nat.ble ((b14.zA.length + ([r3005] : List zC).length) * 224) zah)
  (some (.again (s7, s9, s13, s82, s83, (w6 (s84 + 1)), b4, b5, (⟨b14.Storage, (b14.zA ++ ([r3005] : List zC)), b14.zV⟩ : zI)))) none)
  (some (.again (s7, s9, s13, s82, s83, (w6 (s84 + 1)), b4, b5, b14)))) (some (.leave (s7, s9, s13, s82, s83, s84, b4, b5, b14)))
def zbk.r2 (N : Nat) (x : (List (List zF)) × (List Int) × (List Int) × (List zC) × Int × Int × zI × zX × zI) := zbk.b2 N x.1 x.2.1 x.2.2.1 x.2.2.2.1 x.2.2.2.2.1 x.2.2.2.2.2.1 x.2.2.2.2.2.2.1 x.2.2.2.2.2.2.2.1 x.2.2.2.2.2.2.2.2
def zbk (N : Nat) (a0 : zL) (a1 : zI) : Option (zI × zX × Int) :=
 (zi3 N a0 a1).bind fun r1 => cond (r1.2 != 0) (some ((⟨(⟨(⟨#[]⟩ : ByteArray), []⟩ : Storage), [], []⟩ : zI), (⟨[], []⟩ : zX), r1.2))
  ((zi (zbk.r0 N) N (r1.1, [], 0, a1.zA, (a1.zA.length : Int), 0, a1, (⟨(⟨(⟨#[]⟩ : ByteArray), []⟩ : Storage), [], []⟩ : zI), (⟨[], []⟩ : zX))).bind fun y2 =>
  (zed N y2.2.1).bind fun r3 => (zk7 1 y2.2.2.2.2.2.2.1.Storage.Tags).bind fun r4 => (zeb N y2.2.2.2.2.2.2.1.zV r3).bind fun r5 =>
  (zi (zbk.r2 N) N (y2.1, y2.2.1, r3, y2.2.2.2.2.2.2.1.zA, (y2.2.2.2.2.2.2.1.zA.length : Int), 0, y2.2.2.2.2.2.2.2.1, y2.2.2.2.2.2.2.2.2, (⟨(⟨y2.2.2.2.2.2.2.1.Storage.Bytes, r4⟩ : Storage), [], r5⟩ : zI))).bind fun y6 =>
  some (y6.2.2.2.2.2.2.2.2, (⟨y6.1, y6.2.1⟩ : zX), 0))
def zbk.k (N : Nat) : Kq := ⟨14, (cvv [Ty.zI, Ty.zX, T6] [Ty.zL, Ty.zI] (zbk N)), go [zi3.k N, zeh.k, zg5.k N, zed.k N, x44.k, zeb.k N, zji.k, zdx.k N] {lits := [57, 61, 101, 103, 104]} [(0, .plain { slots := [(3, .ptr 3 0), (4, .ptr 4 0), (5, .ptr 5 0), (7, .val (Ty.sl (Ty.sl Ty.zF))), (9, .own 5000009 T6), (10, .val T6), (29, .val (Ty.sl Ty.zC)), (30, .val T6), (31, .val T6)], boxes := [(3, Ty.zI, []), (4, Ty.zI, [1, 2, 3]), (5, Ty.zX, [0, 1])] } [(Ty.sl (Ty.sl Ty.zF)), (Ty.sl T6), T6, (Ty.sl Ty.zC), T6, T6, Ty.zI, Ty.zI, Ty.zX] (zi (zbk.r0 N) N)), (2, .plain { slots := [(4, .ptr 4 0), (5, .ptr 5 0), (7, .val (Ty.sl (Ty.sl Ty.zF))), (9, .val (Ty.sl T6)), (13, .val (Ty.sl T6)), (14, .ptr 14 0), (82, .val (Ty.sl Ty.zC)), (83, .val T6), (84, .val T6)], boxes := [(4, Ty.zI, [1, 2, 3]), (5, Ty.zX, [0, 1]), (14, Ty.zI, [1, 2])] } [(Ty.sl (Ty.sl Ty.zF)), (Ty.sl T6), (Ty.sl T6), (Ty.sl Ty.zC), T6, T6, Ty.zI, Ty.zX, Ty.zI] (zi (zbk.r2 N) N))] Proofs.Tryz.func14 (hL := ⟨⟨_, _, rfl, by kernel_rfl⟩, ⟨_, _, rfl, by kernel_rfl⟩, trivial⟩)⟩
def zne  : Option zD :=
 some (⟨([(⟨(⟨#[65]⟩ : ByteArray), 0, (⟨1, 3, 0⟩ : DataType), (⟨7, (⟨#[]⟩ : ByteArray)⟩ : Value), (⟨#[]⟩ : ByteArray), 0, 0⟩ : zH), (⟨(⟨#[79, 78, 69]⟩ : ByteArray), 4, (⟨1, 1, 0⟩ : DataType), (⟨1, (⟨#[]⟩ : ByteArray)⟩ : Value), (⟨#[]⟩ : ByteArray), 0, 0⟩ : zH)] : List zH), ([(⟨2, ([0, 0, 1] : List Int)⟩ : zK), (⟨17, ([0] : List Int)⟩ : zK), (⟨18, []⟩ : zK)] : List zK), []⟩ : zD)
def zne.k : Kq := ⟨28, (cvv [Ty.zD] [] zne), go [] {lits := [8, 10]} [] Proofs.Tryz.func28⟩
def zbx (a0 : Bool) (a1 : Int) : Option Int :=
 cond a0 (some a1) (some 0)
def zbx.k : Kq := ⟨155, (cvv [T6] [Ty.bool, T6] zbx), go [] {} [] Proofs.Tryz.func155⟩
def za8.b0 (N : Nat) (s5 : List Int) (s6 : Int) (s7 : Int) : Option (Round Int ((List Int) × Int × Int)) :=
 cond (decide (s7 < s6)) ((idx s5 s7).bind fun x1001 => cond (x1001 != 0) (some (.result x1001)) (some (.again (s5, s6, (w6 (s7 + 1)))))) (some (.leave (s5, s6, s7)))
def za8.r0 (N : Nat) (x : (List Int) × Int × Int) := za8.b0 N x.1 x.2.1 x.2.2
def za8 (N : Nat) (a0 : List Int) : Option Int :=
 (zf (za8.r0 N) N (a0, (a0.length : Int), 0)).bind fun z2 => zbc z2 (fun z => some z) (fun y1 => some 0)
def za8.k (N : Nat) : Kq := ⟨154, (cvv [T6] [(Ty.sl T6)] (za8 N)), go [] {} [(0, .rets { slots := [(5, .val (Ty.sl T6)), (6, .val T6), (7, .val T6)], boxes := [] } [(Ty.sl T6), T6, T6] (zf (za8.r0 N) N))] Proofs.Tryz.func154 (hL := ⟨⟨_, _, rfl, by kernel_rfl⟩, trivial⟩)⟩
def zb6.b0 (N : Nat) (s15 : List Int) (s16 : Int) (s17 : Int) : Option (Round Bool ((List Int) × Int × Int)) :=
 cond (decide (s17 < s16)) (if 0 ≤ s17 then (if s17 < (s15.length : Int) then ((s15[s17.toNat]?).bind fun x1001 => (cond (decide (65 ≤ x1001)) (some (decide (x1001 ≤ 90)))
  (some false)).bind fun g1002 => (cond g1002 (some true) (some (x1001 == 35))).bind fun g1003 => (cond g1003 (some true) (some (x1001 == 36))).bind fun g1004 =>
  (cond g1004 (some true) (some (x1001 == 64))).bind fun g1005 => (cond (decide (48 ≤ x1001)) (some (decide (x1001 ≤ 57))) (some false)).bind fun g1006 => (cond g1006 (some true)
  (some (x1001 == 95))).bind fun g1007 => (cond g1007 (some true) (some (x1001 == 46))).bind fun g1008 => (cond (!g1005) ((cond (s17 == 0) (some true)
  (some (!g1008))).bind fun g1009 => some g1009) (some false)).bind fun g1010 => cond g1010 (some (.result false))
  (some (.again (s15, s16, (w6 (s17 + 1)))))) else none) else none) (some (.leave (s15, s16, s17)))
def zb6.r0 (N : Nat) (x : (List Int) × Int × Int) := zb6.b0 N x.1 x.2.1 x.2.2
def zb6 (N : Nat) (a0 : ByteArray) : Option Bool :=
 (cond (a0.toList == (⟨#[]⟩ : ByteArray).toList) (some true) (some (decide ((a0.size : Int) > 10)))).bind fun g1 => cond g1 (some false)
  ((zf (zb6.r0 N) N ((zgb a0), ((zgb a0).length : Int), 0)).bind fun z3 => zbc z3 (fun z => some z) (fun y2 => some true))
def zb6.k (N : Nat) : Kq := ⟨199, (cvv [Ty.bool] [Ty.str] (zb6 N)), go [] {} [(0, .rets { slots := [(15, .own 5000015 (Ty.int .u8)), (16, .val T6), (17, .val T6)], boxes := [] } [(Ty.sl (Ty.int .u8)), T6, T6] (zf (zb6.r0 N) N))] Proofs.Tryz.func199 (hL := ⟨⟨_, _, rfl, by kernel_rfl⟩, trivial⟩)⟩
def zhz (a0 : zH) (a1 : ByteArray) : Option Bool :=
 some (a0.Name.toList == a1.toList)
def zhz.k : Kq := ⟨208, (ctv [.val Ty.zH, .ptr Ty.str false []] [Ty.bool] [] [] [Ty.zH, Ty.str] zhz), go [] {ro := [1000000], pk := [1000000]} [] Proofs.Tryz.func208⟩
def zj.b0 (N : Nat) (s0 : List zH) (s7 : Int) (s8 : Int) (b1000000 : ByteArray) : Option (Round Int ((List zH) × Int × Int × ByteArray)) :=
 cond (decide (s8 < s7)) ((idx s0 s8).bind fun x1001 => (zhz x1001 b1000000).bind fun r1002 => cond r1002 (some (.result s8))
  (some (.again (s0, s7, (w6 (s8 + 1)), b1000000)))) (some (.leave (s0, s7, s8, b1000000)))
def zj.r0 (N : Nat) (x : (List zH) × Int × Int × ByteArray) := zj.b0 N x.1 x.2.1 x.2.2.1 x.2.2.2
def zj (N : Nat) (a0 : List zH) (a1 : ByteArray) : Option Int :=
 (zf (zj.r0 N) N (a0, (a0.length : Int), 0, a1)).bind fun z2 => zbc z2 (fun z => some z) (fun y1 => some (-1))
def zj.k (N : Nat) : Kq := ⟨207, (ctv [.val (Ty.sl Ty.zH), .clo 208 1, .ptr Ty.str false []] [T6] [] [] [(Ty.sl Ty.zH), Ty.str] (zj N)), go [zhz.k] {ro := [1000000], pk := [1000000]} [(0, .rets { slots := [(0, .val (Ty.sl Ty.zH)), (1, .fn 208 [1000000]), (7, .val T6), (8, .val T6)], boxes := [(1000000, Ty.str, [])] } [(Ty.sl Ty.zH), T6, T6, Ty.str] (zf (zj.r0 N) N))] Proofs.Tryz.func207 (hL := ⟨⟨_, _, rfl, by kernel_rfl⟩, trivial⟩)⟩
def zew (N : Nat) (a0 : List zH) (a1 : ByteArray) : Option Int :=
 (zj N a0 a1).bind fun r1 => some r1
def zew.k (N : Nat) : Kq := ⟨161, (cvv [T6] [(Ty.sl Ty.zH), Ty.str] (zew N)), go [zj.k N] {} [] Proofs.Tryz.func161⟩
def zde (a0 : Int) (a1 : Int) (a2 : Int) : Option Bool :=
 (cond (decide (a1 ≤ a0)) (some (decide (a0 ≤ a2))) (some false)).bind fun g1 => some g1
def zde.k : Kq := ⟨200, (cvv [Ty.bool] [T6, T6, T6] zde), go [] {} [] Proofs.Tryz.func200⟩
def zd5 (a0 : zH) : Option Bool :=
 (cond (a0.Kind == 0) (some true) (some (a0.Kind == 1))).bind fun g1 => (cond g1 (some true) (some (a0.Kind == 2))).bind fun g2 => (cond g2 (some true)
  (some (a0.Kind == 4))).bind fun g3 => some g3
def zd5.k : Kq := ⟨202, (cvv [Ty.bool] [Ty.zH] zd5), go [] {} [] Proofs.Tryz.func202⟩
def zh0 (a0 : zH) : Option zH :=
 (zd5 a0).bind fun r1 => cond r1 ((cond (a0.Kind == 0) (some (a0.Kind == 0)) (some (a0.Kind == 4))).bind fun q2 =>
  cond q2 (some (⟨a0.Name, a0.Kind, a0.zG, a0.Value, (⟨#[]⟩ : ByteArray), 0, 0⟩ : zH)) ((cond (a0.Kind == 1) (some (a0.Kind == 1)) (some (a0.Kind == 2))).bind fun q3 =>
  cond q3 (some (⟨a0.Name, a0.Kind, a0.zG, (⟨0, (⟨#[]⟩ : ByteArray)⟩ : Value), a0.Base, a0.Offset, 0⟩ : zH)) (cond (a0.Kind == 5)
  (some (⟨a0.Name, a0.Kind, a0.zG, (⟨0, (⟨#[]⟩ : ByteArray)⟩ : Value), (⟨#[]⟩ : ByteArray), 0, a0.Target⟩ : zH))
  (some (⟨a0.Name, a0.Kind, a0.zG, (⟨0, (⟨#[]⟩ : ByteArray)⟩ : Value), (⟨#[]⟩ : ByteArray), 0, 0⟩ : zH))))) ((cond (a0.Kind == 0) (some (a0.Kind == 0))
  (some (a0.Kind == 4))).bind fun q4 => cond q4 (some (⟨a0.Name, a0.Kind, (⟨0, 0, 0⟩ : DataType), a0.Value, (⟨#[]⟩ : ByteArray), 0, 0⟩ : zH)) ((cond (a0.Kind == 1)
  (some (a0.Kind == 1)) (some (a0.Kind == 2))).bind fun q5 =>
  cond q5 (some (⟨a0.Name, a0.Kind, (⟨0, 0, 0⟩ : DataType), (⟨0, (⟨#[]⟩ : ByteArray)⟩ : Value), a0.Base, a0.Offset, 0⟩ : zH)) (cond (a0.Kind == 5)
  (some (⟨a0.Name, a0.Kind, (⟨0, 0, 0⟩ : DataType), (⟨0, (⟨#[]⟩ : ByteArray)⟩ : Value), (⟨#[]⟩ : ByteArray), 0, a0.Target⟩ : zH))
  (some (⟨a0.Name, a0.Kind, (⟨0, 0, 0⟩ : DataType), (⟨0, (⟨#[]⟩ : ByteArray)⟩ : Value), (⟨#[]⟩ : ByteArray), 0, 0⟩ : zH)))))
def zh0.k : Kq := ⟨201, (cvv [Ty.zH] [Ty.zH] zh0), go [zd5.k] {bj := [16, 22]} [] Proofs.Tryz.func201⟩
def zcj.b0 (N : Nat) (s3 : Int) (s5 : Int) (s6 : Int) : Option (Stp (Int × Int × Int)) :=
 cond (decide (s6 < s5)) (some (.again ((w6 (s3 * 10)), s5, (w6 (s6 + 1))))) (some (.leave (s3, s5, s6)))
def zcj.r0 (N : Nat) (x : Int × Int × Int) := zcj.b0 N x.1 x.2.1 x.2.2
def zcj (N : Nat) (a0 : Int) : Option Int :=
 (zi (zcj.r0 N) N (1, (if 18 < a0 then 18 else a0), 0)).bind fun y1 => some y1.1
def zcj.k (N : Nat) : Kq := ⟨216, (cvv [T6] [T6] (zcj N)), go [] {} [(0, .plain { slots := [(3, .val T6), (5, .val T6), (6, .val T6)], boxes := [] } [T6, T6, T6] (zi (zcj.r0 N) N))] Proofs.Tryz.func216 (hL := ⟨⟨_, _, rfl, by kernel_rfl⟩, trivial⟩)⟩
def zcm (N : Nat) (a0 : DataType) (a1 : Value) : Option Int :=
 (zck N a0).bind fun r1 => (zby (a0.Kind == 4) 17).bind fun r2 => (zai N ([r1, r2] : List Int)).bind fun r3 => cond (r3 != 0) (some r3)
  (cond (a0.Kind == 0) ((zby (a1.N != 0) 5).bind fun r4 => (zby ((a1.S.size : Int) != a0.Length) 18).bind fun r5 =>
  (zai N ([r4, r5] : List Int)).bind fun r6 => some r6) ((zcj N a0.Length).bind fun r7 =>
  (zby (!(a1.S.toList == (⟨#[]⟩ : ByteArray).toList)) 5).bind fun r8 => (zeg a1.N (w6 (0 - (w6 (r7 - 1))))
  (w6 (r7 - 1))).bind fun r9 => (zby (!r9) 19).bind fun r10 => (zai N ([r8, r10] : List Int)).bind fun r11 => some r11))
def zcm.k (N : Nat) : Kq := ⟨164, (cvv [T6] [Ty.DataType, Ty.Value] (zcm N)), go [zck.k N, zai.k N, zby.k, zcj.k N, zeg.k] {lits := [8, 12, 13, 24, 31, 32, 41, 49, 50]} [] Proofs.Tryz.func164⟩
def zf2 (N : Nat) (a0 : zH) : Option Int :=
 (zd6 N a0.zG).bind fun r1 => some r1.1
def zf2.k (N : Nat) : Kq := ⟨160, (cvv [T6] [Ty.zH] (zf2 N)), go [zd6.k N] {} [] Proofs.Tryz.func160⟩
def zf3 (N : Nat) (a0 : zH) (a1 : List zH) : Option Int :=
 (zew N a1 a0.Base).bind fun r1 => cond (decide (r1 < 0)) (some 11) ((idx a1 r1).bind fun x2 => cond (a0.Kind == 2) ((zbx (x2.Kind != 3) 17).bind fun r3 =>
  (zde a0.Offset 0 256).bind fun r4 => (zbx (!r4) 3).bind fun r5 => (za8 N ([r3, r5] : List Int)).bind fun r6 => some r6) (cond (x2.Kind != 0) (some 17)
  ((zf2 N x2).bind fun r7 => (zf2 N a0).bind fun r8 => (zde a0.Offset 0 (w6 (r7 - r8))).bind fun r9 => (zbx (!r9) 3).bind fun r10 =>
  some r10)))
def zf3.k (N : Nat) : Kq := ⟨203, (cvv [T6] [Ty.zH, (Ty.sl Ty.zH)] (zf3 N)), go [za8.k N, zbx.k, zf2.k N, zew.k N, zde.k] {lits := [23, 28, 29]} [] Proofs.Tryz.func203⟩
def zfu (N : Nat) (a0 : zD) (a1 : Int) : Option Int :=
 (idx a0.zB a1).bind fun x1 => if 0 ≤ a1 ∧ a1 ≤ (a0.zB.length : Int) then (if 0 ≤ (0 : Int) ∧ (0 : Int) ≤ a1 then ((zb6 N x1.Name).bind fun r2 =>
  (zbx (!r2) 7).bind fun r3 => (zew N ((a0.zB.take a1.toNat).drop (0 : Int).toNat) x1.Name).bind fun r4 =>
  (zbx (decide (r4 ≥ 0)) 13).bind fun r5 => (zde x1.Kind 0 5).bind fun r6 => (zbx (!r6) 4).bind fun r7 => (zh0 x1).bind fun r8 =>
  (zbx (!(zcp [(r8.Name == x1.Name), (r8.Kind == x1.Kind), (r8.zG.Kind == x1.zG.Kind), (r8.zG.Length == x1.zG.Length), (r8.zG.Scale == x1.zG.Scale), (r8.Value.N == x1.Value.N), (r8.Value.S == x1.Value.S), (r8.Base == x1.Base), (r8.Offset == x1.Offset), (r8.Target == x1.Target)])) 5).bind fun r9 =>
  (za8 N ([r3, r5, r7, r9] : List Int)).bind fun r10 => cond (r10 != 0) (some r10) ((zd5 x1).bind fun r11 =>
  cond r11 ((zck N x1.zG).bind fun r12 => (zbx (x1.zG.Kind == 4) 17).bind fun r13 => (za8 N ([r12, r13] : List Int)).bind fun r14 =>
  cond (r14 != 0) (some r14) ((cond (x1.Kind == 0) (some (x1.Kind == 0)) (some (x1.Kind == 4))).bind fun q15 => cond q15 ((zcm N x1.zG x1.Value).bind fun r16 =>
  some r16) ((cond (x1.Kind == 1) (some (x1.Kind == 1)) (some (x1.Kind == 2))).bind fun q17 =>
  cond q17 ((zf3 N x1 ((a0.zB.take a1.toNat).drop (0 : Int).toNat)).bind fun r18 => some r18) (cond (x1.Kind == 5)
  ((zde x1.Target 0 (w6 ((a0.zA.length : Int) - 1))).bind fun r19 => (zbx (!r19) 3).bind fun r20 => some r20) (some 0)))))
  ((cond (x1.Kind == 0) (some (x1.Kind == 0)) (some (x1.Kind == 4))).bind fun q21 => cond q21 ((zcm N x1.zG x1.Value).bind fun r22 => some r22)
  ((cond (x1.Kind == 1) (some (x1.Kind == 1)) (some (x1.Kind == 2))).bind fun q23 =>
  cond q23 ((zf3 N x1 ((a0.zB.take a1.toNat).drop (0 : Int).toNat)).bind fun r24 => some r24) (cond (x1.Kind == 5)
  ((zde x1.Target 0 (w6 ((a0.zA.length : Int) - 1))).bind fun r25 => (zbx (!r25) 3).bind fun r26 => some r26)
  (some 0)))))) else none) else none
def zfu.k (N : Nat) : Kq := ⟨156, (cvv [T6] [Ty.zD, T6] (zfu N)), go [za8.k N, zbx.k, zew.k N, zcm.k N, zck.k N, zb6.k N, zde.k, zh0.k, zd5.k, zf3.k N] {lits := [22, 28, 33, 38, 39, 48, 53, 54], bj := [61, 69]} [] Proofs.Tryz.func156⟩
def zg7 (a0 : Int) (a1 : Int) : Option (Int × Int) :=
 some ((IntKind.wrap .u64 ((IntKind.wrap .u64 ((IntKind.wrap .u64 ((a0.fdiv (2 ^ (min (32 : Int).toNat 64))) * (a1.fdiv (2 ^ (min (32 : Int).toNat 64))))) + ((IntKind.wrap .u64 ((IntKind.wrap .u64 ((a0.fdiv (2 ^ (min (32 : Int).toNat 64))) * (zk .u64 a1 4294967295))) + ((IntKind.wrap .u64 ((zk .u64 a0 4294967295) * (zk .u64 a1 4294967295))).fdiv (2 ^ (min (32 : Int).toNat 64))))).fdiv (2 ^ (min (32 : Int).toNat 64))))) + ((IntKind.wrap .u64 ((zk .u64 (IntKind.wrap .u64 ((IntKind.wrap .u64 ((a0.fdiv (2 ^ (min (32 : Int).toNat 64))) * (zk .u64 a1 4294967295))) + ((IntKind.wrap .u64 ((zk .u64 a0 4294967295) * (zk .u64 a1 4294967295))).fdiv (2 ^ (min (32 : Int).toNat 64))))) 4294967295) + (IntKind.wrap .u64 ((zk .u64 a0 4294967295) * (a1.fdiv (2 ^ (min (32 : Int).toNat 64))))))).fdiv (2 ^ (min (32 : Int).toNat 64))))), (IntKind.wrap .u64 (a0 * a1)))
def zg7.k : Kq := ⟨249, (cvv [(Ty.int .u64), (Ty.int .u64)] [(Ty.int .u64), (Ty.int .u64)] zg7), go [] {} [] Proofs.Tryz.func249⟩
def zjy (a0 : Int) (a1 : Int) : Option (Int × Int) :=
 (zg7 a0 a1).bind fun r1 => some (r1.1, r1.2)
def zjy.k : Kq := ⟨205, (cvv [(Ty.int .u64), (Ty.int .u64)] [(Ty.int .u64), (Ty.int .u64)] zjy), go [zg7.k] {} [] Proofs.Tryz.func205⟩
def zbs.b0 (N : Nat) (s7 : List Int) (s8 : Int) : Option (Stp ((List Int) × Int)) :=
 cond (decide (s8 < (s7.length : Int)))
  (if 0 ≤ s8 ∧ s8 ≤ (s7.length : Int) then (if 0 ≤ s8 ∧ s8 ≤ (s7.length : Int) then (if 0 ≤ (0 : Int) ∧ (0 : Int) ≤ s8 then (some (.again ((s7.take s8.toNat ++ ((s7.drop ((0 : Int).toNat)).take (s8.toNat - (0 : Int).toNat)).take (min ((s7.drop ((0 : Int).toNat)).take (s8.toNat - (0 : Int).toNat)).length (s7.length - s8.toNat)) ++ s7.drop (s8.toNat + (min ((s7.drop ((0 : Int).toNat)).take (s8.toNat - (0 : Int).toNat)).length (s7.length - s8.toNat)))), (w6 (s8 + (((min ((s7.drop ((0 : Int).toNat)).take (s8.toNat - (0 : Int).toNat)).length (s7.length - s8.toNat)) : Nat) : Int)))))) else none) else none) else none)
  (some (.leave (s7, s8)))
def zbs.r0 (N : Nat) (x : (List Int) × Int) := zbs.b0 N x.1 x.2
def zbs (N : Nat) (a0 : List Int) (a1 : Int) : Option ((List Int)) :=
 cond (decide (a1 < 0)) (none) ((zjy (IntKind.wrap .u64 (a0.length : Int)) (IntKind.wrap .u64 a1)).bind fun r1 => (cond (decide (r1.1 > 0)) (some true)
  (some (decide (r1.2 > 9223372036854775807)))).bind fun g2 => cond g2 (none)
  (if 0 ≤ (w6 r1.2) then (if (w6 r1.2) ≤ (w6 r1.2) then (cond (Nat.ble ((w6 r1.2).toNat * 8) zah)
  ((zi (zbs.r0 N) N ((a0.take (min a0.length (List.replicate (w6 r1.2).toNat (0 : Int)).length) ++ (List.replicate (w6 r1.2).toNat (0 : Int)).drop (min a0.length (List.replicate (w6 r1.2).toNat (0 : Int)).length)), (((min a0.length (List.replicate (w6 r1.2).toNat (0 : Int)).length) : Nat) : Int))).bind fun y3 =>
  some y3.1) none) else none) else none))
def zbs.k (N : Nat) : Kq := ⟨159, (ctv [.val (Ty.sl T6), .val T6] [(Ty.sl T6)] [] [0] [(Ty.sl T6), T6] (zbs N)), go [zjy.k] {} [(0, .plain { slots := [(7, .own 5000007 T6), (8, .val T6)], boxes := [] } [(Ty.sl T6), T6] (zi (zbs.r0 N) N))] Proofs.Tryz.func159 (hL := ⟨⟨_, _, rfl, by kernel_rfl⟩, trivial⟩)⟩
def zh.b0 (N : Nat) (s0 : List zH) (s4 : List Int) (s5 : Int) (s16 : List zH) (s17 : Int) (s18 : Int) : Option (Stp ((List zH) × (List Int) × Int × (List zH) × Int × Int)) :=
 cond (decide (s18 < s17)) ((idx s16 s18).bind fun x1001 => cond (x1001.Kind == 3) (if 0 ≤ s18 then (if s18 < (s4.length : Int) then ((s4[s18.toNat]?).bind fun x1002 =>
  some (.again (s0, (s4.set s18.toNat s5), (w6 (s5 + 16)), s16, s17, (w6 (s18 + 1))))) else none) else none)
  (some (.again (s0, s4, s5, s16, s17, (w6 (s18 + 1)))))) (some (.leave (s0, s4, s5, s16, s17, s18)))
def zh.r0 (N : Nat) (x : (List zH) × (List Int) × Int × (List zH) × Int × Int) := zh.b0 N x.1 x.2.1 x.2.2.1 x.2.2.2.1 x.2.2.2.2.1 x.2.2.2.2.2
def zh.b2 (N : Nat) (s0 : List zH) (s4 : List Int) (s5 : Int) (s33 : List zH) (s34 : Int) (s35 : Int) : Option (Stp ((List zH) × (List Int) × Int × (List zH) × Int × Int)) :=
 cond (decide (s35 < s34)) ((idx s33 s35).bind fun x3001 => cond (x3001.Kind == 0) ((zf2 N x3001).bind fun r3002 =>
  if 0 ≤ s35 then (if s35 < (s4.length : Int) then ((s4[s35.toNat]?).bind fun x3003 =>
  some (.again (s0, (s4.set s35.toNat s5), (w6 (s5 + r3002)), s33, s34, (w6 (s35 + 1))))) else none) else none)
  (some (.again (s0, s4, s5, s33, s34, (w6 (s35 + 1)))))) (some (.leave (s0, s4, s5, s33, s34, s35)))
def zh.r2 (N : Nat) (x : (List zH) × (List Int) × Int × (List zH) × Int × Int) := zh.b2 N x.1 x.2.1 x.2.2.1 x.2.2.2.1 x.2.2.2.2.1 x.2.2.2.2.2
def zh.b4 (N : Nat) (s0 : List zH) (s4 : List Int) (s5 : Int) (s52 : List zH) (s53 : Int) (s54 : Int) : Option (Stp ((List zH) × (List Int) × Int × (List zH) × Int × Int)) :=
 cond (decide (s54 < s53)) ((idx s52 s54).bind fun x5001 => cond (x5001.Kind == 1) ((zew N s0 x5001.Base).bind fun r5002 =>
  if 0 ≤ r5002 then (if r5002 < (s4.length : Int) then ((s4[r5002.toNat]?).bind fun x5003 => if 0 ≤ s54 then (if s54 < (s4.length : Int) then ((s4[s54.toNat]?).bind fun x5004 =>
  some (.again (s0, (s4.set s54.toNat (w6 (x5003 + x5001.Offset))), s5, s52, s53, (w6 (s54 + 1))))) else none) else none) else none) else none)
  (some (.again (s0, s4, s5, s52, s53, (w6 (s54 + 1)))))) (some (.leave (s0, s4, s5, s52, s53, s54)))
def zh.r4 (N : Nat) (x : (List zH) × (List Int) × Int × (List zH) × Int × Int) := zh.b4 N x.1 x.2.1 x.2.2.1 x.2.2.2.1 x.2.2.2.2.1 x.2.2.2.2.2
def zh (N : Nat) (a0 : List zH) : Option ((List Int) × Int) :=
 (zbs N ([(-1)] : List Int) (a0.length : Int)).bind fun r1 => (zi (zh.r0 N) N (a0, r1, 0, a0, (a0.length : Int), 0)).bind fun y2 =>
  (zi (zh.r2 N) N (y2.1, y2.2.1, y2.2.2.1, y2.1, (y2.1.length : Int), 0)).bind fun y3 =>
  (zi (zh.r4 N) N (y3.1, y3.2.1, y3.2.2.1, y3.1, (y3.1.length : Int), 0)).bind fun y4 =>
  some (y4.2.1, (w6 ((w6 ((w6 (y4.2.2.1 + 16)) - 1)).tdiv 16)))
def zh.k (N : Nat) : Kq := ⟨101, (cvv [(Ty.sl T6), T6] [(Ty.sl Ty.zH)] (zh N)), go [zbs.k N, zf2.k N, zew.k N] {lits := [12, 14]} [(0, .plain { slots := [(0, .val (Ty.sl Ty.zH)), (4, .own 5000004 T6), (5, .val T6), (16, .val (Ty.sl Ty.zH)), (17, .val T6), (18, .val T6)], boxes := [] } [(Ty.sl Ty.zH), (Ty.sl T6), T6, (Ty.sl Ty.zH), T6, T6] (zi (zh.r0 N) N)), (2, .plain { slots := [(0, .val (Ty.sl Ty.zH)), (4, .own 5000004 T6), (5, .val T6), (33, .val (Ty.sl Ty.zH)), (34, .val T6), (35, .val T6)], boxes := [] } [(Ty.sl Ty.zH), (Ty.sl T6), T6, (Ty.sl Ty.zH), T6, T6] (zi (zh.r2 N) N)), (4, .plain { slots := [(0, .val (Ty.sl Ty.zH)), (4, .own 5000004 T6), (5, .val T6), (52, .val (Ty.sl Ty.zH)), (53, .val T6), (54, .val T6)], boxes := [] } [(Ty.sl Ty.zH), (Ty.sl T6), T6, (Ty.sl Ty.zH), T6, T6] (zi (zh.r4 N) N))] Proofs.Tryz.func101 (hL := ⟨⟨_, _, rfl, by kernel_rfl⟩, ⟨_, _, rfl, by kernel_rfl⟩, ⟨_, _, rfl, by kernel_rfl⟩, trivial⟩)⟩
def zfa (a0 : zH) : Option Bool :=
 some (a0.zG.Kind != 0)
def zfa.k : Kq := ⟨247, (cvv [Ty.bool] [Ty.zH] zfa), go [] {} [] Proofs.Tryz.func247⟩
def zi8 (a0 : zH) (a1 : zH) (a2 : Int) : Option Bool :=
 cond (a2 == 5) (some (a0.Kind == 3)) (cond (a2 == 6) (some (a0.Kind == 5)) ((cond (a2 == 0) (some true) (some (a2 == 2))).bind fun g1 => (cond (a2 == 2) (some true)
  (some (a2 == 3))).bind fun g2 => (zd5 a0).bind fun r3 => (cond r3 ((cond g1 (some (a0.Kind == 4)) (some false)).bind fun g4 => some (!g4)) (some false)).bind fun g5 =>
  (cond g5 ((cond g2 ((zfa a0).bind fun r6 => some (!r6)) (some false)).bind fun g7 => some (!g7)) (some false)).bind fun g8 => (cond g8 ((cond (a2 == 4)
  ((zfa a0).bind fun r9 => (zfa a1).bind fun r10 => some (!(r9 == r10))) (some false)).bind fun g11 => some (!g11)) (some false)).bind fun g12 =>
  some g12))
def zi8.k : Kq := ⟨204, (cvv [Ty.bool] [Ty.zH, Ty.zH, T6] zi8), go [zd5.k, zfa.k] {} [] Proofs.Tryz.func204⟩
def zaf.b0 (N : Nat) (s22 : List Int) (s23 : Int) (s24 : Int) (b2 : zD) (b3 : zK) (b5 : zH) : Option (Round Int ((List Int) × Int × Int × zD × zK × zH)) :=
 cond (decide (s24 < s23)) ((idx s22 s24).bind fun x1001 => (zde x1001 0 (w6 ((b2.zB.length : Int) - 1))).bind fun r1002 => cond (!r1002)
  (some (.result 3)) ((idx b2.zB x1001).bind fun x1003 => (idx zpp b3.Op).bind fun x1004 => (idx x1004 s24).bind fun x1005 => (zi8 x1003 b5 x1005).bind fun r1006 =>
  cond (!r1006) (some (.result 17)) ((idx b2.zB x1001).bind fun x1007 => some (.again (s22, s23, (w6 (s24 + 1)), b2, b3, x1007)))))
  (some (.leave (s22, s23, s24, b2, b3, b5)))
def zaf.r0 (N : Nat) (x : (List Int) × Int × Int × zD × zK × zH) := zaf.b0 N x.1 x.2.1 x.2.2.1 x.2.2.2.1 x.2.2.2.2.1 x.2.2.2.2.2
def zaf (N : Nat) (a0 : zD) (a1 : zK) : Option Int :=
 (zde a1.Op 0 18).bind fun r1 => cond (!r1) (some 4) ((idx zpp a1.Op).bind fun x2 => cond ((a1.Args.length : Int) != (x2.length : Int)) (some 37)
  ((zf (zaf.r0 N) N (a1.Args, (a1.Args.length : Int), 0, a0, a1, (⟨(⟨#[]⟩ : ByteArray), 0, (⟨0, 0, 0⟩ : DataType), (⟨0, (⟨#[]⟩ : ByteArray)⟩ : Value), (⟨#[]⟩ : ByteArray), 0, 0⟩ : zH))).bind fun z4 =>
  zbc z4 (fun z => some z) (fun y3 => some 0)))
def zaf.k (N : Nat) : Kq := ⟨157, (cvv [T6] [Ty.zD, Ty.zK] (zaf N)), go [zde.k, zi8.k] {} [(0, .rets { slots := [(2, .ptr 2 0), (3, .ptr 3 0), (5, .ptr 5 0), (22, .val (Ty.sl T6)), (23, .val T6), (24, .val T6)], boxes := [(2, Ty.zD, []), (3, Ty.zK, []), (5, Ty.zH, [])] } [(Ty.sl T6), T6, T6, Ty.zD, Ty.zK, Ty.zH] (zf (zaf.r0 N) N))] Proofs.Tryz.func157 (hL := ⟨⟨_, _, rfl, by kernel_rfl⟩, trivial⟩)⟩
def zfv (a0 : zD) (a1 : zU) : Option Int :=
 (cond (decide (a1.From ≥ 0)) (some (decide (a1.From < a1.To))) (some false)).bind fun g1 => (cond g1 (some (decide (a1.To ≤ (a0.zA.length : Int))))
  (some false)).bind fun g2 => (cond g2 ((zde a1.Exception 0 999).bind fun r3 => some r3) (some false)).bind fun g4 =>
  (cond g4 ((zde a1.Handler 0 (w6 ((a0.zA.length : Int) - 1))).bind fun r5 => some r5) (some false)).bind fun g6 =>
  (zbx (!g6) 3).bind fun r7 => some r7
def zfv.k : Kq := ⟨158, (cvv [T6] [Ty.zD, Ty.zU] zfv), go [zbx.k, zde.k] {} [] Proofs.Tryz.func158⟩
def ze.b0 (N : Nat) (s47 : Int) (s48 : Int) (b1 : zD) (b2 : zQ) : Option (Round (zQ × Int) (Int × Int × zD × zQ)) :=
 cond (decide (s48 < s47)) ((zfu N b1 s48).bind fun r1001 => cond (r1001 != 0) (some (.result ((⟨1, s48⟩ : zQ), r1001)))
  (some (.again (s47, (w6 (s48 + 1)), b1, b2)))) (some (.leave (s47, s48, b1, b2)))
def ze.r0 (N : Nat) (x : Int × Int × zD × zQ) := ze.b0 N x.1 x.2.1 x.2.2.1 x.2.2.2
def ze.b2 (N : Nat) (s70 : List zK) (s71 : Int) (s72 : Int) (b1 : zD) (b2 : zQ) : Option (Round (zQ × Int) ((List zK) × Int × Int × zD × zQ)) :=
 cond (decide (s72 < s71)) ((idx s70 s72).bind fun x3001 => (zaf N b1 x3001).bind fun r3002 => cond (r3002 != 0) (some (.result ((⟨2, s72⟩ : zQ), r3002)))
  (some (.again (s70, s71, (w6 (s72 + 1)), b1, b2)))) (some (.leave (s70, s71, s72, b1, b2)))
end
end Go.Proofs.YtnpfkhdbmlhfhaaGreatDoor.M
