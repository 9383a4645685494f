/- What the program's functions compute, each tied to its code: part 0. -/
import Derived.Test.YtnpfkhdbmlhfhaaGreatDoorOrd
namespace Go.Proofs.YtnpfkhdbmlhfhaaGreatDoor.M
open Go Go.Amx
set_option linter.unusedVariables false
set_option maxRecDepth 100000
noncomputable section
def zgo.b0 (N : Nat) (s0 : Int) (s1 : Int) (s5 : List Int) (s6 : Int) : Option (Stp (Int × Int × (List Int) × Int)) :=
 cond (decide (s6 < s1)) (cond (Nat.ble ((s5.length + ([s0] : List Int).length) * 1) zak) (some (.again (s0, s1, (s5 ++ ([s0] : List Int)), (w6 (s6 + 1))))) none)
  (some (.leave (s0, s1, s5, s6)))
def zgo.r0 (N : Nat) (x : Int × Int × (List Int) × Int) := zgo.b0 N x.1 x.2.1 x.2.2.1 x.2.2.2
def zgo (N : Nat) (a0 : Int) (a1 : Int) : Option ByteArray :=
 (zh (zgo.r0 N) N (a0, a1, [], 0)).bind fun y1 => some (zjw y1.2.2.1)
def zgo.k (N : Nat) : Kq := ⟨73, (cvv [Ty.str] [(Ty.int .u8), T6] (zgo N)), go [] {lits := [14]} [(0, .plain { slots := [(0, .val (Ty.int .u8)), (1, .val T6), (5, .own 5000005 (Ty.int .u8)), (6, .val T6)], boxes := [] } [(Ty.int .u8), T6, (Ty.sl (Ty.int .u8)), T6] (zh (zgo.r0 N) N))] Proofs.Tryz.func73 (hL := ⟨⟨_, _, rfl, by kernel_rfl⟩, trivial⟩)⟩
def zmz (N : Nat)  : Option zF :=
 (zgo N 241 16).bind fun r1 =>
  some (⟨(⟨r1, ([false] : List Bool)⟩ : Storage), ([(⟨0, 0, 0, 0, 0, (⟨false, 0, 0⟩ : zL), (⟨false, 0, 0⟩ : zL), (⟨2, 1, 0⟩ : DataType), (⟨0, 0, 0⟩ : DataType), false, false, (⟨0, 0⟩ : Number), (⟨#[]⟩ : ByteArray), (⟨#[]⟩ : ByteArray), 0, 0, 0, 0⟩ : zC), (⟨0, 1, 0, 0, 0, (⟨false, 0, 0⟩ : zL), (⟨false, 0, 0⟩ : zL), (⟨2, 1, 0⟩ : DataType), (⟨0, 0, 0⟩ : DataType), false, false, (⟨0, 0⟩ : Number), (⟨#[]⟩ : ByteArray), (⟨#[]⟩ : ByteArray), 0, 0, 0, 0⟩ : zC), (⟨22, 1, 0, 0, 0, (⟨false, 0, 0⟩ : zL), (⟨false, 0, 0⟩ : zL), (⟨0, 0, 0⟩ : DataType), (⟨0, 0, 0⟩ : DataType), false, false, (⟨0, 0⟩ : Number), (⟨#[]⟩ : ByteArray), (⟨#[]⟩ : ByteArray), 0, 0, 0, 0⟩ : zC)] : List zC), []⟩ : zF)
def zmz.k (N : Nat) : Kq := ⟨26, (cvv [Ty.zF] [] (zmz N)), go [zgo.k N] {} [] Proofs.Tryz.func26⟩
def zbi (a0 : Int) (a1 : Int) (a2 : Int) : Option Bool :=
 (cond (decide (a1 ≤ a0)) (some (decide (a0 ≤ a2))) (some false)).bind fun g1 => some g1
def zbi.k : Kq := ⟨99, (cvv [Ty.bool] [T6, T6, T6] zbi), go [] {} [] Proofs.Tryz.func99⟩
def zbz (a0 : Bool) (a1 : Int) : Option Int :=
 cond a0 (some a1) (some 0)
def zbz.k : Kq := ⟨98, (cvv [T6] [Ty.bool, T6] zbz), go [] {} [] Proofs.Tryz.func98⟩
def zdk (a0 : zI) : Option Int :=
 (zbi a0.Registers 2 8).bind fun r1 => (zbz (!r1) 3).bind fun r2 => some r2
def zdk.k : Kq := ⟨51, (cvv [T6] [Ty.zI] zdk), go [zbz.k, zbi.k] {} [] Proofs.Tryz.func51⟩
def zby.b0 (N : Nat) (s0 : ByteArray) (s3 : Int) (s6 : Int) (s7 : Int) : Option (Stp (ByteArray × Int × Int × Int)) :=
 cond (decide (s7 < s6)) ((zoc s0 s7).bind fun x1001 => some (.again (s0, (orI .i64 (w6 (s3 * 2 ^ (min (8 : Int).toNat 64)))
  (w6 (x1001.toNat : Int))), s6, (w6 (s7 + 1))))) (some (.leave (s0, s3, s6, s7)))
def zby.r0 (N : Nat) (x : ByteArray × Int × Int × Int) := zby.b0 N x.1 x.2.1 x.2.2.1 x.2.2.2
def zby (N : Nat) (a0 : ByteArray) : Option Int :=
 (zh (zby.r0 N) N (a0, 0, (a0.size : Int), 0)).bind fun y1 => some y1.2.1
def zby.k (N : Nat) : Kq := ⟨229, (cvv [T6] [Ty.str] (zby N)), go [] {} [(0, .plain { slots := [(0, .val Ty.str), (3, .val T6), (6, .val T6), (7, .val T6)], boxes := [] } [Ty.str, T6, T6, T6] (zh (zby.r0 N) N))] Proofs.Tryz.func229 (hL := ⟨⟨_, _, rfl, by kernel_rfl⟩, trivial⟩)⟩
def zd0 (a0 : Int) (a1 : Int) (a2 : Int) : Option Bool :=
 (cond (decide (a1 ≤ a0)) (some (decide (a0 ≤ a2))) (some false)).bind fun g1 => some g1
def zd0.k : Kq := ⟨162, (cvv [Ty.bool] [T6, T6, T6] zd0), go [] {} [] Proofs.Tryz.func162⟩
def ze8 (a0 : Pointer) : Option Int :=
 (zd0 a0.Kind 0 2).bind fun r1 => cond (!r1) (some 4) (((zd0 a0.Address.yC 0 1099511627775).bind fun r2 => cond (!r2) (some (!r2))
  ((zd0 a0.Address.Offset 0 16777215).bind fun r3 => cond (!r3) (some (!r3)) ((zd0 a0.Authority 0 1023).bind fun r4 => some (!r4)))).bind fun q5 =>
  cond q5 (some 3) ((cond (a0.Authority != 0) (some (a0.Kind != 1)) (some false)).bind fun g6 => cond g6 (some 5) (some 0)))
def ze8.k : Kq := ⟨230, (cvv [T6] [Ty.Pointer] ze8), go [zd0.k] {bj := [8]} [] Proofs.Tryz.func230⟩
def zga (N : Nat) (a0 : ByteArray) : Option (Pointer × Int) :=
 cond ((a0.size : Int) != 16) (some ((⟨0, (⟨0, 0⟩ : Address), 0⟩ : Pointer), 18)) ((zoc a0 1).bind fun x1 => cond ((x1.toNat : Int) != 0)
  (some ((⟨0, (⟨0, 0⟩ : Address), 0⟩ : Pointer), 5)) ((zoc a0 0).bind fun x2 =>
  if 0 ≤ (4 : Int) ∧ (4 : Int) ≤ (a0.size : Int) then (if 0 ≤ (2 : Int) ∧ (2 : Int) ≤ (4 : Int) then ((zby N (a0.extract (2 : Int).toNat (4 : Int).toNat)).bind fun r3 =>
  if 0 ≤ (10 : Int) ∧ (10 : Int) ≤ (a0.size : Int) then (if 0 ≤ (4 : Int) ∧ (4 : Int) ≤ (10 : Int) then ((zby N (a0.extract (4 : Int).toNat (10 : Int).toNat)).bind fun r4 =>
  if 0 ≤ (10 : Int) ∧ (10 : Int) ≤ (a0.size : Int) then ((zby N (a0.extract (10 : Int).toNat a0.size)).bind fun r5 =>
  (ze8 (⟨(w6 (x2.toNat : Int)), (⟨r4, r5⟩ : Address), r3⟩ : Pointer)).bind fun r6 => cond (r6 != 0)
  (some ((⟨0, (⟨0, 0⟩ : Address), 0⟩ : Pointer), r6))
  (some ((⟨(w6 (x2.toNat : Int)), (⟨r4, r5⟩ : Address), r3⟩ : Pointer), 0))) else none) else none) else none) else none) else none))
def zga.k (N : Nat) : Kq := ⟨182, (cvv [Ty.Pointer, T6] [Ty.str] (zga N)), go [zby.k N, ze8.k] {} [] Proofs.Tryz.func182⟩
def zaj.b1 (N : Nat) (s27 : List Bool) (s28 : Int) (s29 : Int) (b1 : Storage) : Option (Round (Int × Int) ((List Bool) × Int × Int × Storage)) :=
 cond (decide (s29 < s28)) ((idx s27 s29).bind fun x2001 => cond (!x2001) (some (.again (s27, s28, (w6 (s29 + 1)), b1)))
  (if 0 ≤ (w6 ((w6 (s29 * 16)) + 16)) ∧ (w6 ((w6 (s29 * 16)) + 16)) ≤ (b1.Bytes.size : Int) then (if 0 ≤ (w6 (s29 * 16)) ∧ (w6 (s29 * 16)) ≤ (w6 ((w6 (s29 * 16)) + 16)) then ((zga N (b1.Bytes.extract (w6 (s29 * 16)).toNat (w6 ((w6 (s29 * 16)) + 16)).toNat)).bind fun r2002 =>
  cond (r2002.2 != 0) (some (.result (s29, 22))) (some (.again (s27, s28, (w6 (s29 + 1)), b1)))) else none) else none)) (some (.leave (s27, s28, s29, b1)))
def zaj.r1 (N : Nat) (x : (List Bool) × Int × Int × Storage) := zaj.b1 N x.1 x.2.1 x.2.2.1 x.2.2.2
def zaj (N : Nat) (a0 : Storage) : Option (Int × Int) :=
 cond (decide ((a0.Bytes.size : Int) > 1024)) (some (0, 2)) (cond (((a0.Bytes.size : Int).tmod 16) != 0) (some (0, 18))
  (cond ((a0.Tags.length : Int) != (w6 ((a0.Bytes.size : Int).tdiv 16))) (some (0, 6))
  ((zg (zaj.r1 N) N (a0.Tags, (a0.Tags.length : Int), 0, a0)).bind fun z2 => zat z2 (fun z => some z) (fun y1 => some ((y1.2.2.2.Tags.length : Int), 0)))))
def zaj.k (N : Nat) : Kq := ⟨128, (cvv [T6, T6] [Ty.Storage] (zaj N)), go [zga.k N] {} [(1, .rets { slots := [(1, .ptr 1 0), (27, .val (Ty.sl Ty.bool)), (28, .val T6), (29, .val T6)], boxes := [(1, Ty.Storage, [])] } [(Ty.sl Ty.bool), T6, T6, Ty.Storage] (zg (zaj.r1 N) N))] Proofs.Tryz.func128 (hL := ⟨⟨_, _, rfl, by kernel_rfl⟩, trivial⟩)⟩
def zaf.b0 (N : Nat) (s0 : List Bool) (s1 : Bool) (s7 : Int) (s8 : Int) : Option (Round Int ((List Bool) × Bool × Int × Int)) :=
 cond (decide (s8 < s7)) ((idx s0 s8).bind fun x1001 => cond (s1 == x1001) (some (.result s8)) (some (.again (s0, s1, s7, (w6 (s8 + 1))))))
  (some (.leave (s0, s1, s7, s8)))
def zaf.r0 (N : Nat) (x : (List Bool) × Bool × Int × Int) := zaf.b0 N x.1 x.2.1 x.2.2.1 x.2.2.2
def zaf (N : Nat) (a0 : List Bool) (a1 : Bool) : Option Int :=
 (zg (zaf.r0 N) N (a0, a1, (a0.length : Int), 0)).bind fun z2 => zat z2 (fun z => some z) (fun y1 => some (-1))
def zaf.k (N : Nat) : Kq := ⟨115, (cvv [T6] [(Ty.sl Ty.bool), Ty.bool] (zaf N)), go [] {} [(0, .rets { slots := [(0, .val (Ty.sl Ty.bool)), (1, .val Ty.bool), (7, .val T6), (8, .val T6)], boxes := [] } [(Ty.sl Ty.bool), Ty.bool, T6, T6] (zg (zaf.r0 N) N))] Proofs.Tryz.func115 (hL := ⟨⟨_, _, rfl, by kernel_rfl⟩, trivial⟩)⟩
def zeu (N : Nat) (a0 : List Bool) (a1 : Bool) : Option Bool :=
 (zaf N a0 a1).bind fun r1 => some (decide (r1 ≥ 0))
def zeu.k (N : Nat) : Kq := ⟨130, (cvv [Ty.bool] [(Ty.sl Ty.bool), Ty.bool] (zeu N)), go [zaf.k N] {} [] Proofs.Tryz.func130⟩
def zar.b0 (N : Nat) (s5 : List Int) (s6 : Int) (s7 : Int) : Option (Round Int ((List Int) × Int × Int)) :=
 cond (decide (s7 < s6)) ((idx s5 s7).bind fun x1001 => cond (x1001 != 0) (some (.result x1001)) (some (.again (s5, s6, (w6 (s7 + 1)))))) (some (.leave (s5, s6, s7)))
def zar.r0 (N : Nat) (x : (List Int) × Int × Int) := zar.b0 N x.1 x.2.1 x.2.2
def zar (N : Nat) (a0 : List Int) : Option Int :=
 (zg (zar.r0 N) N (a0, (a0.length : Int), 0)).bind fun z2 => zat z2 (fun z => some z) (fun y1 => some 0)
def zar.k (N : Nat) : Kq := ⟨129, (cvv [T6] [(Ty.sl T6)] (zar N)), go [] {} [(0, .rets { slots := [(5, .val (Ty.sl T6)), (6, .val T6), (7, .val T6)], boxes := [] } [(Ty.sl T6), T6, T6] (zg (zar.r0 N) N))] Proofs.Tryz.func129 (hL := ⟨⟨_, _, rfl, by kernel_rfl⟩, trivial⟩)⟩
def zbq (a0 : zC) : Option zR :=
 (idx z0v a0.Op).bind fun x1 => (cond (a0.Op == 4) (some a0.zK) (some false)).bind fun g2 =>
  cond g2 (some (⟨(orI .i64 (orI .i64 (zzv .i64 x1.fields 4) 8) 64), x1.types⟩ : zR)) (some x1)
def zbq.k : Kq := ⟨186, (cvv [Ty.zR] [Ty.zC] zbq), go [] {} [] Proofs.Tryz.func186⟩
def zcb (a0 : Int) (a1 : Int) (a2 : Int) : Option Int :=
 cond ((zm .i64 a2 a0) == 0) (some 0) (some a1)
def zcb.k : Kq := ⟨231, (ctv [.val T6, .ptr T6 true [], .ptr T6 false []] [] [T6] [] [T6, T6, T6] zcb), go [] {ro := [1000001], pk := [1000000, 1000001]} [] Proofs.Tryz.func231⟩
def zgg (a0 : zL) (a1 : Bool) : Option zL :=
 cond (!a1) (some (⟨false, 0, 0⟩ : zL)) (cond (!a0.Based) (some (⟨a0.Based, 0, a0.Offset⟩ : zL)) (some a0))
def zgg.k : Kq := ⟨232, (cvv [Ty.zL] [Ty.zL, Ty.bool] zgg), go [] {} [] Proofs.Tryz.func232⟩
def zia (a0 : zC) : Option zC :=
 (zbq a0).bind fun r1 => (zcb 1 a0.R r1.fields).bind fun r2 => (zcb 2 a0.A r1.fields).bind fun r3 =>
  (zcb 4 a0.B r1.fields).bind fun r4 => (zcb 2048 a0.Mask r1.fields).bind fun r5 => (zcb 4096 a0.Target r1.fields).bind fun r6 =>
  (zcb 8192 a0.Pointer r1.fields).bind fun r7 => (zcb 16384 a0.Source r1.fields).bind fun r8 =>
  (zcb 32768 a0.zM r1.fields).bind fun r9 => (zgg a0.Place ((zm .i64 r1.fields 8) != 0)).bind fun r10 =>
  (zgg a0.From ((zm .i64 r1.fields 16) != 0)).bind fun r11 => cond ((zm .i64 r1.fields 32) == 0) (cond ((zm .i64 r1.fields 64) == 0)
  (cond ((zm .i64 r1.fields 256) == 0) (cond ((zm .i64 r1.fields 512) == 0) (cond ((zm .i64 r1.fields 1024) == 0) ((cond a0.Half (some ((zm .i64 r1.fields 128) != 0))
  (some false)).bind fun g12 => (cond a0.zK (some (a0.Op == 4)) (some false)).bind fun g13 =>
  some (⟨a0.Op, r2, r3, r4, r9, r10, r11, (⟨0, 0, 0⟩ : DataType), (⟨0, 0, 0⟩ : DataType), g12, g13, (⟨0, 0⟩ : Number), (⟨#[]⟩ : ByteArray), (⟨#[]⟩ : ByteArray), r5, r6, r7, r8⟩ : zC))
  ((cond a0.Half (some ((zm .i64 r1.fields 128) != 0)) (some false)).bind fun g14 => (cond a0.zK (some (a0.Op == 4)) (some false)).bind fun g15 =>
  some (⟨a0.Op, r2, r3, r4, r9, r10, r11, (⟨0, 0, 0⟩ : DataType), (⟨0, 0, 0⟩ : DataType), g14, g15, (⟨0, 0⟩ : Number), (⟨#[]⟩ : ByteArray), a0.Other, r5, r6, r7, r8⟩ : zC)))
  (cond ((zm .i64 r1.fields 1024) == 0) ((cond a0.Half (some ((zm .i64 r1.fields 128) != 0)) (some false)).bind fun g16 => (cond a0.zK (some (a0.Op == 4))
  (some false)).bind fun g17 =>
  some (⟨a0.Op, r2, r3, r4, r9, r10, r11, (⟨0, 0, 0⟩ : DataType), (⟨0, 0, 0⟩ : DataType), g16, g17, (⟨0, 0⟩ : Number), a0.Text, (⟨#[]⟩ : ByteArray), r5, r6, r7, r8⟩ : zC))
  ((cond a0.Half (some ((zm .i64 r1.fields 128) != 0)) (some false)).bind fun g18 => (cond a0.zK (some (a0.Op == 4)) (some false)).bind fun g19 =>
  some (⟨a0.Op, r2, r3, r4, r9, r10, r11, (⟨0, 0, 0⟩ : DataType), (⟨0, 0, 0⟩ : DataType), g18, g19, (⟨0, 0⟩ : Number), a0.Text, a0.Other, r5, r6, r7, r8⟩ : zC))))
  (cond ((zm .i64 r1.fields 512) == 0) (cond ((zm .i64 r1.fields 1024) == 0) ((cond a0.Half (some ((zm .i64 r1.fields 128) != 0)) (some false)).bind fun g20 =>
  (cond a0.zK (some (a0.Op == 4)) (some false)).bind fun g21 =>
  some (⟨a0.Op, r2, r3, r4, r9, r10, r11, (⟨0, 0, 0⟩ : DataType), (⟨0, 0, 0⟩ : DataType), g20, g21, a0.Number, (⟨#[]⟩ : ByteArray), (⟨#[]⟩ : ByteArray), r5, r6, r7, r8⟩ : zC))
  ((cond a0.Half (some ((zm .i64 r1.fields 128) != 0)) (some false)).bind fun g22 => (cond a0.zK (some (a0.Op == 4)) (some false)).bind fun g23 =>
  some (⟨a0.Op, r2, r3, r4, r9, r10, r11, (⟨0, 0, 0⟩ : DataType), (⟨0, 0, 0⟩ : DataType), g22, g23, a0.Number, (⟨#[]⟩ : ByteArray), a0.Other, r5, r6, r7, r8⟩ : zC)))
  (cond ((zm .i64 r1.fields 1024) == 0) ((cond a0.Half (some ((zm .i64 r1.fields 128) != 0)) (some false)).bind fun g24 => (cond a0.zK (some (a0.Op == 4))
  (some false)).bind fun g25 =>
  some (⟨a0.Op, r2, r3, r4, r9, r10, r11, (⟨0, 0, 0⟩ : DataType), (⟨0, 0, 0⟩ : DataType), g24, g25, a0.Number, a0.Text, (⟨#[]⟩ : ByteArray), r5, r6, r7, r8⟩ : zC))
  ((cond a0.Half (some ((zm .i64 r1.fields 128) != 0)) (some false)).bind fun g26 => (cond a0.zK (some (a0.Op == 4)) (some false)).bind fun g27 =>
  some (⟨a0.Op, r2, r3, r4, r9, r10, r11, (⟨0, 0, 0⟩ : DataType), (⟨0, 0, 0⟩ : DataType), g26, g27, a0.Number, a0.Text, a0.Other, r5, r6, r7, r8⟩ : zC)))))
  (cond ((zm .i64 r1.fields 256) == 0) (cond ((zm .i64 r1.fields 512) == 0) (cond ((zm .i64 r1.fields 1024) == 0) ((cond a0.Half (some ((zm .i64 r1.fields 128) != 0))
  (some false)).bind fun g28 => (cond a0.zK (some (a0.Op == 4)) (some false)).bind fun g29 =>
  some (⟨a0.Op, r2, r3, r4, r9, r10, r11, (⟨0, 0, 0⟩ : DataType), a0.Second, g28, g29, (⟨0, 0⟩ : Number), (⟨#[]⟩ : ByteArray), (⟨#[]⟩ : ByteArray), r5, r6, r7, r8⟩ : zC))
  ((cond a0.Half (some ((zm .i64 r1.fields 128) != 0)) (some false)).bind fun g30 => (cond a0.zK (some (a0.Op == 4)) (some false)).bind fun g31 =>
  some (⟨a0.Op, r2, r3, r4, r9, r10, r11, (⟨0, 0, 0⟩ : DataType), a0.Second, g30, g31, (⟨0, 0⟩ : Number), (⟨#[]⟩ : ByteArray), a0.Other, r5, r6, r7, r8⟩ : zC)))
  (cond ((zm .i64 r1.fields 1024) == 0) ((cond a0.Half (some ((zm .i64 r1.fields 128) != 0)) (some false)).bind fun g32 => (cond a0.zK (some (a0.Op == 4))
  (some false)).bind fun g33 =>
  some (⟨a0.Op, r2, r3, r4, r9, r10, r11, (⟨0, 0, 0⟩ : DataType), a0.Second, g32, g33, (⟨0, 0⟩ : Number), a0.Text, (⟨#[]⟩ : ByteArray), r5, r6, r7, r8⟩ : zC))
  ((cond a0.Half (some ((zm .i64 r1.fields 128) != 0)) (some false)).bind fun g34 => (cond a0.zK (some (a0.Op == 4)) (some false)).bind fun g35 =>
  some (⟨a0.Op, r2, r3, r4, r9, r10, r11, (⟨0, 0, 0⟩ : DataType), a0.Second, g34, g35, (⟨0, 0⟩ : Number), a0.Text, a0.Other, r5, r6, r7, r8⟩ : zC))))
  (cond ((zm .i64 r1.fields 512) == 0) (cond ((zm .i64 r1.fields 1024) == 0) ((cond a0.Half (some ((zm .i64 r1.fields 128) != 0)) (some false)).bind fun g36 =>
  (cond a0.zK (some (a0.Op == 4)) (some false)).bind fun g37 =>
  some (⟨a0.Op, r2, r3, r4, r9, r10, r11, (⟨0, 0, 0⟩ : DataType), a0.Second, g36, g37, a0.Number, (⟨#[]⟩ : ByteArray), (⟨#[]⟩ : ByteArray), r5, r6, r7, r8⟩ : zC))
  ((cond a0.Half (some ((zm .i64 r1.fields 128) != 0)) (some false)).bind fun g38 => (cond a0.zK (some (a0.Op == 4)) (some false)).bind fun g39 =>
  some (⟨a0.Op, r2, r3, r4, r9, r10, r11, (⟨0, 0, 0⟩ : DataType), a0.Second, g38, g39, a0.Number, (⟨#[]⟩ : ByteArray), a0.Other, r5, r6, r7, r8⟩ : zC)))
  (cond ((zm .i64 r1.fields 1024) == 0) ((cond a0.Half (some ((zm .i64 r1.fields 128) != 0)) (some false)).bind fun g40 => (cond a0.zK (some (a0.Op == 4))
  (some false)).bind fun g41 =>
  some (⟨a0.Op, r2, r3, r4, r9, r10, r11, (⟨0, 0, 0⟩ : DataType), a0.Second, g40, g41, a0.Number, a0.Text, (⟨#[]⟩ : ByteArray), r5, r6, r7, r8⟩ : zC))
  ((cond a0.Half (some ((zm .i64 r1.fields 128) != 0)) (some false)).bind fun g42 => (cond a0.zK (some (a0.Op == 4)) (some false)).bind fun g43 =>
  some (⟨a0.Op, r2, r3, r4, r9, r10, r11, (⟨0, 0, 0⟩ : DataType), a0.Second, g42, g43, a0.Number, a0.Text, a0.Other, r5, r6, r7, r8⟩ : zC))))))
  (cond ((zm .i64 r1.fields 64) == 0) (cond ((zm .i64 r1.fields 256) == 0) (cond ((zm .i64 r1.fields 512) == 0) (cond ((zm .i64 r1.fields 1024) == 0)
  ((cond a0.Half (some ((zm .i64 r1.fields 128) != 0)) (some false)).bind fun g44 => (cond a0.zK (some (a0.Op == 4)) (some false)).bind fun g45 =>
  some (⟨a0.Op, r2, r3, r4, r9, r10, r11, a0.zD, (⟨0, 0, 0⟩ : DataType), g44, g45, (⟨0, 0⟩ : Number), (⟨#[]⟩ : ByteArray), (⟨#[]⟩ : ByteArray), r5, r6, r7, r8⟩ : zC))
  ((cond a0.Half (some ((zm .i64 r1.fields 128) != 0)) (some false)).bind fun g46 => (cond a0.zK (some (a0.Op == 4)) (some false)).bind fun g47 =>
  some (⟨a0.Op, r2, r3, r4, r9, r10, r11, a0.zD, (⟨0, 0, 0⟩ : DataType), g46, g47, (⟨0, 0⟩ : Number), (⟨#[]⟩ : ByteArray), a0.Other, r5, r6, r7, r8⟩ : zC)))
  (cond ((zm .i64 r1.fields 1024) == 0) ((cond a0.Half (some ((zm .i64 r1.fields 128) != 0)) (some false)).bind fun g48 => (cond a0.zK (some (a0.Op == 4))
  (some false)).bind fun g49 =>
  some (⟨a0.Op, r2, r3, r4, r9, r10, r11, a0.zD, (⟨0, 0, 0⟩ : DataType), g48, g49, (⟨0, 0⟩ : Number), a0.Text, (⟨#[]⟩ : ByteArray), r5, r6, r7, r8⟩ : zC))
  ((cond a0.Half (some ((zm .i64 r1.fields 128) != 0)) (some false)).bind fun g50 => (cond a0.zK (some (a0.Op == 4)) (some false)).bind fun g51 =>
  some (⟨a0.Op, r2, r3, r4, r9, r10, r11, a0.zD, (⟨0, 0, 0⟩ : DataType), g50, g51, (⟨0, 0⟩ : Number), a0.Text, a0.Other, r5, r6, r7, r8⟩ : zC))))
  (cond ((zm .i64 r1.fields 512) == 0) (cond ((zm .i64 r1.fields 1024) == 0) ((cond a0.Half (some ((zm .i64 r1.fields 128) != 0)) (some false)).bind fun g52 =>
  (cond a0.zK (some (a0.Op == 4)) (some false)).bind fun g53 =>
  some (⟨a0.Op, r2, r3, r4, r9, r10, r11, a0.zD, (⟨0, 0, 0⟩ : DataType), g52, g53, a0.Number, (⟨#[]⟩ : ByteArray), (⟨#[]⟩ : ByteArray), r5, r6, r7, r8⟩ : zC))
  ((cond a0.Half (some ((zm .i64 r1.fields 128) != 0)) (some false)).bind fun g54 => (cond a0.zK (some (a0.Op == 4)) (some false)).bind fun g55 =>
  some (⟨a0.Op, r2, r3, r4, r9, r10, r11, a0.zD, (⟨0, 0, 0⟩ : DataType), g54, g55, a0.Number, (⟨#[]⟩ : ByteArray), a0.Other, r5, r6, r7, r8⟩ : zC)))
  (cond ((zm .i64 r1.fields 1024) == 0) ((cond a0.Half (some ((zm .i64 r1.fields 128) != 0)) (some false)).bind fun g56 => (cond a0.zK (some (a0.Op == 4))
  (some false)).bind fun g57 =>
  some (⟨a0.Op, r2, r3, r4, r9, r10, r11, a0.zD, (⟨0, 0, 0⟩ : DataType), g56, g57, a0.Number, a0.Text, (⟨#[]⟩ : ByteArray), r5, r6, r7, r8⟩ : zC))
  ((cond a0.Half (some ((zm .i64 r1.fields 128) != 0)) (some false)).bind fun g58 => (cond a0.zK (some (a0.Op == 4)) (some false)).bind fun g59 =>
  some (⟨a0.Op, r2, r3, r4, r9, r10, r11, a0.zD, (⟨0, 0, 0⟩ : DataType), g58, g59, a0.Number, a0.Text, a0.Other, r5, r6, r7, r8⟩ : zC)))))
  (cond ((zm .i64 r1.fields 256) == 0) (cond ((zm .i64 r1.fields 512) == 0) (cond ((zm .i64 r1.fields 1024) == 0) ((cond a0.Half (some ((zm .i64 r1.fields 128) != 0))
  (some false)).bind fun g60 => (cond a0.zK (some (a0.Op == 4)) (some false)).bind fun g61 =>
  some (⟨a0.Op, r2, r3, r4, r9, r10, r11, a0.zD, a0.Second, g60, g61, (⟨0, 0⟩ : Number), (⟨#[]⟩ : ByteArray), (⟨#[]⟩ : ByteArray), r5, r6, r7, r8⟩ : zC))
  ((cond a0.Half (some ((zm .i64 r1.fields 128) != 0)) (some false)).bind fun g62 => (cond a0.zK (some (a0.Op == 4)) (some false)).bind fun g63 =>
  some (⟨a0.Op, r2, r3, r4, r9, r10, r11, a0.zD, a0.Second, g62, g63, (⟨0, 0⟩ : Number), (⟨#[]⟩ : ByteArray), a0.Other, r5, r6, r7, r8⟩ : zC)))
  (cond ((zm .i64 r1.fields 1024) == 0) ((cond a0.Half (some ((zm .i64 r1.fields 128) != 0)) (some false)).bind fun g64 => (cond a0.zK (some (a0.Op == 4))
  (some false)).bind fun g65 =>
  some (⟨a0.Op, r2, r3, r4, r9, r10, r11, a0.zD, a0.Second, g64, g65, (⟨0, 0⟩ : Number), a0.Text, (⟨#[]⟩ : ByteArray), r5, r6, r7, r8⟩ : zC))
  ((cond a0.Half (some ((zm .i64 r1.fields 128) != 0)) (some false)).bind fun g66 => (cond a0.zK (some (a0.Op == 4)) (some false)).bind fun g67 =>
  some (⟨a0.Op, r2, r3, r4, r9, r10, r11, a0.zD, a0.Second, g66, g67, (⟨0, 0⟩ : Number), a0.Text, a0.Other, r5, r6, r7, r8⟩ : zC))))
  (cond ((zm .i64 r1.fields 512) == 0) (cond ((zm .i64 r1.fields 1024) == 0) ((cond a0.Half (some ((zm .i64 r1.fields 128) != 0)) (some false)).bind fun g68 =>
  (cond a0.zK (some (a0.Op == 4)) (some false)).bind fun g69 =>
  some (⟨a0.Op, r2, r3, r4, r9, r10, r11, a0.zD, a0.Second, g68, g69, a0.Number, (⟨#[]⟩ : ByteArray), (⟨#[]⟩ : ByteArray), r5, r6, r7, r8⟩ : zC))
  ((cond a0.Half (some ((zm .i64 r1.fields 128) != 0)) (some false)).bind fun g70 => (cond a0.zK (some (a0.Op == 4)) (some false)).bind fun g71 =>
  some (⟨a0.Op, r2, r3, r4, r9, r10, r11, a0.zD, a0.Second, g70, g71, a0.Number, (⟨#[]⟩ : ByteArray), a0.Other, r5, r6, r7, r8⟩ : zC)))
  (cond ((zm .i64 r1.fields 1024) == 0) ((cond a0.Half (some ((zm .i64 r1.fields 128) != 0)) (some false)).bind fun g72 => (cond a0.zK (some (a0.Op == 4))
  (some false)).bind fun g73 => some (⟨a0.Op, r2, r3, r4, r9, r10, r11, a0.zD, a0.Second, g72, g73, a0.Number, a0.Text, (⟨#[]⟩ : ByteArray), r5, r6, r7, r8⟩ : zC))
  ((cond a0.Half (some ((zm .i64 r1.fields 128) != 0)) (some false)).bind fun g74 => (cond a0.zK (some (a0.Op == 4)) (some false)).bind fun g75 =>
  some (⟨a0.Op, r2, r3, r4, r9, r10, r11, a0.zD, a0.Second, g74, g75, a0.Number, a0.Text, a0.Other, r5, r6, r7, r8⟩ : zC))))))
def zia.k : Kq := ⟨183, (cvv [Ty.zC] [Ty.zC] zia), go [zbq.k, zcb.k, zgg.k] {} [] Proofs.Tryz.func183⟩
def zgu (a0 : zI) (a1 : zC) : Option Bool :=
 (cond (a1.Op != 7) (some true) (some a0.yB)).bind fun g1 => (cond g1 ((cond (a1.Op != 4) (some true) (some (!a1.zK))).bind fun g2 => (cond g2 (some true)
  (some a0.zZ)).bind fun g3 => some g3) (some false)).bind fun g4 => some g4
def zgu.k : Kq := ⟨184, (cvv [Ty.bool] [Ty.zI, Ty.zC] zgu), go [] {} [] Proofs.Tryz.func184⟩
def zed (a0 : Int) (a1 : Int) (a2 : Int) : Option Bool :=
 (cond (decide (a1 ≤ a0)) (some (decide (a0 ≤ a2))) (some false)).bind fun g1 => some g1
def zed.k : Kq := ⟨217, (cvv [Ty.bool] [T6, T6, T6] zed), go [] {} [] Proofs.Tryz.func217⟩
def zbu (a0 : Bool) (a1 : Int) : Option Int :=
 cond a0 (some a1) (some 0)
def zbu.k : Kq := ⟨215, (cvv [T6] [Ty.bool, T6] zbu), go [] {} [] Proofs.Tryz.func215⟩
def za0.b0 (N : Nat) (s5 : List Int) (s6 : Int) (s7 : Int) : Option (Round Int ((List Int) × Int × Int)) :=
 cond (decide (s7 < s6)) ((idx s5 s7).bind fun x1001 => cond (x1001 != 0) (some (.result x1001)) (some (.again (s5, s6, (w6 (s7 + 1)))))) (some (.leave (s5, s6, s7)))
def za0.r0 (N : Nat) (x : (List Int) × Int × Int) := za0.b0 N x.1 x.2.1 x.2.2
def za0 (N : Nat) (a0 : List Int) : Option Int :=
 (zg (za0.r0 N) N (a0, (a0.length : Int), 0)).bind fun z2 => zat z2 (fun z => some z) (fun y1 => some 0)
def za0.k (N : Nat) : Kq := ⟨214, (cvv [T6] [(Ty.sl T6)] (za0 N)), go [] {} [(0, .rets { slots := [(5, .val (Ty.sl T6)), (6, .val T6), (7, .val T6)], boxes := [] } [(Ty.sl T6), T6, T6] (zg (za0.r0 N) N))] Proofs.Tryz.func214 (hL := ⟨⟨_, _, rfl, by kernel_rfl⟩, trivial⟩)⟩
def zbp (N : Nat) (a0 : DataType) : Option Int :=
 cond (a0.Kind == 0) ((zed a0.Length 1 256).bind fun r1 => (zbu (!r1) 18).bind fun r2 => (zbu (!(a0.Scale == 0)) 3).bind fun r3 =>
  (za0 N ([r2, r3] : List Int)).bind fun r4 => some r4) ((cond (a0.Kind == 1) (some (a0.Kind == 1)) (some (a0.Kind == 2))).bind fun q5 =>
  cond q5 ((zed a0.Length 1 15).bind fun r6 => (zed a0.Scale 0 a0.Length).bind fun r7 => (zbu (!r6) 18).bind fun r8 => (zbu (!r7) 3).bind fun r9 =>
  (za0 N ([r8, r9] : List Int)).bind fun r10 => some r10) (cond (a0.Kind == 3) ((cond (a0.Length == 4) (some true) (some (a0.Length == 9))).bind fun g11 =>
  (zed a0.Scale 0 a0.Length).bind fun r12 => (zbu (!g11) 18).bind fun r13 => (zbu (!r12) 3).bind fun r14 =>
  (za0 N ([r13, r14] : List Int)).bind fun r15 => some r15) (cond (a0.Kind == 4) ((zbu (!(a0.Length == 0)) 18).bind fun r16 =>
  (zbu (!(a0.Scale == 0)) 3).bind fun r17 => (za0 N ([r16, r17] : List Int)).bind fun r18 => some r18) (some 4))))
def zbp.k (N : Nat) : Kq := ⟨175, (cvv [T6] [Ty.DataType] (zbp N)), go [za0.k N, zbu.k, zed.k] {lits := [48, 51, 52], bj := [15]} [] Proofs.Tryz.func175⟩
def zeq (N : Nat) (a0 : DataType) (a1 : Int) : Option Int :=
 (cond (a0.Kind == 4) (some true) ((cond (a1 == 1) (some (a0.Kind == 0)) (some false)).bind fun g1 => some g1)).bind fun g2 => (cond g2 (some true) ((cond (a1 == 2)
  (some (a0.Kind != 0)) (some false)).bind fun g3 => some g3)).bind fun g4 => (zbp N a0).bind fun r5 => (zbz g4 17).bind fun r6 =>
  (zar N ([r5, r6] : List Int)).bind fun r7 => some r7
def zeq.k (N : Nat) : Kq := ⟨233, (cvv [T6] [Ty.DataType, T6] (zeq N)), go [zbz.k, zar.k N, zbp.k N] {lits := [28, 30, 31]} [] Proofs.Tryz.func233⟩
def zf0 (N : Nat) (a0 : zC) (a1 : zR) : Option Int :=
 cond ((zm .i64 a1.fields 32) != 0) ((zeq N a0.zD a1.types).bind fun r1 => cond (r1 != 0) (some r1) (cond ((zm .i64 a1.fields 64) != 0)
  ((zeq N a0.Second a1.types).bind fun r2 => some r2) (some 0))) (cond ((zm .i64 a1.fields 64) != 0) ((zeq N a0.Second a1.types).bind fun r3 => some r3)
  (some 0))
def zf0.k (N : Nat) : Kq := ⟨185, (cvv [T6] [Ty.zC, Ty.zR] (zf0 N)), go [zeq.k N] {} [] Proofs.Tryz.func185⟩
def zaa.b0 (N : Nat) (s3 : List Int) (s4 : Int) (s16 : List Int) (s17 : Int) (s18 : Int) : Option (Stp ((List Int) × Int × (List Int) × Int × Int)) :=
 cond (decide (s18 < s17)) (if 0 ≤ s18 then (if s18 < (s16.length : Int) then ((s16[s18.toNat]?).bind fun x1001 =>
  if s18 < 0 then none else cond ((zm .i64 s4 (w6 (1 * 2 ^ (min s18.toNat 64)))) != 0) (cond (Nat.ble ((s3.length + ([x1001] : List Int).length) * 8) zak)
  (some (.again ((s3 ++ ([x1001] : List Int)), s4, s16, s17, (w6 (s18 + 1))))) none)
  (some (.again (s3, s4, s16, s17, (w6 (s18 + 1)))))) else none) else none) (some (.leave (s3, s4, s16, s17, s18)))
def zaa.r0 (N : Nat) (x : (List Int) × Int × (List Int) × Int × Int) := zaa.b0 N x.1 x.2.1 x.2.2.1 x.2.2.2.1 x.2.2.2.2
def zaa (N : Nat) (a0 : zC) : Option ((List Int)) :=
 (zbq a0).bind fun r1 =>
  (zh (zaa.r0 N) N ([], r1.fields, ([a0.R, a0.A, a0.B] : List Int), (([a0.R, a0.A, a0.B] : List Int).length : Int), 0)).bind fun y2 => some y2.1
def zaa.k (N : Nat) : Kq := ⟨235, (cvv [(Ty.sl T6)] [Ty.zC] (zaa N)), go [zbq.k] {lits := [30]} [(0, .plain { slots := [(3, .own 5000003 T6), (4, .val T6), (16, .own 5000016 T6), (17, .val T6), (18, .val T6)], boxes := [] } [(Ty.sl T6), T6, (Ty.sl T6), T6, T6] (zh (zaa.r0 N) N))] Proofs.Tryz.func235 (hL := ⟨⟨_, _, rfl, by kernel_rfl⟩, trivial⟩)⟩
def zfa (a0 : Int) (a1 : zI) : Option Bool :=
 (zbi a0 0 (w6 (a1.Registers - 1))).bind fun r1 => some (!r1)
def zfa.k : Kq := ⟨236, (ctv [.val T6, .ptr Ty.zI false []] [Ty.bool] [] [] [T6, Ty.zI] zfa), go [zbi.k] {ro := [1000000], pk := [1000000]} [] Proofs.Tryz.func236⟩
def zai.b0 (N : Nat) (s0 : List Int) (s7 : Int) (s8 : Int) (b1000000 : zI) : Option (Round Int ((List Int) × Int × Int × zI)) :=
 cond (decide (s8 < s7)) ((idx s0 s8).bind fun x1001 => (zfa x1001 b1000000).bind fun r1002 => cond r1002 (some (.result s8))
  (some (.again (s0, s7, (w6 (s8 + 1)), b1000000)))) (some (.leave (s0, s7, s8, b1000000)))
def zai.r0 (N : Nat) (x : (List Int) × Int × Int × zI) := zai.b0 N x.1 x.2.1 x.2.2.1 x.2.2.2
def zai (N : Nat) (a0 : List Int) (a1 : zI) : Option Int :=
 (zg (zai.r0 N) N (a0, (a0.length : Int), 0, a1)).bind fun z2 => zat z2 (fun z => some z) (fun y1 => some (-1))
def zai.k (N : Nat) : Kq := ⟨256, (ctv [.val (Ty.sl T6), .clo 236 1, .ptr Ty.zI false []] [T6] [] [] [(Ty.sl T6), Ty.zI] (zai N)), go [zfa.k] {ro := [1000000], pk := [1000000]} [(0, .rets { slots := [(0, .val (Ty.sl T6)), (1, .fn 236 [1000000]), (7, .val T6), (8, .val T6)], boxes := [(1000000, Ty.zI, [])] } [(Ty.sl T6), T6, T6, Ty.zI] (zg (zai.r0 N) N))] Proofs.Tryz.func256 (hL := ⟨⟨_, _, rfl, by kernel_rfl⟩, trivial⟩)⟩
def zcx (N : Nat) (a0 : List Int) (a1 : zI) : Option Bool :=
 (zai N a0 a1).bind fun r1 => some (decide (r1 ≥ 0))
def zcx.k (N : Nat) : Kq := ⟨234, (ctv [.val (Ty.sl T6), .clo 236 1, .ptr Ty.zI false []] [Ty.bool] [] [] [(Ty.sl T6), Ty.zI] (zcx N)), go [zai.k N] {ro := [1000000], pk := [1000000]} [] Proofs.Tryz.func234⟩
def zdf (a0 : Storage) (a1 : Int) : Option Bool :=
 (cond (decide (a1 ≥ 0)) (some ((a1.tmod 16) == 0)) (some false)).bind fun g1 => (cond g1 (some (decide (a1 < (a0.Bytes.size : Int)))) (some false)).bind fun g2 => some g2
def zdf.k : Kq := ⟨237, (cvv [Ty.bool] [Ty.Storage, T6] zdf), go [] {} [] Proofs.Tryz.func237⟩
def zgs (a0 : DataType) : Option Int :=
 cond (a0.Kind == 1) (some (w6 ((w6 (a0.Length.tdiv 2)) + 1))) (cond (a0.Kind == 3)
  (some (w6 (2 + (w6 ((w6 (a0.Length.tdiv 9)) * 2))))) (cond (a0.Kind == 4) (some 16) (some a0.Length)))
def zgs.k : Kq := ⟨220, (cvv [T6] [Ty.DataType] zgs), go [] {} [] Proofs.Tryz.func220⟩
def zd8 (N : Nat) (a0 : DataType) : Option (Int × Int) :=
 (zbp N a0).bind fun r1 => cond (r1 != 0) (some (0, r1)) ((zgs a0).bind fun r2 => some (r2, 0))
def zd8.k (N : Nat) : Kq := ⟨206, (cvv [T6, T6] [Ty.DataType] (zd8 N)), go [zbp.k N, zgs.k] {} [] Proofs.Tryz.func206⟩
def zh9 (N : Nat) (a0 : DataType) : Option Int :=
 (zd8 N a0).bind fun r1 => some r1.1
def zh9.k (N : Nat) : Kq := ⟨257, (cvv [T6] [Ty.DataType] (zh9 N)), go [zd8.k N] {} [] Proofs.Tryz.func257⟩
def zc3 (N : Nat) (a0 : Storage) (a1 : zL) (a2 : DataType) : Option Bool :=
 cond a1.Based ((zdf a0 a1.Pointer).bind fun r1 => (cond r1 ((zbi a1.Offset 0 256).bind fun r2 => some r2) (some false)).bind fun g3 => some g3)
  ((zh9 N a2).bind fun r4 => (zbi a1.Offset 0 (w6 ((a0.Bytes.size : Int) - r4))).bind fun r5 => some r5)
def zc3.k (N : Nat) : Kq := ⟨238, (cvv [Ty.bool] [Ty.Storage, Ty.zL, Ty.DataType] (zc3 N)), go [zbi.k, zdf.k, zh9.k N] {} [] Proofs.Tryz.func238⟩
def zgh (N : Nat) (a0 : zI) (a1 : zF) (a2 : zC) : Option Bool :=
 (zbq a2).bind fun r1 => (zaa N a2).bind fun r2 => (zcx N r2 a0).bind fun r3 => cond r3 (some false)
  ((cond ((zm .i64 r1.fields 8) != 0) (some (a2.Op == 4)) (some false)).bind fun g4 => cond g4 ((cond ((zm .i64 r1.fields 4096) != 0)
  ((zbi a2.Target 0 (w6 ((a1.zB.length : Int) - 1))).bind fun r5 => some (!r5)) (some false)).bind fun g6 => (cond g6 (some true)
  ((cond ((zm .i64 r1.fields 2048) != 0) ((zbi a2.Mask 1 7).bind fun r7 => some (!r7)) (some false)).bind fun g8 => some g8)).bind fun g9 => (cond g9 (some true)
  ((cond ((zm .i64 r1.fields 8192) != 0) ((zdf a1.Storage a2.Pointer).bind fun r10 => some (!r10)) (some false)).bind fun g11 => some g11)).bind fun g12 =>
  (cond g12 (some true) ((cond ((zm .i64 r1.fields 16384) != 0) ((zdf a1.Storage a2.Source).bind fun r13 => some (!r13)) (some false)).bind fun g14 =>
  some g14)).bind fun g15 => (cond g15 (some true) ((cond ((zm .i64 r1.fields 8) != 0) ((zc3 N a1.Storage a2.Place a2.Second).bind fun r16 => some (!r16))
  (some false)).bind fun g17 => some g17)).bind fun g18 => (cond g18 (some true) ((cond ((zm .i64 r1.fields 16) != 0)
  ((zc3 N a1.Storage a2.From a2.Second).bind fun r19 => some (!r19)) (some false)).bind fun g20 => some g20)).bind fun g21 => (cond g21 (some true)
  ((cond ((zm .i64 r1.fields 32768) != 0) ((zbi a2.zM 0 4).bind fun r22 => some (!r22)) (some false)).bind fun g23 => some g23)).bind fun g24 => some (!g24))
  ((cond ((zm .i64 r1.fields 4096) != 0) ((zbi a2.Target 0 (w6 ((a1.zB.length : Int) - 1))).bind fun r25 => some (!r25))
  (some false)).bind fun g26 => (cond g26 (some true) ((cond ((zm .i64 r1.fields 2048) != 0) ((zbi a2.Mask 1 7).bind fun r27 => some (!r27)) (some false)).bind fun g28 =>
  some g28)).bind fun g29 => (cond g29 (some true) ((cond ((zm .i64 r1.fields 8192) != 0) ((zdf a1.Storage a2.Pointer).bind fun r30 => some (!r30))
  (some false)).bind fun g31 => some g31)).bind fun g32 => (cond g32 (some true) ((cond ((zm .i64 r1.fields 16384) != 0) ((zdf a1.Storage a2.Source).bind fun r33 =>
  some (!r33)) (some false)).bind fun g34 => some g34)).bind fun g35 => (cond g35 (some true) ((cond ((zm .i64 r1.fields 8) != 0)
  ((zc3 N a1.Storage a2.Place a2.zD).bind fun r36 => some (!r36)) (some false)).bind fun g37 => some g37)).bind fun g38 => (cond g38 (some true)
  ((cond ((zm .i64 r1.fields 16) != 0) ((zc3 N a1.Storage a2.From a2.Second).bind fun r39 => some (!r39)) (some false)).bind fun g40 => some g40)).bind fun g41 =>
  (cond g41 (some true) ((cond ((zm .i64 r1.fields 32768) != 0) ((zbi a2.zM 0 4).bind fun r42 => some (!r42)) (some false)).bind fun g43 =>
  some g43)).bind fun g44 => some (!g44)))
def zgh.k (N : Nat) : Kq := ⟨187, (cvv [Ty.bool] [Ty.zI, Ty.zF, Ty.zC] (zgh N)), go [zbi.k, zbq.k, zcx.k N, zaa.k N, zdf.k, zc3.k N] {lits := [13]} [] Proofs.Tryz.func187⟩
def ze9 (a0 : Number) : Option Int :=
 (zed a0.N (-999999999999999) 999999999999999).bind fun r1 => (cond (!r1) (some true) ((zed a0.Scale 0 15).bind fun r2 => some (!r2))).bind fun g3 =>
  (zbu g3 3).bind fun r4 => some r4
def ze9.k : Kq := ⟨188, (cvv [T6] [Ty.Number] ze9), go [zbu.k, zed.k] {} [] Proofs.Tryz.func188⟩
def zco (N : Nat) (a0 : zI) (a1 : zF) (a2 : zC) : Option Int :=
 (zbi a2.Op 0 26).bind fun r1 => cond (!r1) (some 4) ((zia a2).bind fun r2 =>
  (zbz (!(zbx [(r2.Op == a2.Op), (r2.R == a2.R), (r2.A == a2.A), (r2.B == a2.B), (r2.zM == a2.zM), (r2.Place.Based == a2.Place.Based), (r2.Place.Pointer == a2.Place.Pointer), (r2.Place.Offset == a2.Place.Offset), (r2.From.Based == a2.From.Based), (r2.From.Pointer == a2.From.Pointer), (r2.From.Offset == a2.From.Offset), (r2.zD.Kind == a2.zD.Kind), (r2.zD.Length == a2.zD.Length), (r2.zD.Scale == a2.zD.Scale), (r2.Second.Kind == a2.Second.Kind), (r2.Second.Length == a2.Second.Length), (r2.Second.Scale == a2.Second.Scale), (r2.Half == a2.Half), (r2.zK == a2.zK), (r2.Number.N == a2.Number.N), (r2.Number.Scale == a2.Number.Scale), (r2.Text == a2.Text), (r2.Other == a2.Other), (r2.Mask == a2.Mask), (r2.Target == a2.Target), (r2.Pointer == a2.Pointer), (r2.Source == a2.Source)])) 5).bind fun r3 =>
  (zgu a0 a2).bind fun r4 => (zbz (!r4) 39).bind fun r5 => (zbq a2).bind fun r6 => (zf0 N a2 r6).bind fun r7 =>
  (zar N ([r3, r5, r7] : List Int)).bind fun r8 => cond (r8 != 0) (some r8) ((zgh N a0 a1 a2).bind fun r9 => (zbz (!r9) 3).bind fun r10 =>
  (ze9 a2.Number).bind fun r11 => (cond (decide ((a2.Text.size : Int) > 256)) (some true) (some (decide ((a2.Other.size : Int) > 256)))).bind fun g12 =>
  (zbz g12 2).bind fun r13 => (zar N ([r10, r11, r13] : List Int)).bind fun r14 => some r14))
def zco.k (N : Nat) : Kq := ⟨131, (cvv [T6] [Ty.zI, Ty.zF, Ty.zC] (zco N)), go [zbz.k, zbi.k, zar.k N, zia.k, zgu.k, zf0.k N, zbq.k, zgh.k N, ze9.k] {lits := [16, 21, 24, 25, 26, 36, 39, 50, 51]} [] Proofs.Tryz.func131⟩
def zgf (a0 : zF) (a1 : zQ) : Option Int :=
 (zbi a1.From 0 a1.To).bind fun r1 => (cond r1 (some (decide (a1.To ≤ (a0.zB.length : Int)))) (some false)).bind fun g2 =>
  (cond g2 ((zbi a1.Exception 0 999).bind fun r3 => some r3) (some false)).bind fun g4 =>
  (cond g4 ((zbi a1.Handler 0 (w6 ((a0.zB.length : Int) - 1))).bind fun r5 => some r5) (some false)).bind fun g6 =>
  (zbz (!g6) 3).bind fun r7 => some r7
def zgf.k : Kq := ⟨132, (cvv [T6] [Ty.zF, Ty.zQ] zgf), go [zbz.k, zbi.k] {} [] Proofs.Tryz.func132⟩
def zn.b0 (N : Nat) (s57 : List zC) (s58 : Int) (s59 : Int) (b2 : zI) (b3 : zF) : Option (Round (Int × Int) ((List zC) × Int × Int × zI × zF)) :=
 cond (decide (s59 < s58)) ((idx s57 s59).bind fun x1001 => (zco N b2 b3 x1001).bind fun r1002 => cond (r1002 != 0) (some (.result (s59, r1002)))
  (some (.again (s57, s58, (w6 (s59 + 1)), b2, b3)))) (some (.leave (s57, s58, s59, b2, b3)))
def zn.r0 (N : Nat) (x : (List zC) × Int × Int × zI × zF) := zn.b0 N x.1 x.2.1 x.2.2.1 x.2.2.2.1 x.2.2.2.2
def zn.b2 (N : Nat) (s74 : List zQ) (s75 : Int) (s76 : Int) (b3 : zF) : Option (Round (Int × Int) ((List zQ) × Int × Int × zF)) :=
 cond (decide (s76 < s75)) ((idx s74 s76).bind fun x3001 => (zgf b3 x3001).bind fun r3002 => cond (r3002 != 0) (some (.result (s76, r3002)))
  (some (.again (s74, s75, (w6 (s76 + 1)), b3)))) (some (.leave (s74, s75, s76, b3)))
def zn.r2 (N : Nat) (x : (List zQ) × Int × Int × zF) := zn.b2 N x.1 x.2.1 x.2.2.1 x.2.2.2
def zn (N : Nat) (a0 : zI) (a1 : zF) : Option (Int × Int) :=
 (zdk a0).bind fun r1 => cond (r1 != 0) (some (0, r1)) ((zaj N a1.Storage).bind fun r2 => cond (r2.2 != 0) (some (0, r2.2))
  ((zeu N a1.Storage.Tags true).bind fun r3 => (zbz r3 22).bind fun r4 => (zbz ((a1.zB.length : Int) == 0) 1).bind fun r5 =>
  (cond (decide ((a1.zB.length : Int) > 240)) (some true) (some (decide ((a1.zP.length : Int) > 40)))).bind fun g6 => (zbz g6 2).bind fun r7 =>
  (zar N ([r4, r5, r7] : List Int)).bind fun r8 => cond (r8 != 0) (some (0, r8))
  ((zg (zn.r0 N) N (a1.zB, (a1.zB.length : Int), 0, a0, a1)).bind fun z10 => zat z10 (fun z => some z) (fun y9 =>
  (zg (zn.r2 N) N (y9.2.2.2.2.zP, (y9.2.2.2.2.zP.length : Int), 0, y9.2.2.2.2)).bind fun z12 => zat z12 (fun z => some z) (fun y11 =>
  some ((y11.2.2.2.zB.length : Int), 0))))))
def zn.k (N : Nat) : Kq := ⟨77, (cvv [T6, T6] [Ty.zI, Ty.zF] (zn N)), go [zdk.k, zbz.k, zaj.k N, zar.k N, zeu.k N, zco.k N, zgf.k] {lits := [33, 34, 39, 50, 51]} [(0, .rets { slots := [(2, .ptr 2 0), (3, .ptr 3 0), (57, .val (Ty.sl Ty.zC)), (58, .val T6), (59, .val T6)], boxes := [(2, Ty.zI, []), (3, Ty.zF, [])] } [(Ty.sl Ty.zC), T6, T6, Ty.zI, Ty.zF] (zg (zn.r0 N) N)), (2, .rets { slots := [(3, .ptr 3 0), (74, .val (Ty.sl Ty.zQ)), (75, .val T6), (76, .val T6)], boxes := [(3, Ty.zF, [])] } [(Ty.sl Ty.zQ), T6, T6, Ty.zF] (zg (zn.r2 N) N))] Proofs.Tryz.func77 (hL := ⟨⟨_, _, rfl, by kernel_rfl⟩, ⟨_, _, rfl, by kernel_rfl⟩, trivial⟩)⟩
def zcp (N : Nat) (a0 : zI) (a1 : zF) : Option Int :=
 (zn N a0 a1).bind fun r1 => some r1.2
def zcp.k (N : Nat) : Kq := ⟨30, (cvv [T6] [Ty.zI, Ty.zF] (zcp N)), go [zn.k N] {} [] Proofs.Tryz.func30⟩
def zao.b0 (N : Nat) (s3 : List Int) (s7 : List zC) (s8 : Int) (s9 : Int) (b1 : zF) : Option (Stp ((List Int) × (List zC) × Int × Int × zF)) :=
 cond (decide (s9 < s8)) ((idx s7 s9).bind fun x1001 => (cond (x1001.Op == 18) (some (decide ((w6 (s9 + 1)) < (b1.zB.length : Int))))
  (some false)).bind fun g1002 => cond g1002 (cond (Nat.ble ((s3.length + ([(w6 (s9 + 1))] : List Int).length) * 8) zak)
  (some (.again ((s3 ++ ([(w6 (s9 + 1))] : List Int)), s7, s8, (w6 (s9 + 1)), b1))) none)
  (some (.again (s3, s7, s8, (w6 (s9 + 1)), b1)))) (some (.leave (s3, s7, s8, s9, b1)))
def zao.r0 (N : Nat) (x : (List Int) × (List zC) × Int × Int × zF) := zao.b0 N x.1 x.2.1 x.2.2.1 x.2.2.2.1 x.2.2.2.2
def zao (N : Nat) (a0 : zF) : Option ((List Int)) :=
 (zh (zao.r0 N) N ([], a0.zB, (a0.zB.length : Int), 0, a0)).bind fun y1 => some y1.1
def zao.k (N : Nat) : Kq := ⟨133, (cvv [(Ty.sl T6)] [Ty.zF] (zao N)), go [] {lits := [28]} [(0, .plain { slots := [(1, .ptr 1 0), (3, .own 5000003 T6), (7, .val (Ty.sl Ty.zC)), (8, .val T6), (9, .val T6)], boxes := [(1, Ty.zF, [])] } [(Ty.sl T6), (Ty.sl Ty.zC), T6, T6, Ty.zF] (zh (zao.r0 N) N))] Proofs.Tryz.func133 (hL := ⟨⟨_, _, rfl, by kernel_rfl⟩, trivial⟩)⟩
def zu.b0 (N : Nat) (s3 : List Bool) (s15 : List zQ) (s16 : Int) (s17 : Int) (b1 : zF) : Option (Stp ((List Bool) × (List zQ) × Int × Int × zF)) :=
 cond (decide (s17 < s16)) ((idx s15 s17).bind fun x1001 => if 0 ≤ x1001.Handler then (if x1001.Handler < (s3.length : Int) then ((s3[x1001.Handler.toNat]?).bind fun x1002 =>
  some (.again ((s3.set x1001.Handler.toNat true), s15, s16, (w6 (s17 + 1)), b1))) else none) else none) (some (.leave (s3, s15, s16, s17, b1)))
def zu.r0 (N : Nat) (x : (List Bool) × (List zQ) × Int × Int × zF) := zu.b0 N x.1 x.2.1 x.2.2.1 x.2.2.2.1 x.2.2.2.2
def zu.b2 (N : Nat) (s3 : List Bool) (s27 : List Int) (s28 : Int) (s29 : Int) : Option (Stp ((List Bool) × (List Int) × Int × Int)) :=
 cond (decide (s29 < s28)) ((idx s27 s29).bind fun x3001 => if 0 ≤ x3001 then (if x3001 < (s3.length : Int) then ((s3[x3001.toNat]?).bind fun x3002 =>
  some (.again ((s3.set x3001.toNat true), s27, s28, (w6 (s29 + 1))))) else none) else none) (some (.leave (s3, s27, s28, s29)))
def zu.r2 (N : Nat) (x : (List Bool) × (List Int) × Int × Int) := zu.b2 N x.1 x.2.1 x.2.2.1 x.2.2.2
def zu (N : Nat) (a0 : zF) : Option ((List Bool)) :=
 if 0 ≤ (a0.zB.length : Int) then (if (a0.zB.length : Int) ≤ (a0.zB.length : Int) then (cond (Nat.ble ((a0.zB.length : Int).toNat * 1) zak)
  (if 0 ≤ (0 : Int) then (if (0 : Int) < ((List.replicate (a0.zB.length : Int).toNat (false : Bool)).length : Int) then (((List.replicate (a0.zB.length : Int).toNat (false : Bool))[(0 : Int).toNat]?).bind fun x1 =>
  (zh (zu.r0 N) N (((List.replicate (a0.zB.length : Int).toNat (false : Bool)).set ((0 : Int).toNat) true), a0.zP, (a0.zP.length : Int), 0, a0)).bind fun y2 =>
  (zao N y2.2.2.2.2).bind fun r3 => (zh (zu.r2 N) N (y2.1, r3, (r3.length : Int), 0)).bind fun y4 =>
  some y4.1) else none) else none) none) else none) else none
def zu.k (N : Nat) : Kq := ⟨78, (cvv [(Ty.sl Ty.bool)] [Ty.zF] (zu N)), go [zao.k N] {} [(0, .plain { slots := [(1, .ptr 1 0), (3, .own 5000003 Ty.bool), (15, .val (Ty.sl Ty.zQ)), (16, .val T6), (17, .val T6)], boxes := [(1, Ty.zF, [])] } [(Ty.sl Ty.bool), (Ty.sl Ty.zQ), T6, T6, Ty.zF] (zh (zu.r0 N) N)), (2, .plain { slots := [(3, .own 5000003 Ty.bool), (27, .val (Ty.sl T6)), (28, .val T6), (29, .val T6)], boxes := [] } [(Ty.sl Ty.bool), (Ty.sl T6), T6, T6] (zh (zu.r2 N) N))] Proofs.Tryz.func78 (hL := ⟨⟨_, _, rfl, by kernel_rfl⟩, ⟨_, _, rfl, by kernel_rfl⟩, trivial⟩)⟩
def zcy (a0 : Int) : Option Bool :=
 (cond (a0 == 6) (some true) (some (a0 == 7))).bind fun g1 => (cond g1 (some true) (some (a0 == 8))).bind fun g2 => (cond g2 (some true) (some (a0 == 18))).bind fun g3 => some g3
def zcy.k : Kq := ⟨56, (cvv [Ty.bool] [T6] zcy), go [] {} [] Proofs.Tryz.func56⟩
def zce (a0 : zF) (a1 : Int) : Option ((List Int)) :=
 (idx a0.zB a1).bind fun x1 => (cond (x1.Op == 8) (some (x1.Op == 8)) (cond (x1.Op == 18) (some (x1.Op == 18)) (cond (x1.Op == 19) (some (x1.Op == 19))
  (cond (x1.Op == 20) (some (x1.Op == 20)) (some (x1.Op == 26)))))).bind fun q2 => cond q2 ((zcy x1.Op).bind fun r3 =>
  cond r3 (cond (Nat.ble (([x1.Target] : List Int).length * 8) zak) (some ([x1.Target] : List Int)) none) (some []))
  (cond (decide ((w6 (a1 + 1)) < (a0.zB.length : Int))) (cond (Nat.ble (([(w6 (a1 + 1))] : List Int).length * 8) zak)
  ((zcy x1.Op).bind fun r4 => cond r4 (cond (Nat.ble ((([(w6 (a1 + 1))] : List Int).length + ([x1.Target] : List Int).length) * 8) zak)
  (some (([(w6 (a1 + 1))] : List Int) ++ ([x1.Target] : List Int))) none) (some ([(w6 (a1 + 1))] : List Int))) none)
  ((zcy x1.Op).bind fun r5 => cond r5 (cond (Nat.ble (([x1.Target] : List Int).length * 8) zak) (some ([x1.Target] : List Int)) none) (some [])))
def zce.k : Kq := ⟨81, (cvv [(Ty.sl T6)] [Ty.zF, T6] zce), go [zcy.k] {lits := [23, 37], bj := [25]} [] Proofs.Tryz.func81⟩
def zbo.b0 (N : Nat) (s5 : List Bool) (s6 : List Int) (s13 : List Bool) (s14 : Int) (s15 : Int) (b2 : zF) : Option (Stp ((List Bool) × (List Int) × (List Bool) × Int × Int × zF)) :=
 cond (decide (s15 < s14)) ((idx s13 s15).bind fun x1001 => cond x1001 (cond (Nat.ble ((s6.length + ([s15] : List Int).length) * 8) zak)
  (some (.again (s5, (s6 ++ ([s15] : List Int)), s13, s14, (w6 (s15 + 1)), b2))) none) (some (.again (s5, s6, s13, s14, (w6 (s15 + 1)), b2))))
  (some (.leave (s5, s6, s13, s14, s15, b2)))
def zbo.r0 (N : Nat) (x : (List Bool) × (List Int) × (List Bool) × Int × Int × zF) := zbo.b0 N x.1 x.2.1 x.2.2.1 x.2.2.2.1 x.2.2.2.2.1 x.2.2.2.2.2
def zbo.b2 (N : Nat) (s5 : List Bool) (s6 : List Int) (b2 : zF) : Option (Stp ((List Bool) × (List Int) × zF)) :=
 cond (decide ((s6.length : Int) > 0)) (if 0 ≤ (0 : Int) then (if (0 : Int) < (s6.length : Int) then ((s6[(0 : Int).toNat]?).bind fun x3001 =>
  if 0 ≤ (1 : Int) ∧ (1 : Int) ≤ (s6.length : Int) then (if 0 ≤ x3001 then (if x3001 < (s5.length : Int) then ((s5[x3001.toNat]?).bind fun x3002 => cond (!x3002)
  (if 0 ≤ x3001 then (if x3001 < (s5.length : Int) then ((s5[x3001.toNat]?).bind fun x3003 => (zce b2 x3001).bind fun r3004 =>
  cond (Nat.ble (((s6.drop ((1 : Int).toNat)).length + r3004.length) * 8) zak)
  (some (.again ((s5.set x3001.toNat true), ((s6.drop ((1 : Int).toNat)) ++ r3004), b2))) none) else none) else none)
  (some (.again (s5, (s6.drop ((1 : Int).toNat)), b2)))) else none) else none) else none) else none) else none) (some (.leave (s5, s6, b2)))
def zbo.r2 (N : Nat) (x : (List Bool) × (List Int) × zF) := zbo.b2 N x.1 x.2.1 x.2.2
def zbo (N : Nat) (a0 : zF) (a1 : List Bool) : Option ((List Bool)) :=
 if 0 ≤ (a1.length : Int) then (if (a1.length : Int) ≤ (a1.length : Int) then (cond (Nat.ble ((a1.length : Int).toNat * 1) zak)
  ((zh (zbo.r0 N) N ((List.replicate (a1.length : Int).toNat (false : Bool)), [], a1, (a1.length : Int), 0, a0)).bind fun y1 =>
  (zh (zbo.r2 N) N (y1.1, y1.2.1, y1.2.2.2.2.2)).bind fun y2 => some y2.1) none) else none) else none
def zbo.k (N : Nat) : Kq := ⟨79, (cvv [(Ty.sl Ty.bool)] [Ty.zF, (Ty.sl Ty.bool)] (zbo N)), go [zce.k] {lits := [23, 45]} [(0, .plain { slots := [(2, .ptr 2 0), (5, .own 5000005 Ty.bool), (6, .own 5000006 T6), (13, .val (Ty.sl Ty.bool)), (14, .val T6), (15, .val T6)], boxes := [(2, Ty.zF, [])] } [(Ty.sl Ty.bool), (Ty.sl T6), (Ty.sl Ty.bool), T6, T6, Ty.zF] (zh (zbo.r0 N) N)), (2, .plain { slots := [(2, .ptr 2 0), (5, .own 5000005 Ty.bool), (6, .own 5000006 T6)], boxes := [(2, Ty.zF, [])] } [(Ty.sl Ty.bool), (Ty.sl T6), Ty.zF] (zh (zbo.r2 N) N))] Proofs.Tryz.func79 (hL := ⟨⟨_, _, rfl, by kernel_rfl⟩, ⟨_, _, rfl, by kernel_rfl⟩, trivial⟩)⟩
def zdw (a0 : zA) (a1 : Int) : Option Bool :=
 some (a0.Register == a1)
def zdw.k : Kq := ⟨193, (ctv [.val Ty.zA, .ptr T6 false []] [Ty.bool] [] [] [Ty.zA, T6] zdw), go [] {ro := [1000000], pk := [1000000]} [] Proofs.Tryz.func193⟩
def zr.b0 (N : Nat) (s0 : List zA) (s7 : Int) (s8 : Int) (b1000000 : Int) : Option (Round Int ((List zA) × Int × Int × Int)) :=
 cond (decide (s8 < s7)) ((idx s0 s8).bind fun x1001 => (zdw x1001 b1000000).bind fun r1002 => cond r1002 (some (.result s8))
  (some (.again (s0, s7, (w6 (s8 + 1)), b1000000)))) (some (.leave (s0, s7, s8, b1000000)))
def zr.r0 (N : Nat) (x : (List zA) × Int × Int × Int) := zr.b0 N x.1 x.2.1 x.2.2.1 x.2.2.2
def zr (N : Nat) (a0 : List zA) (a1 : Int) : Option Int :=
 (zg (zr.r0 N) N (a0, (a0.length : Int), 0, a1)).bind fun z2 => zat z2 (fun z => some z) (fun y1 => some (-1))
def zr.k (N : Nat) : Kq := ⟨177, (ctv [.val (Ty.sl Ty.zA), .clo 193 1, .ptr T6 false []] [T6] [] [] [(Ty.sl Ty.zA), T6] (zr N)), go [zdw.k] {ro := [1000000], pk := [1000000]} [(0, .rets { slots := [(0, .val (Ty.sl Ty.zA)), (1, .fn 193 [1000000]), (7, .val T6), (8, .val T6)], boxes := [(1000000, T6, [])] } [(Ty.sl Ty.zA), T6, T6, T6] (zg (zr.r0 N) N))] Proofs.Tryz.func177 (hL := ⟨⟨_, _, rfl, by kernel_rfl⟩, trivial⟩)⟩
def zk.b0 (N : Nat) (s0 : List zA) (s5 : Int) (s6 : Int) (b1000000 : Int) : Option (Stp ((List zA) × Int × Int × Int)) :=
 cond (decide (s6 < (s0.length : Int))) (if 0 ≤ s6 then (if s6 < (s0.length : Int) then ((s0[s6.toNat]?).bind fun x1001 => (zdw x1001 b1000000).bind fun r1002 =>
  cond (!r1002) (if 0 ≤ s5 then (if s5 < (s0.length : Int) then ((s0[s5.toNat]?).bind fun x1003 =>
  some (.again ((s0.set s5.toNat x1001), (w6 (s5 + 1)), (w6 (s6 + 1)), b1000000))) else none) else none)
  (some (.again (s0, s5, (w6 (s6 + 1)), b1000000)))) else none) else none) (some (.leave (s0, s5, s6, b1000000)))
def zk.r0 (N : Nat) (x : (List zA) × Int × Int × Int) := zk.b0 N x.1 x.2.1 x.2.2.1 x.2.2.2
def zk (N : Nat) (a0 : List zA) (a1 : Int) : Option ((List zA)) :=
 (zr N a0 a1).bind fun r1 => cond (r1 == (-1)) (some a0)
  ((zh (zk.r0 N) N (a0, r1, (w6 (r1 + 1)), a1)).bind fun y2 =>
  if 0 ≤ y2.2.1 ∧ y2.2.1 ≤ (y2.1.length : Int) then (if 0 ≤ y2.2.1 ∧ y2.2.1 ≤ ((y2.1.take y2.2.1.toNat ++ List.replicate (y2.1.length - y2.2.1.toNat)
  ((⟨0, (⟨0, 0, 0⟩ : DataType), 0⟩ : zA) : zA)).length : Int) then (if 0 ≤ (0 : Int) ∧ (0 : Int) ≤ y2.2.1 then (some (((y2.1.take y2.2.1.toNat ++ List.replicate (y2.1.length - y2.2.1.toNat)
  ((⟨0, (⟨0, 0, 0⟩ : DataType), 0⟩ : zA) : zA)).drop ((0 : Int).toNat)).take (y2.2.1.toNat - (0 : Int).toNat))) else none) else none) else none)
def zk.k (N : Nat) : Kq := ⟨140, (ctv [.mov Ty.zA, .clo 193 1, .ptr T6 false []] [(Ty.sl Ty.zA)] [] [0] [(Ty.sl Ty.zA), T6] (zk N)), go [zr.k N, zdw.k] {ro := [1000000], pk := [1000000]} [(0, .plain { slots := [(0, .own 5000000 Ty.zA), (1, .fn 193 [1000000]), (5, .val T6), (6, .val T6)], boxes := [(1000000, T6, [])] } [(Ty.sl Ty.zA), T6, T6, T6] (zh (zk.r0 N) N))] Proofs.Tryz.func140 (hL := ⟨⟨_, _, rfl, by kernel_rfl⟩, trivial⟩)⟩
def zqe : Ct U := { params := [.val (Ty.sl Ty.zA)], results := [(Ty.sl Ty.zA)], outs := [], fresh := [0], fn := app U [(Ty.sl Ty.zA)] (R := PT U [(Ty.sl Ty.zA)]) (zkx 40) }
theorem zqe.meets : zh5 (zpj [] [] [] [] [] [] [] []) 141 zqe :=
 zs7 zwp (zxr (l := []) rfl all_nil) (zws (l := []) rfl all_nil) (Lp := pick []) Proofs.Tryz.func141 (by kernel_rfl) (zxw (l := []) rfl all_nil) (fun y => by kernel_rfl) (e := 97) (t := Ty.zA) rfl rfl rfl rfl rfl rfl rfl (by kernel_rfl) rfl rfl rfl rfl rfl rfl (fun xs => by kernel_rfl) fun ds y h => by
  obtain ⟨xs, rfl, hx⟩ := z1a h; refine ⟨xs, rfl, fun b hb => ?_⟩; cases b with
  | true =>
   have := hb rfl; subst this; exact Eq.trans (by kernel_rfl) hx
  | false => exact Eq.trans (b := cond (Nat.ble ((0 + xs.length) * 40) zak) (some xs) none) (by kernel_rfl) (by rw [Nat.zero_add]; exact hx)
def zqe.k : Kq := ⟨141, zqe, zqe.meets⟩
def zc6 (N : Nat) (a0 : List zA) (a1 : Int) : Option ((List zA)) :=
 (zkx 40 a0).bind fun r1 => (zk N r1 a1).bind fun r2 => some r2
def zc6.k (N : Nat) : Kq := ⟨136, (ctv [.val (Ty.sl Ty.zA), .val T6] [(Ty.sl Ty.zA)] [] [0] [(Ty.sl Ty.zA), T6] (zc6 N)), go [zk.k N, zqe.k] {} [] Proofs.Tryz.func136⟩
def zbb.b0 (N : Nat) (s1 : Int) (s2 : Int) (s7 : List zA) (s10 : List zA) (s11 : Int) (s12 : Int) : Option (Stp (Int × Int × (List zA) × (List zA) × Int × Int)) :=
 cond (decide (s12 < s11)) ((idx s10 s12).bind fun x1001 => cond (x1001.Register == s1)
  (cond (Nat.ble ((s7.length + ([(⟨s2, x1001.zD, x1001.Offset⟩ : zA)] : List zA).length) * 40) zak)
  (some (.again (s1, s2, (s7 ++ ([(⟨s2, x1001.zD, x1001.Offset⟩ : zA)] : List zA)), s10, s11, (w6 (s12 + 1))))) none)
  (some (.again (s1, s2, s7, s10, s11, (w6 (s12 + 1)))))) (some (.leave (s1, s2, s7, s10, s11, s12)))
def zbb.r0 (N : Nat) (x : Int × Int × (List zA) × (List zA) × Int × Int) := zbb.b0 N x.1 x.2.1 x.2.2.1 x.2.2.2.1 x.2.2.2.2.1 x.2.2.2.2.2
def zbb (N : Nat) (a0 : List zA) (a1 : Int) (a2 : Int) : Option ((List zA)) :=
 (zh (zbb.r0 N) N (a1, a2, [], a0, (a0.length : Int), 0)).bind fun y1 => some y1.2.2.1
def zbb.k (N : Nat) : Kq := ⟨137, (cvv [(Ty.sl Ty.zA)] [(Ty.sl Ty.zA), T6, T6] (zbb N)), go [] {lits := [24]} [(0, .plain { slots := [(1, .val T6), (2, .val T6), (7, .own 5000007 Ty.zA), (10, .val (Ty.sl Ty.zA)), (11, .val T6), (12, .val T6)], boxes := [] } [T6, T6, (Ty.sl Ty.zA), (Ty.sl Ty.zA), T6, T6] (zh (zbb.r0 N) N))] Proofs.Tryz.func137 (hL := ⟨⟨_, _, rfl, by kernel_rfl⟩, trivial⟩)⟩
def zbk.b0 (N : Nat) (s1 : List zA) (s5 : List zA) (s34 : List zA) (s35 : Int) (s36 : Int) (b2 : zC) : Option (Stp ((List zA) × (List zA) × (List zA) × Int × Int × zC)) :=
 cond (decide (s36 < s35)) ((idx s34 s36).bind fun x1001 =>
  (cond (zbx [(x1001.zD.Kind == b2.zD.Kind), (x1001.zD.Length == b2.zD.Length), (x1001.zD.Scale == b2.zD.Scale)]) (some (x1001.Offset == b2.Place.Offset))
  (some false)).bind fun g1002 => cond g1002 ((zbb N s1 x1001.Register b2.R).bind fun r1003 => cond (Nat.ble ((s5.length + r1003.length) * 40) zak)
  (some (.again (s1, (s5 ++ r1003), s34, s35, (w6 (s36 + 1)), b2))) none) (some (.again (s1, s5, s34, s35, (w6 (s36 + 1)), b2))))
  (some (.leave (s1, s5, s34, s35, s36, b2)))
def zbk.r0 (N : Nat) (x : (List zA) × (List zA) × (List zA) × Int × Int × zC) := zbk.b0 N x.1 x.2.1 x.2.2.1 x.2.2.2.1 x.2.2.2.2.1 x.2.2.2.2.2
def zbk (N : Nat) (a0 : zC) (a1 : List zA) : Option ((List zA)) :=
 (zc6 N a1 a0.R).bind fun r1 => cond (Nat.ble ((r1.length + ([(⟨a0.R, a0.zD, (-1)⟩ : zA)] : List zA).length) * 40) zak)
  (cond a0.Place.Based (some (r1 ++ ([(⟨a0.R, a0.zD, (-1)⟩ : zA)] : List zA)))
  (cond (Nat.ble (((r1 ++ ([(⟨a0.R, a0.zD, (-1)⟩ : zA)] : List zA)).length + ([(⟨a0.R, a0.zD, a0.Place.Offset⟩ : zA)] : List zA).length) * 40) zak)
  ((zh (zbk.r0 N) N (a1, ((r1 ++ ([(⟨a0.R, a0.zD, (-1)⟩ : zA)] : List zA)) ++ ([(⟨a0.R, a0.zD, a0.Place.Offset⟩ : zA)] : List zA)), a1, (a1.length : Int), 0, a0)).bind fun y2 =>
  some y2.2.1) none)) none
def zbk.k (N : Nat) : Kq := ⟨135, (ctv [.val Ty.zC, .val (Ty.sl Ty.zA)] [(Ty.sl Ty.zA)] [] [0] [Ty.zC, (Ty.sl Ty.zA)] (zbk N)), go [zc6.k N, zbb.k N] {lits := [17, 32, 59]} [(0, .plain { slots := [(1, .val (Ty.sl Ty.zA)), (2, .ptr 2 0), (5, .own 5000005 Ty.zA), (34, .val (Ty.sl Ty.zA)), (35, .val T6), (36, .val T6)], boxes := [(2, Ty.zC, [])] } [(Ty.sl Ty.zA), (Ty.sl Ty.zA), (Ty.sl Ty.zA), T6, T6, Ty.zC] (zh (zbk.r0 N) N))] Proofs.Tryz.func135 (hL := ⟨⟨_, _, rfl, by kernel_rfl⟩, trivial⟩)⟩
def ze3 (a0 : zA) : Option Bool :=
 some (a0.Offset != (-1))
def ze3.k : Kq := ⟨244, (cvv [Ty.bool] [Ty.zA] ze3), go [] {} [] Proofs.Tryz.func244⟩
def zp.b0 (N : Nat) (s0 : List zA) (s7 : Int) (s8 : Int) : Option (Round Int ((List zA) × Int × Int)) :=
 cond (decide (s8 < s7)) ((idx s0 s8).bind fun x1001 => (ze3 x1001).bind fun r1002 => cond r1002 (some (.result s8))
  (some (.again (s0, s7, (w6 (s8 + 1)))))) (some (.leave (s0, s7, s8)))
def zp.r0 (N : Nat) (x : (List zA) × Int × Int) := zp.b0 N x.1 x.2.1 x.2.2
def zp (N : Nat) (a0 : List zA) : Option Int :=
 (zg (zp.r0 N) N (a0, (a0.length : Int), 0)).bind fun z2 => zat z2 (fun z => some z) (fun y1 => some (-1))
def zp.k (N : Nat) : Kq := ⟨177, (ctv [.val (Ty.sl Ty.zA), .clo 244 0] [T6] [] [] [(Ty.sl Ty.zA)] (zp N)), go [ze3.k] {} [(0, .rets { slots := [(0, .val (Ty.sl Ty.zA)), (1, .fn 244 []), (7, .val T6), (8, .val T6)], boxes := [] } [(Ty.sl Ty.zA), T6, T6] (zg (zp.r0 N) N))] Proofs.Tryz.func177 (hL := ⟨⟨_, _, rfl, by kernel_rfl⟩, trivial⟩)⟩
def zi.b0 (N : Nat) (s0 : List zA) (s5 : Int) (s6 : Int) : Option (Stp ((List zA) × Int × Int)) :=
 cond (decide (s6 < (s0.length : Int))) (if 0 ≤ s6 then (if s6 < (s0.length : Int) then ((s0[s6.toNat]?).bind fun x1001 => (ze3 x1001).bind fun r1002 => cond (!r1002)
  (if 0 ≤ s5 then (if s5 < (s0.length : Int) then ((s0[s5.toNat]?).bind fun x1003 =>
  some (.again ((s0.set s5.toNat x1001), (w6 (s5 + 1)), (w6 (s6 + 1))))) else none) else none)
  (some (.again (s0, s5, (w6 (s6 + 1)))))) else none) else none) (some (.leave (s0, s5, s6)))
def zi.r0 (N : Nat) (x : (List zA) × Int × Int) := zi.b0 N x.1 x.2.1 x.2.2
def zi (N : Nat) (a0 : List zA) : Option ((List zA)) :=
 (zp N a0).bind fun r1 => cond (r1 == (-1)) (some a0)
  ((zh (zi.r0 N) N (a0, r1, (w6 (r1 + 1)))).bind fun y2 =>
  if 0 ≤ y2.2.1 ∧ y2.2.1 ≤ (y2.1.length : Int) then (if 0 ≤ y2.2.1 ∧ y2.2.1 ≤ ((y2.1.take y2.2.1.toNat ++ List.replicate (y2.1.length - y2.2.1.toNat)
  ((⟨0, (⟨0, 0, 0⟩ : DataType), 0⟩ : zA) : zA)).length : Int) then (if 0 ≤ (0 : Int) ∧ (0 : Int) ≤ y2.2.1 then (some (((y2.1.take y2.2.1.toNat ++ List.replicate (y2.1.length - y2.2.1.toNat)
  ((⟨0, (⟨0, 0, 0⟩ : DataType), 0⟩ : zA) : zA)).drop ((0 : Int).toNat)).take (y2.2.1.toNat - (0 : Int).toNat))) else none) else none) else none)
def zi.k (N : Nat) : Kq := ⟨140, (ctv [.mov Ty.zA, .clo 244 0] [(Ty.sl Ty.zA)] [] [0] [(Ty.sl Ty.zA)] (zi N)), go [zp.k N, ze3.k] {} [(0, .plain { slots := [(0, .own 5000000 Ty.zA), (1, .fn 244 []), (5, .val T6), (6, .val T6)], boxes := [] } [(Ty.sl Ty.zA), T6, T6] (zh (zi.r0 N) N))] Proofs.Tryz.func140 (hL := ⟨⟨_, _, rfl, by kernel_rfl⟩, trivial⟩)⟩
def zhg (N : Nat) (a0 : List zA) : Option ((List zA)) :=
 (zkx 40 a0).bind fun r1 => (zi N r1).bind fun r2 => some r2
def zhg.k (N : Nat) : Kq := ⟨194, (ctv [.val (Ty.sl Ty.zA)] [(Ty.sl Ty.zA)] [] [0] [(Ty.sl Ty.zA)] (zhg N)), go [zi.k N, zqe.k] {} [] Proofs.Tryz.func194⟩
def zd6 (N : Nat) (a0 : DataType) : Option Int :=
 (zd8 N a0).bind fun r1 => some r1.1
def zd6.k (N : Nat) : Kq := ⟨176, (cvv [T6] [Ty.DataType] (zd6 N)), go [zd8.k N] {} [] Proofs.Tryz.func176⟩
def zdu (N : Nat) (a0 : zA) (a1 : Int) (a2 : Int) : Option Bool :=
 (cond (a0.Offset != (-1)) (some (decide (a0.Offset < (w6 (a1 + a2))))) (some false)).bind fun g1 => (cond g1 ((zd6 N a0.zD).bind fun r2 =>
  some (decide (a1 < (w6 (a0.Offset + r2))))) (some false)).bind fun g3 => some g3
def zdu.k (N : Nat) : Kq := ⟨195, (ctv [.val Ty.zA, .ptr T6 false [], .ptr T6 false []] [Ty.bool] [] [] [Ty.zA, T6, T6] (zdu N)), go [zd6.k N] {ro := [1000000, 1000001], pk := [1000000, 1000001]} [] Proofs.Tryz.func195⟩
def zq.b0 (N : Nat) (s0 : List zA) (s7 : Int) (s8 : Int) (b1000000 : Int) (b1000001 : Int) : Option (Round Int ((List zA) × Int × Int × Int × Int)) :=
 cond (decide (s8 < s7)) ((idx s0 s8).bind fun x1001 => (zdu N x1001 b1000000 b1000001).bind fun r1002 => cond r1002 (some (.result s8))
  (some (.again (s0, s7, (w6 (s8 + 1)), b1000000, b1000001)))) (some (.leave (s0, s7, s8, b1000000, b1000001)))
def zq.r0 (N : Nat) (x : (List zA) × Int × Int × Int × Int) := zq.b0 N x.1 x.2.1 x.2.2.1 x.2.2.2.1 x.2.2.2.2
def zq (N : Nat) (a0 : List zA) (a1 : Int) (a2 : Int) : Option Int :=
 (zg (zq.r0 N) N (a0, (a0.length : Int), 0, a1, a2)).bind fun z2 => zat z2 (fun z => some z) (fun y1 => some (-1))
def zq.k (N : Nat) : Kq := ⟨177, (ctv [.val (Ty.sl Ty.zA), .clo 195 2, .ptr T6 false [], .ptr T6 false []] [T6] [] [] [(Ty.sl Ty.zA), T6, T6] (zq N)), go [zdu.k N] {ro := [1000000, 1000001], pk := [1000000, 1000001]} [(0, .rets { slots := [(0, .val (Ty.sl Ty.zA)), (1, .fn 195 [1000000, 1000001]), (7, .val T6), (8, .val T6)], boxes := [(1000000, T6, []), (1000001, T6, [])] } [(Ty.sl Ty.zA), T6, T6, T6, T6] (zg (zq.r0 N) N))] Proofs.Tryz.func177 (hL := ⟨⟨_, _, rfl, by kernel_rfl⟩, trivial⟩)⟩
def zj.b0 (N : Nat) (s0 : List zA) (s5 : Int) (s6 : Int) (b1000000 : Int) (b1000001 : Int) : Option (Stp ((List zA) × Int × Int × Int × Int)) :=
 cond (decide (s6 < (s0.length : Int))) (if 0 ≤ s6 then (if s6 < (s0.length : Int) then ((s0[s6.toNat]?).bind fun x1001 =>
  (zdu N x1001 b1000000 b1000001).bind fun r1002 => cond (!r1002) (if 0 ≤ s5 then (if s5 < (s0.length : Int) then ((s0[s5.toNat]?).bind fun x1003 =>
  some (.again ((s0.set s5.toNat x1001), (w6 (s5 + 1)), (w6 (s6 + 1)), b1000000, b1000001))) else none) else none)
  (some (.again (s0, s5, (w6 (s6 + 1)), b1000000, b1000001)))) else none) else none) (some (.leave (s0, s5, s6, b1000000, b1000001)))
def zj.r0 (N : Nat) (x : (List zA) × Int × Int × Int × Int) := zj.b0 N x.1 x.2.1 x.2.2.1 x.2.2.2.1 x.2.2.2.2
def zj (N : Nat) (a0 : List zA) (a1 : Int) (a2 : Int) : Option ((List zA)) :=
 (zq N a0 a1 a2).bind fun r1 => cond (r1 == (-1)) (some a0)
  ((zh (zj.r0 N) N (a0, r1, (w6 (r1 + 1)), a1, a2)).bind fun y2 =>
  if 0 ≤ y2.2.1 ∧ y2.2.1 ≤ (y2.1.length : Int) then (if 0 ≤ y2.2.1 ∧ y2.2.1 ≤ ((y2.1.take y2.2.1.toNat ++ List.replicate (y2.1.length - y2.2.1.toNat)
  ((⟨0, (⟨0, 0, 0⟩ : DataType), 0⟩ : zA) : zA)).length : Int) then (if 0 ≤ (0 : Int) ∧ (0 : Int) ≤ y2.2.1 then (some (((y2.1.take y2.2.1.toNat ++ List.replicate (y2.1.length - y2.2.1.toNat)
  ((⟨0, (⟨0, 0, 0⟩ : DataType), 0⟩ : zA) : zA)).drop ((0 : Int).toNat)).take (y2.2.1.toNat - (0 : Int).toNat))) else none) else none) else none)
def zj.k (N : Nat) : Kq := ⟨140, (ctv [.mov Ty.zA, .clo 195 2, .ptr T6 false [], .ptr T6 false []] [(Ty.sl Ty.zA)] [] [0] [(Ty.sl Ty.zA), T6, T6] (zj N)), go [zq.k N, zdu.k N] {ro := [1000000, 1000001], pk := [1000000, 1000001]} [(0, .plain { slots := [(0, .own 5000000 Ty.zA), (1, .fn 195 [1000000, 1000001]), (5, .val T6), (6, .val T6)], boxes := [(1000000, T6, []), (1000001, T6, [])] } [(Ty.sl Ty.zA), T6, T6, T6, T6] (zh (zj.r0 N) N))] Proofs.Tryz.func140 (hL := ⟨⟨_, _, rfl, by kernel_rfl⟩, trivial⟩)⟩
def ze5 (N : Nat) (a0 : List zA) (a1 : Int) (a2 : Int) : Option ((List zA)) :=
 (zkx 40 a0).bind fun r1 => (zj N r1 a1 a2).bind fun r2 => some r2
def ze5.k (N : Nat) : Kq := ⟨139, (ctv [.val (Ty.sl Ty.zA), .val T6, .val T6] [(Ty.sl Ty.zA)] [] [0] [(Ty.sl Ty.zA), T6, T6] (ze5 N)), go [zj.k N, zqe.k] {} [] Proofs.Tryz.func139⟩
def zal.b0 (N : Nat) (s0 : List zA) (s7 : Int) (s8 : Int) (b3 : zA) : Option (Round Int ((List zA) × Int × Int × zA)) :=
 cond (decide (s8 < s7)) ((idx s0 s8).bind fun x1001 =>
  cond (zbx [(b3.Register == x1001.Register), (b3.zD.Kind == x1001.zD.Kind), (b3.zD.Length == x1001.zD.Length), (b3.zD.Scale == x1001.zD.Scale), (b3.Offset == x1001.Offset)])
  (some (.result s8)) (some (.again (s0, s7, (w6 (s8 + 1)), b3)))) (some (.leave (s0, s7, s8, b3)))
def zal.r0 (N : Nat) (x : (List zA) × Int × Int × zA) := zal.b0 N x.1 x.2.1 x.2.2.1 x.2.2.2
def zal (N : Nat) (a0 : List zA) (a1 : zA) : Option Int :=
 (zg (zal.r0 N) N (a0, (a0.length : Int), 0, a1)).bind fun z2 => zat z2 (fun z => some z) (fun y1 => some (-1))
def zal.k (N : Nat) : Kq := ⟨153, (cvv [T6] [(Ty.sl Ty.zA), Ty.zA] (zal N)), go [] {} [(0, .rets { slots := [(0, .val (Ty.sl Ty.zA)), (3, .ptr 3 0), (7, .val T6), (8, .val T6)], boxes := [(3, Ty.zA, [])] } [(Ty.sl Ty.zA), T6, T6, Ty.zA] (zg (zal.r0 N) N))] Proofs.Tryz.func153 (hL := ⟨⟨_, _, rfl, by kernel_rfl⟩, trivial⟩)⟩
def zav (N : Nat) (a0 : List zA) (a1 : zA) : Option Bool :=
 (zal N a0 a1).bind fun r1 => some (decide (r1 ≥ 0))
def zav.k (N : Nat) : Kq := ⟨96, (cvv [Ty.bool] [(Ty.sl Ty.zA), Ty.zA] (zav N)), go [zal.k N] {} [] Proofs.Tryz.func96⟩
def zfw (N : Nat) (a0 : zC) (a1 : List zA) : Option ((List zA)) :=
 cond a0.Place.Based ((zhg N a1).bind fun r1 => some r1) ((zd6 N a0.zD).bind fun r2 => (ze5 N a1 a0.Place.Offset r2).bind fun r3 =>
  (cond (a0.Op == 1) ((zav N a1 (⟨a0.R, a0.zD, (-1)⟩ : zA)).bind fun r4 => some r4) (some false)).bind fun g5 =>
  cond g5 (cond (Nat.ble ((r3.length + ([(⟨a0.R, a0.zD, a0.Place.Offset⟩ : zA)] : List zA).length) * 40) zak)
  (some (r3 ++ ([(⟨a0.R, a0.zD, a0.Place.Offset⟩ : zA)] : List zA))) none) (some r3))
def zfw.k (N : Nat) : Kq := ⟨138, (ctv [.val Ty.zC, .val (Ty.sl Ty.zA)] [(Ty.sl Ty.zA)] [] [0] [Ty.zC, (Ty.sl Ty.zA)] (zfw N)), go [zav.k N, ze5.k N, zd6.k N, zhg.k N] {lits := [17, 40]} [] Proofs.Tryz.func138⟩
def zvc : Ct U := { params := [.mov Ty.zA], results := [(Ty.sl Ty.zA)], outs := [], fresh := [0], fn := app U [(Ty.sl Ty.zA)] (R := PT U [(Ty.sl Ty.zA)]) (zmd Proofs.Tryz.ltF Proofs.Tryz.okF) }
theorem zvc.meets : zh5 (zpj [] [] [] [] [] [] [] []) 134 zvc := zwj
def zvc.k : Kq := ⟨134, zvc, zvc.meets⟩
def zek (N : Nat) (a0 : zC) (a1 : List zA) : Option ((List zA)) :=
 cond (a0.Op == 0) ((zbk N a0 a1).bind fun r1 => (zmd Proofs.Tryz.ltF Proofs.Tryz.okF r1).bind fun r2 => some r2) (cond (a0.Op == 4)
  ((zc6 N a1 a0.R).bind fun r3 => cond (Nat.ble ((r3.length + ([(⟨a0.R, a0.zD, (-1)⟩ : zA)] : List zA).length) * 40) zak)
  ((zmd Proofs.Tryz.ltF Proofs.Tryz.okF (r3 ++ ([(⟨a0.R, a0.zD, (-1)⟩ : zA)] : List zA))).bind fun r4 => some r4) none) ((cond (a0.Op == 2) (some (a0.Op == 2))
  (some (a0.Op == 21))).bind fun q5 => cond q5 ((zc6 N a1 a0.R).bind fun r6 => some r6) (cond (a0.Op == 3) ((zc6 N a1 a0.R).bind fun r7 =>
  (zbb N a1 a0.A a0.R).bind fun r8 => cond (Nat.ble ((r7.length + r8.length) * 40) zak) ((zmd Proofs.Tryz.ltF Proofs.Tryz.okF (r7 ++ r8)).bind fun r9 => some r9) none)
  ((cond (a0.Op == 1) (some (a0.Op == 1)) (cond (a0.Op == 9) (some (a0.Op == 9)) (some (a0.Op == 10)))).bind fun q10 => cond q10 ((zfw N a0 a1).bind fun r11 =>
  (zmd Proofs.Tryz.ltF Proofs.Tryz.okF r11).bind fun r12 => some r12) ((cond (a0.Op == 14) (some (a0.Op == 14)) (cond (a0.Op == 15) (some (a0.Op == 15))
  (some (a0.Op == 16)))).bind fun q13 => cond q13 ((ze5 N a1 a0.Pointer 16).bind fun r14 => some r14) (some a1))))))
def zek.k (N : Nat) : Kq := ⟨80, (cvv [(Ty.sl Ty.zA)] [Ty.zC, (Ty.sl Ty.zA)] (zek N)), go [zvc.k, zbk.k N, zc6.k N, zbb.k N, zfw.k N, ze5.k N] {lits := [24, 45], bj := [27, 48, 56]} [] Proofs.Tryz.func80⟩
def ze7 (N : Nat) (a0 : zA) (a1 : List zA) : Option Bool :=
 (zav N a1 a0).bind fun r1 => some (!r1)
def ze7.k (N : Nat) : Kq := ⟨142, (ctv [.val Ty.zA, .ptr (Ty.sl Ty.zA) false []] [Ty.bool] [] [] [Ty.zA, (Ty.sl Ty.zA)] (ze7 N)), go [zav.k N] {ro := [1000000], pk := [1000000]} [] Proofs.Tryz.func142⟩
def za1.b0 (N : Nat) (s0 : List zA) (s7 : Int) (s8 : Int) (b1000000 : List zA) : Option (Round Int ((List zA) × Int × Int × (List zA))) :=
 cond (decide (s8 < s7)) ((idx s0 s8).bind fun x1001 => (ze7 N x1001 b1000000).bind fun r1002 => cond r1002 (some (.result s8))
  (some (.again (s0, s7, (w6 (s8 + 1)), b1000000)))) (some (.leave (s0, s7, s8, b1000000)))
def za1.r0 (N : Nat) (x : (List zA) × Int × Int × (List zA)) := za1.b0 N x.1 x.2.1 x.2.2.1 x.2.2.2
def za1 (N : Nat) (a0 : List zA) (a1 : List zA) : Option Int :=
 (zg (za1.r0 N) N (a0, (a0.length : Int), 0, a1)).bind fun z2 => zat z2 (fun z => some z) (fun y1 => some (-1))
def za1.k (N : Nat) : Kq := ⟨177, (ctv [.val (Ty.sl Ty.zA), .clo 142 1, .ptr (Ty.sl Ty.zA) false []] [T6] [] [] [(Ty.sl Ty.zA), (Ty.sl Ty.zA)] (za1 N)), go [ze7.k N] {ro := [1000000], pk := [1000000]} [(0, .rets { slots := [(0, .val (Ty.sl Ty.zA)), (1, .fn 142 [1000000]), (7, .val T6), (8, .val T6)], boxes := [(1000000, (Ty.sl Ty.zA), [])] } [(Ty.sl Ty.zA), T6, T6, (Ty.sl Ty.zA)] (zg (za1.r0 N) N))] Proofs.Tryz.func177 (hL := ⟨⟨_, _, rfl, by kernel_rfl⟩, trivial⟩)⟩
def zax.b0 (N : Nat) (s0 : List zA) (s5 : Int) (s6 : Int) (b1000000 : List zA) : Option (Stp ((List zA) × Int × Int × (List zA))) :=
 cond (decide (s6 < (s0.length : Int))) (if 0 ≤ s6 then (if s6 < (s0.length : Int) then ((s0[s6.toNat]?).bind fun x1001 => (ze7 N x1001 b1000000).bind fun r1002 =>
  cond (!r1002) (if 0 ≤ s5 then (if s5 < (s0.length : Int) then ((s0[s5.toNat]?).bind fun x1003 =>
  some (.again ((s0.set s5.toNat x1001), (w6 (s5 + 1)), (w6 (s6 + 1)), b1000000))) else none) else none)
  (some (.again (s0, s5, (w6 (s6 + 1)), b1000000)))) else none) else none) (some (.leave (s0, s5, s6, b1000000)))
def zax.r0 (N : Nat) (x : (List zA) × Int × Int × (List zA)) := zax.b0 N x.1 x.2.1 x.2.2.1 x.2.2.2
def zax (N : Nat) (a0 : List zA) (a1 : List zA) : Option ((List zA)) :=
 (za1 N a0 a1).bind fun r1 => cond (r1 == (-1)) (some a0)
  ((zh (zax.r0 N) N (a0, r1, (w6 (r1 + 1)), a1)).bind fun y2 =>
  if 0 ≤ y2.2.1 ∧ y2.2.1 ≤ (y2.1.length : Int) then (if 0 ≤ y2.2.1 ∧ y2.2.1 ≤ ((y2.1.take y2.2.1.toNat ++ List.replicate (y2.1.length - y2.2.1.toNat)
  ((⟨0, (⟨0, 0, 0⟩ : DataType), 0⟩ : zA) : zA)).length : Int) then (if 0 ≤ (0 : Int) ∧ (0 : Int) ≤ y2.2.1 then (some (((y2.1.take y2.2.1.toNat ++ List.replicate (y2.1.length - y2.2.1.toNat)
  ((⟨0, (⟨0, 0, 0⟩ : DataType), 0⟩ : zA) : zA)).drop ((0 : Int).toNat)).take (y2.2.1.toNat - (0 : Int).toNat))) else none) else none) else none)
def zax.k (N : Nat) : Kq := ⟨140, (ctv [.mov Ty.zA, .clo 142 1, .ptr (Ty.sl Ty.zA) false []] [(Ty.sl Ty.zA)] [] [0] [(Ty.sl Ty.zA), (Ty.sl Ty.zA)] (zax N)), go [ze7.k N, za1.k N] {ro := [1000000], pk := [1000000]} [(0, .plain { slots := [(0, .own 5000000 Ty.zA), (1, .fn 142 [1000000]), (5, .val T6), (6, .val T6)], boxes := [(1000000, (Ty.sl Ty.zA), [])] } [(Ty.sl Ty.zA), T6, T6, (Ty.sl Ty.zA)] (zh (zax.r0 N) N))] Proofs.Tryz.func140 (hL := ⟨⟨_, _, rfl, by kernel_rfl⟩, trivial⟩)⟩
def zja (N : Nat) (a0 : List zA) (a1 : List zA) : Option ((List zA)) :=
 (zkx 40 a0).bind fun r1 => (zax N r1 a1).bind fun r2 => some r2
def zja.k (N : Nat) : Kq := ⟨82, (cvv [(Ty.sl Ty.zA)] [(Ty.sl Ty.zA), (Ty.sl Ty.zA)] (zja N)), go [zax.k N, zqe.k] {} [] Proofs.Tryz.func82⟩
def zau.b0 (N : Nat) (s3 : List Bool) (s4 : List Bool) (s5 : List (List zA)) (s6 : List Bool) (s7 : List Int) (s28 : Int) (s29 : Int) (b1 : zF) : Option (Stp ((List Bool) × (List Bool) × (List (List zA)) × (List Bool) × (List Int) × Int × Int × zF)) :=
 cond (decide (s29 < s28)) ((idx s3 s29).bind fun x1001 => (cond x1001 (some true) ((idx s4 s29).bind fun x1002 => some (!x1002))).bind fun g1003 =>
  cond g1003 (if 0 ≤ s29 then (if s29 < (s6.length : Int) then ((s6[s29.toNat]?).bind fun x1004 => cond (Nat.ble ((s7.length + ([s29] : List Int).length) * 8) zak)
  (some (.again (s3, s4, s5, (s6.set s29.toNat true), (s7 ++ ([s29] : List Int)), s28, (w6 (s29 + 1)), b1))) none) else none) else none)
  (some (.again (s3, s4, s5, s6, s7, s28, (w6 (s29 + 1)), b1)))) (some (.leave (s3, s4, s5, s6, s7, s28, s29, b1)))
def zau.r0 (N : Nat) (x : (List Bool) × (List Bool) × (List (List zA)) × (List Bool) × (List Int) × Int × Int × zF) := zau.b0 N x.1 x.2.1 x.2.2.1 x.2.2.2.1 x.2.2.2.2.1 x.2.2.2.2.2.1 x.2.2.2.2.2.2.1 x.2.2.2.2.2.2.2
def zau.b4 (N : Nat) (s3 : List Bool) (s4 : List Bool) (s5 : List (List zA)) (s6 : List Bool) (s10 : List zA) (s71 : List Int) (s72 : Int) (s73 : Int) (s7 : List Int) (b1 : zF) : Option (Stp ((List Bool) × (List Bool) × (List (List zA)) × (List Bool) × (List zA) × (List Int) × Int × Int × (List Int) × zF)) :=
 cond (decide (s73 < s72)) ((idx s71 s73).bind fun x5001 => (idx s3 x5001).bind fun x5002 => (cond x5002 (some true) ((idx s4 x5001).bind fun x5003 =>
  some (!x5003))).bind fun g5004 => cond g5004 (some (.again (s3, s4, s5, s6, s10, s71, s72, (w6 (s73 + 1)), s7, b1)))
  (if 0 ≤ x5001 then (if x5001 < (s6.length : Int) then ((s6[x5001.toNat]?).bind fun x5005 =>
  cond x5005 (if 0 ≤ x5001 then (if x5001 < (s5.length : Int) then ((s5[x5001.toNat]?).bind fun x5006 => (zja N x5006 s10).bind fun r5007 =>
  if 0 ≤ x5001 then (if x5001 < (s6.length : Int) then ((s6[x5001.toNat]?).bind fun x5008 => (cond (!x5008) (some true)
  (if 0 ≤ x5001 then (if x5001 < (s5.length : Int) then ((s5[x5001.toNat]?).bind fun x5009 =>
  some (decide ((r5007.length : Int) < (x5009.length : Int)))) else none) else none)).bind fun g5010 =>
  cond g5010 (if 0 ≤ x5001 then (if x5001 < (s6.length : Int) then ((s6[x5001.toNat]?).bind fun x5011 =>
  if 0 ≤ x5001 then (if x5001 < (s5.length : Int) then ((s5[x5001.toNat]?).bind fun x5012 => cond (Nat.ble ((s7.length + ([x5001] : List Int).length) * 8) zak)
  (some (.again (s3, s4, (s5.set x5001.toNat r5007), (s6.set x5001.toNat true), s10, s71, s72, (w6 (s73 + 1)), (s7 ++ ([x5001] : List Int)), b1))) none) else none) else none) else none) else none)
  (some (.again (s3, s4, s5, s6, s10, s71, s72, (w6 (s73 + 1)), s7, b1)))) else none) else none) else none) else none)
  (if 0 ≤ x5001 then (if x5001 < (s6.length : Int) then ((s6[x5001.toNat]?).bind fun x5013 => (cond (!x5013) (some true)
  (if 0 ≤ x5001 then (if x5001 < (s5.length : Int) then ((s5[x5001.toNat]?).bind fun x5014 =>
  some (decide ((s10.length : Int) < (x5014.length : Int)))) else none) else none)).bind fun g5015 =>
  cond g5015 (if 0 ≤ x5001 then (if x5001 < (s6.length : Int) then ((s6[x5001.toNat]?).bind fun x5016 =>
  if 0 ≤ x5001 then (if x5001 < (s5.length : Int) then ((s5[x5001.toNat]?).bind fun x5017 => cond (Nat.ble ((s7.length + ([x5001] : List Int).length) * 8) zak)
  (some (.again (s3, s4, (s5.set x5001.toNat s10), (s6.set x5001.toNat true), s10, s71, s72, (w6 (s73 + 1)), (s7 ++ ([x5001] : List Int)), b1))) none) else none) else none) else none) else none)
  (some (.again (s3, s4, s5, s6, s10, s71, s72, (w6 (s73 + 1)), s7, b1)))) else none) else none)) else none) else none))
  (some (.leave (s3, s4, s5, s6, s10, s71, s72, s73, s7, b1)))
def zau.r4 (N : Nat) (x : (List Bool) × (List Bool) × (List (List zA)) × (List Bool) × (List zA) × (List Int) × Int × Int × (List Int) × zF) := zau.b4 N x.1 x.2.1 x.2.2.1 x.2.2.2.1 x.2.2.2.2.1 x.2.2.2.2.2.1 x.2.2.2.2.2.2.1 x.2.2.2.2.2.2.2.1 x.2.2.2.2.2.2.2.2.1 x.2.2.2.2.2.2.2.2.2
def zau.b2 (N : Nat) (s3 : List Bool) (s4 : List Bool) (s5 : List (List zA)) (s6 : List Bool) (s7 : List Int) (b1 : zF) : Option (Stp ((List Bool) × (List Bool) × (List (List zA)) × (List Bool) × (List Int) × zF)) :=
 cond (decide ((s7.length : Int) > 0)) (if 0 ≤ (0 : Int) then (if (0 : Int) < (s7.length : Int) then ((s7[(0 : Int).toNat]?).bind fun x3001 =>
  if 0 ≤ (1 : Int) ∧ (1 : Int) ≤ (s7.length : Int) then ((idx b1.zB x3001).bind fun x3002 =>
  if 0 ≤ x3001 then (if x3001 < (s5.length : Int) then ((s5[x3001.toNat]?).bind fun x3003 => (zek N x3002 x3003).bind fun r3004 =>
  (zce b1 x3001).bind fun r3005 =>
  (zh (zau.r4 N) N (s3, s4, s5, s6, r3004, r3005, (r3005.length : Int), 0, (s7.drop ((1 : Int).toNat)), b1)).bind fun y3006 =>
  some (.again (y3006.1, y3006.2.1, y3006.2.2.1, y3006.2.2.2.1, y3006.2.2.2.2.2.2.2.2.1, y3006.2.2.2.2.2.2.2.2.2))) else none) else none) else none) else none) else none)
  (some (.leave (s3, s4, s5, s6, s7, b1)))
def zau.r2 (N : Nat) (x : (List Bool) × (List Bool) × (List (List zA)) × (List Bool) × (List Int) × zF) := zau.b2 N x.1 x.2.1 x.2.2.1 x.2.2.2.1 x.2.2.2.2.1 x.2.2.2.2.2
def zau (N : Nat) (a0 : zF) : Option ((List (List zA))) :=
 (zu N a0).bind fun r1 => (zbo N a0 r1).bind fun r2 =>
  if 0 ≤ (a0.zB.length : Int) then (if (a0.zB.length : Int) ≤ (a0.zB.length : Int) then (cond (Nat.ble ((a0.zB.length : Int).toNat * 24) zak)
  (if 0 ≤ (a0.zB.length : Int) then (if (a0.zB.length : Int) ≤ (a0.zB.length : Int) then (cond (Nat.ble ((a0.zB.length : Int).toNat * 1) zak)
  ((zh (zau.r0 N) N (r1, r2, (List.replicate (a0.zB.length : Int).toNat ([] : List zA)), (List.replicate (a0.zB.length : Int).toNat (false : Bool)), [], ((List.replicate (a0.zB.length : Int).toNat ([] : List zA)).length : Int), 0, a0)).bind fun y3 =>
  (zh (zau.r2 N) N (y3.1, y3.2.1, y3.2.2.1, y3.2.2.2.1, y3.2.2.2.2.1, y3.2.2.2.2.2.2.2)).bind fun y4 =>
  some y4.2.2.1) none) else none) else none) none) else none) else none
def zau.k (N : Nat) : Kq := ⟨31, (cvv [(Ty.sl (Ty.sl Ty.zA))] [Ty.zF] (zau N)), go [zu.k N, zbo.k N, zek.k N, zce.k, zja.k N] {lits := [48, 123]} [(0, .plain { slots := [(1, .ptr 1 0), (3, .val (Ty.sl Ty.bool)), (4, .val (Ty.sl Ty.bool)), (5, .own 5000005 (Ty.sl Ty.zA)), (6, .own 5000006 Ty.bool), (7, .own 5000007 T6), (28, .val T6), (29, .val T6)], boxes := [(1, Ty.zF, [])] } [(Ty.sl Ty.bool), (Ty.sl Ty.bool), (Ty.sl (Ty.sl Ty.zA)), (Ty.sl Ty.bool), (Ty.sl T6), T6, T6, Ty.zF] (zh (zau.r0 N) N)), (4, .plain { slots := [(1, .ptr 1 0), (3, .val (Ty.sl Ty.bool)), (4, .val (Ty.sl Ty.bool)), (5, .own 5000005 (Ty.sl Ty.zA)), (6, .own 5000006 Ty.bool), (10, .val (Ty.sl Ty.zA)), (71, .val (Ty.sl T6)), (72, .val T6), (73, .val T6), (7, .own 5000007 T6)], boxes := [(1, Ty.zF, [])] } [(Ty.sl Ty.bool), (Ty.sl Ty.bool), (Ty.sl (Ty.sl Ty.zA)), (Ty.sl Ty.bool), (Ty.sl Ty.zA), (Ty.sl T6), T6, T6, (Ty.sl T6), Ty.zF] (zh (zau.r4 N) N)), (2, .plain { slots := [(1, .ptr 1 0), (3, .val (Ty.sl Ty.bool)), (4, .val (Ty.sl Ty.bool)), (5, .own 5000005 (Ty.sl Ty.zA)), (6, .own 5000006 Ty.bool), (7, .own 5000007 T6)], boxes := [(1, Ty.zF, [])] } [(Ty.sl Ty.bool), (Ty.sl Ty.bool), (Ty.sl (Ty.sl Ty.zA)), (Ty.sl Ty.bool), (Ty.sl T6), Ty.zF] (zh (zau.r2 N) N))] Proofs.Tryz.func31 (hL := ⟨⟨_, _, rfl, by kernel_rfl⟩, ⟨_, _, rfl, by kernel_rfl⟩, ⟨_, _, rfl, by kernel_rfl⟩, trivial⟩)⟩
def zg2 (a0 : List zA) : Option Bool :=
 some (decide ((a0.length : Int) > 60))
def zg2.k : Kq := ⟨33, (cvv [Ty.bool] [(Ty.sl Ty.zA)] zg2), go [] {} [] Proofs.Tryz.func33⟩
def za2.b0 (N : Nat) (s0 : List (List zA)) (s7 : Int) (s8 : Int) : Option (Round Int ((List (List zA)) × Int × Int)) :=
 cond (decide (s8 < s7)) ((idx s0 s8).bind fun x1001 => (zg2 x1001).bind fun r1002 => cond r1002 (some (.result s8))
  (some (.again (s0, s7, (w6 (s8 + 1)))))) (some (.leave (s0, s7, s8)))
def za2.r0 (N : Nat) (x : (List (List zA)) × Int × Int) := za2.b0 N x.1 x.2.1 x.2.2
def za2 (N : Nat) (a0 : List (List zA)) : Option Int :=
 (zg (za2.r0 N) N (a0, (a0.length : Int), 0)).bind fun z2 => zat z2 (fun z => some z) (fun y1 => some (-1))
def za2.k (N : Nat) : Kq := ⟨83, (ctv [.val (Ty.sl (Ty.sl Ty.zA)), .clo 33 0] [T6] [] [] [(Ty.sl (Ty.sl Ty.zA))] (za2 N)), go [zg2.k] {} [(0, .rets { slots := [(0, .val (Ty.sl (Ty.sl Ty.zA))), (1, .fn 33 []), (7, .val T6), (8, .val T6)], boxes := [] } [(Ty.sl (Ty.sl Ty.zA)), T6, T6] (zg (za2.r0 N) N))] Proofs.Tryz.func83 (hL := ⟨⟨_, _, rfl, by kernel_rfl⟩, trivial⟩)⟩
def zdi (N : Nat) (a0 : List (List zA)) : Option Bool :=
 (za2 N a0).bind fun r1 => some (decide (r1 ≥ 0))
def zdi.k (N : Nat) : Kq := ⟨32, (ctv [.val (Ty.sl (Ty.sl Ty.zA)), .clo 33 0] [Ty.bool] [] [] [(Ty.sl (Ty.sl Ty.zA))] (zdi N)), go [za2.k N] {} [] Proofs.Tryz.func32⟩
def zit (N : Nat) (a0 : zI) (a1 : zF) : Option ((List (List zA)) × Int) :=
 (zcp N a0 a1).bind fun r1 => cond (r1 != 0) (some ([], r1)) ((zau N a1).bind fun r2 => (zdi N r2).bind fun r3 =>
  cond r3 (some ([], 2)) (some (r2, 0)))
def zit.k (N : Nat) : Kq := ⟨9, (cvv [(Ty.sl (Ty.sl Ty.zA)), T6] [Ty.zI, Ty.zF] (zit N)), go [zcp.k N, zau.k N, zdi.k N] {} [] Proofs.Tryz.func9⟩
def zbj (a0 : zC) : Option Bool :=
 (cond (a0.Op == 0) (some (!a0.Place.Based)) (some false)).bind fun g1 => some g1
def zbj.k : Kq := ⟨41, (cvv [Ty.bool] [Ty.zC] zbj), go [] {} [] Proofs.Tryz.func41⟩
def zcj (N : Nat) (a0 : List zA) (a1 : zC) (a2 : Int) : Option Bool :=
 (zav N a0 (⟨a2, a1.zD, a1.Place.Offset⟩ : zA)).bind fun r1 => some r1
def zcj.k (N : Nat) : Kq := ⟨42, (cvv [Ty.bool] [(Ty.sl Ty.zA), Ty.zC, T6] (zcj N)), go [zav.k N] {} [] Proofs.Tryz.func42⟩
def za6.b0 (N : Nat) (s3 : List Int) (s4 : Int) (s8 : List Int) (s9 : Int) (s10 : Int) : Option (Stp ((List Int) × Int × (List Int) × Int × Int)) :=
 cond (decide (s10 < s9)) ((idx s8 s10).bind fun x1001 => cond (x1001 != (-1)) (cond (Nat.ble ((s3.length + ([(w6 (s4 + 1))] : List Int).length) * 8) zak)
  (some (.again ((s3 ++ ([(w6 (s4 + 1))] : List Int)), (w6 (s4 + 1)), s8, s9, (w6 (s10 + 1))))) none)
  (cond (Nat.ble ((s3.length + ([s4] : List Int).length) * 8) zak) (some (.again ((s3 ++ ([s4] : List Int)), s4, s8, s9, (w6 (s10 + 1))))) none))
  (some (.leave (s3, s4, s8, s9, s10)))
def za6.r0 (N : Nat) (x : (List Int) × Int × (List Int) × Int × Int) := za6.b0 N x.1 x.2.1 x.2.2.1 x.2.2.2.1 x.2.2.2.2
def za6 (N : Nat) (a0 : List Int) : Option ((List Int)) :=
 (zh (za6.r0 N) N (([0] : List Int), 0, a0, (a0.length : Int), 0)).bind fun y1 => some y1.1
def za6.k (N : Nat) : Kq := ⟨43, (cvv [(Ty.sl T6)] [(Ty.sl T6)] (za6 N)), go [] {lits := [20]} [(0, .plain { slots := [(3, .own 5000003 T6), (4, .val T6), (8, .val (Ty.sl T6)), (9, .val T6), (10, .val T6)], boxes := [] } [(Ty.sl T6), T6, (Ty.sl T6), T6, T6] (zh (za6.r0 N) N))] Proofs.Tryz.func43 (hL := ⟨⟨_, _, rfl, by kernel_rfl⟩, trivial⟩)⟩
def za5.b0 (N : Nat) (s1 : List Int) (s5 : List zQ) (s8 : List zQ) (s9 : Int) (s10 : Int) : Option (Stp ((List Int) × (List zQ) × (List zQ) × Int × Int)) :=
 cond (decide (s10 < s9)) ((idx s8 s10).bind fun x1001 => (idx s1 x1001.From).bind fun x1002 => (idx s1 x1001.To).bind fun x1003 => (idx s1 x1001.Handler).bind fun x1004 =>
  cond (Nat.ble ((s5.length + ([(⟨x1002, x1003, x1001.Exception, x1004⟩ : zQ)] : List zQ).length) * 32) zak)
  (some (.again (s1, (s5 ++ ([(⟨x1002, x1003, x1001.Exception, x1004⟩ : zQ)] : List zQ)), s8, s9, (w6 (s10 + 1))))) none) (some (.leave (s1, s5, s8, s9, s10)))
def za5.r0 (N : Nat) (x : (List Int) × (List zQ) × (List zQ) × Int × Int) := za5.b0 N x.1 x.2.1 x.2.2.1 x.2.2.2.1 x.2.2.2.2
def za5 (N : Nat) (a0 : List zQ) (a1 : List Int) : Option ((List zQ)) :=
 (zh (za5.r0 N) N (a1, [], a0, (a0.length : Int), 0)).bind fun y1 => some y1.2.1
def za5.k (N : Nat) : Kq := ⟨45, (cvv [(Ty.sl Ty.zQ)] [(Ty.sl Ty.zQ), (Ty.sl T6)] (za5 N)), go [] {lits := [33]} [(0, .plain { slots := [(1, .val (Ty.sl T6)), (5, .own 5000005 Ty.zQ), (8, .val (Ty.sl Ty.zQ)), (9, .val T6), (10, .val T6)], boxes := [] } [(Ty.sl T6), (Ty.sl Ty.zQ), (Ty.sl Ty.zQ), T6, T6] (zh (za5.r0 N) N))] Proofs.Tryz.func45 (hL := ⟨⟨_, _, rfl, by kernel_rfl⟩, trivial⟩)⟩
def zdy.b0 (N : Nat) (s0 : List zA) (s11 : List zA) (s12 : Int) (s13 : Int) (b3 : zC) (b4 : zC) : Option (Round zC ((List zA) × (List zA) × Int × Int × zC × zC)) :=
 cond (decide (s13 < s12)) ((idx s11 s13).bind fun x1001 => (cond (x1001.Register != b3.R) ((zcj N s0 b3 x1001.Register).bind fun r1002 => some r1002)
  (some false)).bind fun g1003 =>
  cond g1003 (some (.result (⟨3, b3.R, x1001.Register, 0, 0, (⟨false, 0, 0⟩ : zL), (⟨false, 0, 0⟩ : zL), (⟨0, 0, 0⟩ : DataType), (⟨0, 0, 0⟩ : DataType), false, false, (⟨0, 0⟩ : Number), (⟨#[]⟩ : ByteArray), (⟨#[]⟩ : ByteArray), 0, 0, 0, 0⟩ : zC)))
  (some (.again (s0, s11, s12, (w6 (s13 + 1)), b3, b4)))) (some (.leave (s0, s11, s12, s13, b3, b4)))
def zdy.r0 (N : Nat) (x : (List zA) × (List zA) × Int × Int × zC × zC) := zdy.b0 N x.1 x.2.1 x.2.2.1 x.2.2.2.1 x.2.2.2.2.1 x.2.2.2.2.2
def zdy (N : Nat) (a0 : List zA) (a1 : zC) : Option zC :=
 (zbj a1).bind fun r1 => cond (!r1) (some a1)
  ((zg (zdy.r0 N) N (a0, a0, (a0.length : Int), 0, a1, (⟨0, 0, 0, 0, 0, (⟨false, 0, 0⟩ : zL), (⟨false, 0, 0⟩ : zL), (⟨0, 0, 0⟩ : DataType), (⟨0, 0, 0⟩ : DataType), false, false, (⟨0, 0⟩ : Number), (⟨#[]⟩ : ByteArray), (⟨#[]⟩ : ByteArray), 0, 0, 0, 0⟩ : zC))).bind fun z3 =>
  zat z3 (fun z => some z) (fun y2 => some y2.2.2.2.2.1))
def zdy.k (N : Nat) : Kq := ⟨47, (cvv [Ty.zC] [(Ty.sl Ty.zA), Ty.zC] (zdy N)), go [zbj.k, zcj.k N] {} [(0, .rets { slots := [(0, .val (Ty.sl Ty.zA)), (3, .ptr 3 0), (4, .ptr 4 0), (11, .val (Ty.sl Ty.zA)), (12, .val T6), (13, .val T6)], boxes := [(3, Ty.zC, []), (4, Ty.zC, [])] } [(Ty.sl Ty.zA), (Ty.sl Ty.zA), T6, T6, Ty.zC, Ty.zC] (zg (zdy.r0 N) N))] Proofs.Tryz.func47 (hL := ⟨⟨_, _, rfl, by kernel_rfl⟩, trivial⟩)⟩
def zej (a0 : zC) (a1 : List Int) : Option zC :=
 (zcy a0.Op).bind fun r1 => cond r1 ((idx a1 a0.Target).bind fun x2 =>
  some (⟨a0.Op, a0.R, a0.A, a0.B, a0.zM, a0.Place, a0.From, a0.zD, a0.Second, a0.Half, a0.zK, a0.Number, a0.Text, a0.Other, a0.Mask, x2, a0.Pointer, a0.Source⟩ : zC))
  (some a0)
def zej.k : Kq := ⟨46, (cvv [Ty.zC] [Ty.zC, (Ty.sl T6)] zej), go [zcy.k] {} [] Proofs.Tryz.func46⟩
def x44 : Ct U := { params := [.val (Ty.sl Ty.bool)], results := [(Ty.sl Ty.bool)], outs := [], fresh := [0], fn := app U [(Ty.sl Ty.bool)] (R := PT U [(Ty.sl Ty.bool)]) (zkx 1) }
theorem x44.meets : zh5 (zpj [] [] [] [] [] [] [] []) 44 x44 :=
 zs7 zwp (zxr (l := []) rfl all_nil) (zws (l := []) rfl all_nil) (Lp := pick []) Proofs.Tryz.func44 (by kernel_rfl) (zxw (l := []) rfl all_nil) (fun y => by kernel_rfl) (e := 4) (t := Ty.bool) rfl rfl rfl rfl rfl rfl rfl (by kernel_rfl) rfl rfl rfl rfl rfl rfl (fun xs => by kernel_rfl) fun ds y h => by
  obtain ⟨xs, rfl, hx⟩ := z1a h; refine ⟨xs, rfl, fun b hb => ?_⟩; cases b with
  | true =>
   have := hb rfl; subst this; exact Eq.trans (by kernel_rfl) hx
  | false => exact Eq.trans (b := cond (Nat.ble ((0 + xs.length) * 1) zak) (some xs) none) (by kernel_rfl) (by rw [Nat.zero_add]; exact hx)
def x44.k : Kq := ⟨44, x44, x44.meets⟩
def zbl.b0 (N : Nat) (s7 : List (List zA)) (s9 : List Int) (s10 : Int) (s29 : List zC) (s30 : Int) (s31 : Int) (b3 : zF) (b4 : zF) (b5 : zV) : Option (Stp ((List (List zA)) × (List Int) × Int × (List zC) × Int × Int × zF × zF × zV)) :=
 cond (decide (s31 < s30)) ((idx s29 s31).bind fun x1001 => (cond (decide (s31 < (w6 ((b3.zB.length : Int) - 1))))
  ((zbj x1001).bind fun r1002 => some r1002) (some false)).bind fun g1003 => (cond g1003 ((idx s7 s31).bind fun x1004 =>
  (zcj N x1004 x1001 x1001.R).bind fun r1005 => some r1005) (some false)).bind fun g1006 =>
  cond g1006 (cond (Nat.ble ((s9.length + ([(-1)] : List Int).length) * 8) zak)
  (some (.again (s7, (s9 ++ ([(-1)] : List Int)), s10, s29, s30, (w6 (s31 + 1)), b3, b4, b5))) none)
  (cond (Nat.ble ((s9.length + ([s10] : List Int).length) * 8) zak)
  (some (.again (s7, (s9 ++ ([s10] : List Int)), (w6 (s10 + 1)), s29, s30, (w6 (s31 + 1)), b3, b4, b5))) none))
  (some (.leave (s7, s9, s10, s29, s30, s31, b3, b4, b5)))
def zbl.r0 (N : Nat) (x : (List (List zA)) × (List Int) × Int × (List zC) × Int × Int × zF × zF × zV) := zbl.b0 N x.1 x.2.1 x.2.2.1 x.2.2.2.1 x.2.2.2.2.1 x.2.2.2.2.2.1 x.2.2.2.2.2.2.1 x.2.2.2.2.2.2.2.1 x.2.2.2.2.2.2.2.2
def zbl.b2 (N : Nat) (s7 : List (List zA)) (s9 : List Int) (s13 : List Int) (s82 : List zC) (s83 : Int) (s84 : Int) (b4 : zF) (b5 : zV) (b14 : zF) : Option (Stp ((List (List zA)) × (List Int) × (List Int) × (List zC) × Int × Int × zF × zV × zF)) :=
 cond (decide (s84 < s83)) ((idx s82 s84).bind fun x3001 => (idx s9 s84).bind fun x3002 => cond (x3002 != (-1)) ((idx s7 s84).bind fun x3003 =>
  (zdy N x3003 x3001).bind fun r3004 => (zej r3004 s13).bind fun r3005 =>
  cond (Nat.ble ((b14.zB.length + ([r3005] : List zC).length) * 224) zak)
  (some (.again (s7, s9, s13, s82, s83, (w6 (s84 + 1)), b4, b5, (⟨b14.Storage, (b14.zB ++ ([r3005] : List zC)), b14.zP⟩ : zF)))) none)
  (some (.again (s7, s9, s13, s82, s83, (w6 (s84 + 1)), b4, b5, b14)))) (some (.leave (s7, s9, s13, s82, s83, s84, b4, b5, b14)))
def zbl.r2 (N : Nat) (x : (List (List zA)) × (List Int) × (List Int) × (List zC) × Int × Int × zF × zV × zF) := zbl.b2 N x.1 x.2.1 x.2.2.1 x.2.2.2.1 x.2.2.2.2.1 x.2.2.2.2.2.1 x.2.2.2.2.2.2.1 x.2.2.2.2.2.2.2.1 x.2.2.2.2.2.2.2.2
def zbl (N : Nat) (a0 : zI) (a1 : zF) : Option (zF × zV × Int) :=
 (zit N a0 a1).bind fun r1 => cond (r1.2 != 0) (some ((⟨(⟨(⟨#[]⟩ : ByteArray), []⟩ : Storage), [], []⟩ : zF), (⟨[], []⟩ : zV), r1.2))
  ((zh (zbl.r0 N) N (r1.1, [], 0, a1.zB, (a1.zB.length : Int), 0, a1, (⟨(⟨(⟨#[]⟩ : ByteArray), []⟩ : Storage), [], []⟩ : zF), (⟨[], []⟩ : zV))).bind fun y2 =>
  (za6 N y2.2.1).bind fun r3 => (zkx 1 y2.2.2.2.2.2.2.1.Storage.Tags).bind fun r4 => (za5 N y2.2.2.2.2.2.2.1.zP r3).bind fun r5 =>
  (zh (zbl.r2 N) N (y2.1, y2.2.1, r3, y2.2.2.2.2.2.2.1.zB, (y2.2.2.2.2.2.2.1.zB.length : Int), 0, y2.2.2.2.2.2.2.2.1, y2.2.2.2.2.2.2.2.2, (⟨(⟨y2.2.2.2.2.2.2.1.Storage.Bytes, r4⟩ : Storage), [], r5⟩ : zF))).bind fun y6 =>
  some (y6.2.2.2.2.2.2.2.2, (⟨y6.1, y6.2.1⟩ : zV), 0))
def zbl.k (N : Nat) : Kq := ⟨14, (cvv [Ty.zF, Ty.zV, T6] [Ty.zI, Ty.zF] (zbl N)), go [zit.k N, zbj.k, zcj.k N, za6.k N, x44.k, za5.k N, zej.k, zdy.k N] {lits := [57, 61, 101, 103, 104]} [(0, .plain { slots := [(3, .ptr 3 0), (4, .ptr 4 0), (5, .ptr 5 0), (7, .val (Ty.sl (Ty.sl Ty.zA))), (9, .own 5000009 T6), (10, .val T6), (29, .val (Ty.sl Ty.zC)), (30, .val T6), (31, .val T6)], boxes := [(3, Ty.zF, []), (4, Ty.zF, [1, 2, 3]), (5, Ty.zV, [0, 1])] } [(Ty.sl (Ty.sl Ty.zA)), (Ty.sl T6), T6, (Ty.sl Ty.zC), T6, T6, Ty.zF, Ty.zF, Ty.zV] (zh (zbl.r0 N) N)), (2, .plain { slots := [(4, .ptr 4 0), (5, .ptr 5 0), (7, .val (Ty.sl (Ty.sl Ty.zA))), (9, .val (Ty.sl T6)), (13, .val (Ty.sl T6)), (14, .ptr 14 0), (82, .val (Ty.sl Ty.zC)), (83, .val T6), (84, .val T6)], boxes := [(4, Ty.zF, [1, 2, 3]), (5, Ty.zV, [0, 1]), (14, Ty.zF, [1, 2])] } [(Ty.sl (Ty.sl Ty.zA)), (Ty.sl T6), (Ty.sl T6), (Ty.sl Ty.zC), T6, T6, Ty.zF, Ty.zV, Ty.zF] (zh (zbl.r2 N) N))] Proofs.Tryz.func14 (hL := ⟨⟨_, _, rfl, by kernel_rfl⟩, ⟨_, _, rfl, by kernel_rfl⟩, trivial⟩)⟩
def zm0  : Option zJ :=
 some (⟨([(⟨(⟨#[65]⟩ : ByteArray), 0, (⟨1, 3, 0⟩ : DataType), (⟨7, (⟨#[]⟩ : ByteArray)⟩ : Value), (⟨#[]⟩ : ByteArray), 0, 0⟩ : zH), (⟨(⟨#[79, 78, 69]⟩ : ByteArray), 4, (⟨1, 1, 0⟩ : DataType), (⟨1, (⟨#[]⟩ : ByteArray)⟩ : Value), (⟨#[]⟩ : ByteArray), 0, 0⟩ : zH)] : List zH), ([(⟨2, ([0, 0, 1] : List Int)⟩ : zO), (⟨17, ([0] : List Int)⟩ : zO), (⟨18, []⟩ : zO)] : List zO), []⟩ : zJ)
def zm0.k : Kq := ⟨28, (cvv [Ty.zJ] [] zm0), go [] {lits := [8, 10]} [] Proofs.Tryz.func28⟩
def zb2 (a0 : Bool) (a1 : Int) : Option Int :=
 cond a0 (some a1) (some 0)
def zb2.k : Kq := ⟨155, (cvv [T6] [Ty.bool, T6] zb2), go [] {} [] Proofs.Tryz.func155⟩
def zcz.b0 (N : Nat) (s5 : List Int) (s6 : Int) (s7 : Int) : Option (Round Int ((List Int) × Int × Int)) :=
 cond (decide (s7 < s6)) ((idx s5 s7).bind fun x1001 => cond (x1001 != 0) (some (.result x1001)) (some (.again (s5, s6, (w6 (s7 + 1)))))) (some (.leave (s5, s6, s7)))
def zcz.r0 (N : Nat) (x : (List Int) × Int × Int) := zcz.b0 N x.1 x.2.1 x.2.2
def zcz (N : Nat) (a0 : List Int) : Option Int :=
 (zg (zcz.r0 N) N (a0, (a0.length : Int), 0)).bind fun z2 => zat z2 (fun z => some z) (fun y1 => some 0)
def zcz.k (N : Nat) : Kq := ⟨154, (cvv [T6] [(Ty.sl T6)] (zcz N)), go [] {} [(0, .rets { slots := [(5, .val (Ty.sl T6)), (6, .val T6), (7, .val T6)], boxes := [] } [(Ty.sl T6), T6, T6] (zg (zcz.r0 N) N))] Proofs.Tryz.func154 (hL := ⟨⟨_, _, rfl, by kernel_rfl⟩, trivial⟩)⟩
def zew.b0 (N : Nat) (s15 : List Int) (s16 : Int) (s17 : Int) : Option (Round Bool ((List Int) × Int × Int)) :=
 cond (decide (s17 < s16)) (if 0 ≤ s17 then (if s17 < (s15.length : Int) then ((s15[s17.toNat]?).bind fun x1001 => (cond (decide (65 ≤ x1001)) (some (decide (x1001 ≤ 90)))
  (some false)).bind fun g1002 => (cond g1002 (some true) (some (x1001 == 35))).bind fun g1003 => (cond g1003 (some true) (some (x1001 == 36))).bind fun g1004 =>
  (cond g1004 (some true) (some (x1001 == 64))).bind fun g1005 => (cond (decide (48 ≤ x1001)) (some (decide (x1001 ≤ 57))) (some false)).bind fun g1006 => (cond g1006 (some true)
  (some (x1001 == 95))).bind fun g1007 => (cond g1007 (some true) (some (x1001 == 46))).bind fun g1008 => (cond (!g1005) ((cond (s17 == 0) (some true)
  (some (!g1008))).bind fun g1009 => some g1009) (some false)).bind fun g1010 => cond g1010 (some (.result false))
  (some (.again (s15, s16, (w6 (s17 + 1)))))) else none) else none) (some (.leave (s15, s16, s17)))
def zew.r0 (N : Nat) (x : (List Int) × Int × Int) := zew.b0 N x.1 x.2.1 x.2.2
def zew (N : Nat) (a0 : ByteArray) : Option Bool :=
 (cond (a0.toList == (⟨#[]⟩ : ByteArray).toList) (some true) (some (decide ((a0.size : Int) > 10)))).bind fun g1 => cond g1 (some false)
  ((zg (zew.r0 N) N ((zjs a0), ((zjs a0).length : Int), 0)).bind fun z3 => zat z3 (fun z => some z) (fun y2 => some true))
def zew.k (N : Nat) : Kq := ⟨199, (cvv [Ty.bool] [Ty.str] (zew N)), go [] {} [(0, .rets { slots := [(15, .own 5000015 (Ty.int .u8)), (16, .val T6), (17, .val T6)], boxes := [] } [(Ty.sl (Ty.int .u8)), T6, T6] (zg (zew.r0 N) N))] Proofs.Tryz.func199 (hL := ⟨⟨_, _, rfl, by kernel_rfl⟩, trivial⟩)⟩
def zje (a0 : zH) (a1 : ByteArray) : Option Bool :=
 some (a0.Name.toList == a1.toList)
def zje.k : Kq := ⟨208, (ctv [.val Ty.zH, .ptr Ty.str false []] [Ty.bool] [] [] [Ty.zH, Ty.str] zje), go [] {ro := [1000000], pk := [1000000]} [] Proofs.Tryz.func208⟩
def zaq.b0 (N : Nat) (s0 : List zH) (s7 : Int) (s8 : Int) (b1000000 : ByteArray) : Option (Round Int ((List zH) × Int × Int × ByteArray)) :=
 cond (decide (s8 < s7)) ((idx s0 s8).bind fun x1001 => (zje x1001 b1000000).bind fun r1002 => cond r1002 (some (.result s8))
  (some (.again (s0, s7, (w6 (s8 + 1)), b1000000)))) (some (.leave (s0, s7, s8, b1000000)))
def zaq.r0 (N : Nat) (x : (List zH) × Int × Int × ByteArray) := zaq.b0 N x.1 x.2.1 x.2.2.1 x.2.2.2
def zaq (N : Nat) (a0 : List zH) (a1 : ByteArray) : Option Int :=
 (zg (zaq.r0 N) N (a0, (a0.length : Int), 0, a1)).bind fun z2 => zat z2 (fun z => some z) (fun y1 => some (-1))
def zaq.k (N : Nat) : Kq := ⟨207, (ctv [.val (Ty.sl Ty.zH), .clo 208 1, .ptr Ty.str false []] [T6] [] [] [(Ty.sl Ty.zH), Ty.str] (zaq N)), go [zje.k] {ro := [1000000], pk := [1000000]} [(0, .rets { slots := [(0, .val (Ty.sl Ty.zH)), (1, .fn 208 [1000000]), (7, .val T6), (8, .val T6)], boxes := [(1000000, Ty.str, [])] } [(Ty.sl Ty.zH), T6, T6, Ty.str] (zg (zaq.r0 N) N))] Proofs.Tryz.func207 (hL := ⟨⟨_, _, rfl, by kernel_rfl⟩, trivial⟩)⟩
def zf3 (N : Nat) (a0 : List zH) (a1 : ByteArray) : Option Int :=
 (zaq N a0 a1).bind fun r1 => some r1
def zf3.k (N : Nat) : Kq := ⟨161, (cvv [T6] [(Ty.sl Ty.zH), Ty.str] (zf3 N)), go [zaq.k N] {} [] Proofs.Tryz.func161⟩
def zdz (a0 : Int) (a1 : Int) (a2 : Int) : Option Bool :=
 (cond (decide (a1 ≤ a0)) (some (decide (a0 ≤ a2))) (some false)).bind fun g1 => some g1
def zdz.k : Kq := ⟨200, (cvv [Ty.bool] [T6, T6, T6] zdz), go [] {} [] Proofs.Tryz.func200⟩
def zfp (a0 : zH) : Option Bool :=
 (cond (a0.Kind == 0) (some true) (some (a0.Kind == 1))).bind fun g1 => (cond g1 (some true) (some (a0.Kind == 2))).bind fun g2 => (cond g2 (some true)
  (some (a0.Kind == 4))).bind fun g3 => some g3
def zfp.k : Kq := ⟨202, (cvv [Ty.bool] [Ty.zH] zfp), go [] {} [] Proofs.Tryz.func202⟩
def zl2 (a0 : zH) : Option zH :=
 (zfp a0).bind fun r1 => cond r1 ((cond (a0.Kind == 0) (some (a0.Kind == 0)) (some (a0.Kind == 4))).bind fun q2 =>
  cond q2 (some (⟨a0.Name, a0.Kind, a0.zD, a0.Value, (⟨#[]⟩ : ByteArray), 0, 0⟩ : zH)) ((cond (a0.Kind == 1) (some (a0.Kind == 1)) (some (a0.Kind == 2))).bind fun q3 =>
  cond q3 (some (⟨a0.Name, a0.Kind, a0.zD, (⟨0, (⟨#[]⟩ : ByteArray)⟩ : Value), a0.Base, a0.Offset, 0⟩ : zH)) (cond (a0.Kind == 5)
  (some (⟨a0.Name, a0.Kind, a0.zD, (⟨0, (⟨#[]⟩ : ByteArray)⟩ : Value), (⟨#[]⟩ : ByteArray), 0, a0.Target⟩ : zH))
  (some (⟨a0.Name, a0.Kind, a0.zD, (⟨0, (⟨#[]⟩ : ByteArray)⟩ : Value), (⟨#[]⟩ : ByteArray), 0, 0⟩ : zH))))) ((cond (a0.Kind == 0) (some (a0.Kind == 0))
  (some (a0.Kind == 4))).bind fun q4 => cond q4 (some (⟨a0.Name, a0.Kind, (⟨0, 0, 0⟩ : DataType), a0.Value, (⟨#[]⟩ : ByteArray), 0, 0⟩ : zH)) ((cond (a0.Kind == 1)
  (some (a0.Kind == 1)) (some (a0.Kind == 2))).bind fun q5 =>
  cond q5 (some (⟨a0.Name, a0.Kind, (⟨0, 0, 0⟩ : DataType), (⟨0, (⟨#[]⟩ : ByteArray)⟩ : Value), a0.Base, a0.Offset, 0⟩ : zH)) (cond (a0.Kind == 5)
  (some (⟨a0.Name, a0.Kind, (⟨0, 0, 0⟩ : DataType), (⟨0, (⟨#[]⟩ : ByteArray)⟩ : Value), (⟨#[]⟩ : ByteArray), 0, a0.Target⟩ : zH))
  (some (⟨a0.Name, a0.Kind, (⟨0, 0, 0⟩ : DataType), (⟨0, (⟨#[]⟩ : ByteArray)⟩ : Value), (⟨#[]⟩ : ByteArray), 0, 0⟩ : zH)))))
def zl2.k : Kq := ⟨201, (cvv [Ty.zH] [Ty.zH] zl2), go [zfp.k] {bj := [16, 22]} [] Proofs.Tryz.func201⟩
def zfl.b0 (N : Nat) (s3 : Int) (s5 : Int) (s6 : Int) : Option (Stp (Int × Int × Int)) :=
 cond (decide (s6 < s5)) (some (.again ((w6 (s3 * 10)), s5, (w6 (s6 + 1))))) (some (.leave (s3, s5, s6)))
def zfl.r0 (N : Nat) (x : Int × Int × Int) := zfl.b0 N x.1 x.2.1 x.2.2
def zfl (N : Nat) (a0 : Int) : Option Int :=
 (zh (zfl.r0 N) N (1, (if 18 < a0 then 18 else a0), 0)).bind fun y1 => some y1.1
def zfl.k (N : Nat) : Kq := ⟨216, (cvv [T6] [T6] (zfl N)), go [] {} [(0, .plain { slots := [(3, .val T6), (5, .val T6), (6, .val T6)], boxes := [] } [T6, T6, T6] (zh (zfl.r0 N) N))] Proofs.Tryz.func216 (hL := ⟨⟨_, _, rfl, by kernel_rfl⟩, trivial⟩)⟩
def zep (N : Nat) (a0 : DataType) (a1 : Value) : Option Int :=
 (zbp N a0).bind fun r1 => (zbu (a0.Kind == 4) 17).bind fun r2 => (za0 N ([r1, r2] : List Int)).bind fun r3 => cond (r3 != 0) (some r3)
  (cond (a0.Kind == 0) ((zbu (a1.N != 0) 5).bind fun r4 => (zbu ((a1.S.size : Int) != a0.Length) 18).bind fun r5 =>
  (za0 N ([r4, r5] : List Int)).bind fun r6 => some r6) ((zfl N a0.Length).bind fun r7 =>
  (zbu (!(a1.S.toList == (⟨#[]⟩ : ByteArray).toList)) 5).bind fun r8 => (zed a1.N (w6 (0 - (w6 (r7 - 1))))
  (w6 (r7 - 1))).bind fun r9 => (zbu (!r9) 19).bind fun r10 => (za0 N ([r8, r10] : List Int)).bind fun r11 => some r11))
def zep.k (N : Nat) : Kq := ⟨164, (cvv [T6] [Ty.DataType, Ty.Value] (zep N)), go [zbp.k N, za0.k N, zbu.k, zfl.k N, zed.k] {lits := [8, 12, 13, 24, 31, 32, 41, 49, 50]} [] Proofs.Tryz.func164⟩
def zhu (N : Nat) (a0 : zH) : Option Int :=
 (zd8 N a0.zD).bind fun r1 => some r1.1
def zhu.k (N : Nat) : Kq := ⟨160, (cvv [T6] [Ty.zH] (zhu N)), go [zd8.k N] {} [] Proofs.Tryz.func160⟩
def zie (N : Nat) (a0 : zH) (a1 : List zH) : Option Int :=
 (zf3 N a1 a0.Base).bind fun r1 => cond (decide (r1 < 0)) (some 11) ((idx a1 r1).bind fun x2 => cond (a0.Kind == 2) ((zb2 (x2.Kind != 3) 17).bind fun r3 =>
  (zdz a0.Offset 0 256).bind fun r4 => (zb2 (!r4) 3).bind fun r5 => (zcz N ([r3, r5] : List Int)).bind fun r6 => some r6) (cond (x2.Kind != 0) (some 17)
  ((zhu N x2).bind fun r7 => (zhu N a0).bind fun r8 => (zdz a0.Offset 0 (w6 (r7 - r8))).bind fun r9 => (zb2 (!r9) 3).bind fun r10 =>
  some r10)))
def zie.k (N : Nat) : Kq := ⟨203, (cvv [T6] [Ty.zH, (Ty.sl Ty.zH)] (zie N)), go [zcz.k N, zb2.k, zhu.k N, zf3.k N, zdz.k] {lits := [23, 28, 29]} [] Proofs.Tryz.func203⟩
def zic (N : Nat) (a0 : zJ) (a1 : Int) : Option Int :=
 (idx a0.zS a1).bind fun x1 => if 0 ≤ a1 ∧ a1 ≤ (a0.zS.length : Int) then (if 0 ≤ (0 : Int) ∧ (0 : Int) ≤ a1 then ((zew N x1.Name).bind fun r2 =>
  (zb2 (!r2) 7).bind fun r3 => (zf3 N ((a0.zS.take a1.toNat).drop (0 : Int).toNat) x1.Name).bind fun r4 =>
  (zb2 (decide (r4 ≥ 0)) 13).bind fun r5 => (zdz x1.Kind 0 5).bind fun r6 => (zb2 (!r6) 4).bind fun r7 => (zl2 x1).bind fun r8 =>
  (zb2 (!(zbx [(r8.Name == x1.Name), (r8.Kind == x1.Kind), (r8.zD.Kind == x1.zD.Kind), (r8.zD.Length == x1.zD.Length), (r8.zD.Scale == x1.zD.Scale), (r8.Value.N == x1.Value.N), (r8.Value.S == x1.Value.S), (r8.Base == x1.Base), (r8.Offset == x1.Offset), (r8.Target == x1.Target)])) 5).bind fun r9 =>
  (zcz N ([r3, r5, r7, r9] : List Int)).bind fun r10 => cond (r10 != 0) (some r10) ((zfp x1).bind fun r11 =>
  cond r11 ((zbp N x1.zD).bind fun r12 => (zb2 (x1.zD.Kind == 4) 17).bind fun r13 => (zcz N ([r12, r13] : List Int)).bind fun r14 =>
  cond (r14 != 0) (some r14) ((cond (x1.Kind == 0) (some (x1.Kind == 0)) (some (x1.Kind == 4))).bind fun q15 => cond q15 ((zep N x1.zD x1.Value).bind fun r16 =>
  some r16) ((cond (x1.Kind == 1) (some (x1.Kind == 1)) (some (x1.Kind == 2))).bind fun q17 =>
  cond q17 ((zie N x1 ((a0.zS.take a1.toNat).drop (0 : Int).toNat)).bind fun r18 => some r18) (cond (x1.Kind == 5)
  ((zdz x1.Target 0 (w6 ((a0.zB.length : Int) - 1))).bind fun r19 => (zb2 (!r19) 3).bind fun r20 => some r20) (some 0)))))
  ((cond (x1.Kind == 0) (some (x1.Kind == 0)) (some (x1.Kind == 4))).bind fun q21 => cond q21 ((zep N x1.zD x1.Value).bind fun r22 => some r22)
  ((cond (x1.Kind == 1) (some (x1.Kind == 1)) (some (x1.Kind == 2))).bind fun q23 =>
  cond q23 ((zie N x1 ((a0.zS.take a1.toNat).drop (0 : Int).toNat)).bind fun r24 => some r24) (cond (x1.Kind == 5)
  ((zdz x1.Target 0 (w6 ((a0.zB.length : Int) - 1))).bind fun r25 => (zb2 (!r25) 3).bind fun r26 => some r26)
  (some 0)))))) else none) else none
def zic.k (N : Nat) : Kq := ⟨156, (cvv [T6] [Ty.zJ, T6] (zic N)), go [zcz.k N, zb2.k, zf3.k N, zep.k N, zbp.k N, zew.k N, zdz.k, zl2.k, zfp.k, zie.k N] {lits := [22, 28, 33, 38, 39, 48, 53, 54], bj := [61, 69]} [] Proofs.Tryz.func156⟩
def zj3 (a0 : Int) (a1 : Int) : Option (Int × Int) :=
 some ((IntKind.wrap .u64 ((IntKind.wrap .u64 ((IntKind.wrap .u64 ((a0.fdiv (2 ^ (min (32 : Int).toNat 64))) * (a1.fdiv (2 ^ (min (32 : Int).toNat 64))))) + ((IntKind.wrap .u64 ((IntKind.wrap .u64 ((a0.fdiv (2 ^ (min (32 : Int).toNat 64))) * (zm .u64 a1 4294967295))) + ((IntKind.wrap .u64 ((zm .u64 a0 4294967295) * (zm .u64 a1 4294967295))).fdiv (2 ^ (min (32 : Int).toNat 64))))).fdiv (2 ^ (min (32 : Int).toNat 64))))) + ((IntKind.wrap .u64 ((zm .u64 (IntKind.wrap .u64 ((IntKind.wrap .u64 ((a0.fdiv (2 ^ (min (32 : Int).toNat 64))) * (zm .u64 a1 4294967295))) + ((IntKind.wrap .u64 ((zm .u64 a0 4294967295) * (zm .u64 a1 4294967295))).fdiv (2 ^ (min (32 : Int).toNat 64))))) 4294967295) + (IntKind.wrap .u64 ((zm .u64 a0 4294967295) * (a1.fdiv (2 ^ (min (32 : Int).toNat 64))))))).fdiv (2 ^ (min (32 : Int).toNat 64))))), (IntKind.wrap .u64 (a0 * a1)))
def zj3.k : Kq := ⟨249, (cvv [(Ty.int .u64), (Ty.int .u64)] [(Ty.int .u64), (Ty.int .u64)] zj3), go [] {} [] Proofs.Tryz.func249⟩
def zk7 (a0 : Int) (a1 : Int) : Option (Int × Int) :=
 (zj3 a0 a1).bind fun r1 => some (r1.1, r1.2)
def zk7.k : Kq := ⟨205, (cvv [(Ty.int .u64), (Ty.int .u64)] [(Ty.int .u64), (Ty.int .u64)] zk7), go [zj3.k] {} [] Proofs.Tryz.func205⟩
def zdn.b0 (N : Nat) (s7 : List Int) (s8 : Int) : Option (Stp ((List Int) × Int)) :=
 cond (decide (s8 < (s7.length : Int)))
  (if 0 ≤ s8 ∧ s8 ≤ (s7.length : Int) then (if 0 ≤ s8 ∧ s8 ≤ (s7.length : Int) then (if 0 ≤ (0 : Int) ∧ (0 : Int) ≤ s8 then (some (.again ((s7.take s8.toNat ++ ((s7.drop ((0 : Int).toNat)).take (s8.toNat - (0 : Int).toNat)).take (min ((s7.drop ((0 : Int).toNat)).take (s8.toNat - (0 : Int).toNat)).length (s7.length - s8.toNat)) ++ s7.drop (s8.toNat + (min ((s7.drop ((0 : Int).toNat)).take (s8.toNat - (0 : Int).toNat)).length (s7.length - s8.toNat)))), (w6 (s8 + (((min ((s7.drop ((0 : Int).toNat)).take (s8.toNat - (0 : Int).toNat)).length (s7.length - s8.toNat)) : Nat) : Int)))))) else none) else none) else none)
  (some (.leave (s7, s8)))
def zdn.r0 (N : Nat) (x : (List Int) × Int) := zdn.b0 N x.1 x.2
def zdn (N : Nat) (a0 : List Int) (a1 : Int) : Option ((List Int)) :=
 cond (decide (a1 < 0)) (none) ((zk7 (IntKind.wrap .u64 (a0.length : Int)) (IntKind.wrap .u64 a1)).bind fun r1 => (cond (decide (r1.1 > 0)) (some true)
  (some (decide (r1.2 > 9223372036854775807)))).bind fun g2 => cond g2 (none)
  (if 0 ≤ (w6 r1.2) then (if (w6 r1.2) ≤ (w6 r1.2) then (cond (Nat.ble ((w6 r1.2).toNat * 8) zak)
  ((zh (zdn.r0 N) N ((a0.take (min a0.length (List.replicate (w6 r1.2).toNat (0 : Int)).length) ++ (List.replicate (w6 r1.2).toNat (0 : Int)).drop (min a0.length (List.replicate (w6 r1.2).toNat (0 : Int)).length)), (((min a0.length (List.replicate (w6 r1.2).toNat (0 : Int)).length) : Nat) : Int))).bind fun y3 =>
  some y3.1) none) else none) else none))
def zdn.k (N : Nat) : Kq := ⟨159, (ctv [.val (Ty.sl T6), .val T6] [(Ty.sl T6)] [] [0] [(Ty.sl T6), T6] (zdn N)), go [zk7.k] {} [(0, .plain { slots := [(7, .own 5000007 T6), (8, .val T6)], boxes := [] } [(Ty.sl T6), T6] (zh (zdn.r0 N) N))] Proofs.Tryz.func159 (hL := ⟨⟨_, _, rfl, by kernel_rfl⟩, trivial⟩)⟩
def zaw.b0 (N : Nat) (s0 : List zH) (s4 : List Int) (s5 : Int) (s16 : List zH) (s17 : Int) (s18 : Int) : Option (Stp ((List zH) × (List Int) × Int × (List zH) × Int × Int)) :=
 cond (decide (s18 < s17)) ((idx s16 s18).bind fun x1001 => cond (x1001.Kind == 3) (if 0 ≤ s18 then (if s18 < (s4.length : Int) then ((s4[s18.toNat]?).bind fun x1002 =>
  some (.again (s0, (s4.set s18.toNat s5), (w6 (s5 + 16)), s16, s17, (w6 (s18 + 1))))) else none) else none)
  (some (.again (s0, s4, s5, s16, s17, (w6 (s18 + 1)))))) (some (.leave (s0, s4, s5, s16, s17, s18)))
def zaw.r0 (N : Nat) (x : (List zH) × (List Int) × Int × (List zH) × Int × Int) := zaw.b0 N x.1 x.2.1 x.2.2.1 x.2.2.2.1 x.2.2.2.2.1 x.2.2.2.2.2
def zaw.b2 (N : Nat) (s0 : List zH) (s4 : List Int) (s5 : Int) (s33 : List zH) (s34 : Int) (s35 : Int) : Option (Stp ((List zH) × (List Int) × Int × (List zH) × Int × Int)) :=
 cond (decide (s35 < s34)) ((idx s33 s35).bind fun x3001 => cond (x3001.Kind == 0) ((zhu N x3001).bind fun r3002 =>
  if 0 ≤ s35 then (if s35 < (s4.length : Int) then ((s4[s35.toNat]?).bind fun x3003 =>
  some (.again (s0, (s4.set s35.toNat s5), (w6 (s5 + r3002)), s33, s34, (w6 (s35 + 1))))) else none) else none)
  (some (.again (s0, s4, s5, s33, s34, (w6 (s35 + 1)))))) (some (.leave (s0, s4, s5, s33, s34, s35)))
def zaw.r2 (N : Nat) (x : (List zH) × (List Int) × Int × (List zH) × Int × Int) := zaw.b2 N x.1 x.2.1 x.2.2.1 x.2.2.2.1 x.2.2.2.2.1 x.2.2.2.2.2
def zaw.b4 (N : Nat) (s0 : List zH) (s4 : List Int) (s5 : Int) (s52 : List zH) (s53 : Int) (s54 : Int) : Option (Stp ((List zH) × (List Int) × Int × (List zH) × Int × Int)) :=
 cond (decide (s54 < s53)) ((idx s52 s54).bind fun x5001 => cond (x5001.Kind == 1) ((zf3 N s0 x5001.Base).bind fun r5002 =>
  if 0 ≤ r5002 then (if r5002 < (s4.length : Int) then ((s4[r5002.toNat]?).bind fun x5003 => if 0 ≤ s54 then (if s54 < (s4.length : Int) then ((s4[s54.toNat]?).bind fun x5004 =>
  some (.again (s0, (s4.set s54.toNat (w6 (x5003 + x5001.Offset))), s5, s52, s53, (w6 (s54 + 1))))) else none) else none) else none) else none)
  (some (.again (s0, s4, s5, s52, s53, (w6 (s54 + 1)))))) (some (.leave (s0, s4, s5, s52, s53, s54)))
def zaw.r4 (N : Nat) (x : (List zH) × (List Int) × Int × (List zH) × Int × Int) := zaw.b4 N x.1 x.2.1 x.2.2.1 x.2.2.2.1 x.2.2.2.2.1 x.2.2.2.2.2
def zaw (N : Nat) (a0 : List zH) : Option ((List Int) × Int) :=
 (zdn N ([(-1)] : List Int) (a0.length : Int)).bind fun r1 => (zh (zaw.r0 N) N (a0, r1, 0, a0, (a0.length : Int), 0)).bind fun y2 =>
  (zh (zaw.r2 N) N (y2.1, y2.2.1, y2.2.2.1, y2.1, (y2.1.length : Int), 0)).bind fun y3 =>
  (zh (zaw.r4 N) N (y3.1, y3.2.1, y3.2.2.1, y3.1, (y3.1.length : Int), 0)).bind fun y4 =>
  some (y4.2.1, (w6 ((w6 ((w6 (y4.2.2.1 + 16)) - 1)).tdiv 16)))
def zaw.k (N : Nat) : Kq := ⟨101, (cvv [(Ty.sl T6), T6] [(Ty.sl Ty.zH)] (zaw N)), go [zdn.k N, zhu.k N, zf3.k N] {lits := [12, 14]} [(0, .plain { slots := [(0, .val (Ty.sl Ty.zH)), (4, .own 5000004 T6), (5, .val T6), (16, .val (Ty.sl Ty.zH)), (17, .val T6), (18, .val T6)], boxes := [] } [(Ty.sl Ty.zH), (Ty.sl T6), T6, (Ty.sl Ty.zH), T6, T6] (zh (zaw.r0 N) N)), (2, .plain { slots := [(0, .val (Ty.sl Ty.zH)), (4, .own 5000004 T6), (5, .val T6), (33, .val (Ty.sl Ty.zH)), (34, .val T6), (35, .val T6)], boxes := [] } [(Ty.sl Ty.zH), (Ty.sl T6), T6, (Ty.sl Ty.zH), T6, T6] (zh (zaw.r2 N) N)), (4, .plain { slots := [(0, .val (Ty.sl Ty.zH)), (4, .own 5000004 T6), (5, .val T6), (52, .val (Ty.sl Ty.zH)), (53, .val T6), (54, .val T6)], boxes := [] } [(Ty.sl Ty.zH), (Ty.sl T6), T6, (Ty.sl Ty.zH), T6, T6] (zh (zaw.r4 N) N))] Proofs.Tryz.func101 (hL := ⟨⟨_, _, rfl, by kernel_rfl⟩, ⟨_, _, rfl, by kernel_rfl⟩, ⟨_, _, rfl, by kernel_rfl⟩, trivial⟩)⟩
def zfz (a0 : zH) : Option Bool :=
 some (a0.zD.Kind != 0)
def zfz.k : Kq := ⟨247, (cvv [Ty.bool] [Ty.zH] zfz), go [] {} [] Proofs.Tryz.func247⟩
def zl3 (a0 : zH) (a1 : zH) (a2 : Int) : Option Bool :=
 cond (a2 == 5) (some (a0.Kind == 3)) (cond (a2 == 6) (some (a0.Kind == 5)) ((cond (a2 == 0) (some true) (some (a2 == 2))).bind fun g1 => (cond (a2 == 2) (some true)
  (some (a2 == 3))).bind fun g2 => (zfp a0).bind fun r3 => (cond r3 ((cond g1 (some (a0.Kind == 4)) (some false)).bind fun g4 => some (!g4)) (some false)).bind fun g5 =>
  (cond g5 ((cond g2 ((zfz a0).bind fun r6 => some (!r6)) (some false)).bind fun g7 => some (!g7)) (some false)).bind fun g8 => (cond g8 ((cond (a2 == 4)
  ((zfz a0).bind fun r9 => (zfz a1).bind fun r10 => some (!(r9 == r10))) (some false)).bind fun g11 => some (!g11)) (some false)).bind fun g12 =>
  some g12))
def zl3.k : Kq := ⟨204, (cvv [Ty.bool] [Ty.zH, Ty.zH, T6] zl3), go [zfp.k, zfz.k] {} [] Proofs.Tryz.func204⟩
def zcf.b0 (N : Nat) (s22 : List Int) (s23 : Int) (s24 : Int) (b2 : zJ) (b3 : zO) (b5 : zH) : Option (Round Int ((List Int) × Int × Int × zJ × zO × zH)) :=
 cond (decide (s24 < s23)) ((idx s22 s24).bind fun x1001 => (zdz x1001 0 (w6 ((b2.zS.length : Int) - 1))).bind fun r1002 => cond (!r1002)
  (some (.result 3)) ((idx b2.zS x1001).bind fun x1003 => (idx z0u b3.Op).bind fun x1004 => (idx x1004 s24).bind fun x1005 => (zl3 x1003 b5 x1005).bind fun r1006 =>
  cond (!r1006) (some (.result 17)) ((idx b2.zS x1001).bind fun x1007 => some (.again (s22, s23, (w6 (s24 + 1)), b2, b3, x1007)))))
  (some (.leave (s22, s23, s24, b2, b3, b5)))
def zcf.r0 (N : Nat) (x : (List Int) × Int × Int × zJ × zO × zH) := zcf.b0 N x.1 x.2.1 x.2.2.1 x.2.2.2.1 x.2.2.2.2.1 x.2.2.2.2.2
def zcf (N : Nat) (a0 : zJ) (a1 : zO) : Option Int :=
 (zdz a1.Op 0 18).bind fun r1 => cond (!r1) (some 4) ((idx z0u a1.Op).bind fun x2 => cond ((a1.Args.length : Int) != (x2.length : Int)) (some 37)
  ((zg (zcf.r0 N) N (a1.Args, (a1.Args.length : Int), 0, a0, a1, (⟨(⟨#[]⟩ : ByteArray), 0, (⟨0, 0, 0⟩ : DataType), (⟨0, (⟨#[]⟩ : ByteArray)⟩ : Value), (⟨#[]⟩ : ByteArray), 0, 0⟩ : zH))).bind fun z4 =>
  zat z4 (fun z => some z) (fun y3 => some 0)))
def zcf.k (N : Nat) : Kq := ⟨157, (cvv [T6] [Ty.zJ, Ty.zO] (zcf N)), go [zdz.k, zl3.k] {} [(0, .rets { slots := [(2, .ptr 2 0), (3, .ptr 3 0), (5, .ptr 5 0), (22, .val (Ty.sl T6)), (23, .val T6), (24, .val T6)], boxes := [(2, Ty.zJ, []), (3, Ty.zO, []), (5, Ty.zH, [])] } [(Ty.sl T6), T6, T6, Ty.zJ, Ty.zO, Ty.zH] (zg (zcf.r0 N) N))] Proofs.Tryz.func157 (hL := ⟨⟨_, _, rfl, by kernel_rfl⟩, trivial⟩)⟩
def zid (a0 : zJ) (a1 : zT) : Option Int :=
 (cond (decide (a1.From ≥ 0)) (some (decide (a1.From < a1.To))) (some false)).bind fun g1 => (cond g1 (some (decide (a1.To ≤ (a0.zB.length : Int))))
  (some false)).bind fun g2 => (cond g2 ((zdz a1.Exception 0 999).bind fun r3 => some r3) (some false)).bind fun g4 =>
  (cond g4 ((zdz a1.Handler 0 (w6 ((a0.zB.length : Int) - 1))).bind fun r5 => some r5) (some false)).bind fun g6 =>
  (zb2 (!g6) 3).bind fun r7 => some r7
def zid.k : Kq := ⟨158, (cvv [T6] [Ty.zJ, Ty.zT] zid), go [zb2.k, zdz.k] {} [] Proofs.Tryz.func158⟩
def zac.b0 (N : Nat) (s47 : Int) (s48 : Int) (b1 : zJ) (b2 : zU) : Option (Round (zU × Int) (Int × Int × zJ × zU)) :=
 cond (decide (s48 < s47)) ((zic N b1 s48).bind fun r1001 => cond (r1001 != 0) (some (.result ((⟨1, s48⟩ : zU), r1001)))
  (some (.again (s47, (w6 (s48 + 1)), b1, b2)))) (some (.leave (s47, s48, b1, b2)))
def zac.r0 (N : Nat) (x : Int × Int × zJ × zU) := zac.b0 N x.1 x.2.1 x.2.2.1 x.2.2.2
def zac.b2 (N : Nat) (s70 : List zO) (s71 : Int) (s72 : Int) (b1 : zJ) (b2 : zU) : Option (Round (zU × Int) ((List zO) × Int × Int × zJ × zU)) :=
 cond (decide (s72 < s71)) ((idx s70 s72).bind fun x3001 => (zcf N b1 x3001).bind fun r3002 => cond (r3002 != 0) (some (.result ((⟨2, s72⟩ : zU), r3002)))
  (some (.again (s70, s71, (w6 (s72 + 1)), b1, b2)))) (some (.leave (s70, s71, s72, b1, b2)))
end
end Go.Proofs.YtnpfkhdbmlhfhaaGreatDoor.M
