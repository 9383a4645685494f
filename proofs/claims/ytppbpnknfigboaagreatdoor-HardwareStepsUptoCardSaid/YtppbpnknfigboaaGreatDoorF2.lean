/- What the program's functions compute, each tied to its code: part 2. -/
import Derived.Test.YtppbpnknfigboaaGreatDoorF1
namespace Go.Proofs.YtppbpnknfigboaaGreatDoor.M
open Go Go.Amx
set_option linter.unusedVariables false
set_option maxRecDepth 100000
noncomputable section
def zg4 (N : Nat) (a0 : Number) (a1 : DataType) (a2 : Bool) : Option (Value × Int) :=
 (zbz a0).bind fun r1 => cond (r1 != 0) (some ((⟨0, (⟨#[]⟩ : ByteArray)⟩ : Value), r1)) ((zfo a1).bind fun r2 => cond (r2 != 0)
  (some ((⟨0, (⟨#[]⟩ : ByteArray)⟩ : Value), r2)) ((zjj N (⟨a0.N, a0.Scale⟩ : Number)).bind fun r3 =>
  (zi2 N (⟨(⟨r3.Top.Below, r3.Top.zT⟩ : zI), r3.yJ⟩ : zR) (⟨a1.Kind, a1.Length, a1.Scale⟩ : DataType) a2).bind fun r4 =>
  some ((⟨r4.1, (⟨#[]⟩ : ByteArray)⟩ : Value), r4.2)))
def zg4.k (N : Nat) : Kq := ⟨199, (cvv [Ty.Value, T6] [Ty.Number, Ty.DataType, Ty.bool] (zg4 N)), go [zbz.k, zfo.k, zi2.k N, zjj.k N] {lits := [26]} [] Proofs.Tryz.func199⟩
def zc1.b0 (N : Nat) (s0 : Int) (s5 : List Int) (s6 : Int) : Option (Stp (Int × (List Int) × Int)) :=
 cond (decide (s6 ≥ 0)) (if 0 ≤ s6 then (if s6 < (s5.length : Int) then ((s5[s6.toNat]?).bind fun x1001 =>
  some (.again ((w6 (s0.tdiv 10)), (s5.set s6.toNat (s0.tmod 10)), (w6 (s6 - 1))))) else none) else none) (some (.leave (s0, s5, s6)))
def zc1.r0 (N : Nat) (x : Int × (List Int) × Int) := zc1.b0 N x.1 x.2.1 x.2.2
def zc1 (N : Nat) (a0 : Int) (a1 : Int) : Option ((List Int)) :=
 if 0 ≤ a1 then (if a1 ≤ a1 then (cond (Nat.ble (a1.toNat * 8) zab)
  ((zm (zc1.r0 N) N (a0, (List.replicate a1.toNat (0 : Int)), (w6 (a1 - 1)))).bind fun y1 => some y1.2.1) none) else none) else none
def zc1.k (N : Nat) : Kq := ⟨250, (ctv [.val T6, .val T6] [(Ty.sl T6)] [] [0] [T6, T6] (zc1 N)), go [] {} [(0, .plain { slots := [(0, .val T6), (5, .own 5000005 T6), (6, .val T6)], boxes := [] } [T6, (Ty.sl T6), T6] (zm (zc1.r0 N) N))] Proofs.Tryz.func250 (hL := ⟨⟨_, _, rfl, by kernel_rfl⟩, trivial⟩)⟩
def za4.b1 (N : Nat) (s6 : List Int) (s7 : List Int) (s8 : Int) (b2 : DataType) (b3 : Value) : Option (Stp ((List Int) × (List Int) × Int × DataType × Value)) :=
 cond (decide (s8 < b2.Length)) (if 0 ≤ s8 then (if s8 < (s6.length : Int) then ((s6[s8.toNat]?).bind fun x2001 =>
  if 0 ≤ s8 then (if s8 < (s7.length : Int) then ((s7[s8.toNat]?).bind fun x2002 =>
  some (.again (s6, (s7.set s8.toNat (IntKind.wrap .u8 (w6 (240 + x2001)))), (w6 (s8 + 1)), b2, b3))) else none) else none) else none) else none)
  (some (.leave (s6, s7, s8, b2, b3)))
def za4.r1 (N : Nat) (x : (List Int) × (List Int) × Int × DataType × Value) := za4.b1 N x.1 x.2.1 x.2.2.1 x.2.2.2.1 x.2.2.2.2
def za4.b3 (N : Nat) (s6 : List Int) (s9 : List Int) (s10 : Int) : Option (Stp ((List Int) × (List Int) × Int)) :=
 cond (decide (s10 < (s9.length : Int)))
  (if 0 ≤ (w6 (2 * s10)) then (if (w6 (2 * s10)) < (s6.length : Int) then ((s6[(w6 (2 * s10)).toNat]?).bind fun x4001 =>
  if 0 ≤ (w6 ((w6 (2 * s10)) + 1)) then (if (w6 ((w6 (2 * s10)) + 1)) < (s6.length : Int) then ((s6[(w6 ((w6 (2 * s10)) + 1)).toNat]?).bind fun x4002 =>
  if 0 ≤ s10 then (if s10 < (s9.length : Int) then ((s9[s10.toNat]?).bind fun x4003 =>
  some (.again (s6, (s9.set s10.toNat (IntKind.wrap .u8 (w6 ((w6 (16 * x4001)) + x4002)))), (w6 (s10 + 1))))) else none) else none) else none) else none) else none) else none)
  (some (.leave (s6, s9, s10)))
def za4.r3 (N : Nat) (x : (List Int) × (List Int) × Int) := za4.b3 N x.1 x.2.1 x.2.2
def za4 (N : Nat) (a0 : DataType) (a1 : Value) : Option ByteArray :=
 cond (a0.Kind == 0) (some a1.S) (cond (a0.Kind == 3) (cond (decide (a1.N < 0)) ((za3 a0).bind fun r1 =>
  if (w6 (8 * r1)) < 0 then none else (za3 a0).bind fun r2 =>
  (zas N (w6 (a1.N + (w6 (1 * 2 ^ (min (w6 (8 * r1)).toNat 64))))) r2).bind fun r3 => some r3) ((za3 a0).bind fun r4 =>
  (zas N a1.N r4).bind fun r5 => some r5)) ((zfp a1.N).bind fun r6 => (zc1 N r6 a0.Length).bind fun r7 => cond (a0.Kind == 2)
  (if 0 ≤ a0.Length then (if a0.Length ≤ a0.Length then (cond (Nat.ble (a0.Length.toNat * 1) zab)
  ((zm (za4.r1 N) N (r7, (List.replicate a0.Length.toNat (0 : Int)), 0, (⟨a0.Kind, a0.Length, a0.Scale⟩ : DataType), (⟨a1.N, a1.S⟩ : Value))).bind fun y8 =>
  cond (decide (y8.2.2.2.2.N < 0))
  (if 0 ≤ (w6 (y8.2.2.2.1.Length - 1)) then (if (w6 (y8.2.2.2.1.Length - 1)) < (y8.1.length : Int) then ((y8.1[(w6 (y8.2.2.2.1.Length - 1)).toNat]?).bind fun x9 =>
  if 0 ≤ (w6 (y8.2.2.2.1.Length - 1)) then (if (w6 (y8.2.2.2.1.Length - 1)) < (y8.2.1.length : Int) then ((y8.2.1[(w6 (y8.2.2.2.1.Length - 1)).toNat]?).bind fun x10 =>
  some (zdf (y8.2.1.set ((w6 (y8.2.2.2.1.Length - 1)).toNat) (IntKind.wrap .u8 (w6 (208 + x9)))))) else none) else none) else none) else none)
  (some (zdf y8.2.1))) none) else none) else none) (cond ((a0.Length.tmod 2) == 0) (cond (Nat.ble ((([0] : List Int).length + r7.length) * 8) zab)
  ((za5 (decide (a1.N < 0))).bind fun r11 =>
  cond (Nat.ble (((([0] : List Int) ++ r7).length + ([(w6 (15 - (w6 (2 * r11))))] : List Int).length) * 8) zab)
  (if 0 ≤ (w6 ((((([0] : List Int) ++ r7) ++ ([(w6 (15 - (w6 (2 * r11))))] : List Int)).length : Int).tdiv 2)) then (if (w6 ((((([0] : List Int) ++ r7) ++ ([(w6 (15 - (w6 (2 * r11))))] : List Int)).length : Int).tdiv 2)) ≤ (w6 ((((([0] : List Int) ++ r7) ++ ([(w6 (15 - (w6 (2 * r11))))] : List Int)).length : Int).tdiv 2)) then (cond (Nat.ble ((w6 ((((([0] : List Int) ++ r7) ++ ([(w6 (15 - (w6 (2 * r11))))] : List Int)).length : Int).tdiv 2)).toNat * 1) zab)
  ((zm (za4.r3 N) N (((([0] : List Int) ++ r7) ++ ([(w6 (15 - (w6 (2 * r11))))] : List Int)), (List.replicate (w6 ((((([0] : List Int) ++ r7) ++ ([(w6 (15 - (w6 (2 * r11))))] : List Int)).length : Int).tdiv 2)).toNat (0 : Int)), 0)).bind fun y12 =>
  some (zdf y12.2.1)) none) else none) else none) none) none) ((za5 (decide (a1.N < 0))).bind fun r13 =>
  cond (Nat.ble ((r7.length + ([(w6 (15 - (w6 (2 * r13))))] : List Int).length) * 8) zab)
  (if 0 ≤ (w6 (((r7 ++ ([(w6 (15 - (w6 (2 * r13))))] : List Int)).length : Int).tdiv 2)) then (if (w6 (((r7 ++ ([(w6 (15 - (w6 (2 * r13))))] : List Int)).length : Int).tdiv 2)) ≤ (w6 (((r7 ++ ([(w6 (15 - (w6 (2 * r13))))] : List Int)).length : Int).tdiv 2)) then (cond (Nat.ble ((w6 (((r7 ++ ([(w6 (15 - (w6 (2 * r13))))] : List Int)).length : Int).tdiv 2)).toNat * 1) zab)
  ((zm (za4.r3 N) N ((r7 ++ ([(w6 (15 - (w6 (2 * r13))))] : List Int)), (List.replicate (w6 (((r7 ++ ([(w6 (15 - (w6 (2 * r13))))] : List Int)).length : Int).tdiv 2)).toNat (0 : Int)), 0)).bind fun y14 =>
  some (zdf y14.2.1)) none) else none) else none) none))))
def za4.k (N : Nat) : Kq := ⟨176, (cvv [Ty.str] [Ty.DataType, Ty.Value] (za4 N)), go [za3.k, za5.k, zas.k N, zc1.k N, zfp.k] {lits := [31, 35, 92]} [(1, .plain { slots := [(2, .ptr 2 0), (3, .ptr 3 0), (6, .own 5000006 T6), (7, .own 5000007 (Ty.int .u8)), (8, .val T6)], boxes := [(2, Ty.DataType, []), (3, Ty.Value, [])] } [(Ty.sl T6), (Ty.sl (Ty.int .u8)), T6, Ty.DataType, Ty.Value] (zm (za4.r1 N) N)), (3, .plain { slots := [(6, .own 5000006 T6), (9, .own 5000009 (Ty.int .u8)), (10, .val T6)], boxes := [] } [(Ty.sl T6), (Ty.sl (Ty.int .u8)), T6] (zm (za4.r3 N) N))] Proofs.Tryz.func176 (hL := ⟨⟨_, _, rfl, by kernel_rfl⟩, ⟨_, _, rfl, by kernel_rfl⟩, trivial⟩)⟩
def zba.b2 (N : Nat) (s5 : List Int) (s6 : Int) (s7 : List Int) (s8 : Int) (s9 : Int) (b2 : zI) (b3 : zI) (b4 : zI) : Option (Stp ((List Int) × Int × (List Int) × Int × Int × zI × zI × zI)) :=
 (cond (decide (s9 < (b2.zT.length : Int))) (some true) (some (decide (s8 > 0)))).bind fun g3001 => cond g3001 (cond (decide (s9 < (b2.zT.length : Int)))
  ((idx b2.zT s9).bind fun x3002 => (idx b3.zT s6).bind fun x3003 =>
  cond (Nat.ble ((s7.length + ([((w6 (s8 + (w6 (x3002 * x3003)))).tmod 10)] : List Int).length) * 8) zab)
  (some (.again (s5, s6, (s7 ++ ([((w6 (s8 + (w6 (x3002 * x3003)))).tmod 10)] : List Int)), (w6 ((w6 (s8 + (w6 (x3002 * x3003)))).tdiv 10)), (w6 (s9 + 1)), b2, b3, b4))) none)
  (cond (Nat.ble ((s7.length + ([(s8.tmod 10)] : List Int).length) * 8) zab)
  (some (.again (s5, s6, (s7 ++ ([(s8.tmod 10)] : List Int)), (w6 (s8.tdiv 10)), (w6 (s9 + 1)), b2, b3, b4))) none))
  (some (.leave (s5, s6, s7, s8, s9, b2, b3, b4)))
def zba.r2 (N : Nat) (x : (List Int) × Int × (List Int) × Int × Int × zI × zI × zI) := zba.b2 N x.1 x.2.1 x.2.2.1 x.2.2.2.1 x.2.2.2.2.1 x.2.2.2.2.2.1 x.2.2.2.2.2.2.1 x.2.2.2.2.2.2.2
def zba.b0 (N : Nat) (s5 : List Int) (s6 : Int) (b2 : zI) (b3 : zI) (b4 : zI) : Option (Stp ((List Int) × Int × zI × zI × zI)) :=
 cond (decide (s6 < (b3.zT.length : Int))) (if 0 ≤ s6 then (if s6 ≤ s6 then (cond (Nat.ble (s6.toNat * 8) zab)
  ((zm (zba.r2 N) N (s5, s6, (List.replicate s6.toNat (0 : Int)), 0, 0, b2, b3, b4)).bind fun y1001 => (zcr N y1001.1 y1001.2.2.1).bind fun r1002 =>
  some (.again (r1002, (w6 (y1001.2.1 + 1)), y1001.2.2.2.2.2.1, y1001.2.2.2.2.2.2.1, y1001.2.2.2.2.2.2.2))) none) else none) else none)
  (some (.leave (s5, s6, b2, b3, b4)))
def zba.r0 (N : Nat) (x : (List Int) × Int × zI × zI × zI) := zba.b0 N x.1 x.2.1 x.2.2.1 x.2.2.2.1 x.2.2.2.2
def zba (N : Nat) (a0 : zI) (a1 : zI) : Option zI :=
 (zm (zba.r0 N) N ([], 0, a0, a1, (⟨false, []⟩ : zI))).bind fun y1 => (zb4 N y1.1).bind fun r2 => (cond (!(y1.2.2.1.Below == y1.2.2.2.1.Below))
  (some (decide ((r2.length : Int) > 0))) (some false)).bind fun g3 => some (⟨g3, r2⟩ : zI)
def zba.k (N : Nat) : Kq := ⟨313, (cvv [Ty.zI] [Ty.zI, Ty.zI] (zba N)), go [zcr.k N, zb4.k N] {lits := [53]} [(2, .plain { slots := [(2, .ptr 2 0), (3, .ptr 3 0), (4, .ptr 4 0), (5, .val (Ty.sl T6)), (6, .val T6), (7, .own 5000007 T6), (8, .val T6), (9, .val T6)], boxes := [(2, Ty.zI, []), (3, Ty.zI, []), (4, Ty.zI, [1])] } [(Ty.sl T6), T6, (Ty.sl T6), T6, T6, Ty.zI, Ty.zI, Ty.zI] (zm (zba.r2 N) N)), (0, .plain { slots := [(2, .ptr 2 0), (3, .ptr 3 0), (4, .ptr 4 0), (5, .val (Ty.sl T6)), (6, .val T6)], boxes := [(2, Ty.zI, []), (3, Ty.zI, []), (4, Ty.zI, [1])] } [(Ty.sl T6), T6, Ty.zI, Ty.zI, Ty.zI] (zm (zba.r0 N) N))] Proofs.Tryz.func313 (hL := ⟨⟨_, _, rfl, by kernel_rfl⟩, ⟨_, _, rfl, by kernel_rfl⟩, trivial⟩)⟩
def zl3 (N : Nat) (a0 : Int) (a1 : Number) (a2 : Number) : Option (zR × Int) :=
 (zhg N a1 a2).bind fun r1 => (cond (a0 == 3) (some true) (some (a0 == 4))).bind fun g2 => (cond g2 (some ((r1.2.1.zT.length : Int) == 0))
  (some false)).bind fun g3 => cond g3 (some ((⟨(⟨false, []⟩ : zI), []⟩ : zR), 20)) (cond (a0 == 1) ((cond (!r1.2.1.Below)
  (some (decide ((r1.2.1.zT.length : Int) > 0))) (some false)).bind fun g4 => (zjz N r1.1 (⟨g4, r1.2.1.zT⟩ : zI)).bind fun r5 =>
  (zgh r1.2.2).bind fun r6 => some ((⟨r5, r6⟩ : zR), 0)) (cond (a0 == 2) ((zba N r1.1 r1.2.1).bind fun r7 =>
  (zgh (w6 (2 * r1.2.2))).bind fun r8 => some ((⟨r7, r8⟩ : zR), 0)) (cond (a0 == 3)
  (some ((⟨(⟨(!(r1.1.Below == r1.2.1.Below)), r1.1.zT⟩ : zI), r1.2.1.zT⟩ : zR), 0)) (cond (a0 == 4)
  ((za1 N r1.1.zT r1.2.1.zT).bind fun r9 => (zgh r1.2.2).bind fun r10 => some ((⟨(⟨r1.1.Below, r9.2⟩ : zI), r10⟩ : zR), 0))
  ((zjz N r1.1 r1.2.1).bind fun r11 => (zgh r1.2.2).bind fun r12 => some ((⟨r11, r12⟩ : zR), 0))))))
def zl3.k (N : Nat) : Kq := ⟨264, (cvv [Ty.zR, T6] [T6, Ty.Number, Ty.Number] (zl3 N)), go [zhg.k N, zjz.k N, zgh.k, zba.k N, za1.k N] {} [] Proofs.Tryz.func264⟩
def zdk (N : Nat) (a0 : zU) (a1 : Number) (a2 : Number) : Option (Value × Int) :=
 (zf a0.Op 0 4).bind fun r1 => cond (!r1) (some ((⟨0, (⟨#[]⟩ : ByteArray)⟩ : Value), 4)) ((zbz a1).bind fun r2 => cond (r2 != 0)
  (some ((⟨0, (⟨#[]⟩ : ByteArray)⟩ : Value), r2)) ((zbz a2).bind fun r3 => cond (r3 != 0) (some ((⟨0, (⟨#[]⟩ : ByteArray)⟩ : Value), r3))
  ((zfo a0.zF).bind fun r4 => cond (r4 != 0) (some ((⟨0, (⟨#[]⟩ : ByteArray)⟩ : Value), r4)) ((zl3 N a0.Op (⟨a1.N, a1.Scale⟩ : Number) a2).bind fun r5 =>
  cond (r5.2 != 0) (some ((⟨0, (⟨#[]⟩ : ByteArray)⟩ : Value), r5.2)) ((zi2 N r5.1 (⟨a0.zF.Kind, a0.zF.Length, a0.zF.Scale⟩ : DataType) a0.Half).bind fun r6 =>
  some ((⟨r6.1, (⟨#[]⟩ : ByteArray)⟩ : Value), r6.2))))))
def zdk.k (N : Nat) : Kq := ⟨200, (cvv [Ty.Value, T6] [Ty.zU, Ty.Number, Ty.Number] (zdk N)), go [zf.k, zbz.k, zfo.k, zi2.k N, zl3.k N] {} [] Proofs.Tryz.func200⟩
def zmi (N : Nat) (a0 : zA) (a1 : zB) : Option (Int × zA) :=
 cond (a1.Op == 0) ((zgg N a0 a1.Place a1.zF).bind fun r1 => cond (r1.2 != 0) (some (r1.2, a0))
  (if 0 ≤ a1.R then (if a1.R < (a0.Registers.length : Int) then ((a0.Registers[a1.R.toNat]?).bind fun x2 =>
  some (0, { a0 with Registers := (a0.Registers.set a1.R.toNat r1.1) })) else none) else none))
  (cond (a1.Op == 1) (if 0 ≤ a1.R then (if a1.R < (a0.Registers.length : Int) then ((a0.Registers[a1.R.toNat]?).bind fun x3 => (zg4 N x3 a1.zF a1.Half).bind fun r4 =>
  cond (r4.2 != 0) (some (2, a0)) ((za3 a1.zF).bind fun r5 => (zbt N a0 a1.Place r5).bind fun r6 => cond (r6.2 != 0) (some (r6.2, a0))
  ((za4 N a1.zF r4.1).bind fun r7 => (zbf N a0.Storage r6.1 r7).bind fun r8 =>
  some (0, { a0 with Storage := r8 })))) else none) else none) (cond (a1.Op == 2)
  (if 0 ≤ a1.R then (if a1.R < (a0.Registers.length : Int) then ((a0.Registers[a1.R.toNat]?).bind fun x9 =>
  some (0, { a0 with Registers := (a0.Registers.set a1.R.toNat a1.Number) })) else none) else none)
  (cond (a1.Op == 3) (if 0 ≤ a1.A then (if a1.A < (a0.Registers.length : Int) then ((a0.Registers[a1.A.toNat]?).bind fun x10 =>
  if 0 ≤ a1.R then (if a1.R < (a0.Registers.length : Int) then ((a0.Registers[a1.R.toNat]?).bind fun x11 =>
  some (0, { a0 with Registers := (a0.Registers.set a1.R.toNat x10) })) else none) else none) else none) else none)
  (cond (a1.Op == 5) (if 0 ≤ a1.A then (if a1.A < (a0.Registers.length : Int) then ((a0.Registers[a1.A.toNat]?).bind fun x12 =>
  if 0 ≤ a1.B then (if a1.B < (a0.Registers.length : Int) then ((a0.Registers[a1.B.toNat]?).bind fun x13 => (zg1 N x12 x13).bind fun r14 =>
  (zdh r14).bind fun r15 =>
  some (0, { a0 with Condition := r15 })) else none) else none) else none) else none)
  (cond (a1.Op == 21) (if 0 ≤ a1.R then (if a1.R < (a0.Registers.length : Int) then ((a0.Registers[a1.R.toNat]?).bind fun x16 =>
  some (0, (⟨(a0.Registers.set a1.R.toNat (⟨a0.Exception, 0⟩ : Number)), a0.Condition, a0.Storage, a0.At, a0.Stack, a0.Lines, a0.Status, a0.Exception, a0.Marks, a0.Steps⟩ : zA))) else none) else none)
  (cond (a1.Op == 4) (cond a1.zL ((zgg N a0 a1.Place a1.Second).bind fun r17 => cond (r17.2 != 0) (some (r17.2, a0))
  (if 0 ≤ a1.A then (if a1.A < (a0.Registers.length : Int) then ((a0.Registers[a1.A.toNat]?).bind fun x18 =>
  (zdk N (⟨a1.zK, a1.zF, false⟩ : zU) x18 r17.1).bind fun r19 => cond (r19.2 == 20) (some (3, a0)) (cond (r19.2 != 0) (some (2, a0))
  (if 0 ≤ a1.R then (if a1.R < (a0.Registers.length : Int) then ((a0.Registers[a1.R.toNat]?).bind fun x20 =>
  some (0, (⟨(a0.Registers.set a1.R.toNat (⟨r19.1.N, a1.zF.Scale⟩ : Number)), a0.Condition, a0.Storage, a0.At, a0.Stack, a0.Lines, a0.Status, a0.Exception, a0.Marks, a0.Steps⟩ : zA))) else none) else none))) else none) else none))
  (if 0 ≤ a1.B then (if a1.B < (a0.Registers.length : Int) then ((a0.Registers[a1.B.toNat]?).bind fun x21 =>
  if 0 ≤ a1.A then (if a1.A < (a0.Registers.length : Int) then ((a0.Registers[a1.A.toNat]?).bind fun x22 =>
  (zdk N (⟨a1.zK, a1.zF, false⟩ : zU) x22 x21).bind fun r23 => cond (r23.2 == 20) (some (3, a0)) (cond (r23.2 != 0) (some (2, a0))
  (if 0 ≤ a1.R then (if a1.R < (a0.Registers.length : Int) then ((a0.Registers[a1.R.toNat]?).bind fun x24 =>
  some (0, (⟨(a0.Registers.set a1.R.toNat (⟨r23.1.N, a1.zF.Scale⟩ : Number)), a0.Condition, a0.Storage, a0.At, a0.Stack, a0.Lines, a0.Status, a0.Exception, a0.Marks, a0.Steps⟩ : zA))) else none) else none))) else none) else none) else none) else none))
  (some (0, a0))))))))
def zmi.k (N : Nat) : Kq := ⟨133, (ctv [.ptr Ty.zA true [0, 5, 6], .val Ty.zB] [T6] [Ty.zA] [] [Ty.zA, Ty.zB] (zmi N)), go [za3.k, zdh.k, zg1.k N, za4.k N, zbt.k N, zbf.k N, zgg.k N, zg4.k N, zdk.k N] {lits := [70, 86, 137], pk := [1000000]} [] Proofs.Tryz.func133⟩
def zd (N : Nat) (a0 : zG) (a1 : zA) : Option (Int × Int × zA) :=
 (idx a0.zC a1.At).bind fun x1 => cond (x1.Op == 6) (cond ((zh .i64 x1.Mask a1.Condition) != 0) (some (x1.Target, 0, a1))
  (some ((w6 (a1.At + 1)), 0, a1))) (cond (x1.Op == 7) (if 0 ≤ x1.A then (if x1.A < (a1.Registers.length : Int) then ((a1.Registers[x1.A.toNat]?).bind fun x2 =>
  if 0 ≤ x1.B then (if x1.B < (a1.Registers.length : Int) then ((a1.Registers[x1.B.toNat]?).bind fun x3 => (zg1 N x2 x3).bind fun r4 => (zdh r4).bind fun r5 =>
  cond ((zh .i64 x1.Mask r5) != 0) (some (x1.Target, 0, a1)) (some ((w6 (a1.At + 1)), 0, a1))) else none) else none) else none) else none) (cond (x1.Op == 8)
  (some (x1.Target, 0, a1)) (cond (x1.Op == 18) (cond ((a1.Stack.length : Int) == 6) (some (0, 6, a1)) (cond (Nat.ble ((a1.Stack.length + ([a1.At] : List Int).length) * 8) zab)
  (some (x1.Target, 0, { a1 with Stack := (a1.Stack ++ ([a1.At] : List Int)) })) none))
  (cond (x1.Op == 19) (cond ((a1.Stack.length : Int) == 0)
  (some ((w6 (a1.At + 1)), 0, { a1 with Status := 1 }))
  (if 0 ≤ (w6 ((a1.Stack.length : Int) - 1)) then (if (w6 ((a1.Stack.length : Int) - 1)) < (a1.Stack.length : Int) then ((a1.Stack[(w6 ((a1.Stack.length : Int) - 1)).toNat]?).bind fun x6 =>
  if 0 ≤ (w6 ((a1.Stack.length : Int) - 1)) ∧ (w6 ((a1.Stack.length : Int) - 1)) ≤ (a1.Stack.length : Int) then (if 0 ≤ (0 : Int) ∧ (0 : Int) ≤ (w6 ((a1.Stack.length : Int) - 1)) then (some ((w6 (x6 + 1)), 0, { a1 with Stack := ((a1.Stack.drop ((0 : Int).toNat)).take ((w6 ((a1.Stack.length : Int) - 1)).toNat - (0 : Int).toNat)) })) else none) else none) else none) else none))
  (cond (x1.Op == 20) (if 0 ≤ x1.R then (if x1.R < (a1.Registers.length : Int) then ((a1.Registers[x1.R.toNat]?).bind fun x7 => (zge N x7).bind fun r8 =>
  (zf r8 100 999).bind fun r9 => cond r9 (some (0, r8, a1)) (some (0, 2, a1))) else none) else none) (cond (x1.Op == 25) (cond (a1.Marks == 300)
  (some ((w6 (a1.At + 1)), 0, { a1 with Status := 3 }))
  (some ((w6 (a1.At + 1)), 0, { a1 with Marks := (w6 (a1.Marks + 1)) })))
  (cond (x1.Op == 26)
  (some ((w6 (a1.At + 1)), 0, { a1 with Status := 1 }))
  ((cond (x1.Op == 22) (some (x1.Op == 22)) (cond (x1.Op == 23) (some (x1.Op == 23)) (some (x1.Op == 24)))).bind fun q10 => cond q10 ((zm8 N a1 x1).bind fun r11 =>
  some ((w6 (a1.At + 1)), r11.1, r11.2)) ((cond (x1.Op == 14) (some (x1.Op == 14)) (cond (x1.Op == 15) (some (x1.Op == 15)) (cond (x1.Op == 16) (some (x1.Op == 16))
  (some (x1.Op == 17))))).bind fun q12 => cond q12 ((zm9 N a1 x1).bind fun r13 => some ((w6 (a1.At + 1)), r13.1, r13.2)) ((cond (x1.Op == 9)
  (some (x1.Op == 9)) (cond (x1.Op == 10) (some (x1.Op == 10)) (cond (x1.Op == 11) (some (x1.Op == 11)) (cond (x1.Op == 12) (some (x1.Op == 12))
  (some (x1.Op == 13)))))).bind fun q14 => cond q14 ((zmj N a1 x1).bind fun r15 => some ((w6 (a1.At + 1)), r15.1, r15.2))
  ((zmi N a1 x1).bind fun r16 => some ((w6 (a1.At + 1)), r16.1, r16.2))))))))))))
def zd.k (N : Nat) : Kq := ⟨86, (ctv [.val Ty.zG, .ptr Ty.zA true [0, 5, 6]] [T6, T6] [Ty.zA] [] [Ty.zG, Ty.zA] (zd N)), go [zf.k, zdh.k, zg1.k N, zge.k N, zm8.k N, zm9.k N, zmj.k N, zmi.k N] {lits := [60, 87], pk := [1000000], bj := [170, 178, 187]} [] Proofs.Tryz.func86⟩
def zck.b0 (N : Nat) (s1 : Int) (s2 : Int) (s7 : Int) (b3 : zG) : Option (Round Int (Int × Int × Int × zG)) :=
 cond (decide (s7 < (b3.zO.length : Int))) ((idx b3.zO s7).bind fun x1001 => (cond (decide (x1001.From ≤ s1)) (some (decide (s1 < x1001.To))) (some false)).bind fun g1002 =>
  (cond g1002 ((cond (x1001.Exception == 0) (some true) (some (x1001.Exception == s2))).bind fun g1003 => some g1003) (some false)).bind fun g1004 =>
  cond g1004 (some (.result x1001.Handler)) (some (.again (s1, s2, (w6 (s7 + 1)), b3)))) (some (.leave (s1, s2, s7, b3)))
def zck.r0 (N : Nat) (x : Int × Int × Int × zG) := zck.b0 N x.1 x.2.1 x.2.2.1 x.2.2.2
def zck (N : Nat) (a0 : zG) (a1 : Int) (a2 : Int) : Option Int :=
 (zl (zck.r0 N) N (a1, a2, 0, a0)).bind fun z2 => zb9 z2 (fun z => some z) (fun y1 => some (-1))
def zck.k (N : Nat) : Kq := ⟨134, (cvv [T6] [Ty.zG, T6, T6] (zck N)), go [] {} [(0, .rets { slots := [(1, .val T6), (2, .val T6), (3, .ptr 3 0), (7, .val T6)], boxes := [(3, Ty.zG, [])] } [T6, T6, T6, Ty.zG] (zl (zck.r0 N) N))] Proofs.Tryz.func134 (hL := ⟨⟨_, _, rfl, by kernel_rfl⟩, trivial⟩)⟩
def zd1.b0 (N : Nat) (s2 : Int) (b3 : zG) (b4 : zA) (b6 : zA) : Option (Round zA (Int × zG × zA × zA)) :=
 (zck N b3 b4.At s2).bind fun r1001 => cond (r1001 != (-1))
  (some (.result (⟨b4.Registers, b4.Condition, b4.Storage, r1001, b4.Stack, b4.Lines, b4.Status, b4.Exception, b4.Marks, b4.Steps⟩ : zA))) (cond ((b4.Stack.length : Int) == 0)
  (some (.result (⟨b4.Registers, b4.Condition, b4.Storage, b4.At, b4.Stack, b4.Lines, 2, b4.Exception, b4.Marks, b4.Steps⟩ : zA)))
  ((idx b4.Stack (w6 ((b4.Stack.length : Int) - 1))).bind fun x1002 =>
  if 0 ≤ (w6 ((b4.Stack.length : Int) - 1)) ∧ (w6 ((b4.Stack.length : Int) - 1)) ≤ (b4.Stack.length : Int) then (if 0 ≤ (0 : Int) ∧ (0 : Int) ≤ (w6 ((b4.Stack.length : Int) - 1)) then (some (.again (s2, b3, (⟨b4.Registers, b4.Condition, b4.Storage, x1002, ((b4.Stack.take (w6 ((b4.Stack.length : Int) - 1)).toNat).drop (0 : Int).toNat), b4.Lines, b4.Status, b4.Exception, b4.Marks, b4.Steps⟩ : zA), b6))) else none) else none))
def zd1.r0 (N : Nat) (x : Int × zG × zA × zA) := zd1.b0 N x.1 x.2.1 x.2.2.1 x.2.2.2
def zd1 (N : Nat) (a0 : zG) (a1 : zA) (a2 : Int) : Option zA :=
 (zl (zd1.r0 N) N (a2, a0, { a1 with Exception := a2 }, (⟨[], 0, (⟨(⟨#[]⟩ : ByteArray), []⟩ : Storage), 0, [], [], 0, 0, 0, 0⟩ : zA))).bind fun z2 =>
  zb9 z2 (fun z => some z) (fun y1 => some y1.2.2.2)
def zd1.k (N : Nat) : Kq := ⟨87, (cvv [Ty.zA] [Ty.zG, Ty.zA, T6] (zd1 N)), go [zck.k N] {} [(0, .rets { slots := [(2, .val T6), (3, .ptr 3 0), (4, .ptr 4 0), (6, .ptr 6 0)], boxes := [(3, Ty.zG, []), (4, Ty.zA, []), (6, Ty.zA, [0, 3, 5, 6])] } [T6, Ty.zG, Ty.zA, Ty.zA] (zl (zd1.r0 N) N))] Proofs.Tryz.func87 (hL := ⟨⟨_, _, rfl, by kernel_rfl⟩, trivial⟩)⟩
def zmk (N : Nat) (a0 : zG) (a1 : zA) : Option zA :=
 (zib a1).bind fun r1 =>
  (zd N a0 (⟨r1.Registers, r1.Condition, (⟨r1.Storage.Bytes, r1.Storage.Tags⟩ : Storage), r1.At, r1.Stack, r1.Lines, r1.Status, r1.Exception, r1.Marks, (w6 (r1.Steps + 1))⟩ : zA)).bind fun r2 =>
  cond (r2.2.1 != 0) ((zib a1).bind fun r3 =>
  (zd1 N a0 { r3 with Steps := (w6 (r3.Steps + 1)) } r2.2.1).bind fun r4 =>
  (cond (r4.Status == 0) (some (r4.Steps == 3000)) (some false)).bind fun g5 =>
  cond g5 (some { r4 with Status := 3 }) (some r4)) (cond (r2.2.2.Status == 0)
  (cond (r2.1 == (a0.zC.length : Int))
  (some (⟨r2.2.2.Registers, r2.2.2.Condition, r2.2.2.Storage, r2.2.2.At, r2.2.2.Stack, r2.2.2.Lines, 1, r2.2.2.Exception, r2.2.2.Marks, r2.2.2.Steps⟩ : zA))
  ((cond (r2.2.2.Status == 0) (some (r2.2.2.Steps == 3000)) (some false)).bind fun g6 =>
  cond g6 (some (⟨r2.2.2.Registers, r2.2.2.Condition, r2.2.2.Storage, r2.1, r2.2.2.Stack, r2.2.2.Lines, 3, r2.2.2.Exception, r2.2.2.Marks, r2.2.2.Steps⟩ : zA))
  (some (⟨r2.2.2.Registers, r2.2.2.Condition, r2.2.2.Storage, r2.1, r2.2.2.Stack, r2.2.2.Lines, r2.2.2.Status, r2.2.2.Exception, r2.2.2.Marks, r2.2.2.Steps⟩ : zA))))
  ((cond (r2.2.2.Status == 0) (some (r2.2.2.Steps == 3000)) (some false)).bind fun g7 =>
  cond g7 (some (⟨r2.2.2.Registers, r2.2.2.Condition, r2.2.2.Storage, r2.2.2.At, r2.2.2.Stack, r2.2.2.Lines, 3, r2.2.2.Exception, r2.2.2.Marks, r2.2.2.Steps⟩ : zA))
  (some r2.2.2)))
def zmk.k (N : Nat) : Kq := ⟨42, (cvv [Ty.zA] [Ty.zG, Ty.zA] (zmk N)), go [zib.k, zd.k N, zd1.k N] {} [] Proofs.Tryz.func42⟩
def zf5 (N : Nat) (a0 : zJ) (a1 : zG) (a2 : zA) : Option Bool :=
 (zm1 N).bind fun r1 => cond (!r1) (some false) ((zfa N (⟨(⟨a1.Storage.Bytes, a1.Storage.Tags⟩ : Storage), a1.zC, a1.zO⟩ : zG)).bind fun r2 =>
  (cond (!r2) (some true)
  ((zcd N (⟨a2.Registers, a2.Condition, (⟨a2.Storage.Bytes, a2.Storage.Tags⟩ : Storage), a2.At, a2.Stack, a2.Lines, a2.Status, a2.Exception, a2.Marks, a2.Steps⟩ : zA)).bind fun r3 =>
  some (!r3))).bind fun g4 => cond g4 (some true) ((zjs (⟨(⟨a1.Storage.Bytes, a1.Storage.Tags⟩ : Storage), a1.zC, a1.zO⟩ : zG)).bind fun r5 =>
  (zib (⟨a2.Registers, a2.Condition, (⟨a2.Storage.Bytes, a2.Storage.Tags⟩ : Storage), a2.At, a2.Stack, a2.Lines, a2.Status, a2.Exception, a2.Marks, a2.Steps⟩ : zA)).bind fun r6 =>
  (zfv N (⟨a0.Registers, a0.yA, a0.zX⟩ : zJ) (⟨r5.Storage, r5.zC, r5.zO⟩ : zG) r6).bind fun r7 =>
  (zw N (⟨a0.Registers, a0.yA, a0.zX⟩ : zJ) (⟨(⟨a1.Storage.Bytes, a1.Storage.Tags⟩ : Storage), a1.zC, a1.zO⟩ : zG)
  (⟨a2.Registers, a2.Condition, (⟨a2.Storage.Bytes, a2.Storage.Tags⟩ : Storage), a2.At, a2.Stack, a2.Lines, a2.Status, a2.Exception, a2.Marks, a2.Steps⟩ : zA)).bind fun r8 =>
  (cond (r8 == 0) ((cond (a2.Status != 0) (some true) (some (a2.Steps == 3000))).bind fun g9 => some g9) (some false)).bind fun g10 => cond g10 ((cond (r7.2 == 26)
  ((zk9 N (⟨r7.1.Registers, r7.1.Condition, (⟨r7.1.Storage.Bytes, r7.1.Storage.Tags⟩ : Storage), r7.1.At, r7.1.Stack, r7.1.Lines, r7.1.Status, r7.1.Exception, r7.1.Marks, r7.1.Steps⟩ : zA)).bind fun r11 =>
  some r11) (some false)).bind fun g12 => some g12) (cond (r8 != 0) ((cond (r7.2 == r8)
  ((zk9 N (⟨r7.1.Registers, r7.1.Condition, (⟨r7.1.Storage.Bytes, r7.1.Storage.Tags⟩ : Storage), r7.1.At, r7.1.Stack, r7.1.Lines, r7.1.Status, r7.1.Exception, r7.1.Marks, r7.1.Steps⟩ : zA)).bind fun r13 =>
  some r13) (some false)).bind fun g14 => some g14) ((cond (r7.2 == 0) ((zmk N (⟨(⟨a1.Storage.Bytes, a1.Storage.Tags⟩ : Storage), a1.zC, a1.zO⟩ : zG)
  (⟨a2.Registers, a2.Condition, (⟨a2.Storage.Bytes, a2.Storage.Tags⟩ : Storage), a2.At, a2.Stack, a2.Lines, a2.Status, a2.Exception, a2.Marks, a2.Steps⟩ : zA)).bind fun r15 =>
  (zc4 N (⟨r7.1.Registers, r7.1.Condition, (⟨r7.1.Storage.Bytes, r7.1.Storage.Tags⟩ : Storage), r7.1.At, r7.1.Stack, r7.1.Lines, r7.1.Status, r7.1.Exception, r7.1.Marks, r7.1.Steps⟩ : zA) r15).bind fun r16 =>
  some r16) (some false)).bind fun g17 => some g17))))
def zf5.k (N : Nat) : Kq := ⟨9, (cvv [Ty.bool] [Ty.zJ, Ty.zG, Ty.zA] (zf5 N)), go [zm1.k N, zfa.k N, zjs.k, zcd.k N, zk9.k N, zc4.k N, zib.k, zw.k N, zfv.k N, zmk.k N] {lits := [23, 25, 60]} [] Proofs.Tryz.func9⟩
end
end Go.Proofs.YtppbpnknfigboaaGreatDoor.M
