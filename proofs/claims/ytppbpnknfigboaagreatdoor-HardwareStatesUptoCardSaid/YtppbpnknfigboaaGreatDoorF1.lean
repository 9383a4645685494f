/- What the program's functions compute, each tied to its code: part 1. -/
import Derived.Test.YtppbpnknfigboaaGreatDoorF0
namespace Go.Proofs.YtppbpnknfigboaaGreatDoor.M
open Go Go.Amx
set_option linter.unusedVariables false
set_option maxRecDepth 100000
noncomputable section
def zf1 (a0 : Number) : Option (ByteArray × Int) :=
 (z7 a0).bind fun r1 => cond (r1 != 0) (some ((⟨#[]⟩ : ByteArray), r1))
  ((zxk (if (w6 (0 - a0.N)) > a0.N then (w6 (0 - a0.N)) else a0.N)).bind fun r2 => cond (decide ((r2.size : Int) ≤ a0.Scale))
  ((zqn (⟨#[48]⟩ : ByteArray) (w6 ((w6 (a0.Scale + 1)) - (r2.size : Int)))).bind fun r3 =>
  if ((r3.size + r2.size : Nat) : Int) > IntKind.i64.max then none else cond (decide (a0.Scale > 0))
  (if 0 ≤ (w6 (((r3 ++ r2).size : Int) - a0.Scale)) ∧ (w6 (((r3 ++ r2).size : Int) - a0.Scale)) ≤ ((r3 ++ r2).size : Int) then (if 0 ≤ (0 : Int) ∧ (0 : Int) ≤ (w6 (((r3 ++ r2).size : Int) - a0.Scale)) then (if ((((r3 ++ r2).extract (0 : Int).toNat (w6 (((r3 ++ r2).size : Int) - a0.Scale)).toNat).size + (⟨#[46]⟩ : ByteArray).size : Nat) : Int) > IntKind.i64.max then none else if 0 ≤ (w6 (((r3 ++ r2).size : Int) - a0.Scale)) ∧ (w6 (((r3 ++ r2).size : Int) - a0.Scale)) ≤ ((r3 ++ r2).size : Int) then (if (((((r3 ++ r2).extract (0 : Int).toNat (w6 (((r3 ++ r2).size : Int) - a0.Scale)).toNat) ++ (⟨#[46]⟩ : ByteArray)).size + ((r3 ++ r2).extract (w6 (((r3 ++ r2).size : Int) - a0.Scale)).toNat (r3 ++ r2).size).size : Nat) : Int) > IntKind.i64.max then none else cond (decide (a0.N < 0))
  (if (((⟨#[45]⟩ : ByteArray).size + ((((r3 ++ r2).extract (0 : Int).toNat (w6 (((r3 ++ r2).size : Int) - a0.Scale)).toNat) ++ (⟨#[46]⟩ : ByteArray)) ++ ((r3 ++ r2).extract (w6 (((r3 ++ r2).size : Int) - a0.Scale)).toNat (r3 ++ r2).size)).size : Nat) : Int) > IntKind.i64.max then none else some (((⟨#[45]⟩ : ByteArray) ++ ((((r3 ++ r2).extract (0 : Int).toNat (w6 (((r3 ++ r2).size : Int) - a0.Scale)).toNat) ++ (⟨#[46]⟩ : ByteArray)) ++ ((r3 ++ r2).extract (w6 (((r3 ++ r2).size : Int) - a0.Scale)).toNat (r3 ++ r2).size))), 0))
  (some (((((r3 ++ r2).extract (0 : Int).toNat (w6 (((r3 ++ r2).size : Int) - a0.Scale)).toNat) ++ (⟨#[46]⟩ : ByteArray)) ++ ((r3 ++ r2).extract (w6 (((r3 ++ r2).size : Int) - a0.Scale)).toNat (r3 ++ r2).size)), 0))) else none) else none) else none)
  (cond (decide (a0.N < 0)) (if (((⟨#[45]⟩ : ByteArray).size + (r3 ++ r2).size : Nat) : Int) > IntKind.i64.max then none else some (((⟨#[45]⟩ : ByteArray) ++ (r3 ++ r2)), 0))
  (some ((r3 ++ r2), 0)))) (cond (decide (a0.Scale > 0))
  (if 0 ≤ (w6 ((r2.size : Int) - a0.Scale)) ∧ (w6 ((r2.size : Int) - a0.Scale)) ≤ (r2.size : Int) then (if 0 ≤ (0 : Int) ∧ (0 : Int) ≤ (w6 ((r2.size : Int) - a0.Scale)) then (if (((r2.extract (0 : Int).toNat (w6 ((r2.size : Int) - a0.Scale)).toNat).size + (⟨#[46]⟩ : ByteArray).size : Nat) : Int) > IntKind.i64.max then none else if 0 ≤ (w6 ((r2.size : Int) - a0.Scale)) ∧ (w6 ((r2.size : Int) - a0.Scale)) ≤ (r2.size : Int) then (if ((((r2.extract (0 : Int).toNat (w6 ((r2.size : Int) - a0.Scale)).toNat) ++ (⟨#[46]⟩ : ByteArray)).size + (r2.extract (w6 ((r2.size : Int) - a0.Scale)).toNat r2.size).size : Nat) : Int) > IntKind.i64.max then none else cond (decide (a0.N < 0))
  (if (((⟨#[45]⟩ : ByteArray).size + (((r2.extract (0 : Int).toNat (w6 ((r2.size : Int) - a0.Scale)).toNat) ++ (⟨#[46]⟩ : ByteArray)) ++ (r2.extract (w6 ((r2.size : Int) - a0.Scale)).toNat r2.size)).size : Nat) : Int) > IntKind.i64.max then none else some (((⟨#[45]⟩ : ByteArray) ++ (((r2.extract (0 : Int).toNat (w6 ((r2.size : Int) - a0.Scale)).toNat) ++ (⟨#[46]⟩ : ByteArray)) ++ (r2.extract (w6 ((r2.size : Int) - a0.Scale)).toNat r2.size))), 0))
  (some ((((r2.extract (0 : Int).toNat (w6 ((r2.size : Int) - a0.Scale)).toNat) ++ (⟨#[46]⟩ : ByteArray)) ++ (r2.extract (w6 ((r2.size : Int) - a0.Scale)).toNat r2.size)), 0))) else none) else none) else none)
  (cond (decide (a0.N < 0)) (if (((⟨#[45]⟩ : ByteArray).size + r2.size : Nat) : Int) > IntKind.i64.max then none else some (((⟨#[45]⟩ : ByteArray) ++ r2), 0)) (some (r2, 0)))))
def zf1.k : Kq := ⟨221, (cvv [Ty.str, T6] [Ty.Number] zf1), go [z7.k, zro.k, zta.k] {lits := [16]} [] Proofs.Tryz.func221⟩
def ztb : Ct U := { params := [.val (Ty.sl Ty.str)], results := [(Ty.sl Ty.str)], outs := [], fresh := [0], fn := app U [(Ty.sl Ty.str)] (R := PT U [(Ty.sl Ty.str)]) (zge 16) }
theorem ztb.meets : zf2 (zns [] [] [] [] [] [] [] []) 222 ztb :=
 zlf zqy (zp5 (l := []) rfl zbq) (zpk (l := []) rfl zbq) (Lp := pick []) Proofs.Tryz.func222 (by kernel_rfl) (zp7 (l := []) rfl zbq) (fun y => by kernel_rfl) (e := 9) (t := Ty.str) rfl rfl rfl rfl rfl rfl rfl (by kernel_rfl) rfl rfl rfl rfl rfl rfl (fun xs => by kernel_rfl) fun ds y h => by
  obtain ⟨xs, rfl, hx⟩ := zto h; refine ⟨xs, rfl, fun b hb => ?_⟩; cases b with
  | true =>
   have := hb rfl; subst this; exact Eq.trans (by kernel_rfl) hx
  | false => exact Eq.trans (b := cond (Nat.ble ((0 + xs.length) * 16) zax) (some xs) none) (by kernel_rfl) (by rw [Nat.zero_add]; exact hx)
def ztb.k : Kq := ⟨222, ztb, ztb.meets⟩
def zfi (N : Nat) (a0 : hardware_machine) (a1 : HwInstruction) : Option hardware_machine :=
 cond (a1.Op == 22) ((idx a0.HwState.Registers a1.R).bind fun x1 => (zf1 x1).bind fun r2 => cond ((a0.HwState.Lines.length : Int) == 40)
  (some (⟨(⟨a0.HwState.Registers, a0.HwState.Condition, a0.HwState.Storage, a0.HwState.At, a0.HwState.Stack, a0.HwState.Lines, 3, a0.HwState.Exception, a0.HwState.Marks, a0.HwState.Steps⟩ : HwState), a0.code, a0.raised⟩ : hardware_machine))
  ((zge 16 a0.HwState.Lines).bind fun r3 => cond (Nat.ble ((r3.length + ([r2.1] : List ByteArray).length) * 16) zax)
  (some (⟨(⟨a0.HwState.Registers, a0.HwState.Condition, a0.HwState.Storage, a0.HwState.At, a0.HwState.Stack, (r3 ++ ([r2.1] : List ByteArray)), a0.HwState.Status, a0.HwState.Exception, a0.HwState.Marks, a0.HwState.Steps⟩ : HwState), a0.code, a0.raised⟩ : hardware_machine)) none))
  (cond (a1.Op == 23) ((zaq N a0 a1.Place a1.Type_).bind fun r4 => cond (!r4.2.1) (some r4.2.2) (cond ((r4.2.2.HwState.Lines.length : Int) == 40)
  (some (⟨(⟨r4.2.2.HwState.Registers, r4.2.2.HwState.Condition, r4.2.2.HwState.Storage, r4.2.2.HwState.At, r4.2.2.HwState.Stack, r4.2.2.HwState.Lines, 3, r4.2.2.HwState.Exception, r4.2.2.HwState.Marks, r4.2.2.HwState.Steps⟩ : HwState), r4.2.2.code, r4.2.2.raised⟩ : hardware_machine))
  ((zge 16 r4.2.2.HwState.Lines).bind fun r5 => cond (Nat.ble ((r5.length + ([r4.1] : List ByteArray).length) * 16) zax)
  (some (⟨(⟨r4.2.2.HwState.Registers, r4.2.2.HwState.Condition, r4.2.2.HwState.Storage, r4.2.2.HwState.At, r4.2.2.HwState.Stack, (r5 ++ ([r4.1] : List ByteArray)), r4.2.2.HwState.Status, r4.2.2.HwState.Exception, r4.2.2.HwState.Marks, r4.2.2.HwState.Steps⟩ : HwState), r4.2.2.code, r4.2.2.raised⟩ : hardware_machine)) none)))
  (cond ((a0.HwState.Lines.length : Int) == 40)
  (some (⟨(⟨a0.HwState.Registers, a0.HwState.Condition, a0.HwState.Storage, a0.HwState.At, a0.HwState.Stack, a0.HwState.Lines, 3, a0.HwState.Exception, a0.HwState.Marks, a0.HwState.Steps⟩ : HwState), a0.code, a0.raised⟩ : hardware_machine))
  ((zge 16 a0.HwState.Lines).bind fun r6 => cond (Nat.ble ((r6.length + ([a1.Text] : List ByteArray).length) * 16) zax)
  (some (⟨(⟨a0.HwState.Registers, a0.HwState.Condition, a0.HwState.Storage, a0.HwState.At, a0.HwState.Stack, (r6 ++ ([a1.Text] : List ByteArray)), a0.HwState.Status, a0.HwState.Exception, a0.HwState.Marks, a0.HwState.Steps⟩ : HwState), a0.code, a0.raised⟩ : hardware_machine)) none)))
def zfi.k (N : Nat) : Kq := ⟨156, (ctv [.ptr Ty.hardware_machine true [], .val Ty.HwInstruction] [] [Ty.hardware_machine] [] [Ty.hardware_machine, Ty.HwInstruction] (zfi N)), go [zaq.k N, zf1.k, ztb.k] {lits := [44], pk := [1000000]} [] Proofs.Tryz.func156⟩
def zfs (a0 : hardware_machine) : Option hardware_machine :=
 cond (a0.HwState.Marks == 300)
  (some (⟨(⟨a0.HwState.Registers, a0.HwState.Condition, a0.HwState.Storage, a0.HwState.At, a0.HwState.Stack, a0.HwState.Lines, 3, a0.HwState.Exception, a0.HwState.Marks, a0.HwState.Steps⟩ : HwState), a0.code, a0.raised⟩ : hardware_machine))
  (some (⟨(⟨a0.HwState.Registers, a0.HwState.Condition, a0.HwState.Storage, a0.HwState.At, a0.HwState.Stack, a0.HwState.Lines, a0.HwState.Status, a0.HwState.Exception, (w6 (a0.HwState.Marks + 1)), a0.HwState.Steps⟩ : HwState), a0.code, a0.raised⟩ : hardware_machine))
def zfs.k : Kq := ⟨157, (ctv [.ptr Ty.hardware_machine true []] [] [Ty.hardware_machine] [] [Ty.hardware_machine] zfs), go [] {pk := [1000000]} [] Proofs.Tryz.func157⟩
def zpl : Ct U := { params := [.val (Ty.sl T6)], results := [(Ty.sl T6)], outs := [], fresh := [0], fn := app U [(Ty.sl T6)] (R := PT U [(Ty.sl T6)]) (zge 8) }
theorem zpl.meets : zf2 (zns [] [] [] [] [] [] [] []) 160 zpl :=
 zlf zqy (zp5 (l := []) rfl zbq) (zpk (l := []) rfl zbq) (Lp := pick []) Proofs.Tryz.func160 (by kernel_rfl) (zp7 (l := []) rfl zbq) (fun y => by kernel_rfl) (e := 3) (t := T6) rfl rfl rfl rfl rfl rfl rfl (by kernel_rfl) rfl rfl rfl rfl rfl rfl (fun xs => by kernel_rfl) fun ds y h => by
  obtain ⟨xs, rfl, hx⟩ := zto h; refine ⟨xs, rfl, fun b hb => ?_⟩; cases b with
  | true =>
   have := hb rfl; subst this; exact Eq.trans (by kernel_rfl) hx
  | false => exact Eq.trans (b := cond (Nat.ble ((0 + xs.length) * 8) zax) (some xs) none) (by kernel_rfl) (by rw [Nat.zero_add]; exact hx)
def zpl.k : Kq := ⟨160, zpl, zpl.meets⟩
def zfu (a0 : hardware_machine) (a1 : Int) : Option (Int × hardware_machine) :=
 (zf a0 (decide ((a0.HwState.Stack.length : Int) ≥ 6)) 6).bind fun r1 => cond r1.1 ((zge 8 r1.2.HwState.Stack).bind fun r2 =>
  cond (Nat.ble ((r2.length + ([r1.2.HwState.At] : List Int).length) * 8) zax)
  (some (a1, (⟨(⟨r1.2.HwState.Registers, r1.2.HwState.Condition, r1.2.HwState.Storage, r1.2.HwState.At, (r2 ++ ([r1.2.HwState.At] : List Int)), r1.2.HwState.Lines, r1.2.HwState.Status, r1.2.HwState.Exception, r1.2.HwState.Marks, r1.2.HwState.Steps⟩ : HwState), r1.2.code, r1.2.raised⟩ : hardware_machine))) none)
  (some (a1, r1.2))
def zfu.k : Kq := ⟨223, (ctv [.ptr Ty.hardware_machine true [], .val T6] [T6] [Ty.hardware_machine] [] [Ty.hardware_machine, T6] zfu), go [zpl.k, zf.k] {lits := [26], pk := [1000000]} [] Proofs.Tryz.func223⟩
def zfv (a0 : hardware_machine) : Option (Int × hardware_machine) :=
 cond (decide ((w6 ((a0.HwState.Stack.length : Int) - 1)) < 0))
  (some (a0.HwState.At, (⟨(⟨a0.HwState.Registers, a0.HwState.Condition, a0.HwState.Storage, a0.HwState.At, a0.HwState.Stack, a0.HwState.Lines, 1, a0.HwState.Exception, a0.HwState.Marks, a0.HwState.Steps⟩ : HwState), a0.code, a0.raised⟩ : hardware_machine)))
  ((idx a0.HwState.Stack (w6 ((a0.HwState.Stack.length : Int) - 1))).bind fun x1 =>
  if 0 ≤ (w6 ((a0.HwState.Stack.length : Int) - 1)) ∧ (w6 ((a0.HwState.Stack.length : Int) - 1)) ≤ (a0.HwState.Stack.length : Int) then (if 0 ≤ (0 : Int) ∧ (0 : Int) ≤ (w6 ((a0.HwState.Stack.length : Int) - 1)) then ((zge 8 ((a0.HwState.Stack.take (w6 ((a0.HwState.Stack.length : Int) - 1)).toNat).drop (0 : Int).toNat)).bind fun r2 =>
  some ((w6 (x1 + 1)), (⟨(⟨a0.HwState.Registers, a0.HwState.Condition, a0.HwState.Storage, a0.HwState.At, r2, a0.HwState.Lines, a0.HwState.Status, a0.HwState.Exception, a0.HwState.Marks, a0.HwState.Steps⟩ : HwState), a0.code, a0.raised⟩ : hardware_machine))) else none) else none)
def zfv.k : Kq := ⟨224, (ctv [.ptr Ty.hardware_machine true []] [T6] [Ty.hardware_machine] [] [Ty.hardware_machine] zfv), go [zpl.k] {pk := [1000000]} [] Proofs.Tryz.func224⟩
def zft (N : Nat) (a0 : hardware_machine) (a1 : HwInstruction) : Option (Int × hardware_machine) :=
 cond (a1.Op == 8) (some (a1.Target, a0)) (cond (a1.Op == 18) ((zfu a0 a1.Target).bind fun r1 => some (r1.1, r1.2)) (cond (a1.Op == 19)
  ((zfv a0).bind fun r2 => some (r2.1, r2.2)) (cond (a1.Op == 6) (cond ((zd .i64 a0.HwState.Condition a1.Mask) != 0) (some (a1.Target, a0))
  (some ((w6 (a0.HwState.At + 1)), a0))) (cond (a1.Op == 7) ((zbb N a0 a1).bind fun r3 => cond ((zd .i64 r3 a1.Mask) != 0)
  (some (a1.Target, a0)) (some ((w6 (a0.HwState.At + 1)), a0))) (some ((w6 (a0.HwState.At + 1)), a0))))))
def zft.k (N : Nat) : Kq := ⟨158, (ctv [.ptr Ty.hardware_machine true [], .val Ty.HwInstruction] [T6] [Ty.hardware_machine] [] [Ty.hardware_machine, Ty.HwInstruction] (zft N)), go [zbb.k N, zfu.k, zfv.k] {pk := [1000000]} [] Proofs.Tryz.func158⟩
def zen (N : Nat) (a0 : hardware_machine) (a1 : HwInstruction) : Option (Int × hardware_machine) :=
 cond (a1.Op == 0) ((zcs N a0 a1.Place a1.Type_).bind fun r1 => cond r1.2.1 ((za9 r1.2.2 a1.R r1.1).bind fun r2 =>
  some ((w6 (r2.HwState.At + 1)), r2)) (some ((w6 (r1.2.2.HwState.At + 1)), r1.2.2))) (cond (a1.Op == 1)
  ((zfh N a0 a1).bind fun r3 => some ((w6 (r3.HwState.At + 1)), r3)) (cond (a1.Op == 2) ((za9 a0 a1.R a1.Number).bind fun r4 =>
  some ((w6 (r4.HwState.At + 1)), r4)) (cond (a1.Op == 3) ((idx a0.HwState.Registers a1.A).bind fun x5 => (za9 a0 a1.R x5).bind fun r6 =>
  some ((w6 (r6.HwState.At + 1)), r6)) (cond (a1.Op == 4) ((zee N a0 a1).bind fun r7 => some ((w6 (r7.HwState.At + 1)), r7))
  (cond (a1.Op == 5) ((zbb N a0 a1).bind fun r8 =>
  some ((w6 (a0.HwState.At + 1)), (⟨(⟨a0.HwState.Registers, r8, a0.HwState.Storage, a0.HwState.At, a0.HwState.Stack, a0.HwState.Lines, a0.HwState.Status, a0.HwState.Exception, a0.HwState.Marks, a0.HwState.Steps⟩ : HwState), a0.code, a0.raised⟩ : hardware_machine)))
  ((cond (a1.Op == 9) (some (a1.Op == 9)) (some (a1.Op == 10))).bind fun q9 => cond q9 ((zed N a0 a1).bind fun r10 =>
  some ((w6 (r10.HwState.At + 1)), r10)) ((cond (a1.Op == 11) (some (a1.Op == 11)) (some (a1.Op == 12))).bind fun q11 =>
  cond q11 ((zdb N a0 a1).bind fun r12 => some ((w6 (r12.HwState.At + 1)), r12)) (cond (a1.Op == 13)
  ((ze8 a1.Text a1.Other).bind fun r13 =>
  some ((w6 (a0.HwState.At + 1)), (⟨(⟨a0.HwState.Registers, r13, a0.HwState.Storage, a0.HwState.At, a0.HwState.Stack, a0.HwState.Lines, a0.HwState.Status, a0.HwState.Exception, a0.HwState.Marks, a0.HwState.Steps⟩ : HwState), a0.code, a0.raised⟩ : hardware_machine)))
  ((cond (a1.Op == 14) (some (a1.Op == 14)) (cond (a1.Op == 15) (some (a1.Op == 15)) (cond (a1.Op == 16) (some (a1.Op == 16)) (some (a1.Op == 17))))).bind fun q14 =>
  cond q14 ((zel N a0 a1).bind fun r15 => some ((w6 (r15.HwState.At + 1)), r15)) (cond (a1.Op == 20)
  ((ze0 N a0 a1).bind fun r16 => some ((w6 (r16.HwState.At + 1)), r16)) (cond (a1.Op == 21)
  ((za9 a0 a1.R (⟨a0.HwState.Exception, 0⟩ : Number)).bind fun r17 => some ((w6 (r17.HwState.At + 1)), r17)) ((cond (a1.Op == 22)
  (some (a1.Op == 22)) (cond (a1.Op == 23) (some (a1.Op == 23)) (some (a1.Op == 24)))).bind fun q18 => cond q18 ((zfi N a0 a1).bind fun r19 =>
  some ((w6 (r19.HwState.At + 1)), r19)) (cond (a1.Op == 25) ((zfs a0).bind fun r20 => some ((w6 (r20.HwState.At + 1)), r20))
  (cond (a1.Op == 26)
  (some ((w6 (a0.HwState.At + 1)), (⟨(⟨a0.HwState.Registers, a0.HwState.Condition, a0.HwState.Storage, a0.HwState.At, a0.HwState.Stack, a0.HwState.Lines, 1, a0.HwState.Exception, a0.HwState.Marks, a0.HwState.Steps⟩ : HwState), a0.code, a0.raised⟩ : hardware_machine)))
  ((zft N a0 a1).bind fun r21 => some (r21.1, r21.2))))))))))))))))
def zen.k (N : Nat) : Kq := ⟨104, (ctv [.ptr Ty.hardware_machine true [], .val Ty.HwInstruction] [T6] [Ty.hardware_machine] [] [Ty.hardware_machine, Ty.HwInstruction] (zen N)), go [zcs.k N, za9.k, zfh.k N, zee.k N, zbb.k N, zed.k N, zdb.k N, ze8.k, zel.k N, ze0.k N, zfi.k N, zfs.k, zft.k N] {pk := [1000000], bj := [71, 77, 94, 119]} [] Proofs.Tryz.func104⟩
def zgo (a0 : HwTrap) (a1 : Int) (a2 : Int) : Option Bool :=
 (zn a1 a0.From (w6 (a0.To - 1))).bind fun r1 => (cond r1 ((cond (a0.Exception == 0) (some true) (some (a0.Exception == a2))).bind fun g2 => some g2)
  (some false)).bind fun g3 => some g3
def zgo.k : Kq := ⟨226, (ctv [.val Ty.HwTrap, .ptr T6 false [], .ptr T6 false []] [Ty.bool] [] [] [Ty.HwTrap, T6, T6] zgo), go [zn.k] {ro := [1000000, 1000001], pk := [1000000, 1000001]} [] Proofs.Tryz.func226⟩
def zad.b0 (N : Nat) (s0 : List HwTrap) (s7 : Int) (s8 : Int) (b1000000 : Int) (b1000001 : Int) : Option (Round Int ((List HwTrap) × Int × Int × Int × Int)) :=
 cond (decide (s8 < s7)) ((idx s0 s8).bind fun x1001 => (zgo x1001 b1000000 b1000001).bind fun r1002 => cond r1002 (some (.result s8))
  (some (.again (s0, s7, (w6 (s8 + 1)), b1000000, b1000001)))) (some (.leave (s0, s7, s8, b1000000, b1000001)))
def zad.r0 (N : Nat) (x : (List HwTrap) × Int × Int × Int × Int) := zad.b0 N x.1 x.2.1 x.2.2.1 x.2.2.2.1 x.2.2.2.2
def zad (N : Nat) (a0 : List HwTrap) (a1 : Int) (a2 : Int) : Option Int :=
 (zk (zad.r0 N) N (a0, (a0.length : Int), 0, a1, a2)).bind fun z2 => zbe z2 (fun z => some z) (fun y1 => some (-1))
def zad.k (N : Nat) : Kq := ⟨225, (ctv [.val (Ty.sl Ty.HwTrap), .clo 226 2, .ptr T6 false [], .ptr T6 false []] [T6] [] [] [(Ty.sl Ty.HwTrap), T6, T6] (zad N)), go [zgo.k] {ro := [1000000, 1000001], pk := [1000000, 1000001]} [(0, .rets { slots := [(0, .val (Ty.sl Ty.HwTrap)), (1, .fn 226 [1000000, 1000001]), (7, .val T6), (8, .val T6)], boxes := [(1000000, T6, []), (1000001, T6, [])] } [(Ty.sl Ty.HwTrap), T6, T6, T6, T6] (zk (zad.r0 N) N))] Proofs.Tryz.func225 (hL := ⟨⟨_, _, rfl, by kernel_rfl⟩, trivial⟩)⟩
def zho (N : Nat) (a0 : HwCode) (a1 : Int) (a2 : Int) : Option Int :=
 (zad N a0.Traps a1 a2).bind fun r1 => cond (decide (r1 < 0)) (some (-1)) ((idx a0.Traps r1).bind fun x2 => some x2.Handler)
def zho.k (N : Nat) : Kq := ⟨159, (cvv [T6] [Ty.HwCode, T6, T6] (zho N)), go [zad.k N] {} [] Proofs.Tryz.func159⟩
def za3.b0 (N : Nat) (b1000000 : hardware_machine) : Option (Round hardware_machine hardware_machine) :=
 (zho N b1000000.code b1000000.HwState.At b1000000.raised).bind fun r1001 => cond (decide (r1001 ≥ 0))
  (some (.result (⟨(⟨b1000000.HwState.Registers, b1000000.HwState.Condition, b1000000.HwState.Storage, r1001, b1000000.HwState.Stack, b1000000.HwState.Lines, b1000000.HwState.Status, b1000000.HwState.Exception, b1000000.HwState.Marks, b1000000.HwState.Steps⟩ : HwState), b1000000.code, b1000000.raised⟩ : hardware_machine)))
  (cond (decide ((w6 ((b1000000.HwState.Stack.length : Int) - 1)) < 0))
  (some (.result (⟨(⟨b1000000.HwState.Registers, b1000000.HwState.Condition, b1000000.HwState.Storage, b1000000.HwState.At, b1000000.HwState.Stack, b1000000.HwState.Lines, 2, b1000000.HwState.Exception, b1000000.HwState.Marks, b1000000.HwState.Steps⟩ : HwState), b1000000.code, b1000000.raised⟩ : hardware_machine)))
  ((idx b1000000.HwState.Stack (w6 ((b1000000.HwState.Stack.length : Int) - 1))).bind fun x1002 =>
  if 0 ≤ (w6 ((b1000000.HwState.Stack.length : Int) - 1)) ∧ (w6 ((b1000000.HwState.Stack.length : Int) - 1)) ≤ (b1000000.HwState.Stack.length : Int) then (if 0 ≤ (0 : Int) ∧ (0 : Int) ≤ (w6 ((b1000000.HwState.Stack.length : Int) - 1)) then ((zge 8 ((b1000000.HwState.Stack.take (w6 ((b1000000.HwState.Stack.length : Int) - 1)).toNat).drop (0 : Int).toNat)).bind fun r1003 =>
  some (.again (⟨(⟨b1000000.HwState.Registers, b1000000.HwState.Condition, b1000000.HwState.Storage, x1002, r1003, b1000000.HwState.Lines, b1000000.HwState.Status, b1000000.HwState.Exception, b1000000.HwState.Marks, b1000000.HwState.Steps⟩ : HwState), b1000000.code, b1000000.raised⟩ : hardware_machine))) else none) else none))
def za3.r0 (N : Nat) (x : hardware_machine) := za3.b0 N x
def za3 (N : Nat) (a0 : hardware_machine) : Option hardware_machine :=
 (zk (za3.r0 N) N (⟨(⟨a0.HwState.Registers, a0.HwState.Condition, a0.HwState.Storage, a0.HwState.At, a0.HwState.Stack, a0.HwState.Lines, a0.HwState.Status, a0.raised, a0.HwState.Marks, a0.HwState.Steps⟩ : HwState), a0.code, a0.raised⟩ : hardware_machine)).bind fun z2 =>
  zbe z2 (fun z => some z) (fun y1 => some y1)
def za3.k (N : Nat) : Kq := ⟨105, (ctv [.ptr Ty.hardware_machine true []] [] [Ty.hardware_machine] [] [Ty.hardware_machine] (za3 N)), go [zho.k N, zpl.k] {pk := [1000000]} [(0, .rets { slots := [(0, .ptr 1000000 0)], boxes := [(1000000, Ty.hardware_machine, [])] } [Ty.hardware_machine] (zk (za3.r0 N) N))] Proofs.Tryz.func105 (hL := ⟨⟨_, _, rfl, by kernel_rfl⟩, trivial⟩)⟩
def zjl (N : Nat) (a0 : HwCode) (a1 : HwState) : Option HwState :=
 (idx a0.Instructions a1.At).bind fun x1 =>
  (zen N (⟨(⟨a1.Registers, a1.Condition, (⟨a1.Storage.Bytes, a1.Storage.Tags⟩ : Storage), a1.At, a1.Stack, a1.Lines, a1.Status, a1.Exception, a1.Marks, (w6 (a1.Steps + 1))⟩ : HwState), (⟨(⟨a0.Storage.Bytes, a0.Storage.Tags⟩ : Storage), a0.Instructions, a0.Traps⟩ : HwCode), 0⟩ : hardware_machine)
  (⟨x1.Op, x1.R, x1.A, x1.B, x1.Calculation, (⟨x1.Place.Based, x1.Place.Pointer, x1.Place.Offset⟩ : HwPlace), (⟨x1.From.Based, x1.From.Pointer, x1.From.Offset⟩ : HwPlace), (⟨x1.Type_.Kind, x1.Type_.Length, x1.Type_.Scale⟩ : DataType), (⟨x1.Second.Kind, x1.Second.Length, x1.Second.Scale⟩ : DataType), x1.Half, x1.InStorage, (⟨x1.Number.N, x1.Number.Scale⟩ : Number), x1.Text, x1.Other, x1.Mask, x1.Target, x1.Pointer, x1.Source⟩ : HwInstruction)).bind fun r2 =>
  cond (r2.2.raised != 0) ((za3 N r2.2).bind fun r3 => (cond (r3.HwState.Status == 0) (some (r3.HwState.Steps == 3000)) (some false)).bind fun g4 =>
  cond g4 (some (⟨r3.HwState.Registers, r3.HwState.Condition, r3.HwState.Storage, r3.HwState.At, r3.HwState.Stack, r3.HwState.Lines, 3, r3.HwState.Exception, r3.HwState.Marks, r3.HwState.Steps⟩ : HwState))
  (some r3.HwState)) (cond (r2.2.HwState.Status != 0) ((cond (r2.2.HwState.Status == 0) (some (r2.2.HwState.Steps == 3000)) (some false)).bind fun g5 =>
  cond g5 (some (⟨r2.2.HwState.Registers, r2.2.HwState.Condition, r2.2.HwState.Storage, r2.2.HwState.At, r2.2.HwState.Stack, r2.2.HwState.Lines, 3, r2.2.HwState.Exception, r2.2.HwState.Marks, r2.2.HwState.Steps⟩ : HwState))
  (some r2.2.HwState)) (cond (r2.1 == (a0.Instructions.length : Int))
  (some (⟨r2.2.HwState.Registers, r2.2.HwState.Condition, r2.2.HwState.Storage, r2.2.HwState.At, r2.2.HwState.Stack, r2.2.HwState.Lines, 1, r2.2.HwState.Exception, r2.2.HwState.Marks, r2.2.HwState.Steps⟩ : HwState))
  ((cond (r2.2.HwState.Status == 0) (some (r2.2.HwState.Steps == 3000)) (some false)).bind fun g6 =>
  cond g6 (some (⟨r2.2.HwState.Registers, r2.2.HwState.Condition, r2.2.HwState.Storage, r2.1, r2.2.HwState.Stack, r2.2.HwState.Lines, 3, r2.2.HwState.Exception, r2.2.HwState.Marks, r2.2.HwState.Steps⟩ : HwState))
  (some (⟨r2.2.HwState.Registers, r2.2.HwState.Condition, r2.2.HwState.Storage, r2.1, r2.2.HwState.Stack, r2.2.HwState.Lines, r2.2.HwState.Status, r2.2.HwState.Exception, r2.2.HwState.Marks, r2.2.HwState.Steps⟩ : HwState)))))
def zjl.k (N : Nat) : Kq := ⟨59, (cvv [Ty.HwState] [Ty.HwCode, Ty.HwState] (zjl N)), go [zen.k N, za3.k N] {} [] Proofs.Tryz.func59⟩
def zep.b0 (N : Nat) (b3 : HwCode) (b4 : HwResult) (b6 : HwState) : Option (Stp (HwCode × HwResult × HwState)) :=
 cond (b6.Status == 0) ((zjl N b3 b6).bind fun r1001 => some (.again (b3, b4, r1001))) (some (.leave (b3, b4, b6)))
def zep.r0 (N : Nat) (x : HwCode × HwResult × HwState) := zep.b0 N x.1 x.2.1 x.2.2
def zep (N : Nat) (a0 : HwModel) (a1 : HwCode) : Option (HwResult × Int) :=
 (zc0 N (⟨a0.Registers, a0.Fused, a0.Memory⟩ : HwModel) (⟨(⟨a1.Storage.Bytes, a1.Storage.Tags⟩ : Storage), a1.Instructions, a1.Traps⟩ : HwCode)).bind fun r1 =>
  cond (r1.2 != 0) (some ((⟨[], 0, 0, 0, 0, (⟨(⟨#[]⟩ : ByteArray), []⟩ : Storage)⟩ : HwResult), r1.2))
  ((zac (zep.r0 N) N ((⟨(⟨a1.Storage.Bytes, a1.Storage.Tags⟩ : Storage), a1.Instructions, a1.Traps⟩ : HwCode), (⟨[], 0, 0, 0, 0, (⟨(⟨#[]⟩ : ByteArray), []⟩ : Storage)⟩ : HwResult), r1.1)).bind fun y2 =>
  some ((⟨y2.2.2.Lines, y2.2.2.Status, y2.2.2.Exception, y2.2.2.Marks, y2.2.2.Steps, y2.2.2.Storage⟩ : HwResult), 0))
def zep.k (N : Nat) : Kq := ⟨19, (cvv [Ty.HwResult, T6] [Ty.HwModel, Ty.HwCode] (zep N)), go [zc0.k N, zjl.k N] {} [(0, .plain { slots := [(3, .ptr 3 0), (4, .ptr 4 0), (6, .ptr 6 0)], boxes := [(3, Ty.HwCode, []), (4, Ty.HwResult, [0, 6]), (6, Ty.HwState, [])] } [Ty.HwCode, Ty.HwResult, Ty.HwState] (zac (zep.r0 N) N))] Proofs.Tryz.func19 (hL := ⟨⟨_, _, rfl, by kernel_rfl⟩, trivial⟩)⟩
def za4.b0 (N : Nat) (s0 : List ByteArray) (s1 : List ByteArray) (s5 : Int) : Option (Round Bool ((List ByteArray) × (List ByteArray) × Int)) :=
 cond (decide (s5 < (s0.length : Int))) ((idx s0 s5).bind fun x1001 => (idx s1 s5).bind fun x1002 => cond (!(x1001.toList == x1002.toList)) (some (.result false))
  (some (.again (s0, s1, (w6 (s5 + 1)))))) (some (.leave (s0, s1, s5)))
def za4.r0 (N : Nat) (x : (List ByteArray) × (List ByteArray) × Int) := za4.b0 N x.1 x.2.1 x.2.2
def za4 (N : Nat) (a0 : List ByteArray) (a1 : List ByteArray) : Option Bool :=
 cond ((a0.length : Int) != (a1.length : Int)) (some false) ((zk (za4.r0 N) N (a0, a1, 0)).bind fun z2 => zbe z2 (fun z => some z) (fun y1 => some true))
def za4.k (N : Nat) : Kq := ⟨44, (cvv [Ty.bool] [(Ty.sl Ty.str), (Ty.sl Ty.str)] (za4 N)), go [] {} [(0, .rets { slots := [(0, .val (Ty.sl Ty.str)), (1, .val (Ty.sl Ty.str)), (5, .val T6)], boxes := [] } [(Ty.sl Ty.str), (Ty.sl Ty.str), T6] (zk (za4.r0 N) N))] Proofs.Tryz.func44 (hL := ⟨⟨_, _, rfl, by kernel_rfl⟩, trivial⟩)⟩
def zjc (N : Nat)  : Option Bool :=
 (zm8 N).bind fun r1 => (zep N (⟨2, false, false⟩ : HwModel) (⟨(⟨r1.Storage.Bytes, r1.Storage.Tags⟩ : Storage), r1.Instructions, r1.Traps⟩ : HwCode)).bind fun r2 =>
  (cond (r2.2 == 0) ((za4 N r2.1.Lines ([(⟨#[50]⟩ : ByteArray)] : List ByteArray)).bind fun r3 => some r3) (some false)).bind fun g4 => (cond g4 (some (r2.1.Status == 1))
  (some false)).bind fun g5 => (cond g5 (some (r2.1.Steps == 4)) (some false)).bind fun g6 => some g6
def zjc.k (N : Nat) : Kq := ⟨12, (cvv [Ty.bool] [] (zjc N)), go [zep.k N, za4.k N, zm8.k N] {lits := [5, 14]} [] Proofs.Tryz.func12⟩
def zcu (a0 : Storage) : Option Bool :=
 (cond (decide ((a0.Bytes.size : Int) ≤ 1072)) (some (decide ((a0.Tags.length : Int) ≤ 67))) (some false)).bind fun g1 => some g1
def zcu.k : Kq := ⟨46, (cvv [Ty.bool] [Ty.Storage] zcu), go [] {} [] Proofs.Tryz.func46⟩
def zc2.b0 (N : Nat) (s3 : Int) (b1 : HwCode) : Option (Round Bool (Int × HwCode)) :=
 (cond (decide (s3 < (b1.Instructions.length : Int))) (some (decide (s3 < 244))) (some false)).bind fun g1001 => cond g1001 ((idx b1.Instructions s3).bind fun x1002 =>
  (cond (decide ((x1002.Text.size : Int) > 300)) (some true) ((idx b1.Instructions s3).bind fun x1003 => some (decide ((x1003.Other.size : Int) > 300)))).bind fun g1004 =>
  cond g1004 (some (.result false)) (some (.again ((w6 (s3 + 1)), b1)))) (some (.leave (s3, b1)))
def zc2.r0 (N : Nat) (x : Int × HwCode) := zc2.b0 N x.1 x.2
def zc2 (N : Nat) (a0 : HwCode) : Option Bool :=
 (zk (zc2.r0 N) N (0, a0)).bind fun z2 => zbe z2 (fun z => some z) (fun y1 => (zcu y1.2.Storage).bind fun r3 =>
  (cond r3 (some (decide ((y1.2.Instructions.length : Int) < 244))) (some false)).bind fun g4 => (cond g4 (some (decide ((y1.2.Traps.length : Int) < 44)))
  (some false)).bind fun g5 => some g5)
def zc2.k (N : Nat) : Kq := ⟨13, (cvv [Ty.bool] [Ty.HwCode] (zc2 N)), go [zcu.k] {} [(0, .rets { slots := [(1, .ptr 1 0), (3, .val T6)], boxes := [(1, Ty.HwCode, [])] } [T6, Ty.HwCode] (zk (zc2.r0 N) N))] Proofs.Tryz.func13 (hL := ⟨⟨_, _, rfl, by kernel_rfl⟩, trivial⟩)⟩
def za0.b0 (N : Nat) (s3 : Int) (b1 : HwState) : Option (Round Bool (Int × HwState)) :=
 (cond (decide (s3 < (b1.Lines.length : Int))) (some (decide (s3 < 44))) (some false)).bind fun g1001 => cond g1001 ((idx b1.Lines s3).bind fun x1002 =>
  cond (decide ((x1002.size : Int) > 300)) (some (.result false)) (some (.again ((w6 (s3 + 1)), b1)))) (some (.leave (s3, b1)))
def za0.r0 (N : Nat) (x : Int × HwState) := za0.b0 N x.1 x.2
def za0 (N : Nat) (a0 : HwState) : Option Bool :=
 (zk (za0.r0 N) N (0, a0)).bind fun z2 => zbe z2 (fun z => some z) (fun y1 => (zcu y1.2.Storage).bind fun r3 =>
  (cond r3 (some (decide ((y1.2.Registers.length : Int) ≤ 11))) (some false)).bind fun g4 => (cond g4 (some (decide ((y1.2.Stack.length : Int) ≤ 9))) (some false)).bind fun g5 =>
  (cond g5 (some (decide ((y1.2.Lines.length : Int) < 44))) (some false)).bind fun g6 => some g6)
def za0.k (N : Nat) : Kq := ⟨33, (cvv [Ty.bool] [Ty.HwState] (za0 N)), go [zcu.k] {} [(0, .rets { slots := [(1, .ptr 1 0), (3, .val T6)], boxes := [(1, Ty.HwState, [])] } [T6, Ty.HwState] (zk (za0.r0 N) N))] Proofs.Tryz.func33 (hL := ⟨⟨_, _, rfl, by kernel_rfl⟩, trivial⟩)⟩
def zfd (a0 : List Bool) : Option ((List Bool)) :=
 cond (Nat.ble (a0.length * 1) zax) (some a0) none
def zfd.k : Kq := ⟨96, (ctv [.val (Ty.sl Ty.bool)] [(Ty.sl Ty.bool)] [] [0] [(Ty.sl Ty.bool)] zfd), go [] {} [] Proofs.Tryz.func96⟩
def zbr (a0 : Storage) : Option Storage :=
 (zfd a0.Tags).bind fun r1 => some (⟨a0.Bytes, r1⟩ : Storage)
def zbr.k : Kq := ⟨53, (ctv [.val Ty.Storage] [Ty.Storage] [] [1] [Ty.Storage] zbr), go [zfd.k] {} [] Proofs.Tryz.func53⟩
def zeu (a0 : HwCode) : Option HwCode :=
 (zbr (⟨a0.Storage.Bytes, a0.Storage.Tags⟩ : Storage)).bind fun r1 => cond (Nat.ble (a0.Instructions.length * 224) zax) (cond (Nat.ble (a0.Traps.length * 32) zax)
  (some (⟨r1, a0.Instructions, a0.Traps⟩ : HwCode)) none) none
def zeu.k : Kq := ⟨15, (cvv [Ty.HwCode] [Ty.HwCode] zeu), go [zbr.k] {} [] Proofs.Tryz.func15⟩
def zc (a0 : Int) (a1 : Int) (a2 : Int) : Option Bool :=
 (cond (decide (a1 ≤ a0)) (some (decide (a0 ≤ a2))) (some false)).bind fun g1 => some g1
def zc.k : Kq := ⟨57, (cvv [Ty.bool] [T6, T6, T6] zc), go [] {} [] Proofs.Tryz.func57⟩
def zf8 (a0 : HwModel) : Option Int :=
 (zc a0.Registers 2 8).bind fun r1 => cond (!r1) (some 3) (some 0)
def zf8.k : Kq := ⟨18, (cvv [T6] [Ty.HwModel] zf8), go [zc.k] {} [] Proofs.Tryz.func18⟩
def zgu (a0 : Storage) (a1 : Int) : Option ByteArray :=
 if 0 ≤ (w6 ((w6 (a1 * 16)) + 16)) ∧ (w6 ((w6 (a1 * 16)) + 16)) ≤ (a0.Bytes.size : Int) then (if 0 ≤ (w6 (a1 * 16)) ∧ (w6 (a1 * 16)) ≤ (w6 ((w6 (a1 * 16)) + 16)) then (some (a0.Bytes.extract (w6 (a1 * 16)).toNat (w6 ((w6 (a1 * 16)) + 16)).toNat)) else none) else none
def zgu.k : Kq := ⟨126, (cvv [Ty.str] [Ty.Storage, T6] zgu), go [] {} [] Proofs.Tryz.func126⟩
def zce.b0 (N : Nat) (s0 : ByteArray) (s1 : Int) (s2 : Int) (s7 : Int) (s8 : Int) : Option (Stp (ByteArray × Int × Int × Int × Int)) :=
 cond (decide (s8 < s2)) ((zhn s0 (w6 (s1 + s8))).bind fun x1001 =>
  some (.again (s0, s1, s2, (w6 ((w6 (s7 * 256)) + (w6 (x1001.toNat : Int)))), (w6 (s8 + 1)))))
  (some (.leave (s0, s1, s2, s7, s8)))
def zce.r0 (N : Nat) (x : ByteArray × Int × Int × Int × Int) := zce.b0 N x.1 x.2.1 x.2.2.1 x.2.2.2.1 x.2.2.2.2
def zce (N : Nat) (a0 : ByteArray) (a1 : Int) (a2 : Int) : Option Int :=
 (zac (zce.r0 N) N (a0, a1, a2, 0, 0)).bind fun y1 => some y1.2.2.2.1
def zce.k (N : Nat) : Kq := ⟨187, (cvv [T6] [Ty.str, T6, T6] (zce N)), go [] {} [(0, .plain { slots := [(0, .val Ty.str), (1, .val T6), (2, .val T6), (7, .val T6), (8, .val T6)], boxes := [] } [Ty.str, T6, T6, T6, T6] (zac (zce.r0 N) N))] Proofs.Tryz.func187 (hL := ⟨⟨_, _, rfl, by kernel_rfl⟩, trivial⟩)⟩
def ze4 (a0 : Pointer) : Option Int :=
 (zc a0.Kind 0 2).bind fun r1 => cond (!r1) (some 4) ((zc a0.Address.Segment 0 1099511627775).bind fun r2 => (cond (!r2) (some true)
  ((zc a0.Address.Offset 0 16777215).bind fun r3 => some (!r3))).bind fun g4 => (cond g4 (some true) ((zc a0.Authority 0 1023).bind fun r5 =>
  some (!r5))).bind fun g6 => cond g6 (some 3) ((cond (a0.Kind != 1) (some (a0.Authority != 0)) (some false)).bind fun g7 => cond g7 (some 5) (some 0)))
def ze4.k : Kq := ⟨188, (cvv [T6] [Ty.Pointer] ze4), go [zc.k] {} [] Proofs.Tryz.func188⟩
def zig (N : Nat) (a0 : ByteArray) : Option (Pointer × Int) :=
 cond ((a0.size : Int) != 16) (some ((⟨0, (⟨0, 0⟩ : Address), 0⟩ : Pointer), 18)) ((zhn a0 1).bind fun x1 => cond ((x1.toNat : Int) != 0)
  (some ((⟨0, (⟨0, 0⟩ : Address), 0⟩ : Pointer), 5)) ((zhn a0 0).bind fun x2 => (zce N a0 2 2).bind fun r3 => (zce N a0 4 6).bind fun r4 =>
  (zce N a0 10 6).bind fun r5 => (ze4 (⟨(w6 (x2.toNat : Int)), (⟨r4, r5⟩ : Address), r3⟩ : Pointer)).bind fun r6 => cond (r6 != 0)
  (some ((⟨0, (⟨0, 0⟩ : Address), 0⟩ : Pointer), r6)) (some ((⟨(w6 (x2.toNat : Int)), (⟨r4, r5⟩ : Address), r3⟩ : Pointer), 0))))
def zig.k (N : Nat) : Kq := ⟨125, (cvv [Ty.Pointer, T6] [Ty.str] (zig N)), go [zce.k N, ze4.k] {} [] Proofs.Tryz.func125⟩
def zb0.b0 (N : Nat) (s4 : Int) (s5 : Int) (b1 : Storage) : Option (Round (Int × Int) (Int × Int × Storage)) :=
 cond (decide (s5 < s4)) ((idx b1.Tags s5).bind fun x1001 => cond x1001 ((zgu b1 s5).bind fun r1002 => (zig N r1002).bind fun r1003 => cond (r1003.2 != 0)
  (some (.result (s5, 22))) (some (.again (s4, (w6 (s5 + 1)), b1)))) (some (.again (s4, (w6 (s5 + 1)), b1)))) (some (.leave (s4, s5, b1)))
def zb0.r0 (N : Nat) (x : Int × Int × Storage) := zb0.b0 N x.1 x.2.1 x.2.2
def zb0 (N : Nat) (a0 : Storage) : Option (Int × Int) :=
 cond (decide ((a0.Bytes.size : Int) > 1024)) (some (0, 2)) (cond (((a0.Bytes.size : Int).tmod 16) != 0) (some (0, 18))
  (cond ((a0.Tags.length : Int) != (w6 ((a0.Bytes.size : Int).tdiv 16))) (some (0, 6))
  ((zk (zb0.r0 N) N ((w6 ((a0.Bytes.size : Int).tdiv 16)), 0, a0)).bind fun z2 => zbe z2 (fun z => some z) (fun y1 => some (y1.1, 0)))))
def zb0.k (N : Nat) : Kq := ⟨97, (cvv [T6, T6] [Ty.Storage] (zb0 N)), go [zig.k N, zgu.k] {lits := [39]} [(0, .rets { slots := [(1, .ptr 1 0), (4, .val T6), (5, .val T6)], boxes := [(1, Ty.Storage, [])] } [T6, T6, Ty.Storage] (zk (zb0.r0 N) N))] Proofs.Tryz.func97 (hL := ⟨⟨_, _, rfl, by kernel_rfl⟩, trivial⟩)⟩
def zfm (N : Nat) (a0 : Storage) : Option Int :=
 (zb0 N (⟨a0.Bytes, a0.Tags⟩ : Storage)).bind fun r1 => some r1.2
def zfm.k (N : Nat) : Kq := ⟨54, (cvv [T6] [Ty.Storage] (zfm N)), go [zb0.k N] {} [] Proofs.Tryz.func54⟩
def z0.b0 (N : Nat) (s3 : List Int) (s4 : Int) (b1 : Storage) : Option (Stp ((List Int) × Int × Storage)) :=
 cond (decide (s4 < (b1.Tags.length : Int))) ((idx b1.Tags s4).bind fun x1001 =>
  cond x1001 (cond (Nat.ble ((s3.length + ([(w6 (s4 * 16))] : List Int).length) * 8) zax)
  (some (.again ((s3 ++ ([(w6 (s4 * 16))] : List Int)), (w6 (s4 + 1)), b1))) none) (some (.again (s3, (w6 (s4 + 1)), b1))))
  (some (.leave (s3, s4, b1)))
def z0.r0 (N : Nat) (x : (List Int) × Int × Storage) := z0.b0 N x.1 x.2.1 x.2.2
def z0 (N : Nat) (a0 : Storage) : Option ((List Int)) :=
 (zac (z0.r0 N) N ([], 0, a0)).bind fun y1 => some y1.1
def z0.k (N : Nat) : Kq := ⟨55, (cvv [(Ty.sl T6)] [Ty.Storage] (z0 N)), go [] {lits := [20]} [(0, .plain { slots := [(1, .ptr 1 0), (3, .own 5000003 T6), (4, .val T6)], boxes := [(1, Ty.Storage, [])] } [(Ty.sl T6), T6, Ty.Storage] (zac (z0.r0 N) N))] Proofs.Tryz.func55 (hL := ⟨⟨_, _, rfl, by kernel_rfl⟩, trivial⟩)⟩
def zea (a0 : HwInstruction) : Option ref15_fields :=
 cond (a0.Op == 0) (some (⟨true, false, false, true, false, false, false, false, false, false, false, false, false, false, 1, 0⟩ : ref15_fields)) (cond (a0.Op == 1)
  (some (⟨true, false, false, true, false, true, false, false, false, false, false, false, false, false, 1, 0⟩ : ref15_fields)) (cond (a0.Op == 2)
  (some (⟨true, false, false, false, false, false, true, false, false, false, false, false, false, false, 0, 0⟩ : ref15_fields)) (cond (a0.Op == 3)
  (some (⟨true, true, false, false, false, false, false, false, false, false, false, false, false, false, 0, 0⟩ : ref15_fields)) (cond (a0.Op == 4)
  (cond a0.InStorage (some (⟨true, true, false, true, false, false, false, true, false, false, false, false, false, false, 1, 1⟩ : ref15_fields))
  (some (⟨true, true, true, false, false, false, false, true, false, false, false, false, false, false, 1, 0⟩ : ref15_fields))) (cond (a0.Op == 5)
  (some (⟨false, true, true, false, false, false, false, false, false, false, false, false, false, false, 0, 0⟩ : ref15_fields)) (cond (a0.Op == 6)
  (some (⟨false, false, false, false, false, false, false, false, true, true, false, false, false, false, 0, 0⟩ : ref15_fields)) (cond (a0.Op == 7)
  (some (⟨false, true, true, false, false, false, false, false, true, true, false, false, false, false, 0, 0⟩ : ref15_fields)) ((cond (a0.Op == 8) (some (a0.Op == 8))
  (some (a0.Op == 18))).bind fun q1 => cond q1 (some (⟨false, false, false, false, false, false, false, false, false, true, false, false, false, false, 0, 0⟩ : ref15_fields))
  ((cond (a0.Op == 9) (some (a0.Op == 9)) (some (a0.Op == 11))).bind fun q2 =>
  cond q2 (some (⟨false, false, false, true, true, false, false, false, false, false, false, false, false, false, 2, 2⟩ : ref15_fields)) ((cond (a0.Op == 10) (some (a0.Op == 10))
  (some (a0.Op == 12))).bind fun q3 => cond q3 (some (⟨false, false, false, true, false, false, false, false, false, false, true, false, false, false, 2, 0⟩ : ref15_fields))
  (cond (a0.Op == 13) (some (⟨false, false, false, false, false, false, false, false, false, false, true, true, false, false, 0, 0⟩ : ref15_fields)) (cond (a0.Op == 14)
  (some (⟨false, false, false, true, false, false, false, false, false, false, false, false, true, false, 3, 0⟩ : ref15_fields)) (cond (a0.Op == 15)
  (some (⟨false, false, false, false, false, false, false, false, false, false, false, false, true, true, 0, 0⟩ : ref15_fields)) (cond (a0.Op == 16)
  (some (⟨true, false, false, false, false, false, false, false, false, false, false, false, true, false, 0, 0⟩ : ref15_fields)) (cond (a0.Op == 17)
  (some (⟨false, false, false, false, false, false, false, false, false, false, false, false, true, false, 0, 0⟩ : ref15_fields)) ((cond (a0.Op == 20) (some (a0.Op == 20))
  (cond (a0.Op == 21) (some (a0.Op == 21)) (some (a0.Op == 22)))).bind fun q4 =>
  cond q4 (some (⟨true, false, false, false, false, false, false, false, false, false, false, false, false, false, 0, 0⟩ : ref15_fields)) (cond (a0.Op == 23)
  (some (⟨false, false, false, true, false, false, false, false, false, false, false, false, false, false, 2, 0⟩ : ref15_fields)) (cond (a0.Op == 24)
  (some (⟨false, false, false, false, false, false, false, false, false, false, true, false, false, false, 0, 0⟩ : ref15_fields))
  (some (⟨false, false, false, false, false, false, false, false, false, false, false, false, false, false, 0, 0⟩ : ref15_fields))))))))))))))))))))
def zea.k : Kq := ⟨98, (cvv [Ty.ref15_fields] [Ty.HwInstruction] zea), go [] {bj := [32, 36, 40, 59]} [] Proofs.Tryz.func98⟩
def zf7 (a0 : HwInstruction) (a1 : ref15_fields) : Option Bool :=
 (cond (!a1.R) (some (a0.R != 0)) (some false)).bind fun g1 => (cond g1 (some true) ((cond (!a1.A) (some (a0.A != 0)) (some false)).bind fun g2 => some g2)).bind fun g3 =>
  (cond g3 (some true) ((cond (!a1.B) (some (a0.B != 0)) (some false)).bind fun g4 => some g4)).bind fun g5 => (cond g5 (some true) ((cond (!a1.Calculation)
  (some (a0.Calculation != 0)) (some false)).bind fun g6 => some g6)).bind fun g7 => (cond g7 (some true) ((cond (!a1.Place)
  (some (!(zdz [(a0.Place.Based == false), (a0.Place.Pointer == 0), (a0.Place.Offset == 0)]))) (some false)).bind fun g8 => some g8)).bind fun g9 => (cond g9 (some true)
  ((cond (!a1.From) (some (!(zdz [(a0.From.Based == false), (a0.From.Pointer == 0), (a0.From.Offset == 0)]))) (some false)).bind fun g10 => some g10)).bind fun g11 =>
  (cond g11 (some true) ((cond (a1.Type_ == 0) (some (!(zdz [(a0.Type_.Kind == 0), (a0.Type_.Length == 0), (a0.Type_.Scale == 0)]))) (some false)).bind fun g12 =>
  some g12)).bind fun g13 => (cond g13 (some true) ((cond (a1.Second == 0) (some (!(zdz [(a0.Second.Kind == 0), (a0.Second.Length == 0), (a0.Second.Scale == 0)])))
  (some false)).bind fun g14 => some g14)).bind fun g15 => (cond g15 (some true) ((cond (!a1.Half) (some a0.Half) (some false)).bind fun g16 => some g16)).bind fun g17 =>
  (cond g17 (some true) ((cond (a0.Op != 4) (some a0.InStorage) (some false)).bind fun g18 => some g18)).bind fun g19 => (cond g19 (some true) ((cond (!a1.Number)
  (some (!(zdz [(a0.Number.N == 0), (a0.Number.Scale == 0)]))) (some false)).bind fun g20 => some g20)).bind fun g21 => (cond g21 (some true) ((cond (!a1.Text)
  (some (!(a0.Text.toList == (⟨#[]⟩ : ByteArray).toList))) (some false)).bind fun g22 => some g22)).bind fun g23 => (cond g23 (some true) ((cond (!a1.Other)
  (some (!(a0.Other.toList == (⟨#[]⟩ : ByteArray).toList))) (some false)).bind fun g24 => some g24)).bind fun g25 => (cond g25 (some true) ((cond (!a1.Mask) (some (a0.Mask != 0))
  (some false)).bind fun g26 => some g26)).bind fun g27 => (cond g27 (some true) ((cond (!a1.Target) (some (a0.Target != 0)) (some false)).bind fun g28 => some g28)).bind fun g29 =>
  (cond g29 (some true) ((cond (!a1.Pointer) (some (a0.Pointer != 0)) (some false)).bind fun g30 => some g30)).bind fun g31 => (cond g31 (some true) ((cond (!a1.Source)
  (some (a0.Source != 0)) (some false)).bind fun g32 => some g32)).bind fun g33 => (cond g33 (some true) ((cond (!a0.Place.Based) (some (a0.Place.Pointer != 0))
  (some false)).bind fun g34 => some g34)).bind fun g35 => (cond g35 (some true) ((cond (!a0.From.Based) (some (a0.From.Pointer != 0)) (some false)).bind fun g36 =>
  some g36)).bind fun g37 => some g37
def zf7.k : Kq := ⟨99, (cvv [Ty.bool] [Ty.HwInstruction, Ty.ref15_fields] zf7), go [] {} [] Proofs.Tryz.func99⟩
def zhw (a0 : HwModel) (a1 : HwInstruction) : Option Bool :=
 (cond (a1.Op == 7) (some (!a0.Fused)) (some false)).bind fun g1 => (cond g1 (some true) ((cond a1.InStorage (some (!a0.Memory)) (some false)).bind fun g2 =>
  some g2)).bind fun g3 => some g3
def zhw.k : Kq := ⟨67, (cvv [Ty.bool] [Ty.HwModel, Ty.HwInstruction] zhw), go [] {} [] Proofs.Tryz.func67⟩
def zca (a0 : Int) : Option Bool :=
 (zc a0 1 3).bind fun r1 => some r1
def zca.k : Kq := ⟨144, (cvv [Ty.bool] [T6] zca), go [zc.k] {} [] Proofs.Tryz.func144⟩
def zci (a0 : Bool) : Option Int :=
 cond a0 (some 1) (some 0)
def zci.k : Kq := ⟨124, (cvv [T6] [Ty.bool] zci), go [] {} [] Proofs.Tryz.func124⟩
def zgq (a0 : DataType) : Option Int :=
 (zc a0.Kind 0 4).bind fun r1 => cond (!r1) (some 4) (cond (a0.Kind == 0) ((zc a0.Length 1 256).bind fun r2 => cond (!r2) (some 18)
  ((zca a0.Kind).bind fun r3 => cond r3 ((zc a0.Scale 0 a0.Length).bind fun r4 => (zci (!r4)).bind fun r5 => some (w6 (3 * r5)))
  ((zc a0.Scale 0 0).bind fun r6 => (zci (!r6)).bind fun r7 => some (w6 (3 * r7))))) ((cond (a0.Kind == 1) (some (a0.Kind == 1))
  (some (a0.Kind == 2))).bind fun q8 => cond q8 ((zc a0.Length 1 15).bind fun r9 => cond (!r9) (some 18) ((zca a0.Kind).bind fun r10 =>
  cond r10 ((zc a0.Scale 0 a0.Length).bind fun r11 => (zci (!r11)).bind fun r12 => some (w6 (3 * r12))) ((zc a0.Scale 0 0).bind fun r13 =>
  (zci (!r13)).bind fun r14 => some (w6 (3 * r14))))) (cond (a0.Kind == 3) ((cond (a0.Length == 4) (some true) (some (a0.Length == 9))).bind fun g15 =>
  cond (!g15) (some 18) ((zca a0.Kind).bind fun r16 => cond r16 ((zc a0.Scale 0 a0.Length).bind fun r17 => (zci (!r17)).bind fun r18 =>
  some (w6 (3 * r18))) ((zc a0.Scale 0 0).bind fun r19 => (zci (!r19)).bind fun r20 => some (w6 (3 * r20))))) (cond (!(a0.Length == 0))
  (some 18) ((zca a0.Kind).bind fun r21 => cond r21 ((zc a0.Scale 0 a0.Length).bind fun r22 => (zci (!r22)).bind fun r23 =>
  some (w6 (3 * r23))) ((zc a0.Scale 0 0).bind fun r24 => (zci (!r24)).bind fun r25 => some (w6 (3 * r25))))))))
def zgq.k : Kq := ⟨143, (cvv [T6] [Ty.DataType] zgq), go [zc.k, zci.k, zca.k] {bj := [19]} [] Proofs.Tryz.func143⟩
def zfw (a0 : DataType) (a1 : Int) : Option Int :=
 cond (a1 == 0) (some 0) ((zgq (⟨a0.Kind, a0.Length, a0.Scale⟩ : DataType)).bind fun r1 => cond (r1 != 0) (some r1) ((cond (a1 == 1)
  ((zca a0.Kind).bind fun r2 => some (!r2)) (some false)).bind fun g3 => (cond g3 (some true) ((cond (a1 == 2) (some (a0.Kind != 0)) (some false)).bind fun g4 =>
  some g4)).bind fun g5 => (cond g5 (some true) ((cond (a1 == 3) (some (a0.Kind == 4)) (some false)).bind fun g6 => some g6)).bind fun g7 => cond g7 (some 17) (some 0)))
def zfw.k : Kq := ⟨100, (cvv [T6] [Ty.DataType, T6] zfw), go [zgq.k, zca.k] {} [] Proofs.Tryz.func100⟩
def zdf (a0 : HwModel) (a1 : Int) : Option Bool :=
 (zc a1 0 (w6 (a0.Registers - 1))).bind fun r1 => some r1
def zdf.k : Kq := ⟨107, (cvv [Ty.bool] [Ty.HwModel, T6] zdf), go [zc.k] {} [] Proofs.Tryz.func107⟩
def zdg (a0 : HwModel) (a1 : HwInstruction) : Option Bool :=
 (zea a1).bind fun r1 => (cond (!r1.R) (some true) ((zdf a0 a1.R).bind fun r2 => some r2)).bind fun g3 => (cond g3 ((cond (!r1.A) (some true)
  ((zdf a0 a1.A).bind fun r4 => some r4)).bind fun g5 => some g5) (some false)).bind fun g6 => (cond g6 ((cond (!r1.B) (some true)
  ((zdf a0 a1.B).bind fun r7 => some r7)).bind fun g8 => some g8) (some false)).bind fun g9 => some g9
def zdg.k : Kq := ⟨68, (cvv [Ty.bool] [Ty.HwModel, Ty.HwInstruction] zdg), go [zea.k, zdf.k] {} [] Proofs.Tryz.func68⟩
def zb8 (a0 : Storage) (a1 : Int) : Option Bool :=
 (zc a1 0 (w6 ((a0.Bytes.size : Int) - 16))).bind fun r1 => (cond r1 (some ((a1.tmod 16) == 0)) (some false)).bind fun g2 => some g2
def zb8.k : Kq := ⟨101, (cvv [Ty.bool] [Ty.Storage, T6] zb8), go [zc.k] {} [] Proofs.Tryz.func101⟩
def zex (a0 : DataType) : Option Int :=
 cond (a0.Kind == 1) (some (w6 ((w6 (a0.Length.tdiv 2)) + 1))) (cond (a0.Kind == 3) ((zci (a0.Length == 9)).bind fun r1 =>
  some (w6 (2 + (w6 (2 * r1))))) (cond (a0.Kind == 4) (some 16) (some a0.Length)))
def zex.k : Kq := ⟨103, (cvv [T6] [Ty.DataType] zex), go [zci.k] {} [] Proofs.Tryz.func103⟩
def zhq (a0 : Storage) (a1 : Int) (a2 : Int) : Option Bool :=
 (zc a1 0 (a0.Bytes.size : Int)).bind fun r1 => (cond r1 ((zc a2 0 (w6 ((a0.Bytes.size : Int) - a1))).bind fun r2 => some r2)
  (some false)).bind fun g3 => some g3
def zhq.k : Kq := ⟨145, (cvv [Ty.bool] [Ty.Storage, T6, T6] zhq), go [zc.k] {lits := [10]} [] Proofs.Tryz.func145⟩
def zcw (a0 : HwCode) (a1 : HwPlace) (a2 : Int) : Option Bool :=
 cond a1.Based ((zb8 a0.Storage a1.Pointer).bind fun r1 => (cond r1 ((zc a1.Offset 0 256).bind fun r2 => some r2) (some false)).bind fun g3 => some g3)
  ((zhq (⟨a0.Storage.Bytes, a0.Storage.Tags⟩ : Storage) a1.Offset a2).bind fun r4 => some r4)
def zcw.k : Kq := ⟨102, (cvv [Ty.bool] [Ty.HwCode, Ty.HwPlace, T6] zcw), go [zc.k, zb8.k, zhq.k] {} [] Proofs.Tryz.func102⟩
def zb9 (a0 : Number) : Option Int :=
 (zc a0.N (-999999999999999) 999999999999999).bind fun r1 => (cond r1 ((zc a0.Scale 0 15).bind fun r2 => some r2) (some false)).bind fun g3 =>
  (zci (!g3)).bind fun r4 => some (w6 (3 * r4))
def zb9.k : Kq := ⟨84, (cvv [T6] [Ty.Number] zb9), go [zc.k, zci.k] {} [] Proofs.Tryz.func84⟩
def zb7 (a0 : HwModel) (a1 : HwCode) (a2 : HwInstruction) : Option Int :=
 (zc a2.Op 0 26).bind fun r1 => cond (!r1) (some 4) ((zea a2).bind fun r2 => (zf7 a2 r2).bind fun r3 => cond r3 (some 5)
  ((zhw a0 a2).bind fun r4 => cond r4 (some 39) ((zfw a2.Type_ r2.Type_).bind fun r5 => cond (r5 != 0) (some r5)
  ((zfw a2.Second r2.Second).bind fun r6 => cond (r6 != 0) (some r6) (cond (a2.Op == 4) (((zdg a0 a2).bind fun r7 => cond (!r7) (some (!r7))
  ((cond r2.Target ((zc a2.Target 0 (w6 ((a1.Instructions.length : Int) - 1))).bind fun r8 => some (!r8)) (some false)).bind fun g9 => cond g9 (some g9)
  ((cond r2.Mask ((zc a2.Mask 1 7).bind fun r10 => some (!r10)) (some false)).bind fun g11 => some g11))).bind fun q12 => cond q12 (some 3)
  (((cond r2.Pointer ((zb8 (⟨a1.Storage.Bytes, a1.Storage.Tags⟩ : Storage) a2.Pointer).bind fun r13 => some (!r13)) (some false)).bind fun g14 => cond g14 (some g14)
  ((cond r2.Source ((zb8 (⟨a1.Storage.Bytes, a1.Storage.Tags⟩ : Storage) a2.Source).bind fun r15 => some (!r15)) (some false)).bind fun g16 => some g16)).bind fun q17 =>
  cond q17 (some 3) ((cond r2.Place ((zex a2.Second).bind fun r18 => (zcw (⟨(⟨a1.Storage.Bytes, a1.Storage.Tags⟩ : Storage), a1.Instructions, a1.Traps⟩ : HwCode)
  (⟨a2.Place.Based, a2.Place.Pointer, a2.Place.Offset⟩ : HwPlace) r18).bind fun r19 => some (!r19)) (some false)).bind fun g20 => cond g20 (cond g20 (some 3)
  ((cond r2.Calculation ((zc a2.Calculation 0 4).bind fun r21 => some (!r21)) (some false)).bind fun g22 => cond g22 (some 3)
  ((zb9 (⟨a2.Number.N, a2.Number.Scale⟩ : Number)).bind fun r23 => (cond r2.Number (some (r23 != 0)) (some false)).bind fun g24 => cond g24 (some r23)
  ((cond (decide ((a2.Text.size : Int) > 256)) (some true) (some (decide ((a2.Other.size : Int) > 256)))).bind fun g25 => cond g25 (some 2) (some 0)))))
  ((cond r2.From ((zex (⟨a2.Second.Kind, a2.Second.Length, a2.Second.Scale⟩ : DataType)).bind fun r26 =>
  (zcw (⟨(⟨a1.Storage.Bytes, a1.Storage.Tags⟩ : Storage), a1.Instructions, a1.Traps⟩ : HwCode)
  (⟨a2.From.Based, a2.From.Pointer, a2.From.Offset⟩ : HwPlace) r26).bind fun r27 => some (!r27)) (some false)).bind fun g28 => cond g28 (some 3)
  ((cond r2.Calculation ((zc a2.Calculation 0 4).bind fun r29 => some (!r29)) (some false)).bind fun g30 => cond g30 (some 3)
  ((zb9 (⟨a2.Number.N, a2.Number.Scale⟩ : Number)).bind fun r31 => (cond r2.Number (some (r31 != 0)) (some false)).bind fun g32 => cond g32 (some r31)
  ((cond (decide ((a2.Text.size : Int) > 256)) (some true) (some (decide ((a2.Other.size : Int) > 256)))).bind fun g33 => cond g33 (some 2) (some 0))))))))
  (((zdg (⟨a0.Registers, a0.Fused, a0.Memory⟩ : HwModel)
  (⟨a2.Op, a2.R, a2.A, a2.B, a2.Calculation, (⟨a2.Place.Based, a2.Place.Pointer, a2.Place.Offset⟩ : HwPlace), (⟨a2.From.Based, a2.From.Pointer, a2.From.Offset⟩ : HwPlace), (⟨a2.Type_.Kind, a2.Type_.Length, a2.Type_.Scale⟩ : DataType), (⟨a2.Second.Kind, a2.Second.Length, a2.Second.Scale⟩ : DataType), a2.Half, a2.InStorage, (⟨a2.Number.N, a2.Number.Scale⟩ : Number), a2.Text, a2.Other, a2.Mask, a2.Target, a2.Pointer, a2.Source⟩ : HwInstruction)).bind fun r34 =>
  cond (!r34) (some (!r34)) ((cond r2.Target ((zc a2.Target 0 (w6 ((a1.Instructions.length : Int) - 1))).bind fun r35 => some (!r35))
  (some false)).bind fun g36 => cond g36 (some g36) ((cond r2.Mask ((zc a2.Mask 1 7).bind fun r37 => some (!r37)) (some false)).bind fun g38 => some g38))).bind fun q39 =>
  cond q39 (some 3) (((cond r2.Pointer ((zb8 (⟨a1.Storage.Bytes, a1.Storage.Tags⟩ : Storage) a2.Pointer).bind fun r40 => some (!r40)) (some false)).bind fun g41 =>
  cond g41 (some g41) ((cond r2.Source ((zb8 (⟨a1.Storage.Bytes, a1.Storage.Tags⟩ : Storage) a2.Source).bind fun r42 => some (!r42)) (some false)).bind fun g43 =>
  some g43)).bind fun q44 => cond q44 (some 3) ((cond r2.Place ((zex (⟨a2.Type_.Kind, a2.Type_.Length, a2.Type_.Scale⟩ : DataType)).bind fun r45 =>
  (zcw (⟨(⟨a1.Storage.Bytes, a1.Storage.Tags⟩ : Storage), a1.Instructions, a1.Traps⟩ : HwCode)
  (⟨a2.Place.Based, a2.Place.Pointer, a2.Place.Offset⟩ : HwPlace) r45).bind fun r46 => some (!r46)) (some false)).bind fun g47 => cond g47 (cond g47 (some 3)
  ((cond r2.Calculation ((zc a2.Calculation 0 4).bind fun r48 => some (!r48)) (some false)).bind fun g49 => cond g49 (some 3)
  ((zb9 (⟨a2.Number.N, a2.Number.Scale⟩ : Number)).bind fun r50 => (cond r2.Number (some (r50 != 0)) (some false)).bind fun g51 => cond g51 (some r50)
  ((cond (decide ((a2.Text.size : Int) > 256)) (some true) (some (decide ((a2.Other.size : Int) > 256)))).bind fun g52 => cond g52 (some 2) (some 0)))))
  ((cond r2.From ((zex (⟨a2.Second.Kind, a2.Second.Length, a2.Second.Scale⟩ : DataType)).bind fun r53 =>
  (zcw (⟨(⟨a1.Storage.Bytes, a1.Storage.Tags⟩ : Storage), a1.Instructions, a1.Traps⟩ : HwCode)
  (⟨a2.From.Based, a2.From.Pointer, a2.From.Offset⟩ : HwPlace) r53).bind fun r54 => some (!r54)) (some false)).bind fun g55 => cond g55 (some 3)
  ((cond r2.Calculation ((zc a2.Calculation 0 4).bind fun r56 => some (!r56)) (some false)).bind fun g57 => cond g57 (some 3)
  ((zb9 (⟨a2.Number.N, a2.Number.Scale⟩ : Number)).bind fun r58 => (cond r2.Number (some (r58 != 0)) (some false)).bind fun g59 => cond g59 (some r58)
  ((cond (decide ((a2.Text.size : Int) > 256)) (some true) (some (decide ((a2.Other.size : Int) > 256)))).bind fun g60 => cond g60 (some 2) (some 0)))))))))))))
def zb7.k : Kq := ⟨56, (cvv [T6] [Ty.HwModel, Ty.HwCode, Ty.HwInstruction] zb7), go [zc.k, zhw.k, zdg.k, zb9.k, zea.k, zf7.k, zfw.k, zb8.k, zcw.k, zex.k] {lits := [101, 113], bj := [47, 72]} [] Proofs.Tryz.func56⟩
def zh.b1 (N : Nat) (s8 : Int) (b2 : HwModel) (b3 : HwCode) : Option (Round (Int × Int) (Int × HwModel × HwCode)) :=
 cond (decide (s8 < (b3.Instructions.length : Int))) ((idx b3.Instructions s8).bind fun x2001 => (zb7 b2 b3 x2001).bind fun r2002 => cond (r2002 != 0)
  (some (.result (s8, r2002))) (some (.again ((w6 (s8 + 1)), b2, b3)))) (some (.leave (s8, b2, b3)))
def zh.r1 (N : Nat) (x : Int × HwModel × HwCode) := zh.b1 N x.1 x.2.1 x.2.2
def zh.b3 (N : Nat) (s10 : Int) (b3 : HwCode) : Option (Round (Int × Int) (Int × HwCode)) :=
 cond (decide (s10 < (b3.Traps.length : Int))) ((idx b3.Traps s10).bind fun x4001 => (cond (decide (x4001.From < 0)) (some true)
  (some (decide (x4001.From > x4001.To)))).bind fun g4002 => (cond g4002 (some true) (some (decide (x4001.To > (b3.Instructions.length : Int))))).bind fun g4003 =>
  (cond g4003 (some true) ((zc x4001.Exception 0 999).bind fun r4004 => some (!r4004))).bind fun g4005 => (cond g4005 (some true)
  ((zc x4001.Handler 0 (w6 ((b3.Instructions.length : Int) - 1))).bind fun r4006 => some (!r4006))).bind fun g4007 => cond g4007 (some (.result (s10, 3)))
  (some (.again ((w6 (s10 + 1)), b3)))) (some (.leave (s10, b3)))
def zh.r3 (N : Nat) (x : Int × HwCode) := zh.b3 N x.1 x.2
def zh (N : Nat) (a0 : HwModel) (a1 : HwCode) : Option (Int × Int) :=
 (zf8 (⟨a0.Registers, a0.Fused, a0.Memory⟩ : HwModel)).bind fun r1 => cond (r1 != 0) (some (0, r1))
  ((zfm N (⟨a1.Storage.Bytes, a1.Storage.Tags⟩ : Storage)).bind fun r2 => cond (r2 != 0) (some (0, r2))
  ((z0 N (⟨a1.Storage.Bytes, a1.Storage.Tags⟩ : Storage)).bind fun r3 => cond (decide ((r3.length : Int) > 0)) (some (0, 22)) (cond ((a1.Instructions.length : Int) == 0)
  (some (0, 1)) ((cond (decide ((a1.Instructions.length : Int) > 240)) (some true) (some (decide ((a1.Traps.length : Int) > 40)))).bind fun g4 => cond g4 (some (0, 2))
  ((zk (zh.r1 N) N (0, (⟨a0.Registers, a0.Fused, a0.Memory⟩ : HwModel), (⟨(⟨a1.Storage.Bytes, a1.Storage.Tags⟩ : Storage), a1.Instructions, a1.Traps⟩ : HwCode))).bind fun z6 =>
  zbe z6 (fun z => some z) (fun y5 => (zk (zh.r3 N) N (0, y5.2.2)).bind fun z8 => zbe z8 (fun z => some z) (fun y7 =>
  some ((y7.2.Instructions.length : Int), 0))))))))
def zh.k (N : Nat) : Kq := ⟨16, (cvv [T6, T6] [Ty.HwModel, Ty.HwCode] (zh N)), go [zf8.k, zfm.k N, z0.k N, zb7.k, zc.k] {lits := [26]} [(1, .rets { slots := [(2, .ptr 2 0), (3, .ptr 3 0), (8, .val T6)], boxes := [(2, Ty.HwModel, []), (3, Ty.HwCode, [])] } [T6, Ty.HwModel, Ty.HwCode] (zk (zh.r1 N) N)), (3, .rets { slots := [(3, .ptr 3 0), (10, .val T6)], boxes := [(3, Ty.HwCode, [])] } [T6, Ty.HwCode] (zk (zh.r3 N) N))] Proofs.Tryz.func16 (hL := ⟨⟨_, _, rfl, by kernel_rfl⟩, ⟨_, _, rfl, by kernel_rfl⟩, trivial⟩)⟩
def zeb (N : Nat) (a0 : HwModel) (a1 : HwCode) : Option Int :=
 (zh N (⟨a0.Registers, a0.Fused, a0.Memory⟩ : HwModel) (⟨(⟨a1.Storage.Bytes, a1.Storage.Tags⟩ : Storage), a1.Instructions, a1.Traps⟩ : HwCode)).bind fun r1 => some r1.2
def zeb.k (N : Nat) : Kq := ⟨20, (cvv [T6] [Ty.HwModel, Ty.HwCode] (zeb N)), go [zh.k N] {} [] Proofs.Tryz.func20⟩
def zcj.b0 (N : Nat) (s0 : List Bool) (s1 : List Bool) (s5 : Int) : Option (Round Bool ((List Bool) × (List Bool) × Int)) :=
 cond (decide (s5 < (s0.length : Int))) ((idx s0 s5).bind fun x1001 => (idx s1 s5).bind fun x1002 => cond (!(x1001 == x1002)) (some (.result false))
  (some (.again (s0, s1, (w6 (s5 + 1)))))) (some (.leave (s0, s1, s5)))
def zcj.r0 (N : Nat) (x : (List Bool) × (List Bool) × Int) := zcj.b0 N x.1 x.2.1 x.2.2
def zcj (N : Nat) (a0 : List Bool) (a1 : List Bool) : Option Bool :=
 cond ((a0.length : Int) != (a1.length : Int)) (some false) ((zk (zcj.r0 N) N (a0, a1, 0)).bind fun z2 => zbe z2 (fun z => some z) (fun y1 => some true))
def zcj.k (N : Nat) : Kq := ⟨88, (cvv [Ty.bool] [(Ty.sl Ty.bool), (Ty.sl Ty.bool)] (zcj N)), go [] {} [(0, .rets { slots := [(0, .val (Ty.sl Ty.bool)), (1, .val (Ty.sl Ty.bool)), (5, .val T6)], boxes := [] } [(Ty.sl Ty.bool), (Ty.sl Ty.bool), T6] (zk (zcj.r0 N) N))] Proofs.Tryz.func88 (hL := ⟨⟨_, _, rfl, by kernel_rfl⟩, trivial⟩)⟩
def zfc (N : Nat) (a0 : Storage) (a1 : Storage) : Option Bool :=
 (cond (a0.Bytes.toList == a1.Bytes.toList) ((zcj N a0.Tags a1.Tags).bind fun r1 => some r1) (some false)).bind fun g2 => some g2
def zfc.k (N : Nat) : Kq := ⟨43, (cvv [Ty.bool] [Ty.Storage, Ty.Storage] (zfc N)), go [zcj.k N] {} [] Proofs.Tryz.func43⟩
def zc3.b0 (N : Nat) (s0 : List Int) (s1 : List Int) (s5 : Int) : Option (Round Bool ((List Int) × (List Int) × Int)) :=
 cond (decide (s5 < (s0.length : Int))) ((idx s0 s5).bind fun x1001 => (idx s1 s5).bind fun x1002 => cond (x1001 != x1002) (some (.result false))
  (some (.again (s0, s1, (w6 (s5 + 1)))))) (some (.leave (s0, s1, s5)))
def zc3.r0 (N : Nat) (x : (List Int) × (List Int) × Int) := zc3.b0 N x.1 x.2.1 x.2.2
def zc3 (N : Nat) (a0 : List Int) (a1 : List Int) : Option Bool :=
 cond ((a0.length : Int) != (a1.length : Int)) (some false) ((zk (zc3.r0 N) N (a0, a1, 0)).bind fun z2 => zbe z2 (fun z => some z) (fun y1 => some true))
def zc3.k (N : Nat) : Kq := ⟨77, (cvv [Ty.bool] [(Ty.sl T6), (Ty.sl T6)] (zc3 N)), go [] {} [(0, .rets { slots := [(0, .val (Ty.sl T6)), (1, .val (Ty.sl T6)), (5, .val T6)], boxes := [] } [(Ty.sl T6), (Ty.sl T6), T6] (zk (zc3.r0 N) N))] Proofs.Tryz.func77 (hL := ⟨⟨_, _, rfl, by kernel_rfl⟩, trivial⟩)⟩
def zbj.b0 (N : Nat) (s5 : Int) (b2 : HwState) (b3 : HwState) : Option (Round Bool (Int × HwState × HwState)) :=
 cond (decide (s5 < (b2.Registers.length : Int))) ((idx b2.Registers s5).bind fun x1001 => (idx b3.Registers s5).bind fun x1002 =>
  cond (!(zdz [(x1001.N == x1002.N), (x1001.Scale == x1002.Scale)])) (some (.result false)) (some (.again ((w6 (s5 + 1)), b2, b3)))) (some (.leave (s5, b2, b3)))
def zbj.r0 (N : Nat) (x : Int × HwState × HwState) := zbj.b0 N x.1 x.2.1 x.2.2
def zbj (N : Nat) (a0 : HwState) (a1 : HwState) : Option Bool :=
 cond ((a0.Registers.length : Int) != (a1.Registers.length : Int)) (some false) ((zk (zbj.r0 N) N (0, a0, a1)).bind fun z2 => zbe z2 (fun z => some z) (fun y1 =>
  (cond (y1.2.1.Condition == y1.2.2.Condition) ((zfc N (⟨y1.2.1.Storage.Bytes, y1.2.1.Storage.Tags⟩ : Storage)
  (⟨y1.2.2.Storage.Bytes, y1.2.2.Storage.Tags⟩ : Storage)).bind fun r3 => some r3) (some false)).bind fun g4 => (cond g4 (some (y1.2.1.At == y1.2.2.At)) (some false)).bind fun g5 =>
  (cond g5 ((zc3 N y1.2.1.Stack y1.2.2.Stack).bind fun r6 => some r6) (some false)).bind fun g7 => (cond g7 ((za4 N y1.2.1.Lines y1.2.2.Lines).bind fun r8 => some r8)
  (some false)).bind fun g9 => (cond g9 (some (y1.2.1.Status == y1.2.2.Status)) (some false)).bind fun g10 => (cond g10 (some (y1.2.1.Exception == y1.2.2.Exception))
  (some false)).bind fun g11 => (cond g11 (some (y1.2.1.Marks == y1.2.2.Marks)) (some false)).bind fun g12 => (cond g12 (some (y1.2.1.Steps == y1.2.2.Steps))
  (some false)).bind fun g13 => some g13))
def zbj.k (N : Nat) : Kq := ⟨36, (cvv [Ty.bool] [Ty.HwState, Ty.HwState] (zbj N)), go [zfc.k N, za4.k N, zc3.k N] {} [(0, .rets { slots := [(2, .ptr 2 0), (3, .ptr 3 0), (5, .val T6)], boxes := [(2, Ty.HwState, []), (3, Ty.HwState, [])] } [T6, Ty.HwState, Ty.HwState] (zk (zbj.r0 N) N))] Proofs.Tryz.func36 (hL := ⟨⟨_, _, rfl, by kernel_rfl⟩, trivial⟩)⟩
def zi0 (N : Nat) (a0 : HwState) : Option Bool :=
 (zbj N (⟨a0.Registers, a0.Condition, (⟨a0.Storage.Bytes, a0.Storage.Tags⟩ : Storage), a0.At, a0.Stack, a0.Lines, a0.Status, a0.Exception, a0.Marks, a0.Steps⟩ : HwState)
  (⟨[], 0, (⟨(⟨#[]⟩ : ByteArray), []⟩ : Storage), 0, [], [], 0, 0, 0, 0⟩ : HwState)).bind fun r1 => some r1
def zi0.k (N : Nat) : Kq := ⟨35, (cvv [Ty.bool] [Ty.HwState] (zi0 N)), go [zbj.k N] {} [] Proofs.Tryz.func35⟩
def zht (a0 : List Int) : Option ((List Int)) :=
 cond (Nat.ble (a0.length * 8) zax) (some a0) none
def zht.k : Kq := ⟨72, (ctv [.val (Ty.sl T6)] [(Ty.sl T6)] [] [0] [(Ty.sl T6)] zht), go [] {} [] Proofs.Tryz.func72⟩
def zgk (a0 : List ByteArray) : Option ((List ByteArray)) :=
 cond (Nat.ble (a0.length * 16) zax) (some a0) none
def zgk.k : Kq := ⟨83, (ctv [.val (Ty.sl Ty.str)] [(Ty.sl Ty.str)] [] [0] [(Ty.sl Ty.str)] zgk), go [] {} [] Proofs.Tryz.func83⟩
def zif (a0 : HwState) : Option HwState :=
 cond (Nat.ble (a0.Registers.length * 16) zax) ((zbr a0.Storage).bind fun r1 => (zht a0.Stack).bind fun r2 => (zgk a0.Lines).bind fun r3 =>
  some (⟨a0.Registers, a0.Condition, r1, a0.At, r2, r3, a0.Status, a0.Exception, a0.Marks, a0.Steps⟩ : HwState)) none
def zif.k : Kq := ⟨39, (ctv [.val Ty.HwState] [Ty.HwState] [] [0, 5, 6] [Ty.HwState] zif), go [zbr.k, zht.k, zgk.k] {} [] Proofs.Tryz.func39⟩
def zc1 (a0 : Int) (a1 : Int) (a2 : HwCode) : Option Bool :=
 (zn a0 0 (w6 (a1 - 1))).bind fun r1 => (cond (!r1) (some true) ((idx a2.Instructions a0).bind fun x2 => some (x2.Op != 18))).bind fun g3 => some g3
def zc1.k : Kq := ⟨79, (ctv [.val T6, .ptr T6 false [], .ptr Ty.HwCode false []] [Ty.bool] [] [] [T6, T6, Ty.HwCode] zc1), go [zn.k] {ro := [1000000, 1000001], pk := [1000000, 1000001]} [] Proofs.Tryz.func79⟩
def zx.b0 (N : Nat) (s0 : List Int) (s7 : Int) (s8 : Int) (b1000000 : Int) (b1000001 : HwCode) : Option (Round Int ((List Int) × Int × Int × Int × HwCode)) :=
 cond (decide (s8 < s7)) ((idx s0 s8).bind fun x1001 => (zc1 x1001 b1000000 b1000001).bind fun r1002 => cond r1002 (some (.result s8))
  (some (.again (s0, s7, (w6 (s8 + 1)), b1000000, b1000001)))) (some (.leave (s0, s7, s8, b1000000, b1000001)))
def zx.r0 (N : Nat) (x : (List Int) × Int × Int × Int × HwCode) := zx.b0 N x.1 x.2.1 x.2.2.1 x.2.2.2.1 x.2.2.2.2
def zx (N : Nat) (a0 : List Int) (a1 : Int) (a2 : HwCode) : Option Int :=
 (zk (zx.r0 N) N (a0, (a0.length : Int), 0, a1, a2)).bind fun z2 => zbe z2 (fun z => some z) (fun y1 => some (-1))
def zx.k (N : Nat) : Kq := ⟨106, (ctv [.val (Ty.sl T6), .clo 79 2, .ptr T6 false [], .ptr Ty.HwCode false []] [T6] [] [] [(Ty.sl T6), T6, Ty.HwCode] (zx N)), go [zc1.k] {ro := [1000000, 1000001], pk := [1000000, 1000001]} [(0, .rets { slots := [(0, .val (Ty.sl T6)), (1, .fn 79 [1000000, 1000001]), (7, .val T6), (8, .val T6)], boxes := [(1000000, T6, []), (1000001, Ty.HwCode, [])] } [(Ty.sl T6), T6, T6, T6, Ty.HwCode] (zk (zx.r0 N) N))] Proofs.Tryz.func106 (hL := ⟨⟨_, _, rfl, by kernel_rfl⟩, trivial⟩)⟩
def zby (N : Nat) (a0 : List Int) (a1 : Int) (a2 : HwCode) : Option Bool :=
 (zx N a0 a1 a2).bind fun r1 => some (decide (r1 ≥ 0))
def zby.k (N : Nat) : Kq := ⟨64, (ctv [.val (Ty.sl T6), .clo 79 2, .ptr T6 false [], .ptr Ty.HwCode false []] [Ty.bool] [] [] [(Ty.sl T6), T6, Ty.HwCode] (zby N)), go [zx.k N] {ro := [1000000, 1000001], pk := [1000000, 1000001]} [] Proofs.Tryz.func64⟩
def zd7 (a0 : ByteArray) : Option Bool :=
 some (decide ((a0.size : Int) > 256))
def zd7.k : Kq := ⟨81, (cvv [Ty.bool] [Ty.str] zd7), go [] {} [] Proofs.Tryz.func81⟩
def zl.b0 (N : Nat) (s0 : List ByteArray) (s7 : Int) (s8 : Int) : Option (Round Int ((List ByteArray) × Int × Int)) :=
 cond (decide (s8 < s7)) ((idx s0 s8).bind fun x1001 => (zd7 x1001).bind fun r1002 => cond r1002 (some (.result s8))
  (some (.again (s0, s7, (w6 (s8 + 1)))))) (some (.leave (s0, s7, s8)))
def zl.r0 (N : Nat) (x : (List ByteArray) × Int × Int) := zl.b0 N x.1 x.2.1 x.2.2
def zl (N : Nat) (a0 : List ByteArray) : Option Int :=
 (zk (zl.r0 N) N (a0, (a0.length : Int), 0)).bind fun z2 => zbe z2 (fun z => some z) (fun y1 => some (-1))
def zl.k (N : Nat) : Kq := ⟨120, (ctv [.val (Ty.sl Ty.str), .clo 81 0] [T6] [] [] [(Ty.sl Ty.str)] (zl N)), go [zd7.k] {} [(0, .rets { slots := [(0, .val (Ty.sl Ty.str)), (1, .fn 81 []), (7, .val T6), (8, .val T6)], boxes := [] } [(Ty.sl Ty.str), T6, T6] (zk (zl.r0 N) N))] Proofs.Tryz.func120 (hL := ⟨⟨_, _, rfl, by kernel_rfl⟩, trivial⟩)⟩
def zbf (N : Nat) (a0 : List ByteArray) : Option Bool :=
 (zl N a0).bind fun r1 => some (decide (r1 ≥ 0))
def zbf.k (N : Nat) : Kq := ⟨80, (ctv [.val (Ty.sl Ty.str), .clo 81 0] [Ty.bool] [] [] [(Ty.sl Ty.str)] (zbf N)), go [zl.k N] {} [] Proofs.Tryz.func80⟩
def zai.b0 (N : Nat) (s6 : List Int) (s18 : List Bool) (s19 : Int) (s20 : Int) : Option (Stp ((List Int) × (List Bool) × Int × Int)) :=
 cond (decide (s20 < s19)) ((idx s18 s20).bind fun x1001 => cond x1001 (cond (Nat.ble ((s6.length + ([(w6 (s20 * 16))] : List Int).length) * 8) zax)
  (some (.again ((s6 ++ ([(w6 (s20 * 16))] : List Int)), s18, s19, (w6 (s20 + 1))))) none)
  (some (.again (s6, s18, s19, (w6 (s20 + 1)))))) (some (.leave (s6, s18, s19, s20)))
def zai.r0 (N : Nat) (x : (List Int) × (List Bool) × Int × Int) := zai.b0 N x.1 x.2.1 x.2.2.1 x.2.2.2
def zai (N : Nat) (a0 : Storage) : Option ((List Int) × Int) :=
 (zg N a0).bind fun r1 => cond (r1.2 != 0) (some ([], r1.2)) ((zac (zai.r0 N) N ([], a0.Tags, (a0.Tags.length : Int), 0)).bind fun y2 =>
  some (y2.1, 0))
def zai.k (N : Nat) : Kq := ⟨121, (cvv [(Ty.sl T6), T6] [Ty.Storage] (zai N)), go [zg.k N] {lits := [29]} [(0, .plain { slots := [(6, .own 5000006 T6), (18, .val (Ty.sl Ty.bool)), (19, .val T6), (20, .val T6)], boxes := [] } [(Ty.sl T6), (Ty.sl Ty.bool), T6, T6] (zac (zai.r0 N) N))] Proofs.Tryz.func121 (hL := ⟨⟨_, _, rfl, by kernel_rfl⟩, trivial⟩)⟩
def zd6 (N : Nat) (a0 : Int) (a1 : Storage) : Option Bool :=
 (zcr N a1 a0).bind fun r1 => (cond (r1.1.Kind != 0) (some true) (some (r1.1.Address.Segment != 1))).bind fun g2 => some g2
def zd6.k (N : Nat) : Kq := ⟨122, (ctv [.val T6, .ptr Ty.Storage false []] [Ty.bool] [] [] [T6, Ty.Storage] (zd6 N)), go [zcr.k N] {ro := [1000000], pk := [1000000]} [] Proofs.Tryz.func122⟩
def zt.b0 (N : Nat) (s0 : List Int) (s7 : Int) (s8 : Int) (b1000000 : Storage) : Option (Round Int ((List Int) × Int × Int × Storage)) :=
 cond (decide (s8 < s7)) ((idx s0 s8).bind fun x1001 => (zd6 N x1001 b1000000).bind fun r1002 => cond r1002 (some (.result s8))
  (some (.again (s0, s7, (w6 (s8 + 1)), b1000000)))) (some (.leave (s0, s7, s8, b1000000)))
def zt.r0 (N : Nat) (x : (List Int) × Int × Int × Storage) := zt.b0 N x.1 x.2.1 x.2.2.1 x.2.2.2
def zt (N : Nat) (a0 : List Int) (a1 : Storage) : Option Int :=
 (zk (zt.r0 N) N (a0, (a0.length : Int), 0, a1)).bind fun z2 => zbe z2 (fun z => some z) (fun y1 => some (-1))
def zt.k (N : Nat) : Kq := ⟨106, (ctv [.val (Ty.sl T6), .clo 122 1, .ptr Ty.Storage false []] [T6] [] [] [(Ty.sl T6), Ty.Storage] (zt N)), go [zd6.k N] {ro := [1000000], pk := [1000000]} [(0, .rets { slots := [(0, .val (Ty.sl T6)), (1, .fn 122 [1000000]), (7, .val T6), (8, .val T6)], boxes := [(1000000, Ty.Storage, [])] } [(Ty.sl T6), T6, T6, Ty.Storage] (zk (zt.r0 N) N))] Proofs.Tryz.func106 (hL := ⟨⟨_, _, rfl, by kernel_rfl⟩, trivial⟩)⟩
def zck (N : Nat) (a0 : List Int) (a1 : Storage) : Option Bool :=
 (zt N a0 a1).bind fun r1 => some (decide (r1 ≥ 0))
def zck.k (N : Nat) : Kq := ⟨64, (ctv [.val (Ty.sl T6), .clo 122 1, .ptr Ty.Storage false []] [Ty.bool] [] [] [(Ty.sl T6), Ty.Storage] (zck N)), go [zt.k N] {ro := [1000000], pk := [1000000]} [] Proofs.Tryz.func64⟩
def zd1 (N : Nat) (a0 : HwCode) (a1 : Storage) : Option Int :=
 cond ((a1.Bytes.size : Int) != (a0.Storage.Bytes.size : Int)) (some 18) ((zg N a1).bind fun r1 => cond (r1.2 != 0) (some r1.2)
  ((zai N a1).bind fun r2 => (zck N r2.1 a1).bind fun r3 => (zw r3 22).bind fun r4 => some r4))
def zd1.k (N : Nat) : Kq := ⟨82, (cvv [T6] [Ty.HwCode, Ty.Storage] (zd1 N)), go [zg.k N, zw.k, zck.k N, zai.k N] {lits := [32]} [] Proofs.Tryz.func82⟩
def z9.b0 (N : Nat) (s32 : List Number) (s33 : Int) (s34 : Int) (b4 : HwCode) (b5 : HwState) : Option (Round Int ((List Number) × Int × Int × HwCode × HwState)) :=
 cond (decide (s34 < s33)) ((idx s32 s34).bind fun x1001 => (z7 x1001).bind fun r1002 => cond (r1002 != 0) (some (.result r1002))
  (some (.again (s32, s33, (w6 (s34 + 1)), b4, b5)))) (some (.leave (s32, s33, s34, b4, b5)))
def z9.r0 (N : Nat) (x : (List Number) × Int × Int × HwCode × HwState) := z9.b0 N x.1 x.2.1 x.2.2.1 x.2.2.2.1 x.2.2.2.2
def z9 (N : Nat) (a0 : HwModel) (a1 : HwCode) (a2 : HwState) : Option Int :=
 (zbw N a0 a1).bind fun r1 => (zw ((a2.Registers.length : Int) != a0.Registers) 6).bind fun r2 => (zq N ([r1, r2] : List Int)).bind fun r3 =>
  cond (r3 != 0) (some r3) ((zk (z9.r0 N) N (a2.Registers, (a2.Registers.length : Int), 0, a1, a2)).bind fun z5 => zbe z5 (fun z => some z) (fun y4 =>
  (cond (y4.2.2.2.2.Condition == 0) (some true) (some (y4.2.2.2.2.Condition == 1))).bind fun g6 => (cond g6 (some true) (some (y4.2.2.2.2.Condition == 2))).bind fun g7 =>
  (cond g7 (some true) (some (y4.2.2.2.2.Condition == 4))).bind fun g8 =>
  (zby N y4.2.2.2.2.Stack (y4.2.2.2.1.Instructions.length : Int) y4.2.2.2.1).bind fun r9 =>
  (zbf N y4.2.2.2.2.Lines).bind fun r10 => (zn y4.2.2.2.2.Exception 0 999).bind fun r11 =>
  (cond r11 ((zn y4.2.2.2.2.Marks 0 300).bind fun r12 => some r12) (some false)).bind fun g13 => (cond g13 ((zn y4.2.2.2.2.Steps 0 3000).bind fun r14 => some r14)
  (some false)).bind fun g15 => (zw (!g8) 3).bind fun r16 => (zd1 N y4.2.2.2.1 y4.2.2.2.2.Storage).bind fun r17 =>
  (zn y4.2.2.2.2.At 0 (w6 ((y4.2.2.2.1.Instructions.length : Int) - 1))).bind fun r18 => (zw (!r18) 3).bind fun r19 =>
  (cond (decide ((y4.2.2.2.2.Stack.length : Int) > 6)) (some true) (some (decide ((y4.2.2.2.2.Lines.length : Int) > 40)))).bind fun g20 => (zw g20 2).bind fun r21 =>
  (zw (!(!r9)) 3).bind fun r22 => (zw r10 18).bind fun r23 => (zn y4.2.2.2.2.Status 0 3).bind fun r24 => (zw (!r24) 4).bind fun r25 =>
  (zw (!g15) 3).bind fun r26 => (zq N ([r16, r17, r19, r21, r22, r23, r25, r26] : List Int)).bind fun r27 => some r27))
def z9.k (N : Nat) : Kq := ⟨38, (cvv [T6] [Ty.HwModel, Ty.HwCode, Ty.HwState] (z9 N)), go [zq.k N, zw.k, zn.k, zbw.k N, zby.k N, z7.k, zbf.k N, zd1.k N] {lits := [18, 25, 26, 88, 92, 99, 110, 113, 115, 120, 123, 124]} [(0, .rets { slots := [(4, .ptr 4 0), (5, .ptr 5 0), (32, .val (Ty.sl Ty.Number)), (33, .val T6), (34, .val T6)], boxes := [(4, Ty.HwCode, []), (5, Ty.HwState, [])] } [(Ty.sl Ty.Number), T6, T6, Ty.HwCode, Ty.HwState] (zk (z9.r0 N) N))] Proofs.Tryz.func38 (hL := ⟨⟨_, _, rfl, by kernel_rfl⟩, trivial⟩)⟩
def ziv (N : Nat) (a0 : Storage) (a1 : Int) : Option (Pointer × Int) :=
 (zb8 a0 a1).bind fun r1 => cond (!r1) (some ((⟨0, (⟨0, 0⟩ : Address), 0⟩ : Pointer), 3)) ((idx a0.Tags (w6 (a1.tdiv 16))).bind fun x2 => cond (!x2)
  (some ((⟨0, (⟨0, 0⟩ : Address), 0⟩ : Pointer), 22)) ((zgu a0 (w6 (a1.tdiv 16))).bind fun r3 => (zig N r3).bind fun r4 => some (r4.1, 0)))
def ziv.k (N : Nat) : Kq := ⟨85, (cvv [Ty.Pointer, T6] [Ty.Storage, T6] (ziv N)), go [zb8.k, zig.k N, zgu.k] {lits := [25]} [] Proofs.Tryz.func85⟩
def zi.b0 (N : Nat) (s8 : Int) (b4 : HwCode) (b5 : HwState) : Option (Round Int (Int × HwCode × HwState)) :=
 cond (decide (s8 < (b5.Registers.length : Int))) ((idx b5.Registers s8).bind fun x1001 => (zb9 x1001).bind fun r1002 => cond (r1002 != 0) (some (.result r1002))
  (some (.again ((w6 (s8 + 1)), b4, b5)))) (some (.leave (s8, b4, b5)))
def zi.r0 (N : Nat) (x : Int × HwCode × HwState) := zi.b0 N x.1 x.2.1 x.2.2
def zi.b2 (N : Nat) (s11 : List Int) (s12 : Int) (b4 : HwCode) (b5 : HwState) : Option (Round Int ((List Int) × Int × HwCode × HwState)) :=
 cond (decide (s12 < (s11.length : Int))) ((idx s11 s12).bind fun x3001 => (ziv N b5.Storage x3001).bind fun r3002 => (cond (r3002.1.Kind != 0) (some true)
  (some (r3002.1.Address.Segment != 1))).bind fun g3003 => cond g3003 (some (.result 22)) (some (.again (s11, (w6 (s12 + 1)), b4, b5))))
  (some (.leave (s11, s12, b4, b5)))
def zi.r2 (N : Nat) (x : (List Int) × Int × HwCode × HwState) := zi.b2 N x.1 x.2.1 x.2.2.1 x.2.2.2
def zi.b4 (N : Nat) (s15 : Int) (b4 : HwCode) (b5 : HwState) : Option (Round Int (Int × HwCode × HwState)) :=
 cond (decide (s15 < (b5.Stack.length : Int))) ((idx b5.Stack s15).bind fun x5001 =>
  (zc x5001 0 (w6 ((b4.Instructions.length : Int) - 1))).bind fun r5002 => (cond (!r5002) (some true) ((idx b5.Stack s15).bind fun x5003 =>
  (idx b4.Instructions x5003).bind fun x5004 => some (x5004.Op != 18))).bind fun g5005 => cond g5005 (some (.result 3)) (some (.again ((w6 (s15 + 1)), b4, b5))))
  (some (.leave (s15, b4, b5)))
def zi.r4 (N : Nat) (x : Int × HwCode × HwState) := zi.b4 N x.1 x.2.1 x.2.2
def zi.b6 (N : Nat) (s16 : Int) (b5 : HwState) : Option (Round Int (Int × HwState)) :=
 cond (decide (s16 < (b5.Lines.length : Int))) ((idx b5.Lines s16).bind fun x7001 => cond (decide ((x7001.size : Int) > 256)) (some (.result 18))
  (some (.again ((w6 (s16 + 1)), b5)))) (some (.leave (s16, b5)))
def zi.r6 (N : Nat) (x : Int × HwState) := zi.b6 N x.1 x.2
def zi (N : Nat) (a0 : HwModel) (a1 : HwCode) (a2 : HwState) : Option Int :=
 (zeb N a0 a1).bind fun r1 => cond (r1 != 0) (some r1) (cond ((a2.Registers.length : Int) != a0.Registers) (some 6) ((zk (zi.r0 N) N (0, a1, a2)).bind fun z3 =>
  zbe z3 (fun z => some z) (fun y2 => (cond (y2.2.2.Condition != 0) (some (y2.2.2.Condition != 1)) (some false)).bind fun g4 => (cond g4 (some (y2.2.2.Condition != 2))
  (some false)).bind fun g5 => (cond g5 (some (y2.2.2.Condition != 4)) (some false)).bind fun g6 => cond g6 (some 3)
  (cond ((y2.2.2.Storage.Bytes.size : Int) != (y2.2.1.Storage.Bytes.size : Int)) (some 18) ((zfm N y2.2.2.Storage).bind fun r7 => cond (r7 != 0) (some r7)
  ((z0 N y2.2.2.Storage).bind fun r8 => (zk (zi.r2 N) N (r8, 0, y2.2.1, y2.2.2)).bind fun z10 => zbe z10 (fun z => some z) (fun y9 =>
  (zc y9.2.2.2.At 0 (w6 ((y9.2.2.1.Instructions.length : Int) - 1))).bind fun r11 => cond (!r11) (some 3) ((cond (decide ((y9.2.2.2.Stack.length : Int) > 6))
  (some true) (some (decide ((y9.2.2.2.Lines.length : Int) > 40)))).bind fun g12 => cond g12 (some 2) ((zk (zi.r4 N) N (0, y9.2.2.1, y9.2.2.2)).bind fun z14 =>
  zbe z14 (fun z => some z) (fun y13 => (zk (zi.r6 N) N (0, y13.2.2)).bind fun z16 => zbe z16 (fun z => some z) (fun y15 =>
  (zc y15.2.Status 0 3).bind fun r17 => cond (!r17) (some 4) ((zc y15.2.Exception 0 999).bind fun r18 => (cond (!r18) (some true)
  ((zc y15.2.Marks 0 300).bind fun r19 => some (!r19))).bind fun g20 => (cond g20 (some true) ((zc y15.2.Steps 0 3000).bind fun r21 =>
  some (!r21))).bind fun g22 => cond g22 (some 3) (some 0)))))))))))))
def zi.k (N : Nat) : Kq := ⟨40, (cvv [T6] [Ty.HwModel, Ty.HwCode, Ty.HwState] (zi N)), go [zeb.k N, zfm.k N, z0.k N, zc.k, zb9.k, ziv.k N] {} [(0, .rets { slots := [(4, .ptr 4 0), (5, .ptr 5 0), (8, .val T6)], boxes := [(4, Ty.HwCode, []), (5, Ty.HwState, [])] } [T6, Ty.HwCode, Ty.HwState] (zk (zi.r0 N) N)), (2, .rets { slots := [(4, .ptr 4 0), (5, .ptr 5 0), (11, .val (Ty.sl T6)), (12, .val T6)], boxes := [(4, Ty.HwCode, []), (5, Ty.HwState, [])] } [(Ty.sl T6), T6, Ty.HwCode, Ty.HwState] (zk (zi.r2 N) N)), (4, .rets { slots := [(4, .ptr 4 0), (5, .ptr 5 0), (15, .val T6)], boxes := [(4, Ty.HwCode, []), (5, Ty.HwState, [])] } [T6, Ty.HwCode, Ty.HwState] (zk (zi.r4 N) N)), (6, .rets { slots := [(5, .ptr 5 0), (16, .val T6)], boxes := [(5, Ty.HwState, [])] } [T6, Ty.HwState] (zk (zi.r6 N) N))] Proofs.Tryz.func40 (hL := ⟨⟨_, _, rfl, by kernel_rfl⟩, ⟨_, _, rfl, by kernel_rfl⟩, ⟨_, _, rfl, by kernel_rfl⟩, ⟨_, _, rfl, by kernel_rfl⟩, trivial⟩)⟩
def zhx (a0 : HwModel) (a1 : HwCode) : Option HwState :=
 if 0 ≤ a0.Registers then (if a0.Registers ≤ a0.Registers then (cond (Nat.ble (a0.Registers.toNat * 16) zax) ((zbr a1.Storage).bind fun r1 =>
  some (⟨(List.replicate a0.Registers.toNat ((⟨0, 0⟩ : Number) : Number)), 0, r1, 0, [], [], 0, 0, 0, 0⟩ : HwState)) none) else none) else none
def zhx.k : Kq := ⟨37, (cvv [Ty.HwState] [Ty.HwModel, Ty.HwCode] zhx), go [zbr.k] {} [] Proofs.Tryz.func37⟩
def zds (N : Nat) (a0 : HwModel) (a1 : HwCode) (a2 : HwState) : Option Bool :=
 (zjc N).bind fun r1 => cond (!r1) (some false) ((zc2 N (⟨(⟨a1.Storage.Bytes, a1.Storage.Tags⟩ : Storage), a1.Instructions, a1.Traps⟩ : HwCode)).bind fun r2 =>
  (cond (!r2) (some true)
  ((za0 N (⟨a2.Registers, a2.Condition, (⟨a2.Storage.Bytes, a2.Storage.Tags⟩ : Storage), a2.At, a2.Stack, a2.Lines, a2.Status, a2.Exception, a2.Marks, a2.Steps⟩ : HwState)).bind fun r3 =>
  some (!r3))).bind fun g4 => cond g4 (some true) ((zeu (⟨(⟨a1.Storage.Bytes, a1.Storage.Tags⟩ : Storage), a1.Instructions, a1.Traps⟩ : HwCode)).bind fun r5 =>
  (zc0 N (⟨a0.Registers, a0.Fused, a0.Memory⟩ : HwModel) r5).bind fun r6 => (zeb N (⟨a0.Registers, a0.Fused, a0.Memory⟩ : HwModel)
  (⟨(⟨a1.Storage.Bytes, a1.Storage.Tags⟩ : Storage), a1.Instructions, a1.Traps⟩ : HwCode)).bind fun r7 => cond (r7 != 0) ((cond (r6.2 != r7) (some true)
  ((zi0 N (⟨r6.1.Registers, r6.1.Condition, (⟨r6.1.Storage.Bytes, r6.1.Storage.Tags⟩ : Storage), r6.1.At, r6.1.Stack, r6.1.Lines, r6.1.Status, r6.1.Exception, r6.1.Marks, r6.1.Steps⟩ : HwState)).bind fun r8 =>
  some (!r8))).bind fun g9 => cond g9 (some false) ((zeu (⟨(⟨a1.Storage.Bytes, a1.Storage.Tags⟩ : Storage), a1.Instructions, a1.Traps⟩ : HwCode)).bind fun r10 =>
  (zif (⟨a2.Registers, a2.Condition, (⟨a2.Storage.Bytes, a2.Storage.Tags⟩ : Storage), a2.At, a2.Stack, a2.Lines, a2.Status, a2.Exception, a2.Marks, a2.Steps⟩ : HwState)).bind fun r11 =>
  (z9 N (⟨a0.Registers, a0.Fused, a0.Memory⟩ : HwModel) (⟨(⟨r10.Storage.Bytes, r10.Storage.Tags⟩ : Storage), r10.Instructions, r10.Traps⟩ : HwCode)
  (⟨r11.Registers, r11.Condition, (⟨r11.Storage.Bytes, r11.Storage.Tags⟩ : Storage), r11.At, r11.Stack, r11.Lines, r11.Status, r11.Exception, r11.Marks, r11.Steps⟩ : HwState)).bind fun r12 =>
  (zi N (⟨a0.Registers, a0.Fused, a0.Memory⟩ : HwModel) (⟨(⟨a1.Storage.Bytes, a1.Storage.Tags⟩ : Storage), a1.Instructions, a1.Traps⟩ : HwCode) a2).bind fun r13 =>
  some (r12 == r13))) ((cond (r6.2 != 0) (some true) ((zhx a0 a1).bind fun r14 =>
  (zbj N (⟨r6.1.Registers, r6.1.Condition, (⟨r6.1.Storage.Bytes, r6.1.Storage.Tags⟩ : Storage), r6.1.At, r6.1.Stack, r6.1.Lines, r6.1.Status, r6.1.Exception, r6.1.Marks, r6.1.Steps⟩ : HwState) r14).bind fun r15 =>
  some (!r15))).bind fun g16 => cond g16 (some false) ((zeu a1).bind fun r17 => (zif a2).bind fun r18 => (z9 N a0 r17 r18).bind fun r19 =>
  (zi N a0 a1 a2).bind fun r20 => some (r19 == r20)))))
def zds.k (N : Nat) : Kq := ⟨8, (cvv [Ty.bool] [Ty.HwModel, Ty.HwCode, Ty.HwState] (zds N)), go [zjc.k N, zc2.k N, zeu.k, zeb.k N, za0.k N, zc0.k N, zi0.k N, zbj.k N, zhx.k, z9.k N, zif.k, zi.k N] {lits := [23, 46, 52, 54]} [] Proofs.Tryz.func8⟩
end
end Go.Proofs.YtppbpnknfigboaaGreatDoor.M
