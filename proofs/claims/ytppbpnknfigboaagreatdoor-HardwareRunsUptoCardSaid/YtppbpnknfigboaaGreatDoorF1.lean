/- What the program's functions compute, each tied to its code: part 1. -/
import Derived.Test.YtppbpnknfigboaaGreatDoorF0
namespace Go.Proofs.YtppbpnknfigboaaGreatDoor.M
open Go Go.Amx
set_option linter.unusedVariables false
set_option maxRecDepth 100000
noncomputable section
def zef (a0 : Number) : Option (ByteArray × Int) :=
 (zay a0).bind fun r1 => cond (r1 != 0) (some ((⟨#[]⟩ : ByteArray), r1))
  ((zyx (if (w6 (0 - a0.N)) > a0.N then (w6 (0 - a0.N)) else a0.N)).bind fun r2 => cond (decide ((r2.size : Int) ≤ a0.Scale))
  ((znv (⟨#[48]⟩ : ByteArray) (w6 ((w6 (a0.Scale + 1)) - (r2.size : Int)))).bind fun r3 =>
  if ((r3.size + r2.size : Nat) : Int) > IntKind.i64.max then none else cond (decide (a0.Scale > 0))
  (if 0 ≤ (w6 (((r3 ++ r2).size : Int) - a0.Scale)) ∧ (w6 (((r3 ++ r2).size : Int) - a0.Scale)) ≤ ((r3 ++ r2).size : Int) then (if 0 ≤ (0 : Int) ∧ (0 : Int) ≤ (w6 (((r3 ++ r2).size : Int) - a0.Scale)) then (if ((((r3 ++ r2).extract (0 : Int).toNat (w6 (((r3 ++ r2).size : Int) - a0.Scale)).toNat).size + (⟨#[46]⟩ : ByteArray).size : Nat) : Int) > IntKind.i64.max then none else if 0 ≤ (w6 (((r3 ++ r2).size : Int) - a0.Scale)) ∧ (w6 (((r3 ++ r2).size : Int) - a0.Scale)) ≤ ((r3 ++ r2).size : Int) then (if (((((r3 ++ r2).extract (0 : Int).toNat (w6 (((r3 ++ r2).size : Int) - a0.Scale)).toNat) ++ (⟨#[46]⟩ : ByteArray)).size + ((r3 ++ r2).extract (w6 (((r3 ++ r2).size : Int) - a0.Scale)).toNat (r3 ++ r2).size).size : Nat) : Int) > IntKind.i64.max then none else cond (decide (a0.N < 0))
  (if (((⟨#[45]⟩ : ByteArray).size + ((((r3 ++ r2).extract (0 : Int).toNat (w6 (((r3 ++ r2).size : Int) - a0.Scale)).toNat) ++ (⟨#[46]⟩ : ByteArray)) ++ ((r3 ++ r2).extract (w6 (((r3 ++ r2).size : Int) - a0.Scale)).toNat (r3 ++ r2).size)).size : Nat) : Int) > IntKind.i64.max then none else some (((⟨#[45]⟩ : ByteArray) ++ ((((r3 ++ r2).extract (0 : Int).toNat (w6 (((r3 ++ r2).size : Int) - a0.Scale)).toNat) ++ (⟨#[46]⟩ : ByteArray)) ++ ((r3 ++ r2).extract (w6 (((r3 ++ r2).size : Int) - a0.Scale)).toNat (r3 ++ r2).size))), 0))
  (some (((((r3 ++ r2).extract (0 : Int).toNat (w6 (((r3 ++ r2).size : Int) - a0.Scale)).toNat) ++ (⟨#[46]⟩ : ByteArray)) ++ ((r3 ++ r2).extract (w6 (((r3 ++ r2).size : Int) - a0.Scale)).toNat (r3 ++ r2).size)), 0))) else none) else none) else none)
  (cond (decide (a0.N < 0)) (if (((⟨#[45]⟩ : ByteArray).size + (r3 ++ r2).size : Nat) : Int) > IntKind.i64.max then none else some (((⟨#[45]⟩ : ByteArray) ++ (r3 ++ r2)), 0))
  (some ((r3 ++ r2), 0)))) (cond (decide (a0.Scale > 0))
  (if 0 ≤ (w6 ((r2.size : Int) - a0.Scale)) ∧ (w6 ((r2.size : Int) - a0.Scale)) ≤ (r2.size : Int) then (if 0 ≤ (0 : Int) ∧ (0 : Int) ≤ (w6 ((r2.size : Int) - a0.Scale)) then (if (((r2.extract (0 : Int).toNat (w6 ((r2.size : Int) - a0.Scale)).toNat).size + (⟨#[46]⟩ : ByteArray).size : Nat) : Int) > IntKind.i64.max then none else if 0 ≤ (w6 ((r2.size : Int) - a0.Scale)) ∧ (w6 ((r2.size : Int) - a0.Scale)) ≤ (r2.size : Int) then (if ((((r2.extract (0 : Int).toNat (w6 ((r2.size : Int) - a0.Scale)).toNat) ++ (⟨#[46]⟩ : ByteArray)).size + (r2.extract (w6 ((r2.size : Int) - a0.Scale)).toNat r2.size).size : Nat) : Int) > IntKind.i64.max then none else cond (decide (a0.N < 0))
  (if (((⟨#[45]⟩ : ByteArray).size + (((r2.extract (0 : Int).toNat (w6 ((r2.size : Int) - a0.Scale)).toNat) ++ (⟨#[46]⟩ : ByteArray)) ++ (r2.extract (w6 ((r2.size : Int) - a0.Scale)).toNat r2.size)).size : Nat) : Int) > IntKind.i64.max then none else some (((⟨#[45]⟩ : ByteArray) ++ (((r2.extract (0 : Int).toNat (w6 ((r2.size : Int) - a0.Scale)).toNat) ++ (⟨#[46]⟩ : ByteArray)) ++ (r2.extract (w6 ((r2.size : Int) - a0.Scale)).toNat r2.size))), 0))
  (some ((((r2.extract (0 : Int).toNat (w6 ((r2.size : Int) - a0.Scale)).toNat) ++ (⟨#[46]⟩ : ByteArray)) ++ (r2.extract (w6 ((r2.size : Int) - a0.Scale)).toNat r2.size)), 0))) else none) else none) else none)
  (cond (decide (a0.N < 0)) (if (((⟨#[45]⟩ : ByteArray).size + r2.size : Nat) : Int) > IntKind.i64.max then none else some (((⟨#[45]⟩ : ByteArray) ++ r2), 0)) (some (r2, 0)))))
def zef.k : Kq := ⟨221, (cvv [Ty.str, T6] [Ty.Number] zef), go [zay.k, zxn.k, zz5.k] {lits := [16]} [] Proofs.Tryz.func221⟩
def zz6 : Ct U := { params := [.val (Ty.sl Ty.str)], results := [(Ty.sl Ty.str)], outs := [], fresh := [0], fn := app U [(Ty.sl Ty.str)] (R := PT U [(Ty.sl Ty.str)]) (zdh 16) }
theorem zz6.meets : zhm (zrw [] [] [] [] [] [] [] []) 222 zz6 :=
 zor zwl (zu3 (l := []) rfl zdg) (zt9 (l := []) rfl zdg) (Lp := pick []) Proofs.Tryz.func222 (by kernel_rfl) (zu7 (l := []) rfl zdg) (fun y => by kernel_rfl) (e := 9) (t := Ty.str) rfl rfl rfl rfl rfl rfl rfl (by kernel_rfl) rfl rfl rfl rfl rfl rfl (fun xs => by kernel_rfl) fun ds y h => by
  obtain ⟨xs, rfl, hx⟩ := z0s h; refine ⟨xs, rfl, fun b hb => ?_⟩; cases b with
  | true =>
   have := hb rfl; subst this; exact Eq.trans (by kernel_rfl) hx
  | false => exact Eq.trans (b := cond (Nat.ble ((0 + xs.length) * 16) z9) (some xs) none) (by kernel_rfl) (by rw [Nat.zero_add]; exact hx)
def zz6.k : Kq := ⟨222, zz6, zz6.meets⟩
def zhl (N : Nat) (a0 : hardware_machine) (a1 : HwInstruction) : Option hardware_machine :=
 cond (a1.Op == 22) ((idx a0.HwState.Registers a1.R).bind fun x1 => (zef x1).bind fun r2 => cond ((a0.HwState.Lines.length : Int) == 40)
  (some (⟨(⟨a0.HwState.Registers, a0.HwState.Condition, a0.HwState.Storage, a0.HwState.At, a0.HwState.Stack, a0.HwState.Lines, 3, a0.HwState.Exception, a0.HwState.Marks, a0.HwState.Steps⟩ : HwState), a0.code, a0.raised⟩ : hardware_machine))
  ((zdh 16 a0.HwState.Lines).bind fun r3 => cond (Nat.ble ((r3.length + ([r2.1] : List ByteArray).length) * 16) z9)
  (some (⟨(⟨a0.HwState.Registers, a0.HwState.Condition, a0.HwState.Storage, a0.HwState.At, a0.HwState.Stack, (r3 ++ ([r2.1] : List ByteArray)), a0.HwState.Status, a0.HwState.Exception, a0.HwState.Marks, a0.HwState.Steps⟩ : HwState), a0.code, a0.raised⟩ : hardware_machine)) none))
  (cond (a1.Op == 23) ((zr N a0 a1.Place a1.Type_).bind fun r4 => cond (!r4.2.1) (some r4.2.2) (cond ((r4.2.2.HwState.Lines.length : Int) == 40)
  (some (⟨(⟨r4.2.2.HwState.Registers, r4.2.2.HwState.Condition, r4.2.2.HwState.Storage, r4.2.2.HwState.At, r4.2.2.HwState.Stack, r4.2.2.HwState.Lines, 3, r4.2.2.HwState.Exception, r4.2.2.HwState.Marks, r4.2.2.HwState.Steps⟩ : HwState), r4.2.2.code, r4.2.2.raised⟩ : hardware_machine))
  ((zdh 16 r4.2.2.HwState.Lines).bind fun r5 => cond (Nat.ble ((r5.length + ([r4.1] : List ByteArray).length) * 16) z9)
  (some (⟨(⟨r4.2.2.HwState.Registers, r4.2.2.HwState.Condition, r4.2.2.HwState.Storage, r4.2.2.HwState.At, r4.2.2.HwState.Stack, (r5 ++ ([r4.1] : List ByteArray)), r4.2.2.HwState.Status, r4.2.2.HwState.Exception, r4.2.2.HwState.Marks, r4.2.2.HwState.Steps⟩ : HwState), r4.2.2.code, r4.2.2.raised⟩ : hardware_machine)) none)))
  (cond ((a0.HwState.Lines.length : Int) == 40)
  (some (⟨(⟨a0.HwState.Registers, a0.HwState.Condition, a0.HwState.Storage, a0.HwState.At, a0.HwState.Stack, a0.HwState.Lines, 3, a0.HwState.Exception, a0.HwState.Marks, a0.HwState.Steps⟩ : HwState), a0.code, a0.raised⟩ : hardware_machine))
  ((zdh 16 a0.HwState.Lines).bind fun r6 => cond (Nat.ble ((r6.length + ([a1.Text] : List ByteArray).length) * 16) z9)
  (some (⟨(⟨a0.HwState.Registers, a0.HwState.Condition, a0.HwState.Storage, a0.HwState.At, a0.HwState.Stack, (r6 ++ ([a1.Text] : List ByteArray)), a0.HwState.Status, a0.HwState.Exception, a0.HwState.Marks, a0.HwState.Steps⟩ : HwState), a0.code, a0.raised⟩ : hardware_machine)) none)))
def zhl.k (N : Nat) : Kq := ⟨156, (ctv [.ptr Ty.hardware_machine true [], .val Ty.HwInstruction] [] [Ty.hardware_machine] [] [Ty.hardware_machine, Ty.HwInstruction] (zhl N)), go [zr.k N, zef.k, zz6.k] {lits := [44], pk := [1000000]} [] Proofs.Tryz.func156⟩
def zex (a0 : hardware_machine) : Option hardware_machine :=
 cond (a0.HwState.Marks == 300)
  (some (⟨(⟨a0.HwState.Registers, a0.HwState.Condition, a0.HwState.Storage, a0.HwState.At, a0.HwState.Stack, a0.HwState.Lines, 3, a0.HwState.Exception, a0.HwState.Marks, a0.HwState.Steps⟩ : HwState), a0.code, a0.raised⟩ : hardware_machine))
  (some (⟨(⟨a0.HwState.Registers, a0.HwState.Condition, a0.HwState.Storage, a0.HwState.At, a0.HwState.Stack, a0.HwState.Lines, a0.HwState.Status, a0.HwState.Exception, (w6 (a0.HwState.Marks + 1)), a0.HwState.Steps⟩ : HwState), a0.code, a0.raised⟩ : hardware_machine))
def zex.k : Kq := ⟨157, (ctv [.ptr Ty.hardware_machine true []] [] [Ty.hardware_machine] [] [Ty.hardware_machine] zex), go [] {pk := [1000000]} [] Proofs.Tryz.func157⟩
def zua : Ct U := { params := [.val (Ty.sl T6)], results := [(Ty.sl T6)], outs := [], fresh := [0], fn := app U [(Ty.sl T6)] (R := PT U [(Ty.sl T6)]) (zdh 8) }
theorem zua.meets : zhm (zrw [] [] [] [] [] [] [] []) 160 zua :=
 zor zwl (zu3 (l := []) rfl zdg) (zt9 (l := []) rfl zdg) (Lp := pick []) Proofs.Tryz.func160 (by kernel_rfl) (zu7 (l := []) rfl zdg) (fun y => by kernel_rfl) (e := 3) (t := T6) rfl rfl rfl rfl rfl rfl rfl (by kernel_rfl) rfl rfl rfl rfl rfl rfl (fun xs => by kernel_rfl) fun ds y h => by
  obtain ⟨xs, rfl, hx⟩ := z0s h; refine ⟨xs, rfl, fun b hb => ?_⟩; cases b with
  | true =>
   have := hb rfl; subst this; exact Eq.trans (by kernel_rfl) hx
  | false => exact Eq.trans (b := cond (Nat.ble ((0 + xs.length) * 8) z9) (some xs) none) (by kernel_rfl) (by rw [Nat.zero_add]; exact hx)
def zua.k : Kq := ⟨160, zua, zua.meets⟩
def zey (a0 : hardware_machine) (a1 : Int) : Option (Int × hardware_machine) :=
 (zf a0 (decide ((a0.HwState.Stack.length : Int) ≥ 6)) 6).bind fun r1 => cond r1.1 ((zdh 8 r1.2.HwState.Stack).bind fun r2 =>
  cond (Nat.ble ((r2.length + ([r1.2.HwState.At] : List Int).length) * 8) z9)
  (some (a1, (⟨(⟨r1.2.HwState.Registers, r1.2.HwState.Condition, r1.2.HwState.Storage, r1.2.HwState.At, (r2 ++ ([r1.2.HwState.At] : List Int)), r1.2.HwState.Lines, r1.2.HwState.Status, r1.2.HwState.Exception, r1.2.HwState.Marks, r1.2.HwState.Steps⟩ : HwState), r1.2.code, r1.2.raised⟩ : hardware_machine))) none)
  (some (a1, r1.2))
def zey.k : Kq := ⟨223, (ctv [.ptr Ty.hardware_machine true [], .val T6] [T6] [Ty.hardware_machine] [] [Ty.hardware_machine, T6] zey), go [zua.k, zf.k] {lits := [26], pk := [1000000]} [] Proofs.Tryz.func223⟩
def zez (a0 : hardware_machine) : Option (Int × hardware_machine) :=
 cond (decide ((w6 ((a0.HwState.Stack.length : Int) - 1)) < 0))
  (some (a0.HwState.At, (⟨(⟨a0.HwState.Registers, a0.HwState.Condition, a0.HwState.Storage, a0.HwState.At, a0.HwState.Stack, a0.HwState.Lines, 1, a0.HwState.Exception, a0.HwState.Marks, a0.HwState.Steps⟩ : HwState), a0.code, a0.raised⟩ : hardware_machine)))
  ((idx a0.HwState.Stack (w6 ((a0.HwState.Stack.length : Int) - 1))).bind fun x1 =>
  if 0 ≤ (w6 ((a0.HwState.Stack.length : Int) - 1)) ∧ (w6 ((a0.HwState.Stack.length : Int) - 1)) ≤ (a0.HwState.Stack.length : Int) then (if 0 ≤ (0 : Int) ∧ (0 : Int) ≤ (w6 ((a0.HwState.Stack.length : Int) - 1)) then ((zdh 8 ((a0.HwState.Stack.take (w6 ((a0.HwState.Stack.length : Int) - 1)).toNat).drop (0 : Int).toNat)).bind fun r2 =>
  some ((w6 (x1 + 1)), (⟨(⟨a0.HwState.Registers, a0.HwState.Condition, a0.HwState.Storage, a0.HwState.At, r2, a0.HwState.Lines, a0.HwState.Status, a0.HwState.Exception, a0.HwState.Marks, a0.HwState.Steps⟩ : HwState), a0.code, a0.raised⟩ : hardware_machine))) else none) else none)
def zez.k : Kq := ⟨224, (ctv [.ptr Ty.hardware_machine true []] [T6] [Ty.hardware_machine] [] [Ty.hardware_machine] zez), go [zua.k] {pk := [1000000]} [] Proofs.Tryz.func224⟩
def zhx (N : Nat) (a0 : hardware_machine) (a1 : HwInstruction) : Option (Int × hardware_machine) :=
 cond (a1.Op == 8) (some (a1.Target, a0)) (cond (a1.Op == 18) ((zey a0 a1.Target).bind fun r1 => some (r1.1, r1.2)) (cond (a1.Op == 19)
  ((zez a0).bind fun r2 => some (r2.1, r2.2)) (cond (a1.Op == 6) (cond ((zh .i64 a0.HwState.Condition a1.Mask) != 0) (some (a1.Target, a0))
  (some ((w6 (a0.HwState.At + 1)), a0))) (cond (a1.Op == 7) ((zao N a0 a1).bind fun r3 => cond ((zh .i64 r3 a1.Mask) != 0)
  (some (a1.Target, a0)) (some ((w6 (a0.HwState.At + 1)), a0))) (some ((w6 (a0.HwState.At + 1)), a0))))))
def zhx.k (N : Nat) : Kq := ⟨158, (ctv [.ptr Ty.hardware_machine true [], .val Ty.HwInstruction] [T6] [Ty.hardware_machine] [] [Ty.hardware_machine, Ty.HwInstruction] (zhx N)), go [zao.k N, zey.k, zez.k] {pk := [1000000]} [] Proofs.Tryz.func158⟩
def ze (N : Nat) (a0 : hardware_machine) (a1 : HwInstruction) : Option (Int × hardware_machine) :=
 cond (a1.Op == 0) ((zbi N a0 a1.Place a1.Type_).bind fun r1 => cond r1.2.1 ((zy r1.2.2 a1.R r1.1).bind fun r2 =>
  some ((w6 (r2.HwState.At + 1)), r2)) (some ((w6 (r1.2.2.HwState.At + 1)), r1.2.2))) (cond (a1.Op == 1)
  ((zer N a0 a1).bind fun r3 => some ((w6 (r3.HwState.At + 1)), r3)) (cond (a1.Op == 2) ((zy a0 a1.R a1.Number).bind fun r4 =>
  some ((w6 (r4.HwState.At + 1)), r4)) (cond (a1.Op == 3) ((idx a0.HwState.Registers a1.A).bind fun x5 => (zy a0 a1.R x5).bind fun r6 =>
  some ((w6 (r6.HwState.At + 1)), r6)) (cond (a1.Op == 4) ((zf6 N a0 a1).bind fun r7 => some ((w6 (r7.HwState.At + 1)), r7))
  (cond (a1.Op == 5) ((zao N a0 a1).bind fun r8 =>
  some ((w6 (a0.HwState.At + 1)), (⟨(⟨a0.HwState.Registers, r8, a0.HwState.Storage, a0.HwState.At, a0.HwState.Stack, a0.HwState.Lines, a0.HwState.Status, a0.HwState.Exception, a0.HwState.Marks, a0.HwState.Steps⟩ : HwState), a0.code, a0.raised⟩ : hardware_machine)))
  ((cond (a1.Op == 9) (some (a1.Op == 9)) (some (a1.Op == 10))).bind fun q9 => cond q9 ((zf5 N a0 a1).bind fun r10 =>
  some ((w6 (r10.HwState.At + 1)), r10)) ((cond (a1.Op == 11) (some (a1.Op == 11)) (some (a1.Op == 12))).bind fun q11 =>
  cond q11 ((ze0 N a0 a1).bind fun r12 => some ((w6 (r12.HwState.At + 1)), r12)) (cond (a1.Op == 13)
  ((zck a1.Text a1.Other).bind fun r13 =>
  some ((w6 (a0.HwState.At + 1)), (⟨(⟨a0.HwState.Registers, r13, a0.HwState.Storage, a0.HwState.At, a0.HwState.Stack, a0.HwState.Lines, a0.HwState.Status, a0.HwState.Exception, a0.HwState.Marks, a0.HwState.Steps⟩ : HwState), a0.code, a0.raised⟩ : hardware_machine)))
  ((cond (a1.Op == 14) (some (a1.Op == 14)) (cond (a1.Op == 15) (some (a1.Op == 15)) (cond (a1.Op == 16) (some (a1.Op == 16)) (some (a1.Op == 17))))).bind fun q14 =>
  cond q14 ((zgi N a0 a1).bind fun r15 => some ((w6 (r15.HwState.At + 1)), r15)) (cond (a1.Op == 20)
  ((zed N a0 a1).bind fun r16 => some ((w6 (r16.HwState.At + 1)), r16)) (cond (a1.Op == 21)
  ((zy a0 a1.R (⟨a0.HwState.Exception, 0⟩ : Number)).bind fun r17 => some ((w6 (r17.HwState.At + 1)), r17)) ((cond (a1.Op == 22)
  (some (a1.Op == 22)) (cond (a1.Op == 23) (some (a1.Op == 23)) (some (a1.Op == 24)))).bind fun q18 => cond q18 ((zhl N a0 a1).bind fun r19 =>
  some ((w6 (r19.HwState.At + 1)), r19)) (cond (a1.Op == 25) ((zex a0).bind fun r20 => some ((w6 (r20.HwState.At + 1)), r20))
  (cond (a1.Op == 26)
  (some ((w6 (a0.HwState.At + 1)), (⟨(⟨a0.HwState.Registers, a0.HwState.Condition, a0.HwState.Storage, a0.HwState.At, a0.HwState.Stack, a0.HwState.Lines, 1, a0.HwState.Exception, a0.HwState.Marks, a0.HwState.Steps⟩ : HwState), a0.code, a0.raised⟩ : hardware_machine)))
  ((zhx N a0 a1).bind fun r21 => some (r21.1, r21.2))))))))))))))))
def ze.k (N : Nat) : Kq := ⟨104, (ctv [.ptr Ty.hardware_machine true [], .val Ty.HwInstruction] [T6] [Ty.hardware_machine] [] [Ty.hardware_machine, Ty.HwInstruction] (ze N)), go [zbi.k N, zy.k, zer.k N, zf6.k N, zao.k N, zf5.k N, ze0.k N, zck.k, zgi.k N, zed.k N, zhl.k N, zex.k, zhx.k N] {pk := [1000000], bj := [71, 77, 94, 119]} [] Proofs.Tryz.func104⟩
def zfq (a0 : HwTrap) (a1 : Int) (a2 : Int) : Option Bool :=
 (zap a1 a0.From (w6 (a0.To - 1))).bind fun r1 => (cond r1 ((cond (a0.Exception == 0) (some true) (some (a0.Exception == a2))).bind fun g2 => some g2)
  (some false)).bind fun g3 => some g3
def zfq.k : Kq := ⟨226, (ctv [.val Ty.HwTrap, .ptr T6 false [], .ptr T6 false []] [Ty.bool] [] [] [Ty.HwTrap, T6, T6] zfq), go [zap.k] {ro := [1000000, 1000001], pk := [1000000, 1000001]} [] Proofs.Tryz.func226⟩
def zo.b0 (N : Nat) (s0 : List HwTrap) (s7 : Int) (s8 : Int) (b1000000 : Int) (b1000001 : Int) : Option (Round Int ((List HwTrap) × Int × Int × Int × Int)) :=
 cond (decide (s8 < s7)) ((idx s0 s8).bind fun x1001 => (zfq x1001 b1000000 b1000001).bind fun r1002 => cond r1002 (some (.result s8))
  (some (.again (s0, s7, (w6 (s8 + 1)), b1000000, b1000001)))) (some (.leave (s0, s7, s8, b1000000, b1000001)))
def zo.r0 (N : Nat) (x : (List HwTrap) × Int × Int × Int × Int) := zo.b0 N x.1 x.2.1 x.2.2.1 x.2.2.2.1 x.2.2.2.2
def zo (N : Nat) (a0 : List HwTrap) (a1 : Int) (a2 : Int) : Option Int :=
 (z5 (zo.r0 N) N (a0, (a0.length : Int), 0, a1, a2)).bind fun z2 => zd5 z2 (fun z => some z) (fun y1 => some (-1))
def zo.k (N : Nat) : Kq := ⟨225, (ctv [.val (Ty.sl Ty.HwTrap), .clo 226 2, .ptr T6 false [], .ptr T6 false []] [T6] [] [] [(Ty.sl Ty.HwTrap), T6, T6] (zo N)), go [zfq.k] {ro := [1000000, 1000001], pk := [1000000, 1000001]} [(0, .rets { slots := [(0, .val (Ty.sl Ty.HwTrap)), (1, .fn 226 [1000000, 1000001]), (7, .val T6), (8, .val T6)], boxes := [(1000000, T6, []), (1000001, T6, [])] } [(Ty.sl Ty.HwTrap), T6, T6, T6, T6] (z5 (zo.r0 N) N))] Proofs.Tryz.func225 (hL := ⟨⟨_, _, rfl, by kernel_rfl⟩, trivial⟩)⟩
def zhc (N : Nat) (a0 : HwCode) (a1 : Int) (a2 : Int) : Option Int :=
 (zo N a0.Traps a1 a2).bind fun r1 => cond (decide (r1 < 0)) (some (-1)) ((idx a0.Traps r1).bind fun x2 => some x2.Handler)
def zhc.k (N : Nat) : Kq := ⟨159, (cvv [T6] [Ty.HwCode, T6, T6] (zhc N)), go [zo.k N] {} [] Proofs.Tryz.func159⟩
def zal.b0 (N : Nat) (b1000000 : hardware_machine) : Option (Round hardware_machine hardware_machine) :=
 (zhc N b1000000.code b1000000.HwState.At b1000000.raised).bind fun r1001 => cond (decide (r1001 ≥ 0))
  (some (.result (⟨(⟨b1000000.HwState.Registers, b1000000.HwState.Condition, b1000000.HwState.Storage, r1001, b1000000.HwState.Stack, b1000000.HwState.Lines, b1000000.HwState.Status, b1000000.HwState.Exception, b1000000.HwState.Marks, b1000000.HwState.Steps⟩ : HwState), b1000000.code, b1000000.raised⟩ : hardware_machine)))
  (cond (decide ((w6 ((b1000000.HwState.Stack.length : Int) - 1)) < 0))
  (some (.result (⟨(⟨b1000000.HwState.Registers, b1000000.HwState.Condition, b1000000.HwState.Storage, b1000000.HwState.At, b1000000.HwState.Stack, b1000000.HwState.Lines, 2, b1000000.HwState.Exception, b1000000.HwState.Marks, b1000000.HwState.Steps⟩ : HwState), b1000000.code, b1000000.raised⟩ : hardware_machine)))
  ((idx b1000000.HwState.Stack (w6 ((b1000000.HwState.Stack.length : Int) - 1))).bind fun x1002 =>
  if 0 ≤ (w6 ((b1000000.HwState.Stack.length : Int) - 1)) ∧ (w6 ((b1000000.HwState.Stack.length : Int) - 1)) ≤ (b1000000.HwState.Stack.length : Int) then (if 0 ≤ (0 : Int) ∧ (0 : Int) ≤ (w6 ((b1000000.HwState.Stack.length : Int) - 1)) then ((zdh 8 ((b1000000.HwState.Stack.take (w6 ((b1000000.HwState.Stack.length : Int) - 1)).toNat).drop (0 : Int).toNat)).bind fun r1003 =>
  some (.again (⟨(⟨b1000000.HwState.Registers, b1000000.HwState.Condition, b1000000.HwState.Storage, x1002, r1003, b1000000.HwState.Lines, b1000000.HwState.Status, b1000000.HwState.Exception, b1000000.HwState.Marks, b1000000.HwState.Steps⟩ : HwState), b1000000.code, b1000000.raised⟩ : hardware_machine))) else none) else none))
def zal.r0 (N : Nat) (x : hardware_machine) := zal.b0 N x
def zal (N : Nat) (a0 : hardware_machine) : Option hardware_machine :=
 (z5 (zal.r0 N) N (⟨(⟨a0.HwState.Registers, a0.HwState.Condition, a0.HwState.Storage, a0.HwState.At, a0.HwState.Stack, a0.HwState.Lines, a0.HwState.Status, a0.raised, a0.HwState.Marks, a0.HwState.Steps⟩ : HwState), a0.code, a0.raised⟩ : hardware_machine)).bind fun z2 =>
  zd5 z2 (fun z => some z) (fun y1 => some y1)
def zal.k (N : Nat) : Kq := ⟨105, (ctv [.ptr Ty.hardware_machine true []] [] [Ty.hardware_machine] [] [Ty.hardware_machine] (zal N)), go [zhc.k N, zua.k] {pk := [1000000]} [(0, .rets { slots := [(0, .ptr 1000000 0)], boxes := [(1000000, Ty.hardware_machine, [])] } [Ty.hardware_machine] (z5 (zal.r0 N) N))] Proofs.Tryz.func105 (hL := ⟨⟨_, _, rfl, by kernel_rfl⟩, trivial⟩)⟩
def zi7 (N : Nat) (a0 : HwCode) (a1 : HwState) : Option HwState :=
 (idx a0.Instructions a1.At).bind fun x1 =>
  (ze N (⟨(⟨a1.Registers, a1.Condition, (⟨a1.Storage.Bytes, a1.Storage.Tags⟩ : Storage), a1.At, a1.Stack, a1.Lines, a1.Status, a1.Exception, a1.Marks, (w6 (a1.Steps + 1))⟩ : HwState), (⟨(⟨a0.Storage.Bytes, a0.Storage.Tags⟩ : Storage), a0.Instructions, a0.Traps⟩ : HwCode), 0⟩ : hardware_machine)
  (⟨x1.Op, x1.R, x1.A, x1.B, x1.Calculation, (⟨x1.Place.Based, x1.Place.Pointer, x1.Place.Offset⟩ : HwPlace), (⟨x1.From.Based, x1.From.Pointer, x1.From.Offset⟩ : HwPlace), (⟨x1.Type_.Kind, x1.Type_.Length, x1.Type_.Scale⟩ : DataType), (⟨x1.Second.Kind, x1.Second.Length, x1.Second.Scale⟩ : DataType), x1.Half, x1.InStorage, (⟨x1.Number.N, x1.Number.Scale⟩ : Number), x1.Text, x1.Other, x1.Mask, x1.Target, x1.Pointer, x1.Source⟩ : HwInstruction)).bind fun r2 =>
  cond (r2.2.raised != 0) ((zal N r2.2).bind fun r3 => (cond (r3.HwState.Status == 0) (some (r3.HwState.Steps == 3000)) (some false)).bind fun g4 =>
  cond g4 (some (⟨r3.HwState.Registers, r3.HwState.Condition, r3.HwState.Storage, r3.HwState.At, r3.HwState.Stack, r3.HwState.Lines, 3, r3.HwState.Exception, r3.HwState.Marks, r3.HwState.Steps⟩ : HwState))
  (some r3.HwState)) (cond (r2.2.HwState.Status != 0) ((cond (r2.2.HwState.Status == 0) (some (r2.2.HwState.Steps == 3000)) (some false)).bind fun g5 =>
  cond g5 (some (⟨r2.2.HwState.Registers, r2.2.HwState.Condition, r2.2.HwState.Storage, r2.2.HwState.At, r2.2.HwState.Stack, r2.2.HwState.Lines, 3, r2.2.HwState.Exception, r2.2.HwState.Marks, r2.2.HwState.Steps⟩ : HwState))
  (some r2.2.HwState)) (cond (r2.1 == (a0.Instructions.length : Int))
  (some (⟨r2.2.HwState.Registers, r2.2.HwState.Condition, r2.2.HwState.Storage, r2.2.HwState.At, r2.2.HwState.Stack, r2.2.HwState.Lines, 1, r2.2.HwState.Exception, r2.2.HwState.Marks, r2.2.HwState.Steps⟩ : HwState))
  ((cond (r2.2.HwState.Status == 0) (some (r2.2.HwState.Steps == 3000)) (some false)).bind fun g6 =>
  cond g6 (some (⟨r2.2.HwState.Registers, r2.2.HwState.Condition, r2.2.HwState.Storage, r2.1, r2.2.HwState.Stack, r2.2.HwState.Lines, 3, r2.2.HwState.Exception, r2.2.HwState.Marks, r2.2.HwState.Steps⟩ : HwState))
  (some (⟨r2.2.HwState.Registers, r2.2.HwState.Condition, r2.2.HwState.Storage, r2.1, r2.2.HwState.Stack, r2.2.HwState.Lines, r2.2.HwState.Status, r2.2.HwState.Exception, r2.2.HwState.Marks, r2.2.HwState.Steps⟩ : HwState)))))
def zi7.k (N : Nat) : Kq := ⟨59, (cvv [Ty.HwState] [Ty.HwCode, Ty.HwState] (zi7 N)), go [ze.k N, zal.k N] {} [] Proofs.Tryz.func59⟩
def zb5.b0 (N : Nat) (b3 : HwCode) (b4 : HwResult) (b6 : HwState) : Option (Stp (HwCode × HwResult × HwState)) :=
 cond (b6.Status == 0) ((zi7 N b3 b6).bind fun r1001 => some (.again (b3, b4, r1001))) (some (.leave (b3, b4, b6)))
def zb5.r0 (N : Nat) (x : HwCode × HwResult × HwState) := zb5.b0 N x.1 x.2.1 x.2.2
def zb5 (N : Nat) (a0 : HwModel) (a1 : HwCode) : Option (HwResult × Int) :=
 (zhd N (⟨a0.Registers, a0.Fused, a0.Memory⟩ : HwModel) (⟨(⟨a1.Storage.Bytes, a1.Storage.Tags⟩ : Storage), a1.Instructions, a1.Traps⟩ : HwCode)).bind fun r1 =>
  cond (r1.2 != 0) (some ((⟨[], 0, 0, 0, 0, (⟨(⟨#[]⟩ : ByteArray), []⟩ : Storage)⟩ : HwResult), r1.2))
  ((zl (zb5.r0 N) N ((⟨(⟨a1.Storage.Bytes, a1.Storage.Tags⟩ : Storage), a1.Instructions, a1.Traps⟩ : HwCode), (⟨[], 0, 0, 0, 0, (⟨(⟨#[]⟩ : ByteArray), []⟩ : Storage)⟩ : HwResult), r1.1)).bind fun y2 =>
  some ((⟨y2.2.2.Lines, y2.2.2.Status, y2.2.2.Exception, y2.2.2.Marks, y2.2.2.Steps, y2.2.2.Storage⟩ : HwResult), 0))
def zb5.k (N : Nat) : Kq := ⟨19, (cvv [Ty.HwResult, T6] [Ty.HwModel, Ty.HwCode] (zb5 N)), go [zhd.k N, zi7.k N] {} [(0, .plain { slots := [(3, .ptr 3 0), (4, .ptr 4 0), (6, .ptr 6 0)], boxes := [(3, Ty.HwCode, []), (4, Ty.HwResult, [0, 6]), (6, Ty.HwState, [])] } [Ty.HwCode, Ty.HwResult, Ty.HwState] (zl (zb5.r0 N) N))] Proofs.Tryz.func19 (hL := ⟨⟨_, _, rfl, by kernel_rfl⟩, trivial⟩)⟩
def zb6.b0 (N : Nat) (s0 : List ByteArray) (s1 : List ByteArray) (s5 : Int) : Option (Round Bool ((List ByteArray) × (List ByteArray) × Int)) :=
 cond (decide (s5 < (s0.length : Int))) ((idx s0 s5).bind fun x1001 => (idx s1 s5).bind fun x1002 => cond (!(x1001.toList == x1002.toList)) (some (.result false))
  (some (.again (s0, s1, (w6 (s5 + 1)))))) (some (.leave (s0, s1, s5)))
def zb6.r0 (N : Nat) (x : (List ByteArray) × (List ByteArray) × Int) := zb6.b0 N x.1 x.2.1 x.2.2
def zb6 (N : Nat) (a0 : List ByteArray) (a1 : List ByteArray) : Option Bool :=
 cond ((a0.length : Int) != (a1.length : Int)) (some false) ((z5 (zb6.r0 N) N (a0, a1, 0)).bind fun z2 => zd5 z2 (fun z => some z) (fun y1 => some true))
def zb6.k (N : Nat) : Kq := ⟨44, (cvv [Ty.bool] [(Ty.sl Ty.str), (Ty.sl Ty.str)] (zb6 N)), go [] {} [(0, .rets { slots := [(0, .val (Ty.sl Ty.str)), (1, .val (Ty.sl Ty.str)), (5, .val T6)], boxes := [] } [(Ty.sl Ty.str), (Ty.sl Ty.str), T6] (z5 (zb6.r0 N) N))] Proofs.Tryz.func44 (hL := ⟨⟨_, _, rfl, by kernel_rfl⟩, trivial⟩)⟩
def zl5 (N : Nat)  : Option Bool :=
 (zq8 N).bind fun r1 => (zb5 N (⟨2, false, false⟩ : HwModel) (⟨(⟨r1.Storage.Bytes, r1.Storage.Tags⟩ : Storage), r1.Instructions, r1.Traps⟩ : HwCode)).bind fun r2 =>
  (cond (r2.2 == 0) ((zb6 N r2.1.Lines ([(⟨#[50]⟩ : ByteArray)] : List ByteArray)).bind fun r3 => some r3) (some false)).bind fun g4 => (cond g4 (some (r2.1.Status == 1))
  (some false)).bind fun g5 => (cond g5 (some (r2.1.Steps == 4)) (some false)).bind fun g6 => some g6
def zl5.k (N : Nat) : Kq := ⟨12, (cvv [Ty.bool] [] (zl5 N)), go [zb5.k N, zb6.k N, zq8.k N] {lits := [5, 14]} [] Proofs.Tryz.func12⟩
def zg7 (a0 : Storage) : Option Bool :=
 (cond (decide ((a0.Bytes.size : Int) ≤ 1072)) (some (decide ((a0.Tags.length : Int) ≤ 67))) (some false)).bind fun g1 => some g1
def zg7.k : Kq := ⟨46, (cvv [Ty.bool] [Ty.Storage] zg7), go [] {} [] Proofs.Tryz.func46⟩
def zet.b0 (N : Nat) (s3 : Int) (b1 : HwCode) : Option (Round Bool (Int × HwCode)) :=
 (cond (decide (s3 < (b1.Instructions.length : Int))) (some (decide (s3 < 244))) (some false)).bind fun g1001 => cond g1001 ((idx b1.Instructions s3).bind fun x1002 =>
  (cond (decide ((x1002.Text.size : Int) > 300)) (some true) ((idx b1.Instructions s3).bind fun x1003 => some (decide ((x1003.Other.size : Int) > 300)))).bind fun g1004 =>
  cond g1004 (some (.result false)) (some (.again ((w6 (s3 + 1)), b1)))) (some (.leave (s3, b1)))
def zet.r0 (N : Nat) (x : Int × HwCode) := zet.b0 N x.1 x.2
def zet (N : Nat) (a0 : HwCode) : Option Bool :=
 (z5 (zet.r0 N) N (0, a0)).bind fun z2 => zd5 z2 (fun z => some z) (fun y1 => (zg7 y1.2.Storage).bind fun r3 =>
  (cond r3 (some (decide ((y1.2.Instructions.length : Int) < 244))) (some false)).bind fun g4 => (cond g4 (some (decide ((y1.2.Traps.length : Int) < 44)))
  (some false)).bind fun g5 => some g5)
def zet.k (N : Nat) : Kq := ⟨13, (cvv [Ty.bool] [Ty.HwCode] (zet N)), go [zg7.k] {} [(0, .rets { slots := [(1, .ptr 1 0), (3, .val T6)], boxes := [(1, Ty.HwCode, [])] } [T6, Ty.HwCode] (z5 (zet.r0 N) N))] Proofs.Tryz.func13 (hL := ⟨⟨_, _, rfl, by kernel_rfl⟩, trivial⟩)⟩
def ziq (a0 : List Bool) : Option ((List Bool)) :=
 cond (Nat.ble (a0.length * 1) z9) (some a0) none
def ziq.k : Kq := ⟨96, (ctv [.val (Ty.sl Ty.bool)] [(Ty.sl Ty.bool)] [] [0] [(Ty.sl Ty.bool)] ziq), go [] {} [] Proofs.Tryz.func96⟩
def zcl (a0 : Storage) : Option Storage :=
 (ziq a0.Tags).bind fun r1 => some (⟨a0.Bytes, r1⟩ : Storage)
def zcl.k : Kq := ⟨53, (ctv [.val Ty.Storage] [Ty.Storage] [] [1] [Ty.Storage] zcl), go [ziq.k] {} [] Proofs.Tryz.func53⟩
def zi4 (a0 : HwCode) : Option HwCode :=
 (zcl (⟨a0.Storage.Bytes, a0.Storage.Tags⟩ : Storage)).bind fun r1 => cond (Nat.ble (a0.Instructions.length * 224) z9) (cond (Nat.ble (a0.Traps.length * 32) z9)
  (some (⟨r1, a0.Instructions, a0.Traps⟩ : HwCode)) none) none
def zi4.k : Kq := ⟨15, (cvv [Ty.HwCode] [Ty.HwCode] zi4), go [zcl.k] {} [] Proofs.Tryz.func15⟩
def zg (a0 : Int) (a1 : Int) (a2 : Int) : Option Bool :=
 (cond (decide (a1 ≤ a0)) (some (decide (a0 ≤ a2))) (some false)).bind fun g1 => some g1
def zg.k : Kq := ⟨57, (cvv [Ty.bool] [T6, T6, T6] zg), go [] {} [] Proofs.Tryz.func57⟩
def zii (a0 : HwModel) : Option Int :=
 (zg a0.Registers 2 8).bind fun r1 => cond (!r1) (some 3) (some 0)
def zii.k : Kq := ⟨18, (cvv [T6] [Ty.HwModel] zii), go [zg.k] {} [] Proofs.Tryz.func18⟩
def zh5 (a0 : Storage) (a1 : Int) : Option ByteArray :=
 if 0 ≤ (w6 ((w6 (a1 * 16)) + 16)) ∧ (w6 ((w6 (a1 * 16)) + 16)) ≤ (a0.Bytes.size : Int) then (if 0 ≤ (w6 (a1 * 16)) ∧ (w6 (a1 * 16)) ≤ (w6 ((w6 (a1 * 16)) + 16)) then (some (a0.Bytes.extract (w6 (a1 * 16)).toNat (w6 ((w6 (a1 * 16)) + 16)).toNat)) else none) else none
def zh5.k : Kq := ⟨126, (cvv [Ty.str] [Ty.Storage, T6] zh5), go [] {} [] Proofs.Tryz.func126⟩
def zbh.b0 (N : Nat) (s0 : ByteArray) (s1 : Int) (s2 : Int) (s7 : Int) (s8 : Int) : Option (Stp (ByteArray × Int × Int × Int × Int)) :=
 cond (decide (s8 < s2)) ((zga s0 (w6 (s1 + s8))).bind fun x1001 =>
  some (.again (s0, s1, s2, (w6 ((w6 (s7 * 256)) + (w6 (x1001.toNat : Int)))), (w6 (s8 + 1)))))
  (some (.leave (s0, s1, s2, s7, s8)))
def zbh.r0 (N : Nat) (x : ByteArray × Int × Int × Int × Int) := zbh.b0 N x.1 x.2.1 x.2.2.1 x.2.2.2.1 x.2.2.2.2
def zbh (N : Nat) (a0 : ByteArray) (a1 : Int) (a2 : Int) : Option Int :=
 (zl (zbh.r0 N) N (a0, a1, a2, 0, 0)).bind fun y1 => some y1.2.2.2.1
def zbh.k (N : Nat) : Kq := ⟨187, (cvv [T6] [Ty.str, T6, T6] (zbh N)), go [] {} [(0, .plain { slots := [(0, .val Ty.str), (1, .val T6), (2, .val T6), (7, .val T6), (8, .val T6)], boxes := [] } [Ty.str, T6, T6, T6, T6] (zl (zbh.r0 N) N))] Proofs.Tryz.func187 (hL := ⟨⟨_, _, rfl, by kernel_rfl⟩, trivial⟩)⟩
def ze6 (a0 : Pointer) : Option Int :=
 (zg a0.Kind 0 2).bind fun r1 => cond (!r1) (some 4) ((zg a0.Address.Segment 0 1099511627775).bind fun r2 => (cond (!r2) (some true)
  ((zg a0.Address.Offset 0 16777215).bind fun r3 => some (!r3))).bind fun g4 => (cond g4 (some true) ((zg a0.Authority 0 1023).bind fun r5 =>
  some (!r5))).bind fun g6 => cond g6 (some 3) ((cond (a0.Kind != 1) (some (a0.Authority != 0)) (some false)).bind fun g7 => cond g7 (some 5) (some 0)))
def ze6.k : Kq := ⟨188, (cvv [T6] [Ty.Pointer] ze6), go [zg.k] {} [] Proofs.Tryz.func188⟩
def zji (N : Nat) (a0 : ByteArray) : Option (Pointer × Int) :=
 cond ((a0.size : Int) != 16) (some ((⟨0, (⟨0, 0⟩ : Address), 0⟩ : Pointer), 18)) ((zga a0 1).bind fun x1 => cond ((x1.toNat : Int) != 0)
  (some ((⟨0, (⟨0, 0⟩ : Address), 0⟩ : Pointer), 5)) ((zga a0 0).bind fun x2 => (zbh N a0 2 2).bind fun r3 => (zbh N a0 4 6).bind fun r4 =>
  (zbh N a0 10 6).bind fun r5 => (ze6 (⟨(w6 (x2.toNat : Int)), (⟨r4, r5⟩ : Address), r3⟩ : Pointer)).bind fun r6 => cond (r6 != 0)
  (some ((⟨0, (⟨0, 0⟩ : Address), 0⟩ : Pointer), r6)) (some ((⟨(w6 (x2.toNat : Int)), (⟨r4, r5⟩ : Address), r3⟩ : Pointer), 0))))
def zji.k (N : Nat) : Kq := ⟨125, (cvv [Ty.Pointer, T6] [Ty.str] (zji N)), go [zbh.k N, ze6.k] {} [] Proofs.Tryz.func125⟩
def zbp.b0 (N : Nat) (s4 : Int) (s5 : Int) (b1 : Storage) : Option (Round (Int × Int) (Int × Int × Storage)) :=
 cond (decide (s5 < s4)) ((idx b1.Tags s5).bind fun x1001 => cond x1001 ((zh5 b1 s5).bind fun r1002 => (zji N r1002).bind fun r1003 => cond (r1003.2 != 0)
  (some (.result (s5, 22))) (some (.again (s4, (w6 (s5 + 1)), b1)))) (some (.again (s4, (w6 (s5 + 1)), b1)))) (some (.leave (s4, s5, b1)))
def zbp.r0 (N : Nat) (x : Int × Int × Storage) := zbp.b0 N x.1 x.2.1 x.2.2
def zbp (N : Nat) (a0 : Storage) : Option (Int × Int) :=
 cond (decide ((a0.Bytes.size : Int) > 1024)) (some (0, 2)) (cond (((a0.Bytes.size : Int).tmod 16) != 0) (some (0, 18))
  (cond ((a0.Tags.length : Int) != (w6 ((a0.Bytes.size : Int).tdiv 16))) (some (0, 6))
  ((z5 (zbp.r0 N) N ((w6 ((a0.Bytes.size : Int).tdiv 16)), 0, a0)).bind fun z2 => zd5 z2 (fun z => some z) (fun y1 => some (y1.1, 0)))))
def zbp.k (N : Nat) : Kq := ⟨97, (cvv [T6, T6] [Ty.Storage] (zbp N)), go [zji.k N, zh5.k] {lits := [39]} [(0, .rets { slots := [(1, .ptr 1 0), (4, .val T6), (5, .val T6)], boxes := [(1, Ty.Storage, [])] } [T6, T6, Ty.Storage] (z5 (zbp.r0 N) N))] Proofs.Tryz.func97 (hL := ⟨⟨_, _, rfl, by kernel_rfl⟩, trivial⟩)⟩
def zk8 (N : Nat) (a0 : Storage) : Option Int :=
 (zbp N (⟨a0.Bytes, a0.Tags⟩ : Storage)).bind fun r1 => some r1.2
def zk8.k (N : Nat) : Kq := ⟨54, (cvv [T6] [Ty.Storage] (zk8 N)), go [zbp.k N] {} [] Proofs.Tryz.func54⟩
def zb1.b0 (N : Nat) (s3 : List Int) (s4 : Int) (b1 : Storage) : Option (Stp ((List Int) × Int × Storage)) :=
 cond (decide (s4 < (b1.Tags.length : Int))) ((idx b1.Tags s4).bind fun x1001 =>
  cond x1001 (cond (Nat.ble ((s3.length + ([(w6 (s4 * 16))] : List Int).length) * 8) z9)
  (some (.again ((s3 ++ ([(w6 (s4 * 16))] : List Int)), (w6 (s4 + 1)), b1))) none) (some (.again (s3, (w6 (s4 + 1)), b1))))
  (some (.leave (s3, s4, b1)))
def zb1.r0 (N : Nat) (x : (List Int) × Int × Storage) := zb1.b0 N x.1 x.2.1 x.2.2
def zb1 (N : Nat) (a0 : Storage) : Option ((List Int)) :=
 (zl (zb1.r0 N) N ([], 0, a0)).bind fun y1 => some y1.1
def zb1.k (N : Nat) : Kq := ⟨55, (cvv [(Ty.sl T6)] [Ty.Storage] (zb1 N)), go [] {lits := [20]} [(0, .plain { slots := [(1, .ptr 1 0), (3, .own 5000003 T6), (4, .val T6)], boxes := [(1, Ty.Storage, [])] } [(Ty.sl T6), T6, Ty.Storage] (zl (zb1.r0 N) N))] Proofs.Tryz.func55 (hL := ⟨⟨_, _, rfl, by kernel_rfl⟩, trivial⟩)⟩
def zfh (a0 : HwInstruction) : Option ref15_fields :=
 cond (a0.Op == 0) (some (⟨true, false, false, true, false, false, false, false, false, false, false, false, false, false, 1, 0⟩ : ref15_fields)) (cond (a0.Op == 1)
  (some (⟨true, false, false, true, false, true, false, false, false, false, false, false, false, false, 1, 0⟩ : ref15_fields)) (cond (a0.Op == 2)
  (some (⟨true, false, false, false, false, false, true, false, false, false, false, false, false, false, 0, 0⟩ : ref15_fields)) (cond (a0.Op == 3)
  (some (⟨true, true, false, false, false, false, false, false, false, false, false, false, false, false, 0, 0⟩ : ref15_fields)) (cond (a0.Op == 4)
  (cond a0.InStorage (some (⟨true, true, false, true, false, false, false, true, false, false, false, false, false, false, 1, 1⟩ : ref15_fields))
  (some (⟨true, true, true, false, false, false, false, true, false, false, false, false, false, false, 1, 0⟩ : ref15_fields))) (cond (a0.Op == 5)
  (some (⟨false, true, true, false, false, false, false, false, false, false, false, false, false, false, 0, 0⟩ : ref15_fields)) (cond (a0.Op == 6)
  (some (⟨false, false, false, false, false, false, false, false, true, true, false, false, false, false, 0, 0⟩ : ref15_fields)) (cond (a0.Op == 7)
  (some (⟨false, true, true, false, false, false, false, false, true, true, false, false, false, false, 0, 0⟩ : ref15_fields)) ((cond (a0.Op == 8) (some (a0.Op == 8))
  (some (a0.Op == 18))).bind fun q1 => cond q1 (some (⟨false, false, false, false, false, false, false, false, false, true, false, false, false, false, 0, 0⟩ : ref15_fields))
  ((cond (a0.Op == 9) (some (a0.Op == 9)) (some (a0.Op == 11))).bind fun q2 =>
  cond q2 (some (⟨false, false, false, true, true, false, false, false, false, false, false, false, false, false, 2, 2⟩ : ref15_fields)) ((cond (a0.Op == 10) (some (a0.Op == 10))
  (some (a0.Op == 12))).bind fun q3 => cond q3 (some (⟨false, false, false, true, false, false, false, false, false, false, true, false, false, false, 2, 0⟩ : ref15_fields))
  (cond (a0.Op == 13) (some (⟨false, false, false, false, false, false, false, false, false, false, true, true, false, false, 0, 0⟩ : ref15_fields)) (cond (a0.Op == 14)
  (some (⟨false, false, false, true, false, false, false, false, false, false, false, false, true, false, 3, 0⟩ : ref15_fields)) (cond (a0.Op == 15)
  (some (⟨false, false, false, false, false, false, false, false, false, false, false, false, true, true, 0, 0⟩ : ref15_fields)) (cond (a0.Op == 16)
  (some (⟨true, false, false, false, false, false, false, false, false, false, false, false, true, false, 0, 0⟩ : ref15_fields)) (cond (a0.Op == 17)
  (some (⟨false, false, false, false, false, false, false, false, false, false, false, false, true, false, 0, 0⟩ : ref15_fields)) ((cond (a0.Op == 20) (some (a0.Op == 20))
  (cond (a0.Op == 21) (some (a0.Op == 21)) (some (a0.Op == 22)))).bind fun q4 =>
  cond q4 (some (⟨true, false, false, false, false, false, false, false, false, false, false, false, false, false, 0, 0⟩ : ref15_fields)) (cond (a0.Op == 23)
  (some (⟨false, false, false, true, false, false, false, false, false, false, false, false, false, false, 2, 0⟩ : ref15_fields)) (cond (a0.Op == 24)
  (some (⟨false, false, false, false, false, false, false, false, false, false, true, false, false, false, 0, 0⟩ : ref15_fields))
  (some (⟨false, false, false, false, false, false, false, false, false, false, false, false, false, false, 0, 0⟩ : ref15_fields))))))))))))))))))))
def zfh.k : Kq := ⟨98, (cvv [Ty.ref15_fields] [Ty.HwInstruction] zfh), go [] {bj := [32, 36, 40, 59]} [] Proofs.Tryz.func98⟩
def zih (a0 : HwInstruction) (a1 : ref15_fields) : Option Bool :=
 (cond (!a1.R) (some (a0.R != 0)) (some false)).bind fun g1 => (cond g1 (some true) ((cond (!a1.A) (some (a0.A != 0)) (some false)).bind fun g2 => some g2)).bind fun g3 =>
  (cond g3 (some true) ((cond (!a1.B) (some (a0.B != 0)) (some false)).bind fun g4 => some g4)).bind fun g5 => (cond g5 (some true) ((cond (!a1.Calculation)
  (some (a0.Calculation != 0)) (some false)).bind fun g6 => some g6)).bind fun g7 => (cond g7 (some true) ((cond (!a1.Place)
  (some (!(zgj [(a0.Place.Based == false), (a0.Place.Pointer == 0), (a0.Place.Offset == 0)]))) (some false)).bind fun g8 => some g8)).bind fun g9 => (cond g9 (some true)
  ((cond (!a1.From) (some (!(zgj [(a0.From.Based == false), (a0.From.Pointer == 0), (a0.From.Offset == 0)]))) (some false)).bind fun g10 => some g10)).bind fun g11 =>
  (cond g11 (some true) ((cond (a1.Type_ == 0) (some (!(zgj [(a0.Type_.Kind == 0), (a0.Type_.Length == 0), (a0.Type_.Scale == 0)]))) (some false)).bind fun g12 =>
  some g12)).bind fun g13 => (cond g13 (some true) ((cond (a1.Second == 0) (some (!(zgj [(a0.Second.Kind == 0), (a0.Second.Length == 0), (a0.Second.Scale == 0)])))
  (some false)).bind fun g14 => some g14)).bind fun g15 => (cond g15 (some true) ((cond (!a1.Half) (some a0.Half) (some false)).bind fun g16 => some g16)).bind fun g17 =>
  (cond g17 (some true) ((cond (a0.Op != 4) (some a0.InStorage) (some false)).bind fun g18 => some g18)).bind fun g19 => (cond g19 (some true) ((cond (!a1.Number)
  (some (!(zgj [(a0.Number.N == 0), (a0.Number.Scale == 0)]))) (some false)).bind fun g20 => some g20)).bind fun g21 => (cond g21 (some true) ((cond (!a1.Text)
  (some (!(a0.Text.toList == (⟨#[]⟩ : ByteArray).toList))) (some false)).bind fun g22 => some g22)).bind fun g23 => (cond g23 (some true) ((cond (!a1.Other)
  (some (!(a0.Other.toList == (⟨#[]⟩ : ByteArray).toList))) (some false)).bind fun g24 => some g24)).bind fun g25 => (cond g25 (some true) ((cond (!a1.Mask) (some (a0.Mask != 0))
  (some false)).bind fun g26 => some g26)).bind fun g27 => (cond g27 (some true) ((cond (!a1.Target) (some (a0.Target != 0)) (some false)).bind fun g28 => some g28)).bind fun g29 =>
  (cond g29 (some true) ((cond (!a1.Pointer) (some (a0.Pointer != 0)) (some false)).bind fun g30 => some g30)).bind fun g31 => (cond g31 (some true) ((cond (!a1.Source)
  (some (a0.Source != 0)) (some false)).bind fun g32 => some g32)).bind fun g33 => (cond g33 (some true) ((cond (!a0.Place.Based) (some (a0.Place.Pointer != 0))
  (some false)).bind fun g34 => some g34)).bind fun g35 => (cond g35 (some true) ((cond (!a0.From.Based) (some (a0.From.Pointer != 0)) (some false)).bind fun g36 =>
  some g36)).bind fun g37 => some g37
def zih.k : Kq := ⟨99, (cvv [Ty.bool] [Ty.HwInstruction, Ty.ref15_fields] zih), go [] {} [] Proofs.Tryz.func99⟩
def zkm (a0 : HwModel) (a1 : HwInstruction) : Option Bool :=
 (cond (a1.Op == 7) (some (!a0.Fused)) (some false)).bind fun g1 => (cond g1 (some true) ((cond a1.InStorage (some (!a0.Memory)) (some false)).bind fun g2 =>
  some g2)).bind fun g3 => some g3
def zkm.k : Kq := ⟨67, (cvv [Ty.bool] [Ty.HwModel, Ty.HwInstruction] zkm), go [] {} [] Proofs.Tryz.func67⟩
def zci (a0 : Int) : Option Bool :=
 (zg a0 1 3).bind fun r1 => some r1
def zci.k : Kq := ⟨144, (cvv [Ty.bool] [T6] zci), go [zg.k] {} [] Proofs.Tryz.func144⟩
def zaw (a0 : Bool) : Option Int :=
 cond a0 (some 1) (some 0)
def zaw.k : Kq := ⟨124, (cvv [T6] [Ty.bool] zaw), go [] {} [] Proofs.Tryz.func124⟩
def zfd (a0 : DataType) : Option Int :=
 (zg a0.Kind 0 4).bind fun r1 => cond (!r1) (some 4) (cond (a0.Kind == 0) ((zg a0.Length 1 256).bind fun r2 => cond (!r2) (some 18)
  ((zci a0.Kind).bind fun r3 => cond r3 ((zg a0.Scale 0 a0.Length).bind fun r4 => (zaw (!r4)).bind fun r5 => some (w6 (3 * r5)))
  ((zg a0.Scale 0 0).bind fun r6 => (zaw (!r6)).bind fun r7 => some (w6 (3 * r7))))) ((cond (a0.Kind == 1) (some (a0.Kind == 1))
  (some (a0.Kind == 2))).bind fun q8 => cond q8 ((zg a0.Length 1 15).bind fun r9 => cond (!r9) (some 18) ((zci a0.Kind).bind fun r10 =>
  cond r10 ((zg a0.Scale 0 a0.Length).bind fun r11 => (zaw (!r11)).bind fun r12 => some (w6 (3 * r12))) ((zg a0.Scale 0 0).bind fun r13 =>
  (zaw (!r13)).bind fun r14 => some (w6 (3 * r14))))) (cond (a0.Kind == 3) ((cond (a0.Length == 4) (some true) (some (a0.Length == 9))).bind fun g15 =>
  cond (!g15) (some 18) ((zci a0.Kind).bind fun r16 => cond r16 ((zg a0.Scale 0 a0.Length).bind fun r17 => (zaw (!r17)).bind fun r18 =>
  some (w6 (3 * r18))) ((zg a0.Scale 0 0).bind fun r19 => (zaw (!r19)).bind fun r20 => some (w6 (3 * r20))))) (cond (!(a0.Length == 0))
  (some 18) ((zci a0.Kind).bind fun r21 => cond r21 ((zg a0.Scale 0 a0.Length).bind fun r22 => (zaw (!r22)).bind fun r23 =>
  some (w6 (3 * r23))) ((zg a0.Scale 0 0).bind fun r24 => (zaw (!r24)).bind fun r25 => some (w6 (3 * r25))))))))
def zfd.k : Kq := ⟨143, (cvv [T6] [Ty.DataType] zfd), go [zg.k, zaw.k, zci.k] {bj := [19]} [] Proofs.Tryz.func143⟩
def zhy (a0 : DataType) (a1 : Int) : Option Int :=
 cond (a1 == 0) (some 0) ((zfd (⟨a0.Kind, a0.Length, a0.Scale⟩ : DataType)).bind fun r1 => cond (r1 != 0) (some r1) ((cond (a1 == 1)
  ((zci a0.Kind).bind fun r2 => some (!r2)) (some false)).bind fun g3 => (cond g3 (some true) ((cond (a1 == 2) (some (a0.Kind != 0)) (some false)).bind fun g4 =>
  some g4)).bind fun g5 => (cond g5 (some true) ((cond (a1 == 3) (some (a0.Kind == 4)) (some false)).bind fun g6 => some g6)).bind fun g7 => cond g7 (some 17) (some 0)))
def zhy.k : Kq := ⟨100, (cvv [T6] [Ty.DataType, T6] zhy), go [zfd.k, zci.k] {} [] Proofs.Tryz.func100⟩
def ze3 (a0 : HwModel) (a1 : Int) : Option Bool :=
 (zg a1 0 (w6 (a0.Registers - 1))).bind fun r1 => some r1
def ze3.k : Kq := ⟨107, (cvv [Ty.bool] [Ty.HwModel, T6] ze3), go [zg.k] {} [] Proofs.Tryz.func107⟩
def ze4 (a0 : HwModel) (a1 : HwInstruction) : Option Bool :=
 (zfh a1).bind fun r1 => (cond (!r1.R) (some true) ((ze3 a0 a1.R).bind fun r2 => some r2)).bind fun g3 => (cond g3 ((cond (!r1.A) (some true)
  ((ze3 a0 a1.A).bind fun r4 => some r4)).bind fun g5 => some g5) (some false)).bind fun g6 => (cond g6 ((cond (!r1.B) (some true)
  ((ze3 a0 a1.B).bind fun r7 => some r7)).bind fun g8 => some g8) (some false)).bind fun g9 => some g9
def ze4.k : Kq := ⟨68, (cvv [Ty.bool] [Ty.HwModel, Ty.HwInstruction] ze4), go [zfh.k, ze3.k] {} [] Proofs.Tryz.func68⟩
def zd6 (a0 : Storage) (a1 : Int) : Option Bool :=
 (zg a1 0 (w6 ((a0.Bytes.size : Int) - 16))).bind fun r1 => (cond r1 (some ((a1.tmod 16) == 0)) (some false)).bind fun g2 => some g2
def zd6.k : Kq := ⟨101, (cvv [Ty.bool] [Ty.Storage, T6] zd6), go [zg.k] {} [] Proofs.Tryz.func101⟩
def zau (a0 : DataType) : Option Int :=
 cond (a0.Kind == 1) (some (w6 ((w6 (a0.Length.tdiv 2)) + 1))) (cond (a0.Kind == 3) ((zaw (a0.Length == 9)).bind fun r1 =>
  some (w6 (2 + (w6 (2 * r1))))) (cond (a0.Kind == 4) (some 16) (some a0.Length)))
def zau.k : Kq := ⟨103, (cvv [T6] [Ty.DataType] zau), go [zaw.k] {} [] Proofs.Tryz.func103⟩
def zgv (a0 : Storage) (a1 : Int) (a2 : Int) : Option Bool :=
 (zg a1 0 (a0.Bytes.size : Int)).bind fun r1 => (cond r1 ((zg a2 0 (w6 ((a0.Bytes.size : Int) - a1))).bind fun r2 => some r2)
  (some false)).bind fun g3 => some g3
def zgv.k : Kq := ⟨145, (cvv [Ty.bool] [Ty.Storage, T6, T6] zgv), go [zg.k] {lits := [10]} [] Proofs.Tryz.func145⟩
def zek (a0 : HwCode) (a1 : HwPlace) (a2 : Int) : Option Bool :=
 cond a1.Based ((zd6 a0.Storage a1.Pointer).bind fun r1 => (cond r1 ((zg a1.Offset 0 256).bind fun r2 => some r2) (some false)).bind fun g3 => some g3)
  ((zgv (⟨a0.Storage.Bytes, a0.Storage.Tags⟩ : Storage) a1.Offset a2).bind fun r4 => some r4)
def zek.k : Kq := ⟨102, (cvv [Ty.bool] [Ty.HwCode, Ty.HwPlace, T6] zek), go [zg.k, zd6.k, zgv.k] {} [] Proofs.Tryz.func102⟩
def zb7 (a0 : Number) : Option Int :=
 (zg a0.N (-999999999999999) 999999999999999).bind fun r1 => (cond r1 ((zg a0.Scale 0 15).bind fun r2 => some r2) (some false)).bind fun g3 =>
  (zaw (!g3)).bind fun r4 => some (w6 (3 * r4))
def zb7.k : Kq := ⟨84, (cvv [T6] [Ty.Number] zb7), go [zg.k, zaw.k] {} [] Proofs.Tryz.func84⟩
def zdp (a0 : HwModel) (a1 : HwCode) (a2 : HwInstruction) : Option Int :=
 (zg a2.Op 0 26).bind fun r1 => cond (!r1) (some 4) ((zfh a2).bind fun r2 => (zih a2 r2).bind fun r3 => cond r3 (some 5)
  ((zkm a0 a2).bind fun r4 => cond r4 (some 39) ((zhy a2.Type_ r2.Type_).bind fun r5 => cond (r5 != 0) (some r5)
  ((zhy a2.Second r2.Second).bind fun r6 => cond (r6 != 0) (some r6) (cond (a2.Op == 4) (((ze4 a0 a2).bind fun r7 => cond (!r7) (some (!r7))
  ((cond r2.Target ((zg a2.Target 0 (w6 ((a1.Instructions.length : Int) - 1))).bind fun r8 => some (!r8)) (some false)).bind fun g9 => cond g9 (some g9)
  ((cond r2.Mask ((zg a2.Mask 1 7).bind fun r10 => some (!r10)) (some false)).bind fun g11 => some g11))).bind fun q12 => cond q12 (some 3)
  (((cond r2.Pointer ((zd6 (⟨a1.Storage.Bytes, a1.Storage.Tags⟩ : Storage) a2.Pointer).bind fun r13 => some (!r13)) (some false)).bind fun g14 => cond g14 (some g14)
  ((cond r2.Source ((zd6 (⟨a1.Storage.Bytes, a1.Storage.Tags⟩ : Storage) a2.Source).bind fun r15 => some (!r15)) (some false)).bind fun g16 => some g16)).bind fun q17 =>
  cond q17 (some 3) ((cond r2.Place ((zau a2.Second).bind fun r18 => (zek (⟨(⟨a1.Storage.Bytes, a1.Storage.Tags⟩ : Storage), a1.Instructions, a1.Traps⟩ : HwCode)
  (⟨a2.Place.Based, a2.Place.Pointer, a2.Place.Offset⟩ : HwPlace) r18).bind fun r19 => some (!r19)) (some false)).bind fun g20 => cond g20 (cond g20 (some 3)
  ((cond r2.Calculation ((zg a2.Calculation 0 4).bind fun r21 => some (!r21)) (some false)).bind fun g22 => cond g22 (some 3)
  ((zb7 (⟨a2.Number.N, a2.Number.Scale⟩ : Number)).bind fun r23 => (cond r2.Number (some (r23 != 0)) (some false)).bind fun g24 => cond g24 (some r23)
  ((cond (decide ((a2.Text.size : Int) > 256)) (some true) (some (decide ((a2.Other.size : Int) > 256)))).bind fun g25 => cond g25 (some 2) (some 0)))))
  ((cond r2.From ((zau (⟨a2.Second.Kind, a2.Second.Length, a2.Second.Scale⟩ : DataType)).bind fun r26 =>
  (zek (⟨(⟨a1.Storage.Bytes, a1.Storage.Tags⟩ : Storage), a1.Instructions, a1.Traps⟩ : HwCode)
  (⟨a2.From.Based, a2.From.Pointer, a2.From.Offset⟩ : HwPlace) r26).bind fun r27 => some (!r27)) (some false)).bind fun g28 => cond g28 (some 3)
  ((cond r2.Calculation ((zg a2.Calculation 0 4).bind fun r29 => some (!r29)) (some false)).bind fun g30 => cond g30 (some 3)
  ((zb7 (⟨a2.Number.N, a2.Number.Scale⟩ : Number)).bind fun r31 => (cond r2.Number (some (r31 != 0)) (some false)).bind fun g32 => cond g32 (some r31)
  ((cond (decide ((a2.Text.size : Int) > 256)) (some true) (some (decide ((a2.Other.size : Int) > 256)))).bind fun g33 => cond g33 (some 2) (some 0))))))))
  (((ze4 (⟨a0.Registers, a0.Fused, a0.Memory⟩ : HwModel)
  (⟨a2.Op, a2.R, a2.A, a2.B, a2.Calculation, (⟨a2.Place.Based, a2.Place.Pointer, a2.Place.Offset⟩ : HwPlace), (⟨a2.From.Based, a2.From.Pointer, a2.From.Offset⟩ : HwPlace), (⟨a2.Type_.Kind, a2.Type_.Length, a2.Type_.Scale⟩ : DataType), (⟨a2.Second.Kind, a2.Second.Length, a2.Second.Scale⟩ : DataType), a2.Half, a2.InStorage, (⟨a2.Number.N, a2.Number.Scale⟩ : Number), a2.Text, a2.Other, a2.Mask, a2.Target, a2.Pointer, a2.Source⟩ : HwInstruction)).bind fun r34 =>
  cond (!r34) (some (!r34)) ((cond r2.Target ((zg a2.Target 0 (w6 ((a1.Instructions.length : Int) - 1))).bind fun r35 => some (!r35))
  (some false)).bind fun g36 => cond g36 (some g36) ((cond r2.Mask ((zg a2.Mask 1 7).bind fun r37 => some (!r37)) (some false)).bind fun g38 => some g38))).bind fun q39 =>
  cond q39 (some 3) (((cond r2.Pointer ((zd6 (⟨a1.Storage.Bytes, a1.Storage.Tags⟩ : Storage) a2.Pointer).bind fun r40 => some (!r40)) (some false)).bind fun g41 =>
  cond g41 (some g41) ((cond r2.Source ((zd6 (⟨a1.Storage.Bytes, a1.Storage.Tags⟩ : Storage) a2.Source).bind fun r42 => some (!r42)) (some false)).bind fun g43 =>
  some g43)).bind fun q44 => cond q44 (some 3) ((cond r2.Place ((zau (⟨a2.Type_.Kind, a2.Type_.Length, a2.Type_.Scale⟩ : DataType)).bind fun r45 =>
  (zek (⟨(⟨a1.Storage.Bytes, a1.Storage.Tags⟩ : Storage), a1.Instructions, a1.Traps⟩ : HwCode)
  (⟨a2.Place.Based, a2.Place.Pointer, a2.Place.Offset⟩ : HwPlace) r45).bind fun r46 => some (!r46)) (some false)).bind fun g47 => cond g47 (cond g47 (some 3)
  ((cond r2.Calculation ((zg a2.Calculation 0 4).bind fun r48 => some (!r48)) (some false)).bind fun g49 => cond g49 (some 3)
  ((zb7 (⟨a2.Number.N, a2.Number.Scale⟩ : Number)).bind fun r50 => (cond r2.Number (some (r50 != 0)) (some false)).bind fun g51 => cond g51 (some r50)
  ((cond (decide ((a2.Text.size : Int) > 256)) (some true) (some (decide ((a2.Other.size : Int) > 256)))).bind fun g52 => cond g52 (some 2) (some 0)))))
  ((cond r2.From ((zau (⟨a2.Second.Kind, a2.Second.Length, a2.Second.Scale⟩ : DataType)).bind fun r53 =>
  (zek (⟨(⟨a1.Storage.Bytes, a1.Storage.Tags⟩ : Storage), a1.Instructions, a1.Traps⟩ : HwCode)
  (⟨a2.From.Based, a2.From.Pointer, a2.From.Offset⟩ : HwPlace) r53).bind fun r54 => some (!r54)) (some false)).bind fun g55 => cond g55 (some 3)
  ((cond r2.Calculation ((zg a2.Calculation 0 4).bind fun r56 => some (!r56)) (some false)).bind fun g57 => cond g57 (some 3)
  ((zb7 (⟨a2.Number.N, a2.Number.Scale⟩ : Number)).bind fun r58 => (cond r2.Number (some (r58 != 0)) (some false)).bind fun g59 => cond g59 (some r58)
  ((cond (decide ((a2.Text.size : Int) > 256)) (some true) (some (decide ((a2.Other.size : Int) > 256)))).bind fun g60 => cond g60 (some 2) (some 0)))))))))))))
def zdp.k : Kq := ⟨56, (cvv [T6] [Ty.HwModel, Ty.HwCode, Ty.HwInstruction] zdp), go [zg.k, zkm.k, ze4.k, zb7.k, zfh.k, zih.k, zhy.k, zd6.k, zek.k, zau.k] {lits := [101, 113], bj := [47, 72]} [] Proofs.Tryz.func56⟩
def zq.b1 (N : Nat) (s8 : Int) (b2 : HwModel) (b3 : HwCode) : Option (Round (Int × Int) (Int × HwModel × HwCode)) :=
 cond (decide (s8 < (b3.Instructions.length : Int))) ((idx b3.Instructions s8).bind fun x2001 => (zdp b2 b3 x2001).bind fun r2002 => cond (r2002 != 0)
  (some (.result (s8, r2002))) (some (.again ((w6 (s8 + 1)), b2, b3)))) (some (.leave (s8, b2, b3)))
def zq.r1 (N : Nat) (x : Int × HwModel × HwCode) := zq.b1 N x.1 x.2.1 x.2.2
def zq.b3 (N : Nat) (s10 : Int) (b3 : HwCode) : Option (Round (Int × Int) (Int × HwCode)) :=
 cond (decide (s10 < (b3.Traps.length : Int))) ((idx b3.Traps s10).bind fun x4001 => (cond (decide (x4001.From < 0)) (some true)
  (some (decide (x4001.From > x4001.To)))).bind fun g4002 => (cond g4002 (some true) (some (decide (x4001.To > (b3.Instructions.length : Int))))).bind fun g4003 =>
  (cond g4003 (some true) ((zg x4001.Exception 0 999).bind fun r4004 => some (!r4004))).bind fun g4005 => (cond g4005 (some true)
  ((zg x4001.Handler 0 (w6 ((b3.Instructions.length : Int) - 1))).bind fun r4006 => some (!r4006))).bind fun g4007 => cond g4007 (some (.result (s10, 3)))
  (some (.again ((w6 (s10 + 1)), b3)))) (some (.leave (s10, b3)))
def zq.r3 (N : Nat) (x : Int × HwCode) := zq.b3 N x.1 x.2
def zq (N : Nat) (a0 : HwModel) (a1 : HwCode) : Option (Int × Int) :=
 (zii (⟨a0.Registers, a0.Fused, a0.Memory⟩ : HwModel)).bind fun r1 => cond (r1 != 0) (some (0, r1))
  ((zk8 N (⟨a1.Storage.Bytes, a1.Storage.Tags⟩ : Storage)).bind fun r2 => cond (r2 != 0) (some (0, r2))
  ((zb1 N (⟨a1.Storage.Bytes, a1.Storage.Tags⟩ : Storage)).bind fun r3 => cond (decide ((r3.length : Int) > 0)) (some (0, 22)) (cond ((a1.Instructions.length : Int) == 0)
  (some (0, 1)) ((cond (decide ((a1.Instructions.length : Int) > 240)) (some true) (some (decide ((a1.Traps.length : Int) > 40)))).bind fun g4 => cond g4 (some (0, 2))
  ((z5 (zq.r1 N) N (0, (⟨a0.Registers, a0.Fused, a0.Memory⟩ : HwModel), (⟨(⟨a1.Storage.Bytes, a1.Storage.Tags⟩ : Storage), a1.Instructions, a1.Traps⟩ : HwCode))).bind fun z6 =>
  zd5 z6 (fun z => some z) (fun y5 => (z5 (zq.r3 N) N (0, y5.2.2)).bind fun z8 => zd5 z8 (fun z => some z) (fun y7 =>
  some ((y7.2.Instructions.length : Int), 0))))))))
def zq.k (N : Nat) : Kq := ⟨16, (cvv [T6, T6] [Ty.HwModel, Ty.HwCode] (zq N)), go [zii.k, zk8.k N, zb1.k N, zdp.k, zg.k] {lits := [26]} [(1, .rets { slots := [(2, .ptr 2 0), (3, .ptr 3 0), (8, .val T6)], boxes := [(2, Ty.HwModel, []), (3, Ty.HwCode, [])] } [T6, Ty.HwModel, Ty.HwCode] (z5 (zq.r1 N) N)), (3, .rets { slots := [(3, .ptr 3 0), (10, .val T6)], boxes := [(3, Ty.HwCode, [])] } [T6, Ty.HwCode] (z5 (zq.r3 N) N))] Proofs.Tryz.func16 (hL := ⟨⟨_, _, rfl, by kernel_rfl⟩, ⟨_, _, rfl, by kernel_rfl⟩, trivial⟩)⟩
def zi5 (N : Nat) (a0 : HwModel) (a1 : HwCode) : Option Int :=
 (zq N (⟨a0.Registers, a0.Fused, a0.Memory⟩ : HwModel) (⟨(⟨a1.Storage.Bytes, a1.Storage.Tags⟩ : Storage), a1.Instructions, a1.Traps⟩ : HwCode)).bind fun r1 => some r1.2
def zi5.k (N : Nat) : Kq := ⟨20, (cvv [T6] [Ty.HwModel, Ty.HwCode] (zi5 N)), go [zq.k N] {} [] Proofs.Tryz.func20⟩
def zd4.b0 (N : Nat) (s0 : List Bool) (s1 : List Bool) (s5 : Int) : Option (Round Bool ((List Bool) × (List Bool) × Int)) :=
 cond (decide (s5 < (s0.length : Int))) ((idx s0 s5).bind fun x1001 => (idx s1 s5).bind fun x1002 => cond (!(x1001 == x1002)) (some (.result false))
  (some (.again (s0, s1, (w6 (s5 + 1)))))) (some (.leave (s0, s1, s5)))
def zd4.r0 (N : Nat) (x : (List Bool) × (List Bool) × Int) := zd4.b0 N x.1 x.2.1 x.2.2
def zd4 (N : Nat) (a0 : List Bool) (a1 : List Bool) : Option Bool :=
 cond ((a0.length : Int) != (a1.length : Int)) (some false) ((z5 (zd4.r0 N) N (a0, a1, 0)).bind fun z2 => zd5 z2 (fun z => some z) (fun y1 => some true))
def zd4.k (N : Nat) : Kq := ⟨88, (cvv [Ty.bool] [(Ty.sl Ty.bool), (Ty.sl Ty.bool)] (zd4 N)), go [] {} [(0, .rets { slots := [(0, .val (Ty.sl Ty.bool)), (1, .val (Ty.sl Ty.bool)), (5, .val T6)], boxes := [] } [(Ty.sl Ty.bool), (Ty.sl Ty.bool), T6] (z5 (zd4.r0 N) N))] Proofs.Tryz.func88 (hL := ⟨⟨_, _, rfl, by kernel_rfl⟩, trivial⟩)⟩
def zhh (N : Nat) (a0 : Storage) (a1 : Storage) : Option Bool :=
 (cond (a0.Bytes.toList == a1.Bytes.toList) ((zd4 N a0.Tags a1.Tags).bind fun r1 => some r1) (some false)).bind fun g2 => some g2
def zhh.k (N : Nat) : Kq := ⟨43, (cvv [Ty.bool] [Ty.Storage, Ty.Storage] (zhh N)), go [zd4.k N] {} [] Proofs.Tryz.func43⟩
def ze5 (N : Nat) (a0 : HwResult) (a1 : HwResult) : Option Bool :=
 (zb6 N a0.Lines a1.Lines).bind fun r1 => (cond r1 (some (a0.Status == a1.Status)) (some false)).bind fun g2 => (cond g2 (some (a0.Exception == a1.Exception))
  (some false)).bind fun g3 => (cond g3 (some (a0.Marks == a1.Marks)) (some false)).bind fun g4 => (cond g4 (some (a0.Steps == a1.Steps)) (some false)).bind fun g5 =>
  (cond g5 ((zhh N (⟨a0.Storage.Bytes, a0.Storage.Tags⟩ : Storage) (⟨a1.Storage.Bytes, a1.Storage.Tags⟩ : Storage)).bind fun r6 => some r6) (some false)).bind fun g7 =>
  some g7
def ze5.k (N : Nat) : Kq := ⟨21, (cvv [Ty.bool] [Ty.HwResult, Ty.HwResult] (ze5 N)), go [zhh.k N, zb6.k N] {} [] Proofs.Tryz.func21⟩
def zkn (a0 : HwModel) (a1 : HwCode) : Option HwState :=
 if 0 ≤ a0.Registers then (if a0.Registers ≤ a0.Registers then (cond (Nat.ble (a0.Registers.toNat * 16) z9) ((zcl a1.Storage).bind fun r1 =>
  some (⟨(List.replicate a0.Registers.toNat ((⟨0, 0⟩ : Number) : Number)), 0, r1, 0, [], [], 0, 0, 0, 0⟩ : HwState)) none) else none) else none
def zkn.k : Kq := ⟨37, (cvv [Ty.HwState] [Ty.HwModel, Ty.HwCode] zkn), go [zcl.k] {} [] Proofs.Tryz.func37⟩
def zkj (a0 : List Int) : Option ((List Int)) :=
 cond (Nat.ble (a0.length * 8) z9) (some a0) none
def zkj.k : Kq := ⟨72, (ctv [.val (Ty.sl T6)] [(Ty.sl T6)] [] [0] [(Ty.sl T6)] zkj), go [] {} [] Proofs.Tryz.func72⟩
def zix (a0 : List ByteArray) : Option ((List ByteArray)) :=
 cond (Nat.ble (a0.length * 16) z9) (some a0) none
def zix.k : Kq := ⟨83, (ctv [.val (Ty.sl Ty.str)] [(Ty.sl Ty.str)] [] [0] [(Ty.sl Ty.str)] zix), go [] {} [] Proofs.Tryz.func83⟩
def zk7 (a0 : HwState) : Option HwState :=
 cond (Nat.ble (a0.Registers.length * 16) z9) ((zcl a0.Storage).bind fun r1 => (zkj a0.Stack).bind fun r2 => (zix a0.Lines).bind fun r3 =>
  some (⟨a0.Registers, a0.Condition, r1, a0.At, r2, r3, a0.Status, a0.Exception, a0.Marks, a0.Steps⟩ : HwState)) none
def zk7.k : Kq := ⟨39, (ctv [.val Ty.HwState] [Ty.HwState] [] [0, 5, 6] [Ty.HwState] zk7), go [zcl.k, zkj.k, zix.k] {} [] Proofs.Tryz.func39⟩
def ze9 (a0 : Int) : Option Int :=
 some (if (w6 (0 - a0)) > a0 then (w6 (0 - a0)) else a0)
def ze9.k : Kq := ⟨251, (cvv [T6] [T6] ze9), go [] {} [] Proofs.Tryz.func251⟩
def zbv.b0 (N : Nat) (s0 : List Int) : Option (Stp (List Int)) :=
 (cond (decide ((s0.length : Int) > 0)) ((idx s0 (w6 ((s0.length : Int) - 1))).bind fun x1001 => some (x1001 == 0)) (some false)).bind fun g1002 =>
  cond g1002 (if 0 ≤ (w6 ((s0.length : Int) - 1)) ∧ (w6 ((s0.length : Int) - 1)) ≤ (s0.length : Int) then (if 0 ≤ (0 : Int) ∧ (0 : Int) ≤ (w6 ((s0.length : Int) - 1)) then (some (.again ((s0.take (w6 ((s0.length : Int) - 1)).toNat).drop (0 : Int).toNat))) else none) else none)
  (some (.leave s0))
def zbv.r0 (N : Nat) (x : (List Int)) := zbv.b0 N x
def zbv (N : Nat) (a0 : List Int) : Option ((List Int)) :=
 (zl (zbv.r0 N) N a0).bind fun y1 => some y1
def zbv.k (N : Nat) : Kq := ⟨309, (cvv [(Ty.sl T6)] [(Ty.sl T6)] (zbv N)), go [] {} [(0, .plain { slots := [(0, .val (Ty.sl T6))], boxes := [] } [(Ty.sl T6)] (zl (zbv.r0 N) N))] Proofs.Tryz.func309 (hL := ⟨⟨_, _, rfl, by kernel_rfl⟩, trivial⟩)⟩
def zce.b0 (N : Nat) (s0 : Int) (s5 : List Int) (s6 : Int) (b4 : ref01_Long) : Option (Stp (Int × (List Int) × Int × ref01_Long)) :=
 cond (decide (s6 > 0)) (cond (Nat.ble ((s5.length + ([(s6.tmod 10)] : List Int).length) * 8) z9)
  (some (.again (s0, (s5 ++ ([(s6.tmod 10)] : List Int)), (w6 (s6.tdiv 10)), b4))) none) (some (.leave (s0, s5, s6, b4)))
def zce.r0 (N : Nat) (x : Int × (List Int) × Int × ref01_Long) := zce.b0 N x.1 x.2.1 x.2.2.1 x.2.2.2
def zce (N : Nat) (a0 : Int) (a1 : Int) : Option ref01_Long :=
 if 0 ≤ a1 then (if a1 ≤ a1 then (cond (Nat.ble (a1.toNat * 8) z9) ((ze9 a0).bind fun r1 =>
  (zl (zce.r0 N) N (a0, (List.replicate a1.toNat (0 : Int)), r1, (⟨false, []⟩ : ref01_Long))).bind fun y2 => (zbv N y2.2.1).bind fun r3 =>
  some (⟨(decide (y2.1 < 0)), r3⟩ : ref01_Long)) none) else none) else none
def zce.k (N : Nat) : Kq := ⟨256, (cvv [Ty.ref01_Long] [T6, T6] (zce N)), go [ze9.k, zbv.k N] {lits := [18]} [(0, .plain { slots := [(0, .val T6), (4, .ptr 4 0), (5, .own 5000005 T6), (6, .val T6)], boxes := [(4, Ty.ref01_Long, [1])] } [T6, (Ty.sl T6), T6, Ty.ref01_Long] (zl (zce.r0 N) N))] Proofs.Tryz.func256 (hL := ⟨⟨_, _, rfl, by kernel_rfl⟩, trivial⟩)⟩
def zgw (N : Nat) (a0 : Number) (a1 : Number) : Option (ref01_Long × ref01_Long × Int) :=
 (zce N a0.N (w6 ((if a1.Scale > a0.Scale then a1.Scale else a0.Scale) - a0.Scale))).bind fun r1 =>
  (zce N a1.N (w6 ((if a1.Scale > a0.Scale then a1.Scale else a0.Scale) - a1.Scale))).bind fun r2 =>
  some (r1, r2, (if a1.Scale > a0.Scale then a1.Scale else a0.Scale))
def zgw.k (N : Nat) : Kq := ⟨189, (cvv [Ty.ref01_Long, Ty.ref01_Long, T6] [Ty.Number, Ty.Number] (zgw N)), go [zce.k N] {} [] Proofs.Tryz.func189⟩
def zch.b0 (N : Nat) (s0 : List Int) (s1 : List Int) (s5 : List Int) (s6 : Int) (s7 : Int) : Option (Stp ((List Int) × (List Int) × (List Int) × Int × Int)) :=
 (cond (decide (s7 < (s0.length : Int))) (some true) (some (decide (s7 < (s1.length : Int))))).bind fun g1001 => (cond g1001 (some true) (some (decide (s6 > 0)))).bind fun g1002 =>
  cond g1002 (cond (decide (s7 < (s0.length : Int))) ((idx s0 s7).bind fun x1003 => cond (decide (s7 < (s1.length : Int))) ((idx s1 s7).bind fun x1004 =>
  cond (Nat.ble ((s5.length + ([((w6 ((w6 (s6 + x1003)) + x1004)).tmod 10)] : List Int).length) * 8) z9)
  (some (.again (s0, s1, (s5 ++ ([((w6 ((w6 (s6 + x1003)) + x1004)).tmod 10)] : List Int)), (w6 ((w6 ((w6 (s6 + x1003)) + x1004)).tdiv 10)), (w6 (s7 + 1))))) none)
  (cond (Nat.ble ((s5.length + ([((w6 (s6 + x1003)).tmod 10)] : List Int).length) * 8) z9)
  (some (.again (s0, s1, (s5 ++ ([((w6 (s6 + x1003)).tmod 10)] : List Int)), (w6 ((w6 (s6 + x1003)).tdiv 10)), (w6 (s7 + 1))))) none))
  (cond (decide (s7 < (s1.length : Int))) ((idx s1 s7).bind fun x1005 => cond (Nat.ble ((s5.length + ([((w6 (s6 + x1005)).tmod 10)] : List Int).length) * 8) z9)
  (some (.again (s0, s1, (s5 ++ ([((w6 (s6 + x1005)).tmod 10)] : List Int)), (w6 ((w6 (s6 + x1005)).tdiv 10)), (w6 (s7 + 1))))) none)
  (cond (Nat.ble ((s5.length + ([(s6.tmod 10)] : List Int).length) * 8) z9)
  (some (.again (s0, s1, (s5 ++ ([(s6.tmod 10)] : List Int)), (w6 (s6.tdiv 10)), (w6 (s7 + 1))))) none))) (some (.leave (s0, s1, s5, s6, s7)))
def zch.r0 (N : Nat) (x : (List Int) × (List Int) × (List Int) × Int × Int) := zch.b0 N x.1 x.2.1 x.2.2.1 x.2.2.2.1 x.2.2.2.2
def zch (N : Nat) (a0 : List Int) (a1 : List Int) : Option ((List Int)) :=
 (zl (zch.r0 N) N (a0, a1, [], 0, 0)).bind fun y1 => some y1.2.2.1
def zch.k (N : Nat) : Kq := ⟨257, (cvv [(Ty.sl T6)] [(Ty.sl T6), (Ty.sl T6)] (zch N)), go [] {lits := [49]} [(0, .plain { slots := [(0, .val (Ty.sl T6)), (1, .val (Ty.sl T6)), (5, .own 5000005 T6), (6, .val T6), (7, .val T6)], boxes := [] } [(Ty.sl T6), (Ty.sl T6), (Ty.sl T6), T6, T6] (zl (zch.r0 N) N))] Proofs.Tryz.func257 (hL := ⟨⟨_, _, rfl, by kernel_rfl⟩, trivial⟩)⟩
def zcn.b0 (N : Nat) (s0 : List Int) (s1 : List Int) (s5 : Int) : Option (Round Int ((List Int) × (List Int) × Int)) :=
 cond (decide (s5 ≥ 0)) ((idx s0 s5).bind fun x1001 => (idx s1 s5).bind fun x1002 => cond (x1001 != x1002) ((idx s0 s5).bind fun x1003 => (idx s1 s5).bind fun x1004 =>
  (zaw (decide (x1003 > x1004))).bind fun r1005 => some (.result (w6 ((w6 (2 * r1005)) - 1))))
  (some (.again (s0, s1, (w6 (s5 - 1)))))) (some (.leave (s0, s1, s5)))
def zcn.r0 (N : Nat) (x : (List Int) × (List Int) × Int) := zcn.b0 N x.1 x.2.1 x.2.2
def zcn (N : Nat) (a0 : List Int) (a1 : List Int) : Option Int :=
 cond ((a0.length : Int) != (a1.length : Int)) ((zaw (decide ((a0.length : Int) > (a1.length : Int)))).bind fun r1 =>
  some (w6 ((w6 (2 * r1)) - 1))) ((z5 (zcn.r0 N) N (a0, a1, (w6 ((a0.length : Int) - 1)))).bind fun z3 => zd5 z3 (fun z =>
  some z) (fun y2 => some 0))
def zcn.k (N : Nat) : Kq := ⟨258, (cvv [T6] [(Ty.sl T6), (Ty.sl T6)] (zcn N)), go [zaw.k] {} [(0, .rets { slots := [(0, .val (Ty.sl T6)), (1, .val (Ty.sl T6)), (5, .val T6)], boxes := [] } [(Ty.sl T6), (Ty.sl T6), T6] (z5 (zcn.r0 N) N))] Proofs.Tryz.func258 (hL := ⟨⟨_, _, rfl, by kernel_rfl⟩, trivial⟩)⟩
def zcz.b0 (N : Nat) (s0 : List Int) (s1 : List Int) (s5 : List Int) (s6 : Int) (s7 : Int) : Option (Stp ((List Int) × (List Int) × (List Int) × Int × Int)) :=
 cond (decide (s7 < (s0.length : Int))) ((idx s0 s7).bind fun x1001 => cond (decide (s7 < (s1.length : Int))) ((idx s1 s7).bind fun x1002 =>
  (zaw (decide ((w6 ((w6 (x1001 - s6)) - x1002)) < 0))).bind fun r1003 =>
  cond (Nat.ble ((s5.length + ([(w6 ((w6 ((w6 (x1001 - s6)) - x1002)) + (w6 (10 * r1003))))] : List Int).length) * 8) z9)
  (some (.again (s0, s1, (s5 ++ ([(w6 ((w6 ((w6 (x1001 - s6)) - x1002)) + (w6 (10 * r1003))))] : List Int)), r1003, (w6 (s7 + 1))))) none)
  ((zaw (decide ((w6 (x1001 - s6)) < 0))).bind fun r1004 =>
  cond (Nat.ble ((s5.length + ([(w6 ((w6 (x1001 - s6)) + (w6 (10 * r1004))))] : List Int).length) * 8) z9)
  (some (.again (s0, s1, (s5 ++ ([(w6 ((w6 (x1001 - s6)) + (w6 (10 * r1004))))] : List Int)), r1004, (w6 (s7 + 1))))) none))
  (some (.leave (s0, s1, s5, s6, s7)))
def zcz.r0 (N : Nat) (x : (List Int) × (List Int) × (List Int) × Int × Int) := zcz.b0 N x.1 x.2.1 x.2.2.1 x.2.2.2.1 x.2.2.2.2
def zcz (N : Nat) (a0 : List Int) (a1 : List Int) : Option ((List Int)) :=
 (zl (zcz.r0 N) N (a0, a1, [], 0, 0)).bind fun y1 => (zbv N y1.2.2.1).bind fun r2 => some r2
def zcz.k (N : Nat) : Kq := ⟨259, (cvv [(Ty.sl T6)] [(Ty.sl T6), (Ty.sl T6)] (zcz N)), go [zaw.k, zbv.k N] {lits := [39]} [(0, .plain { slots := [(0, .val (Ty.sl T6)), (1, .val (Ty.sl T6)), (5, .own 5000005 T6), (6, .val T6), (7, .val T6)], boxes := [] } [(Ty.sl T6), (Ty.sl T6), (Ty.sl T6), T6, T6] (zl (zcz.r0 N) N))] Proofs.Tryz.func259 (hL := ⟨⟨_, _, rfl, by kernel_rfl⟩, trivial⟩)⟩
def zjc (N : Nat) (a0 : ref01_Long) (a1 : ref01_Long) : Option ref01_Long :=
 cond (a0.Below == a1.Below) ((zch N a0.Digits a1.Digits).bind fun r1 => some (⟨a0.Below, r1⟩ : ref01_Long)) ((zcn N a0.Digits a1.Digits).bind fun r2 =>
  cond (decide (r2 < 0)) ((zcz N a1.Digits a0.Digits).bind fun r3 => (cond a1.Below (some (decide ((r3.length : Int) > 0))) (some false)).bind fun g4 =>
  some (⟨g4, r3⟩ : ref01_Long)) ((zcz N a0.Digits a1.Digits).bind fun r5 => (cond a0.Below (some (decide ((r5.length : Int) > 0))) (some false)).bind fun g6 =>
  some (⟨g6, r5⟩ : ref01_Long)))
def zjc.k (N : Nat) : Kq := ⟨190, (cvv [Ty.ref01_Long] [Ty.ref01_Long, Ty.ref01_Long] (zjc N)), go [zch.k N, zcn.k N, zcz.k N] {} [] Proofs.Tryz.func190⟩
def zgl (N : Nat) (a0 : Number) (a1 : Number) : Option Int :=
 (zgw N (⟨a0.N, a0.Scale⟩ : Number) (⟨a1.N, a1.Scale⟩ : Number)).bind fun r1 => (zjc N (⟨r1.1.Below, r1.1.Digits⟩ : ref01_Long)
  (⟨(!r1.2.1.Below), r1.2.1.Digits⟩ : ref01_Long)).bind fun r2 => cond ((r2.Digits.length : Int) == 0) (some 0) ((zaw r2.Below).bind fun r3 =>
  some (w6 (1 - (w6 (2 * r3)))))
def zgl.k (N : Nat) : Kq := ⟨128, (cvv [T6] [Ty.Number, Ty.Number] (zgl N)), go [zaw.k, zgw.k N, zjc.k N] {} [] Proofs.Tryz.func128⟩
def zc7 (a0 : Int) : Option Int :=
 cond (decide (a0 < 0)) (some 1) (cond (a0 == 0) (some 2) (some 4))
def zc7.k : Kq := ⟨127, (cvv [T6] [T6] zc7), go [] {} [] Proofs.Tryz.func127⟩
def zde.b0 (N : Nat) (s0 : Int) (s3 : Int) (s4 : Int) : Option (Stp (Int × Int × Int)) :=
 cond (decide (s4 < s0)) (some (.again (s0, (w6 (s3 * 10)), (w6 (s4 + 1))))) (some (.leave (s0, s3, s4)))
def zde.r0 (N : Nat) (x : Int × Int × Int) := zde.b0 N x.1 x.2.1 x.2.2
def zde (N : Nat) (a0 : Int) : Option Int :=
 (zl (zde.r0 N) N (a0, 1, 0)).bind fun y1 => some y1.2.1
def zde.k (N : Nat) : Kq := ⟨191, (cvv [T6] [T6] (zde N)), go [] {} [(0, .plain { slots := [(0, .val T6), (3, .val T6), (4, .val T6)], boxes := [] } [T6, T6, T6] (zl (zde.r0 N) N))] Proofs.Tryz.func191 (hL := ⟨⟨_, _, rfl, by kernel_rfl⟩, trivial⟩)⟩
def zfv (N : Nat) (a0 : Number) : Option Int :=
 (zde N a0.Scale).bind fun r1 => if r1 = 0 then none else some (w6 ((a0.N : Int).tdiv r1))
def zfv.k (N : Nat) : Kq := ⟨129, (cvv [T6] [Ty.Number] (zfv N)), go [zde.k N] {} [] Proofs.Tryz.func129⟩
def zcp : Nat → Int → Option ByteArray
 | 0, _ => none
 | N + 1, a0 =>
 cond (decide (a0 < (-9))) ((zcp N (w6 (0 - (w6 (a0.tdiv 10))))).bind fun r1 =>
  if (((⟨#[45]⟩ : ByteArray).size + r1.size : Nat) : Int) > IntKind.i64.max then none else (zcp N (w6 (0 - (a0.tmod 10)))).bind fun r2 =>
  if ((((⟨#[45]⟩ : ByteArray) ++ r1).size + r2.size : Nat) : Int) > IntKind.i64.max then none else some (((⟨#[45]⟩ : ByteArray) ++ r1) ++ r2)) (cond (decide (a0 < 0))
  ((zcp N (w6 (0 - a0))).bind fun r3 =>
  if (((⟨#[45]⟩ : ByteArray).size + r3.size : Nat) : Int) > IntKind.i64.max then none else some ((⟨#[45]⟩ : ByteArray) ++ r3)) (cond (decide (a0 < 10))
  (some (zc6 ([(IntKind.wrap .u8 (w6 (48 + a0)))] : List Int))) ((zcp N (w6 (a0.tdiv 10))).bind fun r4 =>
  if ((r4.size + (zc6 ([(IntKind.wrap .u8 (w6 (48 + (a0.tmod 10))))] : List Int)).size : Nat) : Int) > IntKind.i64.max then none else some (r4 ++ (zc6 ([(IntKind.wrap .u8 (w6 (48 + (a0.tmod 10))))] : List Int))))))
def zcp.t (N : Nat) : Ct U := (cvv [Ty.str] [T6] (zcp N))
theorem zcp.m : ∀ N : Nat, zhm K0 260 (zcp.t N)
 | 0 => z6c Proofs.Tryz.func260 (by kernel_rfl) rfl fun ds y hy => by have := z0r (U := U) [T6] (zcp 0) (fun _ => none) (by intro a0; show none = zcp 0 a0; rfl) ds y hy; cases this
 | N + 1 => go [⟨260, zcp.t N, zcp.m N⟩] {} [] Proofs.Tryz.func260
def zcp.k (N : Nat) : Kq := ⟨260, zcp.t N, zcp.m N⟩
def zdq.b0 (N : Nat) (s3 : ByteArray) (b1 : Number) : Option (Stp (ByteArray × Number)) :=
 cond (decide ((s3.size : Int) ≤ b1.Scale))
  (if (((⟨#[48]⟩ : ByteArray).size + s3.size : Nat) : Int) > IntKind.i64.max then none else some (.again (((⟨#[48]⟩ : ByteArray) ++ s3), b1))) (some (.leave (s3, b1)))
def zdq.r0 (N : Nat) (x : ByteArray × Number) := zdq.b0 N x.1 x.2
def zdq (N : Nat) (a0 : Number) : Option ByteArray :=
 (ze9 a0.N).bind fun r1 => (zcp N r1).bind fun r2 => (zl (zdq.r0 N) N (r2, (⟨a0.N, a0.Scale⟩ : Number))).bind fun y3 => cond (decide (y3.2.Scale > 0))
  (if 0 ≤ (w6 ((y3.1.size : Int) - y3.2.Scale)) ∧ (w6 ((y3.1.size : Int) - y3.2.Scale)) ≤ (y3.1.size : Int) then (if 0 ≤ (0 : Int) ∧ (0 : Int) ≤ (w6 ((y3.1.size : Int) - y3.2.Scale)) then (if (((y3.1.extract (0 : Int).toNat (w6 ((y3.1.size : Int) - y3.2.Scale)).toNat).size + (⟨#[46]⟩ : ByteArray).size : Nat) : Int) > IntKind.i64.max then none else if 0 ≤ (w6 ((y3.1.size : Int) - y3.2.Scale)) ∧ (w6 ((y3.1.size : Int) - y3.2.Scale)) ≤ (y3.1.size : Int) then (if ((((y3.1.extract (0 : Int).toNat (w6 ((y3.1.size : Int) - y3.2.Scale)).toNat) ++ (⟨#[46]⟩ : ByteArray)).size + (y3.1.extract (w6 ((y3.1.size : Int) - y3.2.Scale)).toNat y3.1.size).size : Nat) : Int) > IntKind.i64.max then none else cond (decide (y3.2.N < 0))
  (if (((⟨#[45]⟩ : ByteArray).size + (((y3.1.extract (0 : Int).toNat (w6 ((y3.1.size : Int) - y3.2.Scale)).toNat) ++ (⟨#[46]⟩ : ByteArray)) ++ (y3.1.extract (w6 ((y3.1.size : Int) - y3.2.Scale)).toNat y3.1.size)).size : Nat) : Int) > IntKind.i64.max then none else some ((⟨#[45]⟩ : ByteArray) ++ (((y3.1.extract (0 : Int).toNat (w6 ((y3.1.size : Int) - y3.2.Scale)).toNat) ++ (⟨#[46]⟩ : ByteArray)) ++ (y3.1.extract (w6 ((y3.1.size : Int) - y3.2.Scale)).toNat y3.1.size))))
  (some (((y3.1.extract (0 : Int).toNat (w6 ((y3.1.size : Int) - y3.2.Scale)).toNat) ++ (⟨#[46]⟩ : ByteArray)) ++ (y3.1.extract (w6 ((y3.1.size : Int) - y3.2.Scale)).toNat y3.1.size)))) else none) else none) else none)
  (cond (decide (y3.2.N < 0)) (if (((⟨#[45]⟩ : ByteArray).size + y3.1.size : Nat) : Int) > IntKind.i64.max then none else some ((⟨#[45]⟩ : ByteArray) ++ y3.1)) (some y3.1))
def zdq.k (N : Nat) : Kq := ⟨192, (cvv [Ty.str] [Ty.Number] (zdq N)), go [ze9.k, zcp.k N] {lits := [6]} [(0, .plain { slots := [(1, .ptr 1 0), (3, .val Ty.str)], boxes := [(1, Ty.Number, [])] } [Ty.str, Ty.Number] (zl (zdq.r0 N) N))] Proofs.Tryz.func192 (hL := ⟨⟨_, _, rfl, by kernel_rfl⟩, trivial⟩)⟩
def zf3 (N : Nat) (a0 : Storage) (a1 : Int) : Option (Pointer × Int) :=
 (zd6 a0 a1).bind fun r1 => cond (!r1) (some ((⟨0, (⟨0, 0⟩ : Address), 0⟩ : Pointer), 3)) ((idx a0.Tags (w6 (a1.tdiv 16))).bind fun x2 => cond (!x2)
  (some ((⟨0, (⟨0, 0⟩ : Address), 0⟩ : Pointer), 22)) ((zh5 a0 (w6 (a1.tdiv 16))).bind fun r3 => (zji N r3).bind fun r4 => some (r4.1, 0)))
def zf3.k (N : Nat) : Kq := ⟨85, (cvv [Ty.Pointer, T6] [Ty.Storage, T6] (zf3 N)), go [zd6.k, zji.k N, zh5.k] {lits := [25]} [] Proofs.Tryz.func85⟩
def zbl (N : Nat) (a0 : HwState) (a1 : HwPlace) (a2 : Int) : Option (Int × Int) :=
 cond (!a1.Based) (some (a1.Offset, 0)) ((zf3 N (⟨a0.Storage.Bytes, a0.Storage.Tags⟩ : Storage) a1.Pointer).bind fun r1 => cond (r1.2 != 0) (some (0, 4))
  ((zgv (⟨a0.Storage.Bytes, a0.Storage.Tags⟩ : Storage) (w6 (r1.1.Address.Offset + a1.Offset)) a2).bind fun r2 => cond (!r2) (some (0, 5))
  (some ((w6 (r1.1.Address.Offset + a1.Offset)), 0))))
def zbl.k (N : Nat) : Kq := ⟨194, (cvv [T6, T6] [Ty.HwState, Ty.HwPlace, T6] (zbl N)), go [zf3.k N, zgv.k] {} [] Proofs.Tryz.func194⟩
def zcu (N : Nat) (a0 : HwState) (a1 : HwPlace) (a2 : DataType) : Option (ByteArray × Int) :=
 (zau a2).bind fun r1 =>
  (zbl N (⟨a0.Registers, a0.Condition, (⟨a0.Storage.Bytes, a0.Storage.Tags⟩ : Storage), a0.At, a0.Stack, a0.Lines, a0.Status, a0.Exception, a0.Marks, a0.Steps⟩ : HwState)
  (⟨a1.Based, a1.Pointer, a1.Offset⟩ : HwPlace) r1).bind fun r2 => cond (r2.2 != 0) (some ((⟨#[]⟩ : ByteArray), r2.2))
  ((zau (⟨a2.Kind, a2.Length, a2.Scale⟩ : DataType)).bind fun r3 =>
  if 0 ≤ (w6 (r2.1 + r3)) ∧ (w6 (r2.1 + r3)) ≤ (a0.Storage.Bytes.size : Int) then (if 0 ≤ r2.1 ∧ r2.1 ≤ (w6 (r2.1 + r3)) then (some ((a0.Storage.Bytes.extract r2.1.toNat (w6 (r2.1 + r3)).toNat), 0)) else none) else none)
def zcu.k (N : Nat) : Kq := ⟨193, (cvv [Ty.str, T6] [Ty.HwState, Ty.HwPlace, Ty.DataType] (zcu N)), go [zau.k, zbl.k N] {lits := [14]} [] Proofs.Tryz.func193⟩
def zmc (N : Nat) (a0 : HwState) (a1 : HwInstruction) : Option (Int × HwState) :=
 cond (a1.Op == 22) (if 0 ≤ a1.R then (if a1.R < (a0.Registers.length : Int) then ((a0.Registers[a1.R.toNat]?).bind fun x1 => (zdq N x1).bind fun r2 =>
  cond ((a0.Lines.length : Int) == 40) (some (0, (⟨a0.Registers, a0.Condition, a0.Storage, a0.At, a0.Stack, a0.Lines, 3, a0.Exception, a0.Marks, a0.Steps⟩ : HwState)))
  (cond (Nat.ble ((a0.Lines.length + ([r2] : List ByteArray).length) * 16) z9)
  (some (0, (⟨a0.Registers, a0.Condition, a0.Storage, a0.At, a0.Stack, (a0.Lines ++ ([r2] : List ByteArray)), a0.Status, a0.Exception, a0.Marks, a0.Steps⟩ : HwState))) none)) else none) else none)
  (cond (a1.Op == 23) ((zcu N a0 a1.Place a1.Type_).bind fun r3 => cond (r3.2 != 0) (some (r3.2, a0)) (cond ((a0.Lines.length : Int) == 40)
  (some (0, (⟨a0.Registers, a0.Condition, a0.Storage, a0.At, a0.Stack, a0.Lines, 3, a0.Exception, a0.Marks, a0.Steps⟩ : HwState)))
  (cond (Nat.ble ((a0.Lines.length + ([r3.1] : List ByteArray).length) * 16) z9)
  (some (0, (⟨a0.Registers, a0.Condition, a0.Storage, a0.At, a0.Stack, (a0.Lines ++ ([r3.1] : List ByteArray)), a0.Status, a0.Exception, a0.Marks, a0.Steps⟩ : HwState))) none)))
  (cond ((a0.Lines.length : Int) == 40) (some (0, (⟨a0.Registers, a0.Condition, a0.Storage, a0.At, a0.Stack, a0.Lines, 3, a0.Exception, a0.Marks, a0.Steps⟩ : HwState)))
  (cond (Nat.ble ((a0.Lines.length + ([a1.Text] : List ByteArray).length) * 16) z9)
  (some (0, (⟨a0.Registers, a0.Condition, a0.Storage, a0.At, a0.Stack, (a0.Lines ++ ([a1.Text] : List ByteArray)), a0.Status, a0.Exception, a0.Marks, a0.Steps⟩ : HwState))) none)))
def zmc.k (N : Nat) : Kq := ⟨130, (ctv [.ptr Ty.HwState true [0, 5, 6], .val Ty.HwInstruction] [T6] [Ty.HwState] [] [Ty.HwState, Ty.HwInstruction] (zmc N)), go [zdq.k N, zcu.k N] {lits := [55], pk := [1000000]} [] Proofs.Tryz.func130⟩
def zag.b0 (N : Nat) (s0 : Int) (s1 : Int) (s5 : List Int) (s6 : Int) : Option (Stp (Int × Int × (List Int) × Int)) :=
 cond (decide (s6 < s1))
  (if 0 ≤ (w6 ((w6 (s1 - 1)) - s6)) then (if (w6 ((w6 (s1 - 1)) - s6)) < (s5.length : Int) then ((s5[(w6 ((w6 (s1 - 1)) - s6)).toNat]?).bind fun x1001 =>
  some (.again ((w6 (s0.tdiv 256)), s1, (s5.set ((w6 ((w6 (s1 - 1)) - s6)).toNat)
  (IntKind.wrap .u8 (s0.tmod 256))), (w6 (s6 + 1))))) else none) else none) (some (.leave (s0, s1, s5, s6)))
def zag.r0 (N : Nat) (x : Int × Int × (List Int) × Int) := zag.b0 N x.1 x.2.1 x.2.2.1 x.2.2.2
def zag (N : Nat) (a0 : Int) (a1 : Int) : Option ByteArray :=
 if 0 ≤ a1 then (if a1 ≤ a1 then (cond (Nat.ble (a1.toNat * 1) z9) ((zl (zag.r0 N) N (a0, a1, (List.replicate a1.toNat (0 : Int)), 0)).bind fun y1 =>
  some (zc6 y1.2.2.1)) none) else none) else none
def zag.k (N : Nat) : Kq := ⟨249, (cvv [Ty.str] [T6, T6] (zag N)), go [] {} [(0, .plain { slots := [(0, .val T6), (1, .val T6), (5, .own 5000005 (Ty.int .u8)), (6, .val T6)], boxes := [] } [T6, T6, (Ty.sl (Ty.int .u8)), T6] (zl (zag.r0 N) N))] Proofs.Tryz.func249 (hL := ⟨⟨_, _, rfl, by kernel_rfl⟩, trivial⟩)⟩
def zko (N : Nat) (a0 : Pointer) : Option ByteArray :=
 (zag N a0.Kind 1).bind fun r1 => if ((r1.size + (⟨#[0]⟩ : ByteArray).size : Nat) : Int) > IntKind.i64.max then none else (zag N a0.Authority 2).bind fun r2 =>
  if (((r1 ++ (⟨#[0]⟩ : ByteArray)).size + r2.size : Nat) : Int) > IntKind.i64.max then none else (zag N a0.Address.Segment 6).bind fun r3 =>
  if ((((r1 ++ (⟨#[0]⟩ : ByteArray)) ++ r2).size + r3.size : Nat) : Int) > IntKind.i64.max then none else (zag N a0.Address.Offset 6).bind fun r4 =>
  if (((((r1 ++ (⟨#[0]⟩ : ByteArray)) ++ r2) ++ r3).size + r4.size : Nat) : Int) > IntKind.i64.max then none else some ((((r1 ++ (⟨#[0]⟩ : ByteArray)) ++ r2) ++ r3) ++ r4)
def zko.k (N : Nat) : Kq := ⟨254, (cvv [Ty.str] [Ty.Pointer] (zko N)), go [zag.k N] {} [] Proofs.Tryz.func254⟩
def zlj (a0 : ByteArray) (a1 : Int) (a2 : ByteArray) : Option ByteArray :=
 if 0 ≤ a1 ∧ a1 ≤ (a0.size : Int) then (if 0 ≤ (0 : Int) ∧ (0 : Int) ≤ a1 then (if (((a0.extract (0 : Int).toNat a1.toNat).size + a2.size : Nat) : Int) > IntKind.i64.max then none else if 0 ≤ (w6 (a1 + (a2.size : Int))) ∧ (w6 (a1 + (a2.size : Int))) ≤ (a0.size : Int) then (if ((((a0.extract (0 : Int).toNat a1.toNat) ++ a2).size + (a0.extract (w6 (a1 + (a2.size : Int))).toNat a0.size).size : Nat) : Int) > IntKind.i64.max then none else some (((a0.extract (0 : Int).toNat a1.toNat) ++ a2) ++ (a0.extract (w6 (a1 + (a2.size : Int))).toNat a0.size))) else none) else none) else none
def zlj.k : Kq := ⟨175, (cvv [Ty.str] [Ty.str, T6, Ty.str] zlj), go [] {} [] Proofs.Tryz.func175⟩
def za6.b0 (N : Nat) (s1 : Int) (s2 : ByteArray) (s8 : Int) (b6 : Storage) (b7 : Storage) : Option (Stp (Int × ByteArray × Int × Storage × Storage)) :=
 cond (decide (s8 < (s2.size : Int)))
  (if 0 ≤ (w6 ((w6 (s1 + s8)).tdiv 16)) then (if (w6 ((w6 (s1 + s8)).tdiv 16)) < (b7.Tags.length : Int) then ((b7.Tags[(w6 ((w6 (s1 + s8)).tdiv 16)).toNat]?).bind fun x1001 =>
  some (.again (s1, s2, (w6 (s8 + 1)), b6, (⟨b7.Bytes, (b7.Tags.set ((w6 ((w6 (s1 + s8)).tdiv 16)).toNat) false)⟩ : Storage)))) else none) else none)
  (some (.leave (s1, s2, s8, b6, b7)))
def za6.r0 (N : Nat) (x : Int × ByteArray × Int × Storage × Storage) := za6.b0 N x.1 x.2.1 x.2.2.1 x.2.2.2.1 x.2.2.2.2
def za6 (N : Nat) (a0 : Storage) (a1 : Int) (a2 : ByteArray) : Option Storage :=
 (zcl a0).bind fun r1 => (zlj a0.Bytes a1 a2).bind fun r2 =>
  (zl (za6.r0 N) N (a1, a2, 0, (⟨(⟨#[]⟩ : ByteArray), []⟩ : Storage), (⟨r2, r1.Tags⟩ : Storage))).bind fun y3 => some y3.2.2.2.2
def za6.k (N : Nat) : Kq := ⟨196, (ctv [.val Ty.Storage, .val T6, .val Ty.str] [Ty.Storage] [] [1] [Ty.Storage, T6, Ty.str] (za6 N)), go [zcl.k, zlj.k] {} [(0, .plain { slots := [(1, .val T6), (2, .val Ty.str), (6, .ptr 6 0), (7, .ptr 7 0), (8, .val T6)], boxes := [(6, Ty.Storage, [1]), (7, Ty.Storage, [1])] } [T6, Ty.str, T6, Ty.Storage, Ty.Storage] (zl (za6.r0 N) N))] Proofs.Tryz.func196 (hL := ⟨⟨_, _, rfl, by kernel_rfl⟩, trivial⟩)⟩
def zep (N : Nat) (a0 : Storage) (a1 : Int) (a2 : Pointer) : Option Storage :=
 (zko N a2).bind fun r1 => (za6 N (⟨a0.Bytes, a0.Tags⟩ : Storage) a1 r1).bind fun r2 =>
  if 0 ≤ (w6 (a1.tdiv 16)) then (if (w6 (a1.tdiv 16)) < (r2.Tags.length : Int) then ((r2.Tags[(w6 (a1.tdiv 16)).toNat]?).bind fun x3 =>
  some (⟨r2.Bytes, (r2.Tags.set ((w6 (a1.tdiv 16)).toNat) true)⟩ : Storage)) else none) else none
def zep.k (N : Nat) : Kq := ⟨180, (ctv [.val Ty.Storage, .val T6, .val Ty.Pointer] [Ty.Storage] [] [1] [Ty.Storage, T6, Ty.Pointer] (zep N)), go [za6.k N, zko.k N] {lits := [11]} [] Proofs.Tryz.func180⟩
def zmd (N : Nat) (a0 : HwState) (a1 : HwInstruction) : Option (Int × HwState) :=
 cond (a1.Op == 14) ((zau a1.Type_).bind fun r1 => (zbl N a0 a1.Place r1).bind fun r2 => cond (r2.2 != 0) (some (r2.2, a0))
  ((zep N a0.Storage a1.Pointer (⟨0, (⟨1, r2.1⟩ : Address), 0⟩ : Pointer)).bind fun r3 =>
  some (0, (⟨a0.Registers, a0.Condition, r3, a0.At, a0.Stack, a0.Lines, a0.Status, a0.Exception, a0.Marks, a0.Steps⟩ : HwState)))) (cond (a1.Op == 15)
  ((zf3 N a0.Storage a1.Source).bind fun r4 => cond (r4.2 != 0) (some (4, a0)) (cond (a1.Op == 15) ((zep N a0.Storage a1.Pointer r4.1).bind fun r5 =>
  some (0, (⟨a0.Registers, a0.Condition, r5, a0.At, a0.Stack, a0.Lines, a0.Status, a0.Exception, a0.Marks, a0.Steps⟩ : HwState))) (cond (a1.Op == 16)
  (if 0 ≤ a1.R then (if a1.R < (a0.Registers.length : Int) then ((a0.Registers[a1.R.toNat]?).bind fun x6 => (zfv N x6).bind fun r7 =>
  (zg (w6 (r4.1.Address.Offset + r7)) 0 16777215).bind fun r8 => cond (!r8) (some (5, a0))
  ((zep N a0.Storage a1.Pointer (⟨r4.1.Kind, (⟨r4.1.Address.Segment, (w6 (r4.1.Address.Offset + r7))⟩ : Address), r4.1.Authority⟩ : Pointer)).bind fun r9 =>
  some (0, (⟨a0.Registers, a0.Condition, r9, a0.At, a0.Stack, a0.Lines, a0.Status, a0.Exception, a0.Marks, a0.Steps⟩ : HwState)))) else none) else none) (some (0, a0)))))
  ((zf3 N a0.Storage a1.Pointer).bind fun r10 => cond (r10.2 != 0) (some (4, a0)) (cond (a1.Op == 15) ((zep N a0.Storage a1.Pointer r10.1).bind fun r11 =>
  some (0, (⟨a0.Registers, a0.Condition, r11, a0.At, a0.Stack, a0.Lines, a0.Status, a0.Exception, a0.Marks, a0.Steps⟩ : HwState))) (cond (a1.Op == 16)
  (if 0 ≤ a1.R then (if a1.R < (a0.Registers.length : Int) then ((a0.Registers[a1.R.toNat]?).bind fun x12 => (zfv N x12).bind fun r13 =>
  (zg (w6 (r10.1.Address.Offset + r13)) 0 16777215).bind fun r14 => cond (!r14) (some (5, a0))
  ((zep N a0.Storage a1.Pointer (⟨r10.1.Kind, (⟨r10.1.Address.Segment, (w6 (r10.1.Address.Offset + r13))⟩ : Address), r10.1.Authority⟩ : Pointer)).bind fun r15 =>
  some (0, (⟨a0.Registers, a0.Condition, r15, a0.At, a0.Stack, a0.Lines, a0.Status, a0.Exception, a0.Marks, a0.Steps⟩ : HwState)))) else none) else none) (some (0, a0))))))
def zmd.k (N : Nat) : Kq := ⟨131, (ctv [.ptr Ty.HwState true [0, 5, 6], .val Ty.HwInstruction] [T6] [Ty.HwState] [] [Ty.HwState, Ty.HwInstruction] (zmd N)), go [zg.k, zf3.k N, zau.k, zfv.k N, zep.k N, zbl.k N] {lits := [21], pk := [1000000]} [] Proofs.Tryz.func131⟩
def zdy (N : Nat) (a0 : ByteArray) (a1 : Int) : Option ByteArray :=
 cond (decide ((a0.size : Int) ≥ a1))
  (if 0 ≤ a1 ∧ a1 ≤ (a0.size : Int) then (if 0 ≤ (0 : Int) ∧ (0 : Int) ≤ a1 then (some (a0.extract (0 : Int).toNat a1.toNat)) else none) else none)
  ((zco N 32 (w6 (a1 - (a0.size : Int)))).bind fun r1 => if ((a0.size + r1.size : Nat) : Int) > IntKind.i64.max then none else some (a0 ++ r1))
def zdy.k (N : Nat) : Kq := ⟨197, (cvv [Ty.str] [Ty.str, T6] (zdy N)), go [zco.k N] {} [] Proofs.Tryz.func197⟩
def zfw (N : Nat) (a0 : ByteArray) (a1 : ByteArray) : Option Int :=
 (zdy N a0 (if (a1.size : Int) > (a0.size : Int) then (a1.size : Int) else (a0.size : Int))).bind fun r1 =>
  (zdy N a1 (if (a1.size : Int) > (a0.size : Int) then (a1.size : Int) else (a0.size : Int))).bind fun r2 =>
  (zaw (!((Op.bytesLess r1.toList r2.toList) || (r1.toList == r2.toList)))).bind fun r3 => (zaw (Op.bytesLess r1.toList r2.toList)).bind fun r4 =>
  (zc7 (w6 (r3 - r4))).bind fun r5 => some r5
def zfw.k (N : Nat) : Kq := ⟨195, (cvv [T6] [Ty.str, Ty.str] (zfw N)), go [zaw.k, zc7.k, zdy.k N] {} [] Proofs.Tryz.func195⟩
def zlo (N : Nat) (a0 : HwState) (a1 : HwInstruction) : Option (Int × HwState) :=
 (zau a1.Type_).bind fun r1 => cond (a1.Op == 13) ((zfw N a1.Text a1.Other).bind fun r2 =>
  some (0, (⟨a0.Registers, r2, a0.Storage, a0.At, a0.Stack, a0.Lines, a0.Status, a0.Exception, a0.Marks, a0.Steps⟩ : HwState))) (cond (a1.Op == 12)
  ((zcu N a0 a1.Place a1.Type_).bind fun r3 => cond (r3.2 != 0) (some (r3.2, a0)) ((zfw N r3.1 a1.Text).bind fun r4 =>
  some (0, (⟨a0.Registers, r4, a0.Storage, a0.At, a0.Stack, a0.Lines, a0.Status, a0.Exception, a0.Marks, a0.Steps⟩ : HwState)))) (cond (a1.Op == 11)
  ((zcu N a0 a1.Place a1.Type_).bind fun r5 => cond (r5.2 != 0) (some (r5.2, a0)) ((zcu N a0 a1.From a1.Second).bind fun r6 => cond (r6.2 != 0) (some (r6.2, a0))
  ((zfw N r5.1 r6.1).bind fun r7 => some (0, (⟨a0.Registers, r7, a0.Storage, a0.At, a0.Stack, a0.Lines, a0.Status, a0.Exception, a0.Marks, a0.Steps⟩ : HwState)))))
  (cond (a1.Op == 9) ((zcu N a0 a1.From a1.Second).bind fun r8 => cond (r8.2 != 0) (some (r8.2, a0)) ((zbl N a0 a1.Place r1).bind fun r9 => cond (r9.2 != 0)
  (some (r9.2, a0)) ((zdy N r8.1 r1).bind fun r10 => (za6 N a0.Storage r9.1 r10).bind fun r11 =>
  some (0, (⟨a0.Registers, a0.Condition, r11, a0.At, a0.Stack, a0.Lines, a0.Status, a0.Exception, a0.Marks, a0.Steps⟩ : HwState)))))
  ((zbl N a0 a1.Place r1).bind fun r12 => cond (r12.2 != 0) (some (r12.2, a0)) ((zdy N a1.Text r1).bind fun r13 =>
  (za6 N a0.Storage r12.1 r13).bind fun r14 =>
  some (0, (⟨a0.Registers, a0.Condition, r14, a0.At, a0.Stack, a0.Lines, a0.Status, a0.Exception, a0.Marks, a0.Steps⟩ : HwState)))))))
def zlo.k (N : Nat) : Kq := ⟨132, (ctv [.ptr Ty.HwState true [0, 5, 6], .val Ty.HwInstruction] [T6] [Ty.HwState] [] [Ty.HwState, Ty.HwInstruction] (zlo N)), go [zau.k, zcu.k N, zbl.k N, zfw.k N, za6.k N, zdy.k N] {lits := [62], pk := [1000000]} [] Proofs.Tryz.func132⟩
def zjd (N : Nat) (a0 : DataType) : Option Int :=
 (zde N a0.Length).bind fun r1 => some (w6 (r1 - 1))
def zjd.k (N : Nat) : Kq := ⟨248, (cvv [T6] [Ty.DataType] (zjd N)), go [zde.k N] {} [] Proofs.Tryz.func248⟩
def ze7 (a0 : Int) (a1 : Int) : Option (Int × Bool) :=
 (cond (a1 == 11) (some true) (some (a1 == 13))).bind fun g1 => cond g1 (some ((w6 (0 - a0)), (decide (a1 ≥ 10)))) (some (a0, (decide (a1 ≥ 10))))
def ze7.k : Kq := ⟨344, (cvv [T6, Ty.bool] [T6, T6] ze7), go [] {} [] Proofs.Tryz.func344⟩
def za8.b0 (N : Nat) (s0 : ByteArray) (s5 : Int) (s6 : Int) (s7 : Int) (b2 : Value) : Option (Round (Value × Int × Int) (ByteArray × Int × Int × Int × Value)) :=
 cond (decide (s7 < (s0.size : Int))) (cond (s7 == (w6 ((s0.size : Int) - 1))) ((zga s0 s7).bind fun x1001 =>
  (cond (decide ((w6 ((w6 (x1001.toNat : Int)).tdiv 16)) < 10)) (some true) ((zga s0 s7).bind fun x1002 =>
  some (decide (((x1002.toNat : Int).tmod 16) > 9)))).bind fun g1003 => cond g1003 (some (.result ((⟨0, (⟨#[]⟩ : ByteArray)⟩ : Value), s7, 21))) ((zga s0 s7).bind fun x1004 =>
  some (.again (s0, (w6 ((w6 (10 * s5)) + ((w6 (x1004.toNat : Int)).tmod 16))), (w6 ((w6 (x1001.toNat : Int)).tdiv 16)), (w6 (s7 + 1)), b2))))
  ((cond (decide (s6 < 10)) (some true) ((zga s0 s7).bind fun x1005 => some (decide (((x1005.toNat : Int).tmod 16) > 9)))).bind fun g1006 =>
  cond g1006 (some (.result ((⟨0, (⟨#[]⟩ : ByteArray)⟩ : Value), s7, 21))) ((zga s0 s7).bind fun x1007 =>
  some (.again (s0, (w6 ((w6 (10 * s5)) + ((w6 (x1007.toNat : Int)).tmod 16))), s6, (w6 (s7 + 1)), b2)))))
  (some (.leave (s0, s5, s6, s7, b2)))
def za8.r0 (N : Nat) (x : ByteArray × Int × Int × Int × Value) := za8.b0 N x.1 x.2.1 x.2.2.1 x.2.2.2.1 x.2.2.2.2
def za8 (N : Nat) (a0 : ByteArray) : Option (Value × Int × Int) :=
 (z5 (za8.r0 N) N (a0, 0, 15, 0, (⟨0, (⟨#[]⟩ : ByteArray)⟩ : Value))).bind fun z2 => zd5 z2 (fun z => some z) (fun y1 =>
  (ze7 y1.2.1 y1.2.2.1).bind fun r3 => some ((⟨r3.1, (⟨#[]⟩ : ByteArray)⟩ : Value), 0, 0))
def za8.k (N : Nat) : Kq := ⟨307, (cvv [Ty.Value, T6, T6] [Ty.str] (za8 N)), go [ze7.k] {} [(0, .rets { slots := [(0, .val Ty.str), (2, .ptr 2 0), (5, .val T6), (6, .val T6), (7, .val T6)], boxes := [(2, Ty.Value, [])] } [Ty.str, T6, T6, T6, Ty.Value] (z5 (za8.r0 N) N))] Proofs.Tryz.func307 (hL := ⟨⟨_, _, rfl, by kernel_rfl⟩, trivial⟩)⟩
def za5.b0 (N : Nat) (s1 : ByteArray) (s7 : Int) (s8 : Int) (b2 : DataType) (b4 : Value) : Option (Round (Value × Int × Int) (ByteArray × Int × Int × DataType × Value)) :=
 cond (decide (s8 < (w6 (2 * (s1.size : Int))))) ((zga s1 (w6 (s8.tdiv 2))).bind fun x1001 => cond ((s8.tmod 2) == 1)
  ((zga s1 (w6 (s8.tdiv 2))).bind fun x1002 => cond (s8 == (w6 ((w6 (2 * (s1.size : Int))) - 1)))
  ((cond (decide (((w6 (x1002.toNat : Int)).tmod 16) < 10)) (some true) ((cond (s8 == 0) (some ((b2.Length.tmod 2) == 0)) (some false)).bind fun g1003 =>
  (cond g1003 (some (((w6 (x1002.toNat : Int)).tmod 16) != 0)) (some false)).bind fun g1004 => some g1004)).bind fun g1005 =>
  cond g1005 (some (.result ((⟨0, (⟨#[]⟩ : ByteArray)⟩ : Value), (w6 (s8.tdiv 2)), 21)))
  (cond (s8 == (w6 ((w6 (2 * (s1.size : Int))) - 1))) ((ze7 s7 ((w6 (x1002.toNat : Int)).tmod 16)).bind fun r1006 =>
  some (.again (s1, r1006.1, (w6 (s8 + 1)), b2, b4)))
  (some (.again (s1, (w6 ((w6 (10 * s7)) + ((w6 (x1002.toNat : Int)).tmod 16))), (w6 (s8 + 1)), b2, b4)))))
  ((cond (decide (((w6 (x1002.toNat : Int)).tmod 16) > 9)) (some true) ((cond (s8 == 0) (some ((b2.Length.tmod 2) == 0)) (some false)).bind fun g1007 =>
  (cond g1007 (some (((w6 (x1002.toNat : Int)).tmod 16) != 0)) (some false)).bind fun g1008 => some g1008)).bind fun g1009 =>
  cond g1009 (some (.result ((⟨0, (⟨#[]⟩ : ByteArray)⟩ : Value), (w6 (s8.tdiv 2)), 21)))
  (cond (s8 == (w6 ((w6 (2 * (s1.size : Int))) - 1))) ((ze7 s7 ((w6 (x1002.toNat : Int)).tmod 16)).bind fun r1010 =>
  some (.again (s1, r1010.1, (w6 (s8 + 1)), b2, b4)))
  (some (.again (s1, (w6 ((w6 (10 * s7)) + ((w6 (x1002.toNat : Int)).tmod 16))), (w6 (s8 + 1)), b2, b4))))))
  (cond (s8 == (w6 ((w6 (2 * (s1.size : Int))) - 1))) ((cond (decide ((w6 ((w6 (x1001.toNat : Int)).tdiv 16)) < 10))
  (some true) ((cond (s8 == 0) (some ((b2.Length.tmod 2) == 0)) (some false)).bind fun g1011 =>
  (cond g1011 (some ((w6 ((w6 (x1001.toNat : Int)).tdiv 16)) != 0)) (some false)).bind fun g1012 => some g1012)).bind fun g1013 =>
  cond g1013 (some (.result ((⟨0, (⟨#[]⟩ : ByteArray)⟩ : Value), (w6 (s8.tdiv 2)), 21)))
  (cond (s8 == (w6 ((w6 (2 * (s1.size : Int))) - 1)))
  ((ze7 s7 (w6 ((w6 (x1001.toNat : Int)).tdiv 16))).bind fun r1014 => some (.again (s1, r1014.1, (w6 (s8 + 1)), b2, b4)))
  (some (.again (s1, (w6 ((w6 (10 * s7)) + (w6 ((w6 (x1001.toNat : Int)).tdiv 16)))), (w6 (s8 + 1)), b2, b4)))))
  ((cond (decide ((w6 ((w6 (x1001.toNat : Int)).tdiv 16)) > 9)) (some true) ((cond (s8 == 0) (some ((b2.Length.tmod 2) == 0))
  (some false)).bind fun g1015 => (cond g1015 (some ((w6 ((w6 (x1001.toNat : Int)).tdiv 16)) != 0)) (some false)).bind fun g1016 =>
  some g1016)).bind fun g1017 => cond g1017 (some (.result ((⟨0, (⟨#[]⟩ : ByteArray)⟩ : Value), (w6 (s8.tdiv 2)), 21)))
  (cond (s8 == (w6 ((w6 (2 * (s1.size : Int))) - 1)))
  ((ze7 s7 (w6 ((w6 (x1001.toNat : Int)).tdiv 16))).bind fun r1018 => some (.again (s1, r1018.1, (w6 (s8 + 1)), b2, b4)))
  (some (.again (s1, (w6 ((w6 (10 * s7)) + (w6 ((w6 (x1001.toNat : Int)).tdiv 16)))), (w6 (s8 + 1)), b2, b4)))))))
  (some (.leave (s1, s7, s8, b2, b4)))
def za5.r0 (N : Nat) (x : ByteArray × Int × Int × DataType × Value) := za5.b0 N x.1 x.2.1 x.2.2.1 x.2.2.2.1 x.2.2.2.2
def za5 (N : Nat) (a0 : DataType) (a1 : ByteArray) : Option (Value × Int × Int) :=
 (z5 (za5.r0 N) N (a1, 0, 0, a0, (⟨0, (⟨#[]⟩ : ByteArray)⟩ : Value))).bind fun z2 => zd5 z2 (fun z => some z) (fun y1 =>
  some ((⟨y1.2.1, (⟨#[]⟩ : ByteArray)⟩ : Value), 0, 0))
def za5.k (N : Nat) : Kq := ⟨308, (cvv [Ty.Value, T6, T6] [Ty.DataType, Ty.str] (za5 N)), go [ze7.k] {} [(0, .rets { slots := [(1, .val Ty.str), (2, .ptr 2 0), (4, .ptr 4 0), (7, .val T6), (8, .val T6)], boxes := [(2, Ty.DataType, []), (4, Ty.Value, [])] } [Ty.str, T6, T6, Ty.DataType, Ty.Value] (z5 (za5.r0 N) N))] Proofs.Tryz.func308 (hL := ⟨⟨_, _, rfl, by kernel_rfl⟩, trivial⟩)⟩
def zjy (N : Nat) (a0 : DataType) (a1 : ByteArray) : Option (Value × Int × Int) :=
 (zfd a0).bind fun r1 => cond (r1 != 0) (some ((⟨0, (⟨#[]⟩ : ByteArray)⟩ : Value), 0, r1)) (cond (a0.Kind == 4) (some ((⟨0, (⟨#[]⟩ : ByteArray)⟩ : Value), 0, 17))
  ((zau a0).bind fun r2 => cond ((a1.size : Int) != r2) (some ((⟨0, (⟨#[]⟩ : ByteArray)⟩ : Value), 0, 18)) (cond (a0.Kind == 0) (some ((⟨0, a1⟩ : Value), 0, 0))
  (cond (a0.Kind == 3) ((zbh N a1 0 (a1.size : Int)).bind fun r3 => (zga a1 0).bind fun x4 => cond (decide ((x4.toNat : Int) ≥ 128))
  (if (w6 (8 * (a1.size : Int))) < 0 then none else (zjd N a0).bind fun r5 => (zjd N a0).bind fun r6 =>
  (zg (w6 (r3 - (w6 (1 * 2 ^ (min (w6 (8 * (a1.size : Int))).toNat 64))))) (w6 (0 - r5)) r6).bind fun r7 =>
  cond (!r7) (some ((⟨0, (⟨#[]⟩ : ByteArray)⟩ : Value), 0, 19))
  (some ((⟨(w6 (r3 - (w6 (1 * 2 ^ (min (w6 (8 * (a1.size : Int))).toNat 64))))), (⟨#[]⟩ : ByteArray)⟩ : Value), 0, 0)))
  ((zjd N a0).bind fun r8 => (zjd N a0).bind fun r9 => (zg r3 (w6 (0 - r8)) r9).bind fun r10 => cond (!r10)
  (some ((⟨0, (⟨#[]⟩ : ByteArray)⟩ : Value), 0, 19)) (some ((⟨r3, (⟨#[]⟩ : ByteArray)⟩ : Value), 0, 0)))) (cond (a0.Kind == 2) ((za8 N a1).bind fun r11 =>
  some (r11.1, r11.2.1, r11.2.2)) ((za5 N a0 a1).bind fun r12 => some (r12.1, r12.2.1, r12.2.2)))))))
def zjy.k (N : Nat) : Kq := ⟨255, (cvv [Ty.Value, T6, T6] [Ty.DataType, Ty.str] (zjy N)), go [zg.k, zau.k, zfd.k, zbh.k N, zjd.k N, za8.k N, za5.k N] {lits := [35, 51]} [] Proofs.Tryz.func255⟩
def zfx (N : Nat) (a0 : HwState) (a1 : HwPlace) (a2 : DataType) : Option (Number × Int) :=
 (zcu N a0 a1 a2).bind fun r1 => cond (r1.2 != 0) (some ((⟨0, 0⟩ : Number), r1.2)) ((zjy N a2 r1.1).bind fun r2 => cond (r2.2.2 != 0) (some ((⟨0, 0⟩ : Number), 1))
  (some ((⟨r2.1.N, a2.Scale⟩ : Number), 0)))
def zfx.k (N : Nat) : Kq := ⟨198, (cvv [Ty.Number, T6] [Ty.HwState, Ty.HwPlace, Ty.DataType] (zfx N)), go [zcu.k N, zjy.k N] {} [] Proofs.Tryz.func198⟩
def ze8 (a0 : DataType) : Option Int :=
 (zfd a0).bind fun r1 => cond (r1 != 0) (some r1) ((zci a0.Kind).bind fun r2 => (zaw (!r2)).bind fun r3 => some (w6 (17 * r3)))
def ze8.k : Kq := ⟨261, (cvv [T6] [Ty.DataType] ze8), go [zaw.k, zfd.k, zci.k] {} [] Proofs.Tryz.func261⟩
def zfy (a0 : Int) : Option ((List Int)) :=
 if 0 ≤ a0 then (if a0 ≤ a0 then (cond (Nat.ble (a0.toNat * 8) z9) (cond (Nat.ble (((List.replicate a0.toNat (0 : Int)).length + ([1] : List Int).length) * 8) z9)
  (some ((List.replicate a0.toNat (0 : Int)) ++ ([1] : List Int))) none) none) else none) else none
def zfy.k : Kq := ⟨312, (cvv [(Ty.sl T6)] [T6] zfy), go [] {lits := [5]} [] Proofs.Tryz.func312⟩
def ziv (N : Nat) (a0 : Number) : Option ref01_Fraction :=
 (zce N a0.N 0).bind fun r1 => (zfy a0.Scale).bind fun r2 => some (⟨r1, r2⟩ : ref01_Fraction)
def ziv.k (N : Nat) : Kq := ⟨263, (cvv [Ty.ref01_Fraction] [Ty.Number] (ziv N)), go [zce.k N, zfy.k] {} [] Proofs.Tryz.func263⟩
def zas.b2 (N : Nat) (s0 : List Int) (s1 : List Int) (s6 : List Int) (s7 : List Int) (s8 : Int) : Option (Stp ((List Int) × (List Int) × (List Int) × (List Int) × Int)) :=
 (zcn N s7 s1).bind fun r3001 => cond (decide (r3001 ≥ 0)) ((zcz N s7 s1).bind fun r3002 =>
  if 0 ≤ s8 then (if s8 < (s6.length : Int) then ((s6[s8.toNat]?).bind fun x3003 => if 0 ≤ s8 then (if s8 < (s6.length : Int) then ((s6[s8.toNat]?).bind fun x3004 =>
  some (.again (s0, s1, (s6.set s8.toNat (w6 (x3003 + 1))), r3002, s8))) else none) else none) else none) else none) (some (.leave (s0, s1, s6, s7, s8)))
def zas.r2 (N : Nat) (x : (List Int) × (List Int) × (List Int) × (List Int) × Int) := zas.b2 N x.1 x.2.1 x.2.2.1 x.2.2.2.1 x.2.2.2.2
def zas.b0 (N : Nat) (s0 : List Int) (s1 : List Int) (s6 : List Int) (s7 : List Int) (s8 : Int) : Option (Stp ((List Int) × (List Int) × (List Int) × (List Int) × Int)) :=
 cond (decide (s8 ≥ 0)) ((idx s0 s8).bind fun x1001 => cond (Nat.ble ((([x1001] : List Int).length + s7.length) * 8) z9)
  ((zbv N (([x1001] : List Int) ++ s7)).bind fun r1002 => (zl (zas.r2 N) N (s0, s1, s6, r1002, s8)).bind fun y1003 =>
  some (.again (y1003.1, y1003.2.1, y1003.2.2.1, y1003.2.2.2.1, (w6 (y1003.2.2.2.2 - 1))))) none) (some (.leave (s0, s1, s6, s7, s8)))
def zas.r0 (N : Nat) (x : (List Int) × (List Int) × (List Int) × (List Int) × Int) := zas.b0 N x.1 x.2.1 x.2.2.1 x.2.2.2.1 x.2.2.2.2
def zas (N : Nat) (a0 : List Int) (a1 : List Int) : Option ((List Int) × (List Int)) :=
 if 0 ≤ (a0.length : Int) then (if (a0.length : Int) ≤ (a0.length : Int) then (cond (Nat.ble ((a0.length : Int).toNat * 8) z9)
  ((zl (zas.r0 N) N (a0, a1, (List.replicate (a0.length : Int).toNat (0 : Int)), [], (w6 ((a0.length : Int) - 1)))).bind fun y1 =>
  (zbv N y1.2.2.1).bind fun r2 => some (r2, y1.2.2.2.1)) none) else none) else none
def zas.k (N : Nat) : Kq := ⟨314, (cvv [(Ty.sl T6), (Ty.sl T6)] [(Ty.sl T6), (Ty.sl T6)] (zas N)), go [zcn.k N, zcz.k N, zbv.k N] {lits := [25]} [(2, .plain { slots := [(0, .val (Ty.sl T6)), (1, .val (Ty.sl T6)), (6, .own 5000006 T6), (7, .val (Ty.sl T6)), (8, .val T6)], boxes := [] } [(Ty.sl T6), (Ty.sl T6), (Ty.sl T6), (Ty.sl T6), T6] (zl (zas.r2 N) N)), (0, .plain { slots := [(0, .val (Ty.sl T6)), (1, .val (Ty.sl T6)), (6, .own 5000006 T6), (7, .val (Ty.sl T6)), (8, .val T6)], boxes := [] } [(Ty.sl T6), (Ty.sl T6), (Ty.sl T6), (Ty.sl T6), T6] (zl (zas.r0 N) N))] Proofs.Tryz.func314 (hL := ⟨⟨_, _, rfl, by kernel_rfl⟩, ⟨_, _, rfl, by kernel_rfl⟩, trivial⟩)⟩
def zjj (N : Nat) (a0 : ref01_Fraction) (a1 : Int) (a2 : Bool) : Option ref01_Long :=
 if 0 ≤ a1 then (if a1 ≤ a1 then (cond (Nat.ble (a1.toNat * 8) z9) (cond (Nat.ble (((List.replicate a1.toNat (0 : Int)).length + a0.Top.Digits.length) * 8) z9)
  ((zbv N ((List.replicate a1.toNat (0 : Int)) ++ a0.Top.Digits)).bind fun r1 => (zas N r1 a0.Bottom).bind fun r2 =>
  (cond a2 ((zch N r2.2 r2.2).bind fun r3 => (zcn N r3 a0.Bottom).bind fun r4 => some (decide (r4 ≥ 0))) (some false)).bind fun g5 =>
  cond g5 ((zch N r2.1 ([1] : List Int)).bind fun r6 => (cond a0.Top.Below (some (decide ((r6.length : Int) > 0))) (some false)).bind fun g7 => some (⟨g7, r6⟩ : ref01_Long))
  ((cond a0.Top.Below (some (decide ((r2.1.length : Int) > 0))) (some false)).bind fun g8 => some (⟨g8, r2.1⟩ : ref01_Long))) none) none) else none) else none
def zjj.k (N : Nat) : Kq := ⟨310, (cvv [Ty.ref01_Long] [Ty.ref01_Fraction, T6, Ty.bool] (zjj N)), go [zch.k N, zcn.k N, zbv.k N, zas.k N] {pre := [(2, [7])], lits := [18, 28, 35]} [] Proofs.Tryz.func310⟩
def zc0.b0 (N : Nat) (s3 : Int) (s4 : Int) (b1 : ref01_Long) : Option (Stp (Int × Int × ref01_Long)) :=
 cond (decide (s4 ≥ 0)) ((idx b1.Digits s4).bind fun x1001 => some (.again ((w6 ((w6 (10 * s3)) + x1001)), (w6 (s4 - 1)), b1)))
  (some (.leave (s3, s4, b1)))
def zc0.r0 (N : Nat) (x : Int × Int × ref01_Long) := zc0.b0 N x.1 x.2.1 x.2.2
def zc0 (N : Nat) (a0 : ref01_Long) : Option Int :=
 (zl (zc0.r0 N) N (0, (w6 ((a0.Digits.length : Int) - 1)), a0)).bind fun y1 => cond y1.2.2.Below (some (w6 (0 - y1.1))) (some y1.1)
def zc0.k (N : Nat) : Kq := ⟨311, (cvv [T6] [Ty.ref01_Long] (zc0 N)), go [] {} [(0, .plain { slots := [(1, .ptr 1 0), (3, .val T6), (4, .val T6)], boxes := [(1, Ty.ref01_Long, [])] } [T6, T6, Ty.ref01_Long] (zl (zc0.r0 N) N))] Proofs.Tryz.func311 (hL := ⟨⟨_, _, rfl, by kernel_rfl⟩, trivial⟩)⟩
def zic (N : Nat) (a0 : ref01_Fraction) (a1 : DataType) (a2 : Bool) : Option (Int × Int) :=
 (zjj N (⟨(⟨a0.Top.Below, a0.Top.Digits⟩ : ref01_Long), a0.Bottom⟩ : ref01_Fraction) a1.Scale a2).bind fun r1 => cond (decide ((r1.Digits.length : Int) > a1.Length))
  (some (0, 19)) ((zc0 N r1).bind fun r2 => some (r2, 0))
def zic.k (N : Nat) : Kq := ⟨262, (cvv [T6, T6] [Ty.ref01_Fraction, Ty.DataType, Ty.bool] (zic N)), go [zjj.k N, zc0.k N] {} [] Proofs.Tryz.func262⟩
def zgn (N : Nat) (a0 : Number) (a1 : DataType) (a2 : Bool) : Option (Value × Int) :=
 (zb7 a0).bind fun r1 => cond (r1 != 0) (some ((⟨0, (⟨#[]⟩ : ByteArray)⟩ : Value), r1)) ((ze8 a1).bind fun r2 => cond (r2 != 0)
  (some ((⟨0, (⟨#[]⟩ : ByteArray)⟩ : Value), r2)) ((ziv N (⟨a0.N, a0.Scale⟩ : Number)).bind fun r3 =>
  (zic N (⟨(⟨r3.Top.Below, r3.Top.Digits⟩ : ref01_Long), r3.Bottom⟩ : ref01_Fraction) (⟨a1.Kind, a1.Length, a1.Scale⟩ : DataType) a2).bind fun r4 =>
  some ((⟨r4.1, (⟨#[]⟩ : ByteArray)⟩ : Value), r4.2)))
def zgn.k (N : Nat) : Kq := ⟨199, (cvv [Ty.Value, T6] [Ty.Number, Ty.DataType, Ty.bool] (zgn N)), go [zb7.k, ze8.k, zic.k N, ziv.k N] {lits := [26]} [] Proofs.Tryz.func199⟩
def zcs.b0 (N : Nat) (s0 : Int) (s5 : List Int) (s6 : Int) : Option (Stp (Int × (List Int) × Int)) :=
 cond (decide (s6 ≥ 0)) (if 0 ≤ s6 then (if s6 < (s5.length : Int) then ((s5[s6.toNat]?).bind fun x1001 =>
  some (.again ((w6 (s0.tdiv 10)), (s5.set s6.toNat (s0.tmod 10)), (w6 (s6 - 1))))) else none) else none) (some (.leave (s0, s5, s6)))
def zcs.r0 (N : Nat) (x : Int × (List Int) × Int) := zcs.b0 N x.1 x.2.1 x.2.2
def zcs (N : Nat) (a0 : Int) (a1 : Int) : Option ((List Int)) :=
 if 0 ≤ a1 then (if a1 ≤ a1 then (cond (Nat.ble (a1.toNat * 8) z9)
  ((zl (zcs.r0 N) N (a0, (List.replicate a1.toNat (0 : Int)), (w6 (a1 - 1)))).bind fun y1 => some y1.2.1) none) else none) else none
def zcs.k (N : Nat) : Kq := ⟨250, (ctv [.val T6, .val T6] [(Ty.sl T6)] [] [0] [T6, T6] (zcs N)), go [] {} [(0, .plain { slots := [(0, .val T6), (5, .own 5000005 T6), (6, .val T6)], boxes := [] } [T6, (Ty.sl T6), T6] (zl (zcs.r0 N) N))] Proofs.Tryz.func250 (hL := ⟨⟨_, _, rfl, by kernel_rfl⟩, trivial⟩)⟩
def zav.b1 (N : Nat) (s6 : List Int) (s7 : List Int) (s8 : Int) (b2 : DataType) (b3 : Value) : Option (Stp ((List Int) × (List Int) × Int × DataType × Value)) :=
 cond (decide (s8 < b2.Length)) (if 0 ≤ s8 then (if s8 < (s6.length : Int) then ((s6[s8.toNat]?).bind fun x2001 =>
  if 0 ≤ s8 then (if s8 < (s7.length : Int) then ((s7[s8.toNat]?).bind fun x2002 =>
  some (.again (s6, (s7.set s8.toNat (IntKind.wrap .u8 (w6 (240 + x2001)))), (w6 (s8 + 1)), b2, b3))) else none) else none) else none) else none)
  (some (.leave (s6, s7, s8, b2, b3)))
def zav.r1 (N : Nat) (x : (List Int) × (List Int) × Int × DataType × Value) := zav.b1 N x.1 x.2.1 x.2.2.1 x.2.2.2.1 x.2.2.2.2
def zav.b3 (N : Nat) (s6 : List Int) (s9 : List Int) (s10 : Int) : Option (Stp ((List Int) × (List Int) × Int)) :=
 cond (decide (s10 < (s9.length : Int)))
  (if 0 ≤ (w6 (2 * s10)) then (if (w6 (2 * s10)) < (s6.length : Int) then ((s6[(w6 (2 * s10)).toNat]?).bind fun x4001 =>
  if 0 ≤ (w6 ((w6 (2 * s10)) + 1)) then (if (w6 ((w6 (2 * s10)) + 1)) < (s6.length : Int) then ((s6[(w6 ((w6 (2 * s10)) + 1)).toNat]?).bind fun x4002 =>
  if 0 ≤ s10 then (if s10 < (s9.length : Int) then ((s9[s10.toNat]?).bind fun x4003 =>
  some (.again (s6, (s9.set s10.toNat (IntKind.wrap .u8 (w6 ((w6 (16 * x4001)) + x4002)))), (w6 (s10 + 1))))) else none) else none) else none) else none) else none) else none)
  (some (.leave (s6, s9, s10)))
def zav.r3 (N : Nat) (x : (List Int) × (List Int) × Int) := zav.b3 N x.1 x.2.1 x.2.2
def zav (N : Nat) (a0 : DataType) (a1 : Value) : Option ByteArray :=
 cond (a0.Kind == 0) (some a1.S) (cond (a0.Kind == 3) (cond (decide (a1.N < 0)) ((zau a0).bind fun r1 =>
  if (w6 (8 * r1)) < 0 then none else (zau a0).bind fun r2 =>
  (zag N (w6 (a1.N + (w6 (1 * 2 ^ (min (w6 (8 * r1)).toNat 64))))) r2).bind fun r3 => some r3) ((zau a0).bind fun r4 =>
  (zag N a1.N r4).bind fun r5 => some r5)) ((ze9 a1.N).bind fun r6 => (zcs N r6 a0.Length).bind fun r7 => cond (a0.Kind == 2)
  (if 0 ≤ a0.Length then (if a0.Length ≤ a0.Length then (cond (Nat.ble (a0.Length.toNat * 1) z9)
  ((zl (zav.r1 N) N (r7, (List.replicate a0.Length.toNat (0 : Int)), 0, (⟨a0.Kind, a0.Length, a0.Scale⟩ : DataType), (⟨a1.N, a1.S⟩ : Value))).bind fun y8 =>
  cond (decide (y8.2.2.2.2.N < 0))
  (if 0 ≤ (w6 (y8.2.2.2.1.Length - 1)) then (if (w6 (y8.2.2.2.1.Length - 1)) < (y8.1.length : Int) then ((y8.1[(w6 (y8.2.2.2.1.Length - 1)).toNat]?).bind fun x9 =>
  if 0 ≤ (w6 (y8.2.2.2.1.Length - 1)) then (if (w6 (y8.2.2.2.1.Length - 1)) < (y8.2.1.length : Int) then ((y8.2.1[(w6 (y8.2.2.2.1.Length - 1)).toNat]?).bind fun x10 =>
  some (zc6 (y8.2.1.set ((w6 (y8.2.2.2.1.Length - 1)).toNat) (IntKind.wrap .u8 (w6 (208 + x9)))))) else none) else none) else none) else none)
  (some (zc6 y8.2.1))) none) else none) else none) (cond ((a0.Length.tmod 2) == 0) (cond (Nat.ble ((([0] : List Int).length + r7.length) * 8) z9)
  ((zaw (decide (a1.N < 0))).bind fun r11 =>
  cond (Nat.ble (((([0] : List Int) ++ r7).length + ([(w6 (15 - (w6 (2 * r11))))] : List Int).length) * 8) z9)
  (if 0 ≤ (w6 ((((([0] : List Int) ++ r7) ++ ([(w6 (15 - (w6 (2 * r11))))] : List Int)).length : Int).tdiv 2)) then (if (w6 ((((([0] : List Int) ++ r7) ++ ([(w6 (15 - (w6 (2 * r11))))] : List Int)).length : Int).tdiv 2)) ≤ (w6 ((((([0] : List Int) ++ r7) ++ ([(w6 (15 - (w6 (2 * r11))))] : List Int)).length : Int).tdiv 2)) then (cond (Nat.ble ((w6 ((((([0] : List Int) ++ r7) ++ ([(w6 (15 - (w6 (2 * r11))))] : List Int)).length : Int).tdiv 2)).toNat * 1) z9)
  ((zl (zav.r3 N) N (((([0] : List Int) ++ r7) ++ ([(w6 (15 - (w6 (2 * r11))))] : List Int)), (List.replicate (w6 ((((([0] : List Int) ++ r7) ++ ([(w6 (15 - (w6 (2 * r11))))] : List Int)).length : Int).tdiv 2)).toNat (0 : Int)), 0)).bind fun y12 =>
  some (zc6 y12.2.1)) none) else none) else none) none) none) ((zaw (decide (a1.N < 0))).bind fun r13 =>
  cond (Nat.ble ((r7.length + ([(w6 (15 - (w6 (2 * r13))))] : List Int).length) * 8) z9)
  (if 0 ≤ (w6 (((r7 ++ ([(w6 (15 - (w6 (2 * r13))))] : List Int)).length : Int).tdiv 2)) then (if (w6 (((r7 ++ ([(w6 (15 - (w6 (2 * r13))))] : List Int)).length : Int).tdiv 2)) ≤ (w6 (((r7 ++ ([(w6 (15 - (w6 (2 * r13))))] : List Int)).length : Int).tdiv 2)) then (cond (Nat.ble ((w6 (((r7 ++ ([(w6 (15 - (w6 (2 * r13))))] : List Int)).length : Int).tdiv 2)).toNat * 1) z9)
  ((zl (zav.r3 N) N ((r7 ++ ([(w6 (15 - (w6 (2 * r13))))] : List Int)), (List.replicate (w6 (((r7 ++ ([(w6 (15 - (w6 (2 * r13))))] : List Int)).length : Int).tdiv 2)).toNat (0 : Int)), 0)).bind fun y14 =>
  some (zc6 y14.2.1)) none) else none) else none) none))))
def zav.k (N : Nat) : Kq := ⟨176, (cvv [Ty.str] [Ty.DataType, Ty.Value] (zav N)), go [zau.k, zaw.k, zag.k N, zcs.k N, ze9.k] {lits := [31, 35, 92]} [(1, .plain { slots := [(2, .ptr 2 0), (3, .ptr 3 0), (6, .own 5000006 T6), (7, .own 5000007 (Ty.int .u8)), (8, .val T6)], boxes := [(2, Ty.DataType, []), (3, Ty.Value, [])] } [(Ty.sl T6), (Ty.sl (Ty.int .u8)), T6, Ty.DataType, Ty.Value] (zl (zav.r1 N) N)), (3, .plain { slots := [(6, .own 5000006 T6), (9, .own 5000009 (Ty.int .u8)), (10, .val T6)], boxes := [] } [(Ty.sl T6), (Ty.sl (Ty.int .u8)), T6] (zl (zav.r3 N) N))] Proofs.Tryz.func176 (hL := ⟨⟨_, _, rfl, by kernel_rfl⟩, ⟨_, _, rfl, by kernel_rfl⟩, trivial⟩)⟩
def za1.b2 (N : Nat) (s5 : List Int) (s6 : Int) (s7 : List Int) (s8 : Int) (s9 : Int) (b2 : ref01_Long) (b3 : ref01_Long) (b4 : ref01_Long) : Option (Stp ((List Int) × Int × (List Int) × Int × Int × ref01_Long × ref01_Long × ref01_Long)) :=
 (cond (decide (s9 < (b2.Digits.length : Int))) (some true) (some (decide (s8 > 0)))).bind fun g3001 => cond g3001 (cond (decide (s9 < (b2.Digits.length : Int)))
  ((idx b2.Digits s9).bind fun x3002 => (idx b3.Digits s6).bind fun x3003 =>
  cond (Nat.ble ((s7.length + ([((w6 (s8 + (w6 (x3002 * x3003)))).tmod 10)] : List Int).length) * 8) z9)
  (some (.again (s5, s6, (s7 ++ ([((w6 (s8 + (w6 (x3002 * x3003)))).tmod 10)] : List Int)), (w6 ((w6 (s8 + (w6 (x3002 * x3003)))).tdiv 10)), (w6 (s9 + 1)), b2, b3, b4))) none)
  (cond (Nat.ble ((s7.length + ([(s8.tmod 10)] : List Int).length) * 8) z9)
  (some (.again (s5, s6, (s7 ++ ([(s8.tmod 10)] : List Int)), (w6 (s8.tdiv 10)), (w6 (s9 + 1)), b2, b3, b4))) none))
  (some (.leave (s5, s6, s7, s8, s9, b2, b3, b4)))
def za1.r2 (N : Nat) (x : (List Int) × Int × (List Int) × Int × Int × ref01_Long × ref01_Long × ref01_Long) := za1.b2 N x.1 x.2.1 x.2.2.1 x.2.2.2.1 x.2.2.2.2.1 x.2.2.2.2.2.1 x.2.2.2.2.2.2.1 x.2.2.2.2.2.2.2
def za1.b0 (N : Nat) (s5 : List Int) (s6 : Int) (b2 : ref01_Long) (b3 : ref01_Long) (b4 : ref01_Long) : Option (Stp ((List Int) × Int × ref01_Long × ref01_Long × ref01_Long)) :=
 cond (decide (s6 < (b3.Digits.length : Int))) (if 0 ≤ s6 then (if s6 ≤ s6 then (cond (Nat.ble (s6.toNat * 8) z9)
  ((zl (za1.r2 N) N (s5, s6, (List.replicate s6.toNat (0 : Int)), 0, 0, b2, b3, b4)).bind fun y1001 => (zch N y1001.1 y1001.2.2.1).bind fun r1002 =>
  some (.again (r1002, (w6 (y1001.2.1 + 1)), y1001.2.2.2.2.2.1, y1001.2.2.2.2.2.2.1, y1001.2.2.2.2.2.2.2))) none) else none) else none)
  (some (.leave (s5, s6, b2, b3, b4)))
def za1.r0 (N : Nat) (x : (List Int) × Int × ref01_Long × ref01_Long × ref01_Long) := za1.b0 N x.1 x.2.1 x.2.2.1 x.2.2.2.1 x.2.2.2.2
def za1 (N : Nat) (a0 : ref01_Long) (a1 : ref01_Long) : Option ref01_Long :=
 (zl (za1.r0 N) N ([], 0, a0, a1, (⟨false, []⟩ : ref01_Long))).bind fun y1 => (zbv N y1.1).bind fun r2 => (cond (!(y1.2.2.1.Below == y1.2.2.2.1.Below))
  (some (decide ((r2.length : Int) > 0))) (some false)).bind fun g3 => some (⟨g3, r2⟩ : ref01_Long)
def za1.k (N : Nat) : Kq := ⟨313, (cvv [Ty.ref01_Long] [Ty.ref01_Long, Ty.ref01_Long] (za1 N)), go [zch.k N, zbv.k N] {lits := [53]} [(2, .plain { slots := [(2, .ptr 2 0), (3, .ptr 3 0), (4, .ptr 4 0), (5, .val (Ty.sl T6)), (6, .val T6), (7, .own 5000007 T6), (8, .val T6), (9, .val T6)], boxes := [(2, Ty.ref01_Long, []), (3, Ty.ref01_Long, []), (4, Ty.ref01_Long, [1])] } [(Ty.sl T6), T6, (Ty.sl T6), T6, T6, Ty.ref01_Long, Ty.ref01_Long, Ty.ref01_Long] (zl (za1.r2 N) N)), (0, .plain { slots := [(2, .ptr 2 0), (3, .ptr 3 0), (4, .ptr 4 0), (5, .val (Ty.sl T6)), (6, .val T6)], boxes := [(2, Ty.ref01_Long, []), (3, Ty.ref01_Long, []), (4, Ty.ref01_Long, [1])] } [(Ty.sl T6), T6, Ty.ref01_Long, Ty.ref01_Long, Ty.ref01_Long] (zl (za1.r0 N) N))] Proofs.Tryz.func313 (hL := ⟨⟨_, _, rfl, by kernel_rfl⟩, ⟨_, _, rfl, by kernel_rfl⟩, trivial⟩)⟩
def zk9 (N : Nat) (a0 : Int) (a1 : Number) (a2 : Number) : Option (ref01_Fraction × Int) :=
 (zgw N a1 a2).bind fun r1 => (cond (a0 == 3) (some true) (some (a0 == 4))).bind fun g2 => (cond g2 (some ((r1.2.1.Digits.length : Int) == 0))
  (some false)).bind fun g3 => cond g3 (some ((⟨(⟨false, []⟩ : ref01_Long), []⟩ : ref01_Fraction), 20)) (cond (a0 == 1) ((cond (!r1.2.1.Below)
  (some (decide ((r1.2.1.Digits.length : Int) > 0))) (some false)).bind fun g4 => (zjc N r1.1 (⟨g4, r1.2.1.Digits⟩ : ref01_Long)).bind fun r5 =>
  (zfy r1.2.2).bind fun r6 => some ((⟨r5, r6⟩ : ref01_Fraction), 0)) (cond (a0 == 2) ((za1 N r1.1 r1.2.1).bind fun r7 =>
  (zfy (w6 (2 * r1.2.2))).bind fun r8 => some ((⟨r7, r8⟩ : ref01_Fraction), 0)) (cond (a0 == 3)
  (some ((⟨(⟨(!(r1.1.Below == r1.2.1.Below)), r1.1.Digits⟩ : ref01_Long), r1.2.1.Digits⟩ : ref01_Fraction), 0)) (cond (a0 == 4)
  ((zas N r1.1.Digits r1.2.1.Digits).bind fun r9 => (zfy r1.2.2).bind fun r10 => some ((⟨(⟨r1.1.Below, r9.2⟩ : ref01_Long), r10⟩ : ref01_Fraction), 0))
  ((zjc N r1.1 r1.2.1).bind fun r11 => (zfy r1.2.2).bind fun r12 => some ((⟨r11, r12⟩ : ref01_Fraction), 0))))))
def zk9.k (N : Nat) : Kq := ⟨264, (cvv [Ty.ref01_Fraction, T6] [T6, Ty.Number, Ty.Number] (zk9 N)), go [zgw.k N, zjc.k N, zfy.k, za1.k N, zas.k N] {} [] Proofs.Tryz.func264⟩
def zc9 (N : Nat) (a0 : ref01_Request) (a1 : Number) (a2 : Number) : Option (Value × Int) :=
 (zg a0.Op 0 4).bind fun r1 => cond (!r1) (some ((⟨0, (⟨#[]⟩ : ByteArray)⟩ : Value), 4)) ((zb7 a1).bind fun r2 => cond (r2 != 0)
  (some ((⟨0, (⟨#[]⟩ : ByteArray)⟩ : Value), r2)) ((zb7 a2).bind fun r3 => cond (r3 != 0) (some ((⟨0, (⟨#[]⟩ : ByteArray)⟩ : Value), r3))
  ((ze8 a0.Type_).bind fun r4 => cond (r4 != 0) (some ((⟨0, (⟨#[]⟩ : ByteArray)⟩ : Value), r4)) ((zk9 N a0.Op (⟨a1.N, a1.Scale⟩ : Number) a2).bind fun r5 =>
  cond (r5.2 != 0) (some ((⟨0, (⟨#[]⟩ : ByteArray)⟩ : Value), r5.2)) ((zic N r5.1 (⟨a0.Type_.Kind, a0.Type_.Length, a0.Type_.Scale⟩ : DataType) a0.Half).bind fun r6 =>
  some ((⟨r6.1, (⟨#[]⟩ : ByteArray)⟩ : Value), r6.2))))))
def zc9.k (N : Nat) : Kq := ⟨200, (cvv [Ty.Value, T6] [Ty.ref01_Request, Ty.Number, Ty.Number] (zc9 N)), go [zg.k, zb7.k, ze8.k, zic.k N, zk9.k N] {} [] Proofs.Tryz.func200⟩
def zln (N : Nat) (a0 : HwState) (a1 : HwInstruction) : Option (Int × HwState) :=
 cond (a1.Op == 0) ((zfx N a0 a1.Place a1.Type_).bind fun r1 => cond (r1.2 != 0) (some (r1.2, a0))
  (if 0 ≤ a1.R then (if a1.R < (a0.Registers.length : Int) then ((a0.Registers[a1.R.toNat]?).bind fun x2 =>
  some (0, (⟨(a0.Registers.set a1.R.toNat r1.1), a0.Condition, a0.Storage, a0.At, a0.Stack, a0.Lines, a0.Status, a0.Exception, a0.Marks, a0.Steps⟩ : HwState))) else none) else none))
  (cond (a1.Op == 1) (if 0 ≤ a1.R then (if a1.R < (a0.Registers.length : Int) then ((a0.Registers[a1.R.toNat]?).bind fun x3 => (zgn N x3 a1.Type_ a1.Half).bind fun r4 =>
  cond (r4.2 != 0) (some (2, a0)) ((zau a1.Type_).bind fun r5 => (zbl N a0 a1.Place r5).bind fun r6 => cond (r6.2 != 0) (some (r6.2, a0))
  ((zav N a1.Type_ r4.1).bind fun r7 => (za6 N a0.Storage r6.1 r7).bind fun r8 =>
  some (0, (⟨a0.Registers, a0.Condition, r8, a0.At, a0.Stack, a0.Lines, a0.Status, a0.Exception, a0.Marks, a0.Steps⟩ : HwState))))) else none) else none) (cond (a1.Op == 2)
  (if 0 ≤ a1.R then (if a1.R < (a0.Registers.length : Int) then ((a0.Registers[a1.R.toNat]?).bind fun x9 =>
  some (0, (⟨(a0.Registers.set a1.R.toNat a1.Number), a0.Condition, a0.Storage, a0.At, a0.Stack, a0.Lines, a0.Status, a0.Exception, a0.Marks, a0.Steps⟩ : HwState))) else none) else none)
  (cond (a1.Op == 3) (if 0 ≤ a1.A then (if a1.A < (a0.Registers.length : Int) then ((a0.Registers[a1.A.toNat]?).bind fun x10 =>
  if 0 ≤ a1.R then (if a1.R < (a0.Registers.length : Int) then ((a0.Registers[a1.R.toNat]?).bind fun x11 =>
  some (0, (⟨(a0.Registers.set a1.R.toNat x10), a0.Condition, a0.Storage, a0.At, a0.Stack, a0.Lines, a0.Status, a0.Exception, a0.Marks, a0.Steps⟩ : HwState))) else none) else none) else none) else none)
  (cond (a1.Op == 5) (if 0 ≤ a1.A then (if a1.A < (a0.Registers.length : Int) then ((a0.Registers[a1.A.toNat]?).bind fun x12 =>
  if 0 ≤ a1.B then (if a1.B < (a0.Registers.length : Int) then ((a0.Registers[a1.B.toNat]?).bind fun x13 => (zgl N x12 x13).bind fun r14 =>
  (zc7 r14).bind fun r15 =>
  some (0, (⟨a0.Registers, r15, a0.Storage, a0.At, a0.Stack, a0.Lines, a0.Status, a0.Exception, a0.Marks, a0.Steps⟩ : HwState))) else none) else none) else none) else none)
  (cond (a1.Op == 21) (if 0 ≤ a1.R then (if a1.R < (a0.Registers.length : Int) then ((a0.Registers[a1.R.toNat]?).bind fun x16 =>
  some (0, (⟨(a0.Registers.set a1.R.toNat (⟨a0.Exception, 0⟩ : Number)), a0.Condition, a0.Storage, a0.At, a0.Stack, a0.Lines, a0.Status, a0.Exception, a0.Marks, a0.Steps⟩ : HwState))) else none) else none)
  (cond (a1.Op == 4) (cond a1.InStorage ((zfx N a0 a1.Place a1.Second).bind fun r17 => cond (r17.2 != 0) (some (r17.2, a0))
  (if 0 ≤ a1.A then (if a1.A < (a0.Registers.length : Int) then ((a0.Registers[a1.A.toNat]?).bind fun x18 =>
  (zc9 N (⟨a1.Calculation, a1.Type_, false⟩ : ref01_Request) x18 r17.1).bind fun r19 => cond (r19.2 == 20) (some (3, a0)) (cond (r19.2 != 0) (some (2, a0))
  (if 0 ≤ a1.R then (if a1.R < (a0.Registers.length : Int) then ((a0.Registers[a1.R.toNat]?).bind fun x20 =>
  some (0, (⟨(a0.Registers.set a1.R.toNat (⟨r19.1.N, a1.Type_.Scale⟩ : Number)), a0.Condition, a0.Storage, a0.At, a0.Stack, a0.Lines, a0.Status, a0.Exception, a0.Marks, a0.Steps⟩ : HwState))) else none) else none))) else none) else none))
  (if 0 ≤ a1.B then (if a1.B < (a0.Registers.length : Int) then ((a0.Registers[a1.B.toNat]?).bind fun x21 =>
  if 0 ≤ a1.A then (if a1.A < (a0.Registers.length : Int) then ((a0.Registers[a1.A.toNat]?).bind fun x22 =>
  (zc9 N (⟨a1.Calculation, a1.Type_, false⟩ : ref01_Request) x22 x21).bind fun r23 => cond (r23.2 == 20) (some (3, a0)) (cond (r23.2 != 0) (some (2, a0))
  (if 0 ≤ a1.R then (if a1.R < (a0.Registers.length : Int) then ((a0.Registers[a1.R.toNat]?).bind fun x24 =>
  some (0, (⟨(a0.Registers.set a1.R.toNat (⟨r23.1.N, a1.Type_.Scale⟩ : Number)), a0.Condition, a0.Storage, a0.At, a0.Stack, a0.Lines, a0.Status, a0.Exception, a0.Marks, a0.Steps⟩ : HwState))) else none) else none))) else none) else none) else none) else none))
  (some (0, a0))))))))
def zln.k (N : Nat) : Kq := ⟨133, (ctv [.ptr Ty.HwState true [0, 5, 6], .val Ty.HwInstruction] [T6] [Ty.HwState] [] [Ty.HwState, Ty.HwInstruction] (zln N)), go [zau.k, zc7.k, zgl.k N, zav.k N, zbl.k N, za6.k N, zfx.k N, zgn.k N, zc9.k N] {lits := [70, 86, 137], pk := [1000000]} [] Proofs.Tryz.func133⟩
end
end Go.Proofs.YtppbpnknfigboaaGreatDoor.M
