/- What the program's functions compute, each tied to its code: part 1. -/
import Derived.Test.YtppbpnknfigboaaGreatDoorF0
namespace Go.Proofs.YtppbpnknfigboaaGreatDoor.M
open Go Go.Amx
set_option linter.unusedVariables false
set_option maxRecDepth 100000
noncomputable section
def zet (a0 : Number) : Option (ByteArray × Int) :=
 (zaq a0).bind fun r1 => cond (r1 != 0) (some ((⟨#[]⟩ : ByteArray), r1))
  ((zys (if (w6 (0 - a0.N)) > a0.N then (w6 (0 - a0.N)) else a0.N)).bind fun r2 => cond (decide ((r2.size : Int) ≤ a0.Scale))
  ((zoq (⟨#[48]⟩ : ByteArray) (w6 ((w6 (a0.Scale + 1)) - (r2.size : Int)))).bind fun r3 =>
  if ((r3.size + r2.size : Nat) : Int) > IntKind.i64.max then none else cond (decide (a0.Scale > 0))
  (if 0 ≤ (w6 (((r3 ++ r2).size : Int) - a0.Scale)) ∧ (w6 (((r3 ++ r2).size : Int) - a0.Scale)) ≤ ((r3 ++ r2).size : Int) then (if 0 ≤ (0 : Int) ∧ (0 : Int) ≤ (w6 (((r3 ++ r2).size : Int) - a0.Scale)) then (if ((((r3 ++ r2).extract (0 : Int).toNat (w6 (((r3 ++ r2).size : Int) - a0.Scale)).toNat).size + (⟨#[46]⟩ : ByteArray).size : Nat) : Int) > IntKind.i64.max then none else if 0 ≤ (w6 (((r3 ++ r2).size : Int) - a0.Scale)) ∧ (w6 (((r3 ++ r2).size : Int) - a0.Scale)) ≤ ((r3 ++ r2).size : Int) then (if (((((r3 ++ r2).extract (0 : Int).toNat (w6 (((r3 ++ r2).size : Int) - a0.Scale)).toNat) ++ (⟨#[46]⟩ : ByteArray)).size + ((r3 ++ r2).extract (w6 (((r3 ++ r2).size : Int) - a0.Scale)).toNat (r3 ++ r2).size).size : Nat) : Int) > IntKind.i64.max then none else cond (decide (a0.N < 0))
  (if (((⟨#[45]⟩ : ByteArray).size + ((((r3 ++ r2).extract (0 : Int).toNat (w6 (((r3 ++ r2).size : Int) - a0.Scale)).toNat) ++ (⟨#[46]⟩ : ByteArray)) ++ ((r3 ++ r2).extract (w6 (((r3 ++ r2).size : Int) - a0.Scale)).toNat (r3 ++ r2).size)).size : Nat) : Int) > IntKind.i64.max then none else some (((⟨#[45]⟩ : ByteArray) ++ ((((r3 ++ r2).extract (0 : Int).toNat (w6 (((r3 ++ r2).size : Int) - a0.Scale)).toNat) ++ (⟨#[46]⟩ : ByteArray)) ++ ((r3 ++ r2).extract (w6 (((r3 ++ r2).size : Int) - a0.Scale)).toNat (r3 ++ r2).size))), 0))
  (some (((((r3 ++ r2).extract (0 : Int).toNat (w6 (((r3 ++ r2).size : Int) - a0.Scale)).toNat) ++ (⟨#[46]⟩ : ByteArray)) ++ ((r3 ++ r2).extract (w6 (((r3 ++ r2).size : Int) - a0.Scale)).toNat (r3 ++ r2).size)), 0))) else none) else none) else none)
  (cond (decide (a0.N < 0)) (if (((⟨#[45]⟩ : ByteArray).size + (r3 ++ r2).size : Nat) : Int) > IntKind.i64.max then none else some (((⟨#[45]⟩ : ByteArray) ++ (r3 ++ r2)), 0))
  (some ((r3 ++ r2), 0)))) (cond (decide (a0.Scale > 0))
  (if 0 ≤ (w6 ((r2.size : Int) - a0.Scale)) ∧ (w6 ((r2.size : Int) - a0.Scale)) ≤ (r2.size : Int) then (if 0 ≤ (0 : Int) ∧ (0 : Int) ≤ (w6 ((r2.size : Int) - a0.Scale)) then (if (((r2.extract (0 : Int).toNat (w6 ((r2.size : Int) - a0.Scale)).toNat).size + (⟨#[46]⟩ : ByteArray).size : Nat) : Int) > IntKind.i64.max then none else if 0 ≤ (w6 ((r2.size : Int) - a0.Scale)) ∧ (w6 ((r2.size : Int) - a0.Scale)) ≤ (r2.size : Int) then (if ((((r2.extract (0 : Int).toNat (w6 ((r2.size : Int) - a0.Scale)).toNat) ++ (⟨#[46]⟩ : ByteArray)).size + (r2.extract (w6 ((r2.size : Int) - a0.Scale)).toNat r2.size).size : Nat) : Int) > IntKind.i64.max then none else cond (decide (a0.N < 0))
  (if (((⟨#[45]⟩ : ByteArray).size + (((r2.extract (0 : Int).toNat (w6 ((r2.size : Int) - a0.Scale)).toNat) ++ (⟨#[46]⟩ : ByteArray)) ++ (r2.extract (w6 ((r2.size : Int) - a0.Scale)).toNat r2.size)).size : Nat) : Int) > IntKind.i64.max then none else some (((⟨#[45]⟩ : ByteArray) ++ (((r2.extract (0 : Int).toNat (w6 ((r2.size : Int) - a0.Scale)).toNat) ++ (⟨#[46]⟩ : ByteArray)) ++ (r2.extract (w6 ((r2.size : Int) - a0.Scale)).toNat r2.size))), 0))
  (some ((((r2.extract (0 : Int).toNat (w6 ((r2.size : Int) - a0.Scale)).toNat) ++ (⟨#[46]⟩ : ByteArray)) ++ (r2.extract (w6 ((r2.size : Int) - a0.Scale)).toNat r2.size)), 0))) else none) else none) else none)
  (cond (decide (a0.N < 0)) (if (((⟨#[45]⟩ : ByteArray).size + r2.size : Nat) : Int) > IntKind.i64.max then none else some (((⟨#[45]⟩ : ByteArray) ++ r2), 0)) (some (r2, 0)))))
def zet.k : Kq := ⟨221, (cvv [Ty.str, T6] [Ty.Number] zet), go [zaq.k, zxl.k, zz0.k] {lits := [16]} [] Proofs.Tryz.func221⟩
def zz1 : Ct U := { params := [.val (Ty.sl Ty.str)], results := [(Ty.sl Ty.str)], outs := [], fresh := [0], fn := app U [(Ty.sl Ty.str)] (R := PT U [(Ty.sl Ty.str)]) (zed 16) }
theorem zz1.meets : zh8 (zsq [] [] [] [] [] [] [] []) 222 zz1 :=
 zpl zwt (zvn (l := []) rfl zdg) (zuu (l := []) rfl zdg) (Lp := pick []) Proofs.Tryz.func222 (by kernel_rfl) (zvr (l := []) rfl zdg) (fun y => by kernel_rfl) (e := 9) (t := Ty.str) rfl rfl rfl rfl rfl rfl rfl (by kernel_rfl) rfl rfl rfl rfl rfl rfl (fun xs => by kernel_rfl) fun ds y h => by
  obtain ⟨xs, rfl, hx⟩ := z0n h; refine ⟨xs, rfl, fun b hb => ?_⟩; cases b with
  | true =>
   have := hb rfl; subst this; exact Eq.trans (by kernel_rfl) hx
  | false => exact Eq.trans (b := cond (Nat.ble ((0 + xs.length) * 16) zab) (some xs) none) (by kernel_rfl) (by rw [Nat.zero_add]; exact hx)
def zz1.k : Kq := ⟨222, zz1, zz1.meets⟩
def zh7 (N : Nat) (a0 : zD) (a1 : zB) : Option zD :=
 cond (a1.Op == 22) ((idx a0.zA.Registers a1.R).bind fun x1 => (zet x1).bind fun r2 => cond ((a0.zA.Lines.length : Int) == 40)
  (some (⟨(⟨a0.zA.Registers, a0.zA.Condition, a0.zA.Storage, a0.zA.At, a0.zA.Stack, a0.zA.Lines, 3, a0.zA.Exception, a0.zA.Marks, a0.zA.Steps⟩ : zA), a0.code, a0.raised⟩ : zD))
  ((zed 16 a0.zA.Lines).bind fun r3 => cond (Nat.ble ((r3.length + ([r2.1] : List ByteArray).length) * 16) zab)
  (some (⟨(⟨a0.zA.Registers, a0.zA.Condition, a0.zA.Storage, a0.zA.At, a0.zA.Stack, (r3 ++ ([r2.1] : List ByteArray)), a0.zA.Status, a0.zA.Exception, a0.zA.Marks, a0.zA.Steps⟩ : zA), a0.code, a0.raised⟩ : zD)) none))
  (cond (a1.Op == 23) ((zu N a0 a1.Place a1.zF).bind fun r4 => cond (!r4.2.1) (some r4.2.2) (cond ((r4.2.2.zA.Lines.length : Int) == 40)
  (some (⟨(⟨r4.2.2.zA.Registers, r4.2.2.zA.Condition, r4.2.2.zA.Storage, r4.2.2.zA.At, r4.2.2.zA.Stack, r4.2.2.zA.Lines, 3, r4.2.2.zA.Exception, r4.2.2.zA.Marks, r4.2.2.zA.Steps⟩ : zA), r4.2.2.code, r4.2.2.raised⟩ : zD))
  ((zed 16 r4.2.2.zA.Lines).bind fun r5 => cond (Nat.ble ((r5.length + ([r4.1] : List ByteArray).length) * 16) zab)
  (some (⟨(⟨r4.2.2.zA.Registers, r4.2.2.zA.Condition, r4.2.2.zA.Storage, r4.2.2.zA.At, r4.2.2.zA.Stack, (r5 ++ ([r4.1] : List ByteArray)), r4.2.2.zA.Status, r4.2.2.zA.Exception, r4.2.2.zA.Marks, r4.2.2.zA.Steps⟩ : zA), r4.2.2.code, r4.2.2.raised⟩ : zD)) none)))
  (cond ((a0.zA.Lines.length : Int) == 40)
  (some (⟨(⟨a0.zA.Registers, a0.zA.Condition, a0.zA.Storage, a0.zA.At, a0.zA.Stack, a0.zA.Lines, 3, a0.zA.Exception, a0.zA.Marks, a0.zA.Steps⟩ : zA), a0.code, a0.raised⟩ : zD))
  ((zed 16 a0.zA.Lines).bind fun r6 => cond (Nat.ble ((r6.length + ([a1.Text] : List ByteArray).length) * 16) zab)
  (some (⟨(⟨a0.zA.Registers, a0.zA.Condition, a0.zA.Storage, a0.zA.At, a0.zA.Stack, (r6 ++ ([a1.Text] : List ByteArray)), a0.zA.Status, a0.zA.Exception, a0.zA.Marks, a0.zA.Steps⟩ : zA), a0.code, a0.raised⟩ : zD)) none)))
def zh7.k (N : Nat) : Kq := ⟨156, (ctv [.ptr Ty.zD true [], .val Ty.zB] [] [Ty.zD] [] [Ty.zD, Ty.zB] (zh7 N)), go [zu.k N, zet.k, zz1.k] {lits := [44], pk := [1000000]} [] Proofs.Tryz.func156⟩
def zfe (a0 : zD) : Option zD :=
 cond (a0.zA.Marks == 300)
  (some (⟨(⟨a0.zA.Registers, a0.zA.Condition, a0.zA.Storage, a0.zA.At, a0.zA.Stack, a0.zA.Lines, 3, a0.zA.Exception, a0.zA.Marks, a0.zA.Steps⟩ : zA), a0.code, a0.raised⟩ : zD))
  (some (⟨(⟨a0.zA.Registers, a0.zA.Condition, a0.zA.Storage, a0.zA.At, a0.zA.Stack, a0.zA.Lines, a0.zA.Status, a0.zA.Exception, (w6 (a0.zA.Marks + 1)), a0.zA.Steps⟩ : zA), a0.code, a0.raised⟩ : zD))
def zfe.k : Kq := ⟨157, (ctv [.ptr Ty.zD true []] [] [Ty.zD] [] [Ty.zD] zfe), go [] {pk := [1000000]} [] Proofs.Tryz.func157⟩
def zuv : Ct U := { params := [.val (Ty.sl T6)], results := [(Ty.sl T6)], outs := [], fresh := [0], fn := app U [(Ty.sl T6)] (R := PT U [(Ty.sl T6)]) (zed 8) }
theorem zuv.meets : zh8 (zsq [] [] [] [] [] [] [] []) 160 zuv :=
 zpl zwt (zvn (l := []) rfl zdg) (zuu (l := []) rfl zdg) (Lp := pick []) Proofs.Tryz.func160 (by kernel_rfl) (zvr (l := []) rfl zdg) (fun y => by kernel_rfl) (e := 3) (t := T6) rfl rfl rfl rfl rfl rfl rfl (by kernel_rfl) rfl rfl rfl rfl rfl rfl (fun xs => by kernel_rfl) fun ds y h => by
  obtain ⟨xs, rfl, hx⟩ := z0n h; refine ⟨xs, rfl, fun b hb => ?_⟩; cases b with
  | true =>
   have := hb rfl; subst this; exact Eq.trans (by kernel_rfl) hx
  | false => exact Eq.trans (b := cond (Nat.ble ((0 + xs.length) * 8) zab) (some xs) none) (by kernel_rfl) (by rw [Nat.zero_add]; exact hx)
def zuv.k : Kq := ⟨160, zuv, zuv.meets⟩
def zff (a0 : zD) (a1 : Int) : Option (Int × zD) :=
 (zg a0 (decide ((a0.zA.Stack.length : Int) ≥ 6)) 6).bind fun r1 => cond r1.1 ((zed 8 r1.2.zA.Stack).bind fun r2 =>
  cond (Nat.ble ((r2.length + ([r1.2.zA.At] : List Int).length) * 8) zab)
  (some (a1, (⟨(⟨r1.2.zA.Registers, r1.2.zA.Condition, r1.2.zA.Storage, r1.2.zA.At, (r2 ++ ([r1.2.zA.At] : List Int)), r1.2.zA.Lines, r1.2.zA.Status, r1.2.zA.Exception, r1.2.zA.Marks, r1.2.zA.Steps⟩ : zA), r1.2.code, r1.2.raised⟩ : zD))) none)
  (some (a1, r1.2))
def zff.k : Kq := ⟨223, (ctv [.ptr Ty.zD true [], .val T6] [T6] [Ty.zD] [] [Ty.zD, T6] zff), go [zuv.k, zg.k] {lits := [26], pk := [1000000]} [] Proofs.Tryz.func223⟩
def zfg (a0 : zD) : Option (Int × zD) :=
 cond (decide ((w6 ((a0.zA.Stack.length : Int) - 1)) < 0))
  (some (a0.zA.At, (⟨(⟨a0.zA.Registers, a0.zA.Condition, a0.zA.Storage, a0.zA.At, a0.zA.Stack, a0.zA.Lines, 1, a0.zA.Exception, a0.zA.Marks, a0.zA.Steps⟩ : zA), a0.code, a0.raised⟩ : zD)))
  ((idx a0.zA.Stack (w6 ((a0.zA.Stack.length : Int) - 1))).bind fun x1 =>
  if 0 ≤ (w6 ((a0.zA.Stack.length : Int) - 1)) ∧ (w6 ((a0.zA.Stack.length : Int) - 1)) ≤ (a0.zA.Stack.length : Int) then (if 0 ≤ (0 : Int) ∧ (0 : Int) ≤ (w6 ((a0.zA.Stack.length : Int) - 1)) then ((zed 8 ((a0.zA.Stack.take (w6 ((a0.zA.Stack.length : Int) - 1)).toNat).drop (0 : Int).toNat)).bind fun r2 =>
  some ((w6 (x1 + 1)), (⟨(⟨a0.zA.Registers, a0.zA.Condition, a0.zA.Storage, a0.zA.At, r2, a0.zA.Lines, a0.zA.Status, a0.zA.Exception, a0.zA.Marks, a0.zA.Steps⟩ : zA), a0.code, a0.raised⟩ : zD))) else none) else none)
def zfg.k : Kq := ⟨224, (ctv [.ptr Ty.zD true []] [T6] [Ty.zD] [] [Ty.zD] zfg), go [zuv.k] {pk := [1000000]} [] Proofs.Tryz.func224⟩
def zim (N : Nat) (a0 : zD) (a1 : zB) : Option (Int × zD) :=
 cond (a1.Op == 8) (some (a1.Target, a0)) (cond (a1.Op == 18) ((zff a0 a1.Target).bind fun r1 => some (r1.1, r1.2)) (cond (a1.Op == 19)
  ((zfg a0).bind fun r2 => some (r2.1, r2.2)) (cond (a1.Op == 6) (cond ((zh .i64 a0.zA.Condition a1.Mask) != 0) (some (a1.Target, a0))
  (some ((w6 (a0.zA.At + 1)), a0))) (cond (a1.Op == 7) ((zaz N a0 a1).bind fun r3 => cond ((zh .i64 r3 a1.Mask) != 0)
  (some (a1.Target, a0)) (some ((w6 (a0.zA.At + 1)), a0))) (some ((w6 (a0.zA.At + 1)), a0))))))
def zim.k (N : Nat) : Kq := ⟨158, (ctv [.ptr Ty.zD true [], .val Ty.zB] [T6] [Ty.zD] [] [Ty.zD, Ty.zB] (zim N)), go [zaz.k N, zff.k, zfg.k] {pk := [1000000]} [] Proofs.Tryz.func158⟩
def ze (N : Nat) (a0 : zD) (a1 : zB) : Option (Int × zD) :=
 cond (a1.Op == 0) ((zbs N a0 a1.Place a1.zF).bind fun r1 => cond r1.2.1 ((zad r1.2.2 a1.R r1.1).bind fun r2 =>
  some ((w6 (r2.zA.At + 1)), r2)) (some ((w6 (r1.2.2.zA.At + 1)), r1.2.2))) (cond (a1.Op == 1)
  ((ze7 N a0 a1).bind fun r3 => some ((w6 (r3.zA.At + 1)), r3)) (cond (a1.Op == 2) ((zad a0 a1.R a1.Number).bind fun r4 =>
  some ((w6 (r4.zA.At + 1)), r4)) (cond (a1.Op == 3) ((idx a0.zA.Registers a1.A).bind fun x5 => (zad a0 a1.R x5).bind fun r6 =>
  some ((w6 (r6.zA.At + 1)), r6)) (cond (a1.Op == 4) ((zgr N a0 a1).bind fun r7 => some ((w6 (r7.zA.At + 1)), r7))
  (cond (a1.Op == 5) ((zaz N a0 a1).bind fun r8 =>
  some ((w6 (a0.zA.At + 1)), (⟨(⟨a0.zA.Registers, r8, a0.zA.Storage, a0.zA.At, a0.zA.Stack, a0.zA.Lines, a0.zA.Status, a0.zA.Exception, a0.zA.Marks, a0.zA.Steps⟩ : zA), a0.code, a0.raised⟩ : zD)))
  ((cond (a1.Op == 9) (some (a1.Op == 9)) (some (a1.Op == 10))).bind fun q9 => cond q9 ((zgq N a0 a1).bind fun r10 =>
  some ((w6 (r10.zA.At + 1)), r10)) ((cond (a1.Op == 11) (some (a1.Op == 11)) (some (a1.Op == 12))).bind fun q11 =>
  cond q11 ((zfh N a0 a1).bind fun r12 => some ((w6 (r12.zA.At + 1)), r12)) (cond (a1.Op == 13)
  ((zcu a1.Text a1.Other).bind fun r13 =>
  some ((w6 (a0.zA.At + 1)), (⟨(⟨a0.zA.Registers, r13, a0.zA.Storage, a0.zA.At, a0.zA.Stack, a0.zA.Lines, a0.zA.Status, a0.zA.Exception, a0.zA.Marks, a0.zA.Steps⟩ : zA), a0.code, a0.raised⟩ : zD)))
  ((cond (a1.Op == 14) (some (a1.Op == 14)) (cond (a1.Op == 15) (some (a1.Op == 15)) (cond (a1.Op == 16) (some (a1.Op == 16)) (some (a1.Op == 17))))).bind fun q14 =>
  cond q14 ((zgz N a0 a1).bind fun r15 => some ((w6 (r15.zA.At + 1)), r15)) (cond (a1.Op == 20)
  ((zer N a0 a1).bind fun r16 => some ((w6 (r16.zA.At + 1)), r16)) (cond (a1.Op == 21)
  ((zad a0 a1.R (⟨a0.zA.Exception, 0⟩ : Number)).bind fun r17 => some ((w6 (r17.zA.At + 1)), r17)) ((cond (a1.Op == 22)
  (some (a1.Op == 22)) (cond (a1.Op == 23) (some (a1.Op == 23)) (some (a1.Op == 24)))).bind fun q18 => cond q18 ((zh7 N a0 a1).bind fun r19 =>
  some ((w6 (r19.zA.At + 1)), r19)) (cond (a1.Op == 25) ((zfe a0).bind fun r20 => some ((w6 (r20.zA.At + 1)), r20))
  (cond (a1.Op == 26)
  (some ((w6 (a0.zA.At + 1)), (⟨(⟨a0.zA.Registers, a0.zA.Condition, a0.zA.Storage, a0.zA.At, a0.zA.Stack, a0.zA.Lines, 1, a0.zA.Exception, a0.zA.Marks, a0.zA.Steps⟩ : zA), a0.code, a0.raised⟩ : zD)))
  ((zim N a0 a1).bind fun r21 => some (r21.1, r21.2))))))))))))))))
def ze.k (N : Nat) : Kq := ⟨104, (ctv [.ptr Ty.zD true [], .val Ty.zB] [T6] [Ty.zD] [] [Ty.zD, Ty.zB] (ze N)), go [zbs.k N, zad.k, ze7.k N, zgr.k N, zaz.k N, zgq.k N, zfh.k N, zcu.k, zgz.k N, zer.k N, zh7.k N, zfe.k, zim.k N] {pk := [1000000], bj := [71, 77, 94, 119]} [] Proofs.Tryz.func104⟩
def zf8 (a0 : zS) (a1 : Int) (a2 : Int) : Option Bool :=
 (zaa a1 a0.From (w6 (a0.To - 1))).bind fun r1 => (cond r1 ((cond (a0.Exception == 0) (some true) (some (a0.Exception == a2))).bind fun g2 => some g2)
  (some false)).bind fun g3 => some g3
def zf8.k : Kq := ⟨226, (ctv [.val Ty.zS, .ptr T6 false [], .ptr T6 false []] [Ty.bool] [] [] [Ty.zS, T6, T6] zf8), go [zaa.k] {ro := [1000000, 1000001], pk := [1000000, 1000001]} [] Proofs.Tryz.func226⟩
def zo.b0 (N : Nat) (s0 : List zS) (s7 : Int) (s8 : Int) (b1000000 : Int) (b1000001 : Int) : Option (Round Int ((List zS) × Int × Int × Int × Int)) :=
 cond (decide (s8 < s7)) ((idx s0 s8).bind fun x1001 => (zf8 x1001 b1000000 b1000001).bind fun r1002 => cond r1002 (some (.result s8))
  (some (.again (s0, s7, (w6 (s8 + 1)), b1000000, b1000001)))) (some (.leave (s0, s7, s8, b1000000, b1000001)))
def zo.r0 (N : Nat) (x : (List zS) × Int × Int × Int × Int) := zo.b0 N x.1 x.2.1 x.2.2.1 x.2.2.2.1 x.2.2.2.2
def zo (N : Nat) (a0 : List zS) (a1 : Int) (a2 : Int) : Option Int :=
 (zl (zo.r0 N) N (a0, (a0.length : Int), 0, a1, a2)).bind fun z2 => zb9 z2 (fun z => some z) (fun y1 => some (-1))
def zo.k (N : Nat) : Kq := ⟨225, (ctv [.val (Ty.sl Ty.zS), .clo 226 2, .ptr T6 false [], .ptr T6 false []] [T6] [] [] [(Ty.sl Ty.zS), T6, T6] (zo N)), go [zf8.k] {ro := [1000000, 1000001], pk := [1000000, 1000001]} [(0, .rets { slots := [(0, .val (Ty.sl Ty.zS)), (1, .fn 226 [1000000, 1000001]), (7, .val T6), (8, .val T6)], boxes := [(1000000, T6, []), (1000001, T6, [])] } [(Ty.sl Ty.zS), T6, T6, T6, T6] (zl (zo.r0 N) N))] Proofs.Tryz.func225 (hL := ⟨⟨_, _, rfl, by kernel_rfl⟩, trivial⟩)⟩
def zhx (N : Nat) (a0 : zG) (a1 : Int) (a2 : Int) : Option Int :=
 (zo N a0.zO a1 a2).bind fun r1 => cond (decide (r1 < 0)) (some (-1)) ((idx a0.zO r1).bind fun x2 => some x2.Handler)
def zhx.k (N : Nat) : Kq := ⟨159, (cvv [T6] [Ty.zG, T6, T6] (zhx N)), go [zo.k N] {} [] Proofs.Tryz.func159⟩
def zaw.b0 (N : Nat) (b1000000 : zD) : Option (Round zD zD) :=
 (zhx N b1000000.code b1000000.zA.At b1000000.raised).bind fun r1001 => cond (decide (r1001 ≥ 0))
  (some (.result (⟨(⟨b1000000.zA.Registers, b1000000.zA.Condition, b1000000.zA.Storage, r1001, b1000000.zA.Stack, b1000000.zA.Lines, b1000000.zA.Status, b1000000.zA.Exception, b1000000.zA.Marks, b1000000.zA.Steps⟩ : zA), b1000000.code, b1000000.raised⟩ : zD)))
  (cond (decide ((w6 ((b1000000.zA.Stack.length : Int) - 1)) < 0))
  (some (.result (⟨(⟨b1000000.zA.Registers, b1000000.zA.Condition, b1000000.zA.Storage, b1000000.zA.At, b1000000.zA.Stack, b1000000.zA.Lines, 2, b1000000.zA.Exception, b1000000.zA.Marks, b1000000.zA.Steps⟩ : zA), b1000000.code, b1000000.raised⟩ : zD)))
  ((idx b1000000.zA.Stack (w6 ((b1000000.zA.Stack.length : Int) - 1))).bind fun x1002 =>
  if 0 ≤ (w6 ((b1000000.zA.Stack.length : Int) - 1)) ∧ (w6 ((b1000000.zA.Stack.length : Int) - 1)) ≤ (b1000000.zA.Stack.length : Int) then (if 0 ≤ (0 : Int) ∧ (0 : Int) ≤ (w6 ((b1000000.zA.Stack.length : Int) - 1)) then ((zed 8 ((b1000000.zA.Stack.take (w6 ((b1000000.zA.Stack.length : Int) - 1)).toNat).drop (0 : Int).toNat)).bind fun r1003 =>
  some (.again (⟨(⟨b1000000.zA.Registers, b1000000.zA.Condition, b1000000.zA.Storage, x1002, r1003, b1000000.zA.Lines, b1000000.zA.Status, b1000000.zA.Exception, b1000000.zA.Marks, b1000000.zA.Steps⟩ : zA), b1000000.code, b1000000.raised⟩ : zD))) else none) else none))
def zaw.r0 (N : Nat) (x : zD) := zaw.b0 N x
def zaw (N : Nat) (a0 : zD) : Option zD :=
 (zl (zaw.r0 N) N (⟨(⟨a0.zA.Registers, a0.zA.Condition, a0.zA.Storage, a0.zA.At, a0.zA.Stack, a0.zA.Lines, a0.zA.Status, a0.raised, a0.zA.Marks, a0.zA.Steps⟩ : zA), a0.code, a0.raised⟩ : zD)).bind fun z2 =>
  zb9 z2 (fun z => some z) (fun y1 => some y1)
def zaw.k (N : Nat) : Kq := ⟨105, (ctv [.ptr Ty.zD true []] [] [Ty.zD] [] [Ty.zD] (zaw N)), go [zhx.k N, zuv.k] {pk := [1000000]} [(0, .rets { slots := [(0, .ptr 1000000 0)], boxes := [(1000000, Ty.zD, [])] } [Ty.zD] (zl (zaw.r0 N) N))] Proofs.Tryz.func105 (hL := ⟨⟨_, _, rfl, by kernel_rfl⟩, trivial⟩)⟩
def zgp (N : Nat) (a0 : zG) (a1 : zA) : Option zA :=
 (idx a0.zC a1.At).bind fun x1 =>
  (ze N (⟨(⟨a1.Registers, a1.Condition, (⟨a1.Storage.Bytes, a1.Storage.Tags⟩ : Storage), a1.At, a1.Stack, a1.Lines, a1.Status, a1.Exception, a1.Marks, (w6 (a1.Steps + 1))⟩ : zA), (⟨(⟨a0.Storage.Bytes, a0.Storage.Tags⟩ : Storage), a0.zC, a0.zO⟩ : zG), 0⟩ : zD)
  (⟨x1.Op, x1.R, x1.A, x1.B, x1.zK, (⟨x1.Place.Based, x1.Place.Pointer, x1.Place.Offset⟩ : zN), (⟨x1.From.Based, x1.From.Pointer, x1.From.Offset⟩ : zN), (⟨x1.zF.Kind, x1.zF.Length, x1.zF.Scale⟩ : DataType), (⟨x1.Second.Kind, x1.Second.Length, x1.Second.Scale⟩ : DataType), x1.Half, x1.zL, (⟨x1.Number.N, x1.Number.Scale⟩ : Number), x1.Text, x1.Other, x1.Mask, x1.Target, x1.Pointer, x1.Source⟩ : zB)).bind fun r2 =>
  cond (r2.2.raised != 0) ((zaw N r2.2).bind fun r3 => (cond (r3.zA.Status == 0) (some (r3.zA.Steps == 3000)) (some false)).bind fun g4 =>
  cond g4 (some (⟨r3.zA.Registers, r3.zA.Condition, r3.zA.Storage, r3.zA.At, r3.zA.Stack, r3.zA.Lines, 3, r3.zA.Exception, r3.zA.Marks, r3.zA.Steps⟩ : zA))
  (some r3.zA)) (cond (r2.2.zA.Status != 0) ((cond (r2.2.zA.Status == 0) (some (r2.2.zA.Steps == 3000)) (some false)).bind fun g5 =>
  cond g5 (some (⟨r2.2.zA.Registers, r2.2.zA.Condition, r2.2.zA.Storage, r2.2.zA.At, r2.2.zA.Stack, r2.2.zA.Lines, 3, r2.2.zA.Exception, r2.2.zA.Marks, r2.2.zA.Steps⟩ : zA))
  (some r2.2.zA)) (cond (r2.1 == (a0.zC.length : Int))
  (some (⟨r2.2.zA.Registers, r2.2.zA.Condition, r2.2.zA.Storage, r2.2.zA.At, r2.2.zA.Stack, r2.2.zA.Lines, 1, r2.2.zA.Exception, r2.2.zA.Marks, r2.2.zA.Steps⟩ : zA))
  ((cond (r2.2.zA.Status == 0) (some (r2.2.zA.Steps == 3000)) (some false)).bind fun g6 =>
  cond g6 (some (⟨r2.2.zA.Registers, r2.2.zA.Condition, r2.2.zA.Storage, r2.1, r2.2.zA.Stack, r2.2.zA.Lines, 3, r2.2.zA.Exception, r2.2.zA.Marks, r2.2.zA.Steps⟩ : zA))
  (some (⟨r2.2.zA.Registers, r2.2.zA.Condition, r2.2.zA.Storage, r2.1, r2.2.zA.Stack, r2.2.zA.Lines, r2.2.zA.Status, r2.2.zA.Exception, r2.2.zA.Marks, r2.2.zA.Steps⟩ : zA)))))
def zgp.k (N : Nat) : Kq := ⟨59, (cvv [Ty.zA] [Ty.zG, Ty.zA] (zgp N)), go [ze.k N, zaw.k N] {} [] Proofs.Tryz.func59⟩
def zg7.b0 (N : Nat) (b3 : zG) (b4 : zZ) (b6 : zA) : Option (Stp (zG × zZ × zA)) :=
 cond (b6.Status == 0) ((zgp N b3 b6).bind fun r1001 => some (.again (b3, b4, r1001))) (some (.leave (b3, b4, b6)))
def zg7.r0 (N : Nat) (x : zG × zZ × zA) := zg7.b0 N x.1 x.2.1 x.2.2
def zg7 (N : Nat) (a0 : zJ) (a1 : zG) : Option (zZ × Int) :=
 (zmo N (⟨a0.Registers, a0.yA, a0.zX⟩ : zJ) (⟨(⟨a1.Storage.Bytes, a1.Storage.Tags⟩ : Storage), a1.zC, a1.zO⟩ : zG)).bind fun r1 =>
  cond (r1.2 != 0) (some ((⟨[], 0, 0, 0, 0, (⟨(⟨#[]⟩ : ByteArray), []⟩ : Storage)⟩ : zZ), r1.2))
  ((zm (zg7.r0 N) N ((⟨(⟨a1.Storage.Bytes, a1.Storage.Tags⟩ : Storage), a1.zC, a1.zO⟩ : zG), (⟨[], 0, 0, 0, 0, (⟨(⟨#[]⟩ : ByteArray), []⟩ : Storage)⟩ : zZ), r1.1)).bind fun y2 =>
  some ((⟨y2.2.2.Lines, y2.2.2.Status, y2.2.2.Exception, y2.2.2.Marks, y2.2.2.Steps, y2.2.2.Storage⟩ : zZ), 0))
def zg7.k (N : Nat) : Kq := ⟨19, (cvv [Ty.zZ, T6] [Ty.zJ, Ty.zG] (zg7 N)), go [zmo.k N, zgp.k N] {} [(0, .plain { slots := [(3, .ptr 3 0), (4, .ptr 4 0), (6, .ptr 6 0)], boxes := [(3, Ty.zG, []), (4, Ty.zZ, [0, 6]), (6, Ty.zA, [])] } [Ty.zG, Ty.zZ, Ty.zA] (zm (zg7.r0 N) N))] Proofs.Tryz.func19 (hL := ⟨⟨_, _, rfl, by kernel_rfl⟩, trivial⟩)⟩
def zcf.b0 (N : Nat) (s0 : List ByteArray) (s1 : List ByteArray) (s5 : Int) : Option (Round Bool ((List ByteArray) × (List ByteArray) × Int)) :=
 cond (decide (s5 < (s0.length : Int))) ((idx s0 s5).bind fun x1001 => (idx s1 s5).bind fun x1002 => cond (!(x1001.toList == x1002.toList)) (some (.result false))
  (some (.again (s0, s1, (w6 (s5 + 1)))))) (some (.leave (s0, s1, s5)))
def zcf.r0 (N : Nat) (x : (List ByteArray) × (List ByteArray) × Int) := zcf.b0 N x.1 x.2.1 x.2.2
def zcf (N : Nat) (a0 : List ByteArray) (a1 : List ByteArray) : Option Bool :=
 cond ((a0.length : Int) != (a1.length : Int)) (some false) ((zl (zcf.r0 N) N (a0, a1, 0)).bind fun z2 => zb9 z2 (fun z => some z) (fun y1 => some true))
def zcf.k (N : Nat) : Kq := ⟨44, (cvv [Ty.bool] [(Ty.sl Ty.str), (Ty.sl Ty.str)] (zcf N)), go [] {} [(0, .rets { slots := [(0, .val (Ty.sl Ty.str)), (1, .val (Ty.sl Ty.str)), (5, .val T6)], boxes := [] } [(Ty.sl Ty.str), (Ty.sl Ty.str), T6] (zl (zcf.r0 N) N))] Proofs.Tryz.func44 (hL := ⟨⟨_, _, rfl, by kernel_rfl⟩, trivial⟩)⟩
def zm1 (N : Nat)  : Option Bool :=
 (zr1 N).bind fun r1 => (zg7 N (⟨2, false, false⟩ : zJ) (⟨(⟨r1.Storage.Bytes, r1.Storage.Tags⟩ : Storage), r1.zC, r1.zO⟩ : zG)).bind fun r2 =>
  (cond (r2.2 == 0) ((zcf N r2.1.Lines ([(⟨#[50]⟩ : ByteArray)] : List ByteArray)).bind fun r3 => some r3) (some false)).bind fun g4 => (cond g4 (some (r2.1.Status == 1))
  (some false)).bind fun g5 => (cond g5 (some (r2.1.Steps == 4)) (some false)).bind fun g6 => some g6
def zm1.k (N : Nat) : Kq := ⟨12, (cvv [Ty.bool] [] (zm1 N)), go [zg7.k N, zcf.k N, zr1.k N] {lits := [5, 14]} [] Proofs.Tryz.func12⟩
def zeu (a0 : Storage) : Option Bool :=
 (cond (decide ((a0.Bytes.size : Int) ≤ 1072)) (some (decide ((a0.Tags.length : Int) ≤ 67))) (some false)).bind fun g1 => some g1
def zeu.k : Kq := ⟨46, (cvv [Ty.bool] [Ty.Storage] zeu), go [] {} [] Proofs.Tryz.func46⟩
def zfa.b0 (N : Nat) (s3 : Int) (b1 : zG) : Option (Round Bool (Int × zG)) :=
 (cond (decide (s3 < (b1.zC.length : Int))) (some (decide (s3 < 244))) (some false)).bind fun g1001 => cond g1001 ((idx b1.zC s3).bind fun x1002 =>
  (cond (decide ((x1002.Text.size : Int) > 300)) (some true) ((idx b1.zC s3).bind fun x1003 => some (decide ((x1003.Other.size : Int) > 300)))).bind fun g1004 =>
  cond g1004 (some (.result false)) (some (.again ((w6 (s3 + 1)), b1)))) (some (.leave (s3, b1)))
def zfa.r0 (N : Nat) (x : Int × zG) := zfa.b0 N x.1 x.2
def zfa (N : Nat) (a0 : zG) : Option Bool :=
 (zl (zfa.r0 N) N (0, a0)).bind fun z2 => zb9 z2 (fun z => some z) (fun y1 => (zeu y1.2.Storage).bind fun r3 =>
  (cond r3 (some (decide ((y1.2.zC.length : Int) < 244))) (some false)).bind fun g4 => (cond g4 (some (decide ((y1.2.zO.length : Int) < 44)))
  (some false)).bind fun g5 => some g5)
def zfa.k (N : Nat) : Kq := ⟨13, (cvv [Ty.bool] [Ty.zG] (zfa N)), go [zeu.k] {} [(0, .rets { slots := [(1, .ptr 1 0), (3, .val T6)], boxes := [(1, Ty.zG, [])] } [T6, Ty.zG] (zl (zfa.r0 N) N))] Proofs.Tryz.func13 (hL := ⟨⟨_, _, rfl, by kernel_rfl⟩, trivial⟩)⟩
def zcd.b0 (N : Nat) (s3 : Int) (b1 : zA) : Option (Round Bool (Int × zA)) :=
 (cond (decide (s3 < (b1.Lines.length : Int))) (some (decide (s3 < 44))) (some false)).bind fun g1001 => cond g1001 ((idx b1.Lines s3).bind fun x1002 =>
  cond (decide ((x1002.size : Int) > 300)) (some (.result false)) (some (.again ((w6 (s3 + 1)), b1)))) (some (.leave (s3, b1)))
def zcd.r0 (N : Nat) (x : Int × zA) := zcd.b0 N x.1 x.2
def zcd (N : Nat) (a0 : zA) : Option Bool :=
 (zl (zcd.r0 N) N (0, a0)).bind fun z2 => zb9 z2 (fun z => some z) (fun y1 => (zeu y1.2.Storage).bind fun r3 =>
  (cond r3 (some (decide ((y1.2.Registers.length : Int) ≤ 11))) (some false)).bind fun g4 => (cond g4 (some (decide ((y1.2.Stack.length : Int) ≤ 9))) (some false)).bind fun g5 =>
  (cond g5 (some (decide ((y1.2.Lines.length : Int) < 44))) (some false)).bind fun g6 => some g6)
def zcd.k (N : Nat) : Kq := ⟨33, (cvv [Ty.bool] [Ty.zA] (zcd N)), go [zeu.k] {} [(0, .rets { slots := [(1, .ptr 1 0), (3, .val T6)], boxes := [(1, Ty.zA, [])] } [T6, Ty.zA] (zl (zcd.r0 N) N))] Proofs.Tryz.func33 (hL := ⟨⟨_, _, rfl, by kernel_rfl⟩, trivial⟩)⟩
def zh3 (a0 : List Bool) : Option ((List Bool)) :=
 cond (Nat.ble (a0.length * 1) zab) (some a0) none
def zh3.k : Kq := ⟨96, (ctv [.val (Ty.sl Ty.bool)] [(Ty.sl Ty.bool)] [] [0] [(Ty.sl Ty.bool)] zh3), go [] {} [] Proofs.Tryz.func96⟩
def zdi (a0 : Storage) : Option Storage :=
 (zh3 a0.Tags).bind fun r1 => some (⟨a0.Bytes, r1⟩ : Storage)
def zdi.k : Kq := ⟨53, (ctv [.val Ty.Storage] [Ty.Storage] [] [1] [Ty.Storage] zdi), go [zh3.k] {} [] Proofs.Tryz.func53⟩
def zjs (a0 : zG) : Option zG :=
 (zdi (⟨a0.Storage.Bytes, a0.Storage.Tags⟩ : Storage)).bind fun r1 => cond (Nat.ble (a0.zC.length * 224) zab) (cond (Nat.ble (a0.zO.length * 32) zab)
  (some (⟨r1, a0.zC, a0.zO⟩ : zG)) none) none
def zjs.k : Kq := ⟨15, (cvv [Ty.zG] [Ty.zG] zjs), go [zdi.k] {} [] Proofs.Tryz.func15⟩
def zjv (a0 : List Int) : Option ((List Int)) :=
 cond (Nat.ble (a0.length * 8) zab) (some a0) none
def zjv.k : Kq := ⟨72, (ctv [.val (Ty.sl T6)] [(Ty.sl T6)] [] [0] [(Ty.sl T6)] zjv), go [] {} [] Proofs.Tryz.func72⟩
def zh2 (a0 : List ByteArray) : Option ((List ByteArray)) :=
 cond (Nat.ble (a0.length * 16) zab) (some a0) none
def zh2.k : Kq := ⟨83, (ctv [.val (Ty.sl Ty.str)] [(Ty.sl Ty.str)] [] [0] [(Ty.sl Ty.str)] zh2), go [] {} [] Proofs.Tryz.func83⟩
def zib (a0 : zA) : Option zA :=
 cond (Nat.ble (a0.Registers.length * 16) zab) ((zdi a0.Storage).bind fun r1 => (zjv a0.Stack).bind fun r2 => (zh2 a0.Lines).bind fun r3 =>
  some { a0 with Storage := r1, Stack := r2, Lines := r3 }) none
def zib.k : Kq := ⟨39, (ctv [.val Ty.zA] [Ty.zA] [] [0, 5, 6] [Ty.zA] zib), go [zdi.k, zjv.k, zh2.k] {} [] Proofs.Tryz.func39⟩
def ze8 (a0 : Int) (a1 : Int) (a2 : zG) : Option Bool :=
 (zaa a0 0 (w6 (a1 - 1))).bind fun r1 => (cond (!r1) (some true) ((idx a2.zC a0).bind fun x2 => some (x2.Op != 18))).bind fun g3 => some g3
def ze8.k : Kq := ⟨79, (ctv [.val T6, .ptr T6 false [], .ptr Ty.zG false []] [Ty.bool] [] [] [T6, T6, Ty.zG] ze8), go [zaa.k] {ro := [1000000, 1000001], pk := [1000000, 1000001]} [] Proofs.Tryz.func79⟩
def zam.b0 (N : Nat) (s0 : List Int) (s7 : Int) (s8 : Int) (b1000000 : Int) (b1000001 : zG) : Option (Round Int ((List Int) × Int × Int × Int × zG)) :=
 cond (decide (s8 < s7)) ((idx s0 s8).bind fun x1001 => (ze8 x1001 b1000000 b1000001).bind fun r1002 => cond r1002 (some (.result s8))
  (some (.again (s0, s7, (w6 (s8 + 1)), b1000000, b1000001)))) (some (.leave (s0, s7, s8, b1000000, b1000001)))
def zam.r0 (N : Nat) (x : (List Int) × Int × Int × Int × zG) := zam.b0 N x.1 x.2.1 x.2.2.1 x.2.2.2.1 x.2.2.2.2
def zam (N : Nat) (a0 : List Int) (a1 : Int) (a2 : zG) : Option Int :=
 (zl (zam.r0 N) N (a0, (a0.length : Int), 0, a1, a2)).bind fun z2 => zb9 z2 (fun z => some z) (fun y1 => some (-1))
def zam.k (N : Nat) : Kq := ⟨106, (ctv [.val (Ty.sl T6), .clo 79 2, .ptr T6 false [], .ptr Ty.zG false []] [T6] [] [] [(Ty.sl T6), T6, Ty.zG] (zam N)), go [ze8.k] {ro := [1000000, 1000001], pk := [1000000, 1000001]} [(0, .rets { slots := [(0, .val (Ty.sl T6)), (1, .fn 79 [1000000, 1000001]), (7, .val T6), (8, .val T6)], boxes := [(1000000, T6, []), (1000001, Ty.zG, [])] } [(Ty.sl T6), T6, T6, T6, Ty.zG] (zl (zam.r0 N) N))] Proofs.Tryz.func106 (hL := ⟨⟨_, _, rfl, by kernel_rfl⟩, trivial⟩)⟩
def zdr (N : Nat) (a0 : List Int) (a1 : Int) (a2 : zG) : Option Bool :=
 (zam N a0 a1 a2).bind fun r1 => some (decide (r1 ≥ 0))
def zdr.k (N : Nat) : Kq := ⟨64, (ctv [.val (Ty.sl T6), .clo 79 2, .ptr T6 false [], .ptr Ty.zG false []] [Ty.bool] [] [] [(Ty.sl T6), T6, Ty.zG] (zdr N)), go [zam.k N] {ro := [1000000, 1000001], pk := [1000000, 1000001]} [] Proofs.Tryz.func64⟩
def zgl (a0 : ByteArray) : Option Bool :=
 some (decide ((a0.size : Int) > 256))
def zgl.k : Kq := ⟨81, (cvv [Ty.bool] [Ty.str] zgl), go [] {} [] Proofs.Tryz.func81⟩
def z9.b0 (N : Nat) (s0 : List ByteArray) (s7 : Int) (s8 : Int) : Option (Round Int ((List ByteArray) × Int × Int)) :=
 cond (decide (s8 < s7)) ((idx s0 s8).bind fun x1001 => (zgl x1001).bind fun r1002 => cond r1002 (some (.result s8))
  (some (.again (s0, s7, (w6 (s8 + 1)))))) (some (.leave (s0, s7, s8)))
def z9.r0 (N : Nat) (x : (List ByteArray) × Int × Int) := z9.b0 N x.1 x.2.1 x.2.2
def z9 (N : Nat) (a0 : List ByteArray) : Option Int :=
 (zl (z9.r0 N) N (a0, (a0.length : Int), 0)).bind fun z2 => zb9 z2 (fun z => some z) (fun y1 => some (-1))
def z9.k (N : Nat) : Kq := ⟨120, (ctv [.val (Ty.sl Ty.str), .clo 81 0] [T6] [] [] [(Ty.sl Ty.str)] (z9 N)), go [zgl.k] {} [(0, .rets { slots := [(0, .val (Ty.sl Ty.str)), (1, .fn 81 []), (7, .val T6), (8, .val T6)], boxes := [] } [(Ty.sl Ty.str), T6, T6] (zl (z9.r0 N) N))] Proofs.Tryz.func120 (hL := ⟨⟨_, _, rfl, by kernel_rfl⟩, trivial⟩)⟩
def zcq (N : Nat) (a0 : List ByteArray) : Option Bool :=
 (z9 N a0).bind fun r1 => some (decide (r1 ≥ 0))
def zcq.k (N : Nat) : Kq := ⟨80, (ctv [.val (Ty.sl Ty.str), .clo 81 0] [Ty.bool] [] [] [(Ty.sl Ty.str)] (zcq N)), go [z9.k N] {} [] Proofs.Tryz.func80⟩
def zbh.b0 (N : Nat) (s6 : List Int) (s18 : List Bool) (s19 : Int) (s20 : Int) : Option (Stp ((List Int) × (List Bool) × Int × Int)) :=
 cond (decide (s20 < s19)) ((idx s18 s20).bind fun x1001 => cond x1001 (cond (Nat.ble ((s6.length + ([(w6 (s20 * 16))] : List Int).length) * 8) zab)
  (some (.again ((s6 ++ ([(w6 (s20 * 16))] : List Int)), s18, s19, (w6 (s20 + 1))))) none)
  (some (.again (s6, s18, s19, (w6 (s20 + 1)))))) (some (.leave (s6, s18, s19, s20)))
def zbh.r0 (N : Nat) (x : (List Int) × (List Bool) × Int × Int) := zbh.b0 N x.1 x.2.1 x.2.2.1 x.2.2.2
def zbh (N : Nat) (a0 : Storage) : Option ((List Int) × Int) :=
 (zp N a0).bind fun r1 => cond (r1.2 != 0) (some ([], r1.2)) ((zm (zbh.r0 N) N ([], a0.Tags, (a0.Tags.length : Int), 0)).bind fun y2 =>
  some (y2.1, 0))
def zbh.k (N : Nat) : Kq := ⟨121, (cvv [(Ty.sl T6), T6] [Ty.Storage] (zbh N)), go [zp.k N] {lits := [29]} [(0, .plain { slots := [(6, .own 5000006 T6), (18, .val (Ty.sl Ty.bool)), (19, .val T6), (20, .val T6)], boxes := [] } [(Ty.sl T6), (Ty.sl Ty.bool), T6, T6] (zm (zbh.r0 N) N))] Proofs.Tryz.func121 (hL := ⟨⟨_, _, rfl, by kernel_rfl⟩, trivial⟩)⟩
def zgk (N : Nat) (a0 : Int) (a1 : Storage) : Option Bool :=
 (zc8 N a1 a0).bind fun r1 => (cond (r1.1.Kind != 0) (some true) (some (r1.1.Address.zY != 1))).bind fun g2 => some g2
def zgk.k (N : Nat) : Kq := ⟨122, (ctv [.val T6, .ptr Ty.Storage false []] [Ty.bool] [] [] [T6, Ty.Storage] (zgk N)), go [zc8.k N] {ro := [1000000], pk := [1000000]} [] Proofs.Tryz.func122⟩
def zaj.b0 (N : Nat) (s0 : List Int) (s7 : Int) (s8 : Int) (b1000000 : Storage) : Option (Round Int ((List Int) × Int × Int × Storage)) :=
 cond (decide (s8 < s7)) ((idx s0 s8).bind fun x1001 => (zgk N x1001 b1000000).bind fun r1002 => cond r1002 (some (.result s8))
  (some (.again (s0, s7, (w6 (s8 + 1)), b1000000)))) (some (.leave (s0, s7, s8, b1000000)))
def zaj.r0 (N : Nat) (x : (List Int) × Int × Int × Storage) := zaj.b0 N x.1 x.2.1 x.2.2.1 x.2.2.2
def zaj (N : Nat) (a0 : List Int) (a1 : Storage) : Option Int :=
 (zl (zaj.r0 N) N (a0, (a0.length : Int), 0, a1)).bind fun z2 => zb9 z2 (fun z => some z) (fun y1 => some (-1))
def zaj.k (N : Nat) : Kq := ⟨106, (ctv [.val (Ty.sl T6), .clo 122 1, .ptr Ty.Storage false []] [T6] [] [] [(Ty.sl T6), Ty.Storage] (zaj N)), go [zgk.k N] {ro := [1000000], pk := [1000000]} [(0, .rets { slots := [(0, .val (Ty.sl T6)), (1, .fn 122 [1000000]), (7, .val T6), (8, .val T6)], boxes := [(1000000, Ty.Storage, [])] } [(Ty.sl T6), T6, T6, Ty.Storage] (zl (zaj.r0 N) N))] Proofs.Tryz.func106 (hL := ⟨⟨_, _, rfl, by kernel_rfl⟩, trivial⟩)⟩
def zek (N : Nat) (a0 : List Int) (a1 : Storage) : Option Bool :=
 (zaj N a0 a1).bind fun r1 => some (decide (r1 ≥ 0))
def zek.k (N : Nat) : Kq := ⟨64, (ctv [.val (Ty.sl T6), .clo 122 1, .ptr Ty.Storage false []] [Ty.bool] [] [] [(Ty.sl T6), Ty.Storage] (zek N)), go [zaj.k N] {ro := [1000000], pk := [1000000]} [] Proofs.Tryz.func64⟩
def zf6 (N : Nat) (a0 : zG) (a1 : Storage) : Option Int :=
 cond ((a1.Bytes.size : Int) != (a0.Storage.Bytes.size : Int)) (some 18) ((zp N a1).bind fun r1 => cond (r1.2 != 0) (some r1.2)
  ((zbh N a1).bind fun r2 => (zek N r2.1 a1).bind fun r3 => (zae r3 22).bind fun r4 => some r4))
def zf6.k (N : Nat) : Kq := ⟨82, (cvv [T6] [Ty.zG, Ty.Storage] (zf6 N)), go [zp.k N, zae.k, zek.k N, zbh.k N] {lits := [32]} [] Proofs.Tryz.func82⟩
def zak.b0 (N : Nat) (s32 : List Number) (s33 : Int) (s34 : Int) (b4 : zG) (b5 : zA) : Option (Round Int ((List Number) × Int × Int × zG × zA)) :=
 cond (decide (s34 < s33)) ((idx s32 s34).bind fun x1001 => (zaq x1001).bind fun r1002 => cond (r1002 != 0) (some (.result r1002))
  (some (.again (s32, s33, (w6 (s34 + 1)), b4, b5)))) (some (.leave (s32, s33, s34, b4, b5)))
def zak.r0 (N : Nat) (x : (List Number) × Int × Int × zG × zA) := zak.b0 N x.1 x.2.1 x.2.2.1 x.2.2.2.1 x.2.2.2.2
def zak (N : Nat) (a0 : zJ) (a1 : zG) (a2 : zA) : Option Int :=
 (zev N a0 a1).bind fun r1 => (zae ((a2.Registers.length : Int) != a0.Registers) 6).bind fun r2 => (zr N ([r1, r2] : List Int)).bind fun r3 =>
  cond (r3 != 0) (some r3) ((zl (zak.r0 N) N (a2.Registers, (a2.Registers.length : Int), 0, a1, a2)).bind fun z5 => zb9 z5 (fun z => some z) (fun y4 =>
  (cond (y4.2.2.2.2.Condition == 0) (some true) (some (y4.2.2.2.2.Condition == 1))).bind fun g6 => (cond g6 (some true) (some (y4.2.2.2.2.Condition == 2))).bind fun g7 =>
  (cond g7 (some true) (some (y4.2.2.2.2.Condition == 4))).bind fun g8 =>
  (zdr N y4.2.2.2.2.Stack (y4.2.2.2.1.zC.length : Int) y4.2.2.2.1).bind fun r9 =>
  (zcq N y4.2.2.2.2.Lines).bind fun r10 => (zaa y4.2.2.2.2.Exception 0 999).bind fun r11 =>
  (cond r11 ((zaa y4.2.2.2.2.Marks 0 300).bind fun r12 => some r12) (some false)).bind fun g13 => (cond g13 ((zaa y4.2.2.2.2.Steps 0 3000).bind fun r14 => some r14)
  (some false)).bind fun g15 => (zae (!g8) 3).bind fun r16 => (zf6 N y4.2.2.2.1 y4.2.2.2.2.Storage).bind fun r17 =>
  (zaa y4.2.2.2.2.At 0 (w6 ((y4.2.2.2.1.zC.length : Int) - 1))).bind fun r18 => (zae (!r18) 3).bind fun r19 =>
  (cond (decide ((y4.2.2.2.2.Stack.length : Int) > 6)) (some true) (some (decide ((y4.2.2.2.2.Lines.length : Int) > 40)))).bind fun g20 => (zae g20 2).bind fun r21 =>
  (zae (!(!r9)) 3).bind fun r22 => (zae r10 18).bind fun r23 => (zaa y4.2.2.2.2.Status 0 3).bind fun r24 => (zae (!r24) 4).bind fun r25 =>
  (zae (!g15) 3).bind fun r26 => (zr N ([r16, r17, r19, r21, r22, r23, r25, r26] : List Int)).bind fun r27 => some r27))
def zak.k (N : Nat) : Kq := ⟨38, (cvv [T6] [Ty.zJ, Ty.zG, Ty.zA] (zak N)), go [zr.k N, zae.k, zaa.k, zev.k N, zdr.k N, zaq.k, zcq.k N, zf6.k N] {lits := [18, 25, 26, 88, 92, 99, 110, 113, 115, 120, 123, 124]} [(0, .rets { slots := [(4, .ptr 4 0), (5, .ptr 5 0), (32, .val (Ty.sl Ty.Number)), (33, .val T6), (34, .val T6)], boxes := [(4, Ty.zG, []), (5, Ty.zA, [])] } [(Ty.sl Ty.Number), T6, T6, Ty.zG, Ty.zA] (zl (zak.r0 N) N))] Proofs.Tryz.func38 (hL := ⟨⟨_, _, rfl, by kernel_rfl⟩, trivial⟩)⟩
def zfv (N : Nat) (a0 : zJ) (a1 : zG) (a2 : zA) : Option (zA × Int) :=
 (zak N (⟨a0.Registers, a0.yA, a0.zX⟩ : zJ) (⟨(⟨a1.Storage.Bytes, a1.Storage.Tags⟩ : Storage), a1.zC, a1.zO⟩ : zG)
  (⟨a2.Registers, a2.Condition, a2.Storage, a2.At, a2.Stack, a2.Lines, a2.Status, a2.Exception, a2.Marks, a2.Steps⟩ : zA)).bind fun r1 => (cond (a2.Status != 0) (some true)
  (some (decide (a2.Steps ≥ 3000)))).bind fun g2 => (zae g2 26).bind fun r3 => (zr N ([r1, r3] : List Int)).bind fun r4 => cond (r4 != 0)
  (some ((⟨[], 0, (⟨(⟨#[]⟩ : ByteArray), []⟩ : Storage), 0, [], [], 0, 0, 0, 0⟩ : zA), r4))
  ((zgp N (⟨(⟨a1.Storage.Bytes, a1.Storage.Tags⟩ : Storage), a1.zC, a1.zO⟩ : zG)
  (⟨a2.Registers, a2.Condition, a2.Storage, a2.At, a2.Stack, a2.Lines, a2.Status, a2.Exception, a2.Marks, a2.Steps⟩ : zA)).bind fun r5 => some (r5, 0))
def zfv.k (N : Nat) : Kq := ⟨41, (cvv [Ty.zA, T6] [Ty.zJ, Ty.zG, Ty.zA] (zfv N)), go [zak.k N, zr.k N, zae.k, zgp.k N] {lits := [12, 21, 22]} [] Proofs.Tryz.func41⟩
def zf (a0 : Int) (a1 : Int) (a2 : Int) : Option Bool :=
 (cond (decide (a1 ≤ a0)) (some (decide (a0 ≤ a2))) (some false)).bind fun g1 => some g1
def zf.k : Kq := ⟨57, (cvv [Ty.bool] [T6, T6, T6] zf), go [] {} [] Proofs.Tryz.func57⟩
def zi8 (a0 : zJ) : Option Int :=
 (zf a0.Registers 2 8).bind fun r1 => cond (!r1) (some 3) (some 0)
def zi8.k : Kq := ⟨18, (cvv [T6] [Ty.zJ] zi8), go [zf.k] {} [] Proofs.Tryz.func18⟩
def ziw (a0 : Storage) (a1 : Int) : Option ByteArray :=
 if 0 ≤ (w6 ((w6 (a1 * 16)) + 16)) ∧ (w6 ((w6 (a1 * 16)) + 16)) ≤ (a0.Bytes.size : Int) then (if 0 ≤ (w6 (a1 * 16)) ∧ (w6 (a1 * 16)) ≤ (w6 ((w6 (a1 * 16)) + 16)) then (some (a0.Bytes.extract (w6 (a1 * 16)).toNat (w6 ((w6 (a1 * 16)) + 16)).toNat)) else none) else none
def ziw.k : Kq := ⟨126, (cvv [Ty.str] [Ty.Storage, T6] ziw), go [] {} [] Proofs.Tryz.func126⟩
def zc7.b0 (N : Nat) (s0 : ByteArray) (s1 : Int) (s2 : Int) (s7 : Int) (s8 : Int) : Option (Stp (ByteArray × Int × Int × Int × Int)) :=
 cond (decide (s8 < s2)) ((zg6 s0 (w6 (s1 + s8))).bind fun x1001 =>
  some (.again (s0, s1, s2, (w6 ((w6 (s7 * 256)) + (w6 (x1001.toNat : Int)))), (w6 (s8 + 1)))))
  (some (.leave (s0, s1, s2, s7, s8)))
def zc7.r0 (N : Nat) (x : ByteArray × Int × Int × Int × Int) := zc7.b0 N x.1 x.2.1 x.2.2.1 x.2.2.2.1 x.2.2.2.2
def zc7 (N : Nat) (a0 : ByteArray) (a1 : Int) (a2 : Int) : Option Int :=
 (zm (zc7.r0 N) N (a0, a1, a2, 0, 0)).bind fun y1 => some y1.2.2.2.1
def zc7.k (N : Nat) : Kq := ⟨187, (cvv [T6] [Ty.str, T6, T6] (zc7 N)), go [] {} [(0, .plain { slots := [(0, .val Ty.str), (1, .val T6), (2, .val T6), (7, .val T6), (8, .val T6)], boxes := [] } [Ty.str, T6, T6, T6, T6] (zm (zc7.r0 N) N))] Proofs.Tryz.func187 (hL := ⟨⟨_, _, rfl, by kernel_rfl⟩, trivial⟩)⟩
def zhr (a0 : Pointer) : Option Int :=
 (zf a0.Kind 0 2).bind fun r1 => cond (!r1) (some 4) ((zf a0.Address.zY 0 1099511627775).bind fun r2 => (cond (!r2) (some true)
  ((zf a0.Address.Offset 0 16777215).bind fun r3 => some (!r3))).bind fun g4 => (cond g4 (some true) ((zf a0.Authority 0 1023).bind fun r5 =>
  some (!r5))).bind fun g6 => cond g6 (some 3) ((cond (a0.Kind != 1) (some (a0.Authority != 0)) (some false)).bind fun g7 => cond g7 (some 5) (some 0)))
def zhr.k : Kq := ⟨188, (cvv [T6] [Ty.Pointer] zhr), go [zf.k] {} [] Proofs.Tryz.func188⟩
def zl2 (N : Nat) (a0 : ByteArray) : Option (Pointer × Int) :=
 cond ((a0.size : Int) != 16) (some ((⟨0, (⟨0, 0⟩ : Address), 0⟩ : Pointer), 18)) ((zg6 a0 1).bind fun x1 => cond ((x1.toNat : Int) != 0)
  (some ((⟨0, (⟨0, 0⟩ : Address), 0⟩ : Pointer), 5)) ((zg6 a0 0).bind fun x2 => (zc7 N a0 2 2).bind fun r3 => (zc7 N a0 4 6).bind fun r4 =>
  (zc7 N a0 10 6).bind fun r5 => (zhr (⟨(w6 (x2.toNat : Int)), (⟨r4, r5⟩ : Address), r3⟩ : Pointer)).bind fun r6 => cond (r6 != 0)
  (some ((⟨0, (⟨0, 0⟩ : Address), 0⟩ : Pointer), r6)) (some ((⟨(w6 (x2.toNat : Int)), (⟨r4, r5⟩ : Address), r3⟩ : Pointer), 0))))
def zl2.k (N : Nat) : Kq := ⟨125, (cvv [Ty.Pointer, T6] [Ty.str] (zl2 N)), go [zc7.k N, zhr.k] {} [] Proofs.Tryz.func125⟩
def zdt.b0 (N : Nat) (s4 : Int) (s5 : Int) (b1 : Storage) : Option (Round (Int × Int) (Int × Int × Storage)) :=
 cond (decide (s5 < s4)) ((idx b1.Tags s5).bind fun x1001 => cond x1001 ((ziw b1 s5).bind fun r1002 => (zl2 N r1002).bind fun r1003 => cond (r1003.2 != 0)
  (some (.result (s5, 22))) (some (.again (s4, (w6 (s5 + 1)), b1)))) (some (.again (s4, (w6 (s5 + 1)), b1)))) (some (.leave (s4, s5, b1)))
def zdt.r0 (N : Nat) (x : Int × Int × Storage) := zdt.b0 N x.1 x.2.1 x.2.2
def zdt (N : Nat) (a0 : Storage) : Option (Int × Int) :=
 cond (decide ((a0.Bytes.size : Int) > 1024)) (some (0, 2)) (cond (((a0.Bytes.size : Int).tmod 16) != 0) (some (0, 18))
  (cond ((a0.Tags.length : Int) != (w6 ((a0.Bytes.size : Int).tdiv 16))) (some (0, 6))
  ((zl (zdt.r0 N) N ((w6 ((a0.Bytes.size : Int).tdiv 16)), 0, a0)).bind fun z2 => zb9 z2 (fun z => some z) (fun y1 => some (y1.1, 0)))))
def zdt.k (N : Nat) : Kq := ⟨97, (cvv [T6, T6] [Ty.Storage] (zdt N)), go [zl2.k N, ziw.k] {lits := [39]} [(0, .rets { slots := [(1, .ptr 1 0), (4, .val T6), (5, .val T6)], boxes := [(1, Ty.Storage, [])] } [T6, T6, Ty.Storage] (zl (zdt.r0 N) N))] Proofs.Tryz.func97 (hL := ⟨⟨_, _, rfl, by kernel_rfl⟩, trivial⟩)⟩
def zic (N : Nat) (a0 : Storage) : Option Int :=
 (zdt N (⟨a0.Bytes, a0.Tags⟩ : Storage)).bind fun r1 => some r1.2
def zic.k (N : Nat) : Kq := ⟨54, (cvv [T6] [Ty.Storage] (zic N)), go [zdt.k N] {} [] Proofs.Tryz.func54⟩
def zap.b0 (N : Nat) (s3 : List Int) (s4 : Int) (b1 : Storage) : Option (Stp ((List Int) × Int × Storage)) :=
 cond (decide (s4 < (b1.Tags.length : Int))) ((idx b1.Tags s4).bind fun x1001 =>
  cond x1001 (cond (Nat.ble ((s3.length + ([(w6 (s4 * 16))] : List Int).length) * 8) zab)
  (some (.again ((s3 ++ ([(w6 (s4 * 16))] : List Int)), (w6 (s4 + 1)), b1))) none) (some (.again (s3, (w6 (s4 + 1)), b1))))
  (some (.leave (s3, s4, b1)))
def zap.r0 (N : Nat) (x : (List Int) × Int × Storage) := zap.b0 N x.1 x.2.1 x.2.2
def zap (N : Nat) (a0 : Storage) : Option ((List Int)) :=
 (zm (zap.r0 N) N ([], 0, a0)).bind fun y1 => some y1.1
def zap.k (N : Nat) : Kq := ⟨55, (cvv [(Ty.sl T6)] [Ty.Storage] (zap N)), go [] {lits := [20]} [(0, .plain { slots := [(1, .ptr 1 0), (3, .own 5000003 T6), (4, .val T6)], boxes := [(1, Ty.Storage, [])] } [(Ty.sl T6), T6, Ty.Storage] (zm (zap.r0 N) N))] Proofs.Tryz.func55 (hL := ⟨⟨_, _, rfl, by kernel_rfl⟩, trivial⟩)⟩
def zfx (a0 : zB) : Option zM :=
 cond (a0.Op == 0) (some (⟨true, false, false, true, false, false, false, false, false, false, false, false, false, false, 1, 0⟩ : zM)) (cond (a0.Op == 1)
  (some (⟨true, false, false, true, false, true, false, false, false, false, false, false, false, false, 1, 0⟩ : zM)) (cond (a0.Op == 2)
  (some (⟨true, false, false, false, false, false, true, false, false, false, false, false, false, false, 0, 0⟩ : zM)) (cond (a0.Op == 3)
  (some (⟨true, true, false, false, false, false, false, false, false, false, false, false, false, false, 0, 0⟩ : zM)) (cond (a0.Op == 4)
  (cond a0.zL (some (⟨true, true, false, true, false, false, false, true, false, false, false, false, false, false, 1, 1⟩ : zM))
  (some (⟨true, true, true, false, false, false, false, true, false, false, false, false, false, false, 1, 0⟩ : zM))) (cond (a0.Op == 5)
  (some (⟨false, true, true, false, false, false, false, false, false, false, false, false, false, false, 0, 0⟩ : zM)) (cond (a0.Op == 6)
  (some (⟨false, false, false, false, false, false, false, false, true, true, false, false, false, false, 0, 0⟩ : zM)) (cond (a0.Op == 7)
  (some (⟨false, true, true, false, false, false, false, false, true, true, false, false, false, false, 0, 0⟩ : zM)) ((cond (a0.Op == 8) (some (a0.Op == 8))
  (some (a0.Op == 18))).bind fun q1 => cond q1 (some (⟨false, false, false, false, false, false, false, false, false, true, false, false, false, false, 0, 0⟩ : zM))
  ((cond (a0.Op == 9) (some (a0.Op == 9)) (some (a0.Op == 11))).bind fun q2 =>
  cond q2 (some (⟨false, false, false, true, true, false, false, false, false, false, false, false, false, false, 2, 2⟩ : zM)) ((cond (a0.Op == 10) (some (a0.Op == 10))
  (some (a0.Op == 12))).bind fun q3 => cond q3 (some (⟨false, false, false, true, false, false, false, false, false, false, true, false, false, false, 2, 0⟩ : zM))
  (cond (a0.Op == 13) (some (⟨false, false, false, false, false, false, false, false, false, false, true, true, false, false, 0, 0⟩ : zM)) (cond (a0.Op == 14)
  (some (⟨false, false, false, true, false, false, false, false, false, false, false, false, true, false, 3, 0⟩ : zM)) (cond (a0.Op == 15)
  (some (⟨false, false, false, false, false, false, false, false, false, false, false, false, true, true, 0, 0⟩ : zM)) (cond (a0.Op == 16)
  (some (⟨true, false, false, false, false, false, false, false, false, false, false, false, true, false, 0, 0⟩ : zM)) (cond (a0.Op == 17)
  (some (⟨false, false, false, false, false, false, false, false, false, false, false, false, true, false, 0, 0⟩ : zM)) ((cond (a0.Op == 20) (some (a0.Op == 20))
  (cond (a0.Op == 21) (some (a0.Op == 21)) (some (a0.Op == 22)))).bind fun q4 =>
  cond q4 (some (⟨true, false, false, false, false, false, false, false, false, false, false, false, false, false, 0, 0⟩ : zM)) (cond (a0.Op == 23)
  (some (⟨false, false, false, true, false, false, false, false, false, false, false, false, false, false, 2, 0⟩ : zM)) (cond (a0.Op == 24)
  (some (⟨false, false, false, false, false, false, false, false, false, false, true, false, false, false, 0, 0⟩ : zM))
  (some (⟨false, false, false, false, false, false, false, false, false, false, false, false, false, false, 0, 0⟩ : zM))))))))))))))))))))
def zfx.k : Kq := ⟨98, (cvv [Ty.zM] [Ty.zB] zfx), go [] {bj := [32, 36, 40, 59]} [] Proofs.Tryz.func98⟩
def zi7 (a0 : zB) (a1 : zM) : Option Bool :=
 (cond (!a1.R) (some (a0.R != 0)) (some false)).bind fun g1 => (cond g1 (some true) ((cond (!a1.A) (some (a0.A != 0)) (some false)).bind fun g2 => some g2)).bind fun g3 =>
  (cond g3 (some true) ((cond (!a1.B) (some (a0.B != 0)) (some false)).bind fun g4 => some g4)).bind fun g5 => (cond g5 (some true) ((cond (!a1.zK)
  (some (a0.zK != 0)) (some false)).bind fun g6 => some g6)).bind fun g7 => (cond g7 (some true) ((cond (!a1.Place)
  (some (!(zf3 [(a0.Place.Based == false), (a0.Place.Pointer == 0), (a0.Place.Offset == 0)]))) (some false)).bind fun g8 => some g8)).bind fun g9 => (cond g9 (some true)
  ((cond (!a1.From) (some (!(zf3 [(a0.From.Based == false), (a0.From.Pointer == 0), (a0.From.Offset == 0)]))) (some false)).bind fun g10 => some g10)).bind fun g11 =>
  (cond g11 (some true) ((cond (a1.zF == 0) (some (!(zf3 [(a0.zF.Kind == 0), (a0.zF.Length == 0), (a0.zF.Scale == 0)]))) (some false)).bind fun g12 =>
  some g12)).bind fun g13 => (cond g13 (some true) ((cond (a1.Second == 0) (some (!(zf3 [(a0.Second.Kind == 0), (a0.Second.Length == 0), (a0.Second.Scale == 0)])))
  (some false)).bind fun g14 => some g14)).bind fun g15 => (cond g15 (some true) ((cond (!a1.Half) (some a0.Half) (some false)).bind fun g16 => some g16)).bind fun g17 =>
  (cond g17 (some true) ((cond (a0.Op != 4) (some a0.zL) (some false)).bind fun g18 => some g18)).bind fun g19 => (cond g19 (some true) ((cond (!a1.Number)
  (some (!(zf3 [(a0.Number.N == 0), (a0.Number.Scale == 0)]))) (some false)).bind fun g20 => some g20)).bind fun g21 => (cond g21 (some true) ((cond (!a1.Text)
  (some (!(a0.Text.toList == (⟨#[]⟩ : ByteArray).toList))) (some false)).bind fun g22 => some g22)).bind fun g23 => (cond g23 (some true) ((cond (!a1.Other)
  (some (!(a0.Other.toList == (⟨#[]⟩ : ByteArray).toList))) (some false)).bind fun g24 => some g24)).bind fun g25 => (cond g25 (some true) ((cond (!a1.Mask) (some (a0.Mask != 0))
  (some false)).bind fun g26 => some g26)).bind fun g27 => (cond g27 (some true) ((cond (!a1.Target) (some (a0.Target != 0)) (some false)).bind fun g28 => some g28)).bind fun g29 =>
  (cond g29 (some true) ((cond (!a1.Pointer) (some (a0.Pointer != 0)) (some false)).bind fun g30 => some g30)).bind fun g31 => (cond g31 (some true) ((cond (!a1.Source)
  (some (a0.Source != 0)) (some false)).bind fun g32 => some g32)).bind fun g33 => (cond g33 (some true) ((cond (!a0.Place.Based) (some (a0.Place.Pointer != 0))
  (some false)).bind fun g34 => some g34)).bind fun g35 => (cond g35 (some true) ((cond (!a0.From.Based) (some (a0.From.Pointer != 0)) (some false)).bind fun g36 =>
  some g36)).bind fun g37 => some g37
def zi7.k : Kq := ⟨99, (cvv [Ty.bool] [Ty.zB, Ty.zM] zi7), go [] {} [] Proofs.Tryz.func99⟩
def zlg (a0 : zJ) (a1 : zB) : Option Bool :=
 (cond (a1.Op == 7) (some (!a0.yA)) (some false)).bind fun g1 => (cond g1 (some true) ((cond a1.zL (some (!a0.zX)) (some false)).bind fun g2 =>
  some g2)).bind fun g3 => some g3
def zlg.k : Kq := ⟨67, (cvv [Ty.bool] [Ty.zJ, Ty.zB] zlg), go [] {} [] Proofs.Tryz.func67⟩
def zcs (a0 : Int) : Option Bool :=
 (zf a0 1 3).bind fun r1 => some r1
def zcs.k : Kq := ⟨144, (cvv [Ty.bool] [T6] zcs), go [zf.k] {} [] Proofs.Tryz.func144⟩
def za5 (a0 : Bool) : Option Int :=
 cond a0 (some 1) (some 0)
def za5.k : Kq := ⟨124, (cvv [T6] [Ty.bool] za5), go [] {} [] Proofs.Tryz.func124⟩
def zft (a0 : DataType) : Option Int :=
 (zf a0.Kind 0 4).bind fun r1 => cond (!r1) (some 4) (cond (a0.Kind == 0) ((zf a0.Length 1 256).bind fun r2 => cond (!r2) (some 18)
  ((zcs a0.Kind).bind fun r3 => cond r3 ((zf a0.Scale 0 a0.Length).bind fun r4 => (za5 (!r4)).bind fun r5 => some (w6 (3 * r5)))
  ((zf a0.Scale 0 0).bind fun r6 => (za5 (!r6)).bind fun r7 => some (w6 (3 * r7))))) ((cond (a0.Kind == 1) (some (a0.Kind == 1))
  (some (a0.Kind == 2))).bind fun q8 => cond q8 ((zf a0.Length 1 15).bind fun r9 => cond (!r9) (some 18) ((zcs a0.Kind).bind fun r10 =>
  cond r10 ((zf a0.Scale 0 a0.Length).bind fun r11 => (za5 (!r11)).bind fun r12 => some (w6 (3 * r12))) ((zf a0.Scale 0 0).bind fun r13 =>
  (za5 (!r13)).bind fun r14 => some (w6 (3 * r14))))) (cond (a0.Kind == 3) ((cond (a0.Length == 4) (some true) (some (a0.Length == 9))).bind fun g15 =>
  cond (!g15) (some 18) ((zcs a0.Kind).bind fun r16 => cond r16 ((zf a0.Scale 0 a0.Length).bind fun r17 => (za5 (!r17)).bind fun r18 =>
  some (w6 (3 * r18))) ((zf a0.Scale 0 0).bind fun r19 => (za5 (!r19)).bind fun r20 => some (w6 (3 * r20))))) (cond (!(a0.Length == 0))
  (some 18) ((zcs a0.Kind).bind fun r21 => cond r21 ((zf a0.Scale 0 a0.Length).bind fun r22 => (za5 (!r22)).bind fun r23 =>
  some (w6 (3 * r23))) ((zf a0.Scale 0 0).bind fun r24 => (za5 (!r24)).bind fun r25 => some (w6 (3 * r25))))))))
def zft.k : Kq := ⟨143, (cvv [T6] [Ty.DataType] zft), go [zf.k, za5.k, zcs.k] {bj := [19]} [] Proofs.Tryz.func143⟩
def zin (a0 : DataType) (a1 : Int) : Option Int :=
 cond (a1 == 0) (some 0) ((zft (⟨a0.Kind, a0.Length, a0.Scale⟩ : DataType)).bind fun r1 => cond (r1 != 0) (some r1) ((cond (a1 == 1)
  ((zcs a0.Kind).bind fun r2 => some (!r2)) (some false)).bind fun g3 => (cond g3 (some true) ((cond (a1 == 2) (some (a0.Kind != 0)) (some false)).bind fun g4 =>
  some g4)).bind fun g5 => (cond g5 (some true) ((cond (a1 == 3) (some (a0.Kind == 4)) (some false)).bind fun g6 => some g6)).bind fun g7 => cond g7 (some 17) (some 0)))
def zin.k : Kq := ⟨100, (cvv [T6] [Ty.DataType, T6] zin), go [zft.k, zcs.k] {} [] Proofs.Tryz.func100⟩
def zfl (a0 : zJ) (a1 : Int) : Option Bool :=
 (zf a1 0 (w6 (a0.Registers - 1))).bind fun r1 => some r1
def zfl.k : Kq := ⟨107, (cvv [Ty.bool] [Ty.zJ, T6] zfl), go [zf.k] {} [] Proofs.Tryz.func107⟩
def zfm (a0 : zJ) (a1 : zB) : Option Bool :=
 (zfx a1).bind fun r1 => (cond (!r1.R) (some true) ((zfl a0 a1.R).bind fun r2 => some r2)).bind fun g3 => (cond g3 ((cond (!r1.A) (some true)
  ((zfl a0 a1.A).bind fun r4 => some r4)).bind fun g5 => some g5) (some false)).bind fun g6 => (cond g6 ((cond (!r1.B) (some true)
  ((zfl a0 a1.B).bind fun r7 => some r7)).bind fun g8 => some g8) (some false)).bind fun g9 => some g9
def zfm.k : Kq := ⟨68, (cvv [Ty.bool] [Ty.zJ, Ty.zB] zfm), go [zfx.k, zfl.k] {} [] Proofs.Tryz.func68⟩
def zd3 (a0 : Storage) (a1 : Int) : Option Bool :=
 (zf a1 0 (w6 ((a0.Bytes.size : Int) - 16))).bind fun r1 => (cond r1 (some ((a1.tmod 16) == 0)) (some false)).bind fun g2 => some g2
def zd3.k : Kq := ⟨101, (cvv [Ty.bool] [Ty.Storage, T6] zd3), go [zf.k] {} [] Proofs.Tryz.func101⟩
def za3 (a0 : DataType) : Option Int :=
 cond (a0.Kind == 1) (some (w6 ((w6 (a0.Length.tdiv 2)) + 1))) (cond (a0.Kind == 3) ((za5 (a0.Length == 9)).bind fun r1 =>
  some (w6 (2 + (w6 (2 * r1))))) (cond (a0.Kind == 4) (some 16) (some a0.Length)))
def za3.k : Kq := ⟨103, (cvv [T6] [Ty.DataType] za3), go [za5.k] {} [] Proofs.Tryz.func103⟩
def zhf (a0 : Storage) (a1 : Int) (a2 : Int) : Option Bool :=
 (zf a1 0 (a0.Bytes.size : Int)).bind fun r1 => (cond r1 ((zf a2 0 (w6 ((a0.Bytes.size : Int) - a1))).bind fun r2 => some r2)
  (some false)).bind fun g3 => some g3
def zhf.k : Kq := ⟨145, (cvv [Ty.bool] [Ty.Storage, T6, T6] zhf), go [zf.k] {lits := [10]} [] Proofs.Tryz.func145⟩
def zez (a0 : zG) (a1 : zN) (a2 : Int) : Option Bool :=
 cond a1.Based ((zd3 a0.Storage a1.Pointer).bind fun r1 => (cond r1 ((zf a1.Offset 0 256).bind fun r2 => some r2) (some false)).bind fun g3 => some g3)
  ((zhf (⟨a0.Storage.Bytes, a0.Storage.Tags⟩ : Storage) a1.Offset a2).bind fun r4 => some r4)
def zez.k : Kq := ⟨102, (cvv [Ty.bool] [Ty.zG, Ty.zN, T6] zez), go [zf.k, zd3.k, zhf.k] {} [] Proofs.Tryz.func102⟩
def zbz (a0 : Number) : Option Int :=
 (zf a0.N (-999999999999999) 999999999999999).bind fun r1 => (cond r1 ((zf a0.Scale 0 15).bind fun r2 => some r2) (some false)).bind fun g3 =>
  (za5 (!g3)).bind fun r4 => some (w6 (3 * r4))
def zbz.k : Kq := ⟨84, (cvv [T6] [Ty.Number] zbz), go [zf.k, za5.k] {} [] Proofs.Tryz.func84⟩
def zd2 (a0 : zJ) (a1 : zG) (a2 : zB) : Option Int :=
 (zf a2.Op 0 26).bind fun r1 => cond (!r1) (some 4) ((zfx a2).bind fun r2 => (zi7 a2 r2).bind fun r3 => cond r3 (some 5)
  ((zlg a0 a2).bind fun r4 => cond r4 (some 39) ((zin a2.zF r2.zF).bind fun r5 => cond (r5 != 0) (some r5)
  ((zin a2.Second r2.Second).bind fun r6 => cond (r6 != 0) (some r6) (cond (a2.Op == 4) (((zfm a0 a2).bind fun r7 => cond (!r7) (some (!r7))
  ((cond r2.Target ((zf a2.Target 0 (w6 ((a1.zC.length : Int) - 1))).bind fun r8 => some (!r8)) (some false)).bind fun g9 => cond g9 (some g9)
  ((cond r2.Mask ((zf a2.Mask 1 7).bind fun r10 => some (!r10)) (some false)).bind fun g11 => some g11))).bind fun q12 => cond q12 (some 3)
  (((cond r2.Pointer ((zd3 (⟨a1.Storage.Bytes, a1.Storage.Tags⟩ : Storage) a2.Pointer).bind fun r13 => some (!r13)) (some false)).bind fun g14 => cond g14 (some g14)
  ((cond r2.Source ((zd3 (⟨a1.Storage.Bytes, a1.Storage.Tags⟩ : Storage) a2.Source).bind fun r15 => some (!r15)) (some false)).bind fun g16 => some g16)).bind fun q17 =>
  cond q17 (some 3) ((cond r2.Place ((za3 a2.Second).bind fun r18 => (zez (⟨(⟨a1.Storage.Bytes, a1.Storage.Tags⟩ : Storage), a1.zC, a1.zO⟩ : zG)
  (⟨a2.Place.Based, a2.Place.Pointer, a2.Place.Offset⟩ : zN) r18).bind fun r19 => some (!r19)) (some false)).bind fun g20 => cond g20 (cond g20 (some 3)
  ((cond r2.zK ((zf a2.zK 0 4).bind fun r21 => some (!r21)) (some false)).bind fun g22 => cond g22 (some 3)
  ((zbz (⟨a2.Number.N, a2.Number.Scale⟩ : Number)).bind fun r23 => (cond r2.Number (some (r23 != 0)) (some false)).bind fun g24 => cond g24 (some r23)
  ((cond (decide ((a2.Text.size : Int) > 256)) (some true) (some (decide ((a2.Other.size : Int) > 256)))).bind fun g25 => cond g25 (some 2) (some 0)))))
  ((cond r2.From ((za3 (⟨a2.Second.Kind, a2.Second.Length, a2.Second.Scale⟩ : DataType)).bind fun r26 =>
  (zez (⟨(⟨a1.Storage.Bytes, a1.Storage.Tags⟩ : Storage), a1.zC, a1.zO⟩ : zG)
  (⟨a2.From.Based, a2.From.Pointer, a2.From.Offset⟩ : zN) r26).bind fun r27 => some (!r27)) (some false)).bind fun g28 => cond g28 (some 3)
  ((cond r2.zK ((zf a2.zK 0 4).bind fun r29 => some (!r29)) (some false)).bind fun g30 => cond g30 (some 3)
  ((zbz (⟨a2.Number.N, a2.Number.Scale⟩ : Number)).bind fun r31 => (cond r2.Number (some (r31 != 0)) (some false)).bind fun g32 => cond g32 (some r31)
  ((cond (decide ((a2.Text.size : Int) > 256)) (some true) (some (decide ((a2.Other.size : Int) > 256)))).bind fun g33 => cond g33 (some 2) (some 0))))))))
  (((zfm (⟨a0.Registers, a0.yA, a0.zX⟩ : zJ)
  (⟨a2.Op, a2.R, a2.A, a2.B, a2.zK, (⟨a2.Place.Based, a2.Place.Pointer, a2.Place.Offset⟩ : zN), (⟨a2.From.Based, a2.From.Pointer, a2.From.Offset⟩ : zN), (⟨a2.zF.Kind, a2.zF.Length, a2.zF.Scale⟩ : DataType), (⟨a2.Second.Kind, a2.Second.Length, a2.Second.Scale⟩ : DataType), a2.Half, a2.zL, (⟨a2.Number.N, a2.Number.Scale⟩ : Number), a2.Text, a2.Other, a2.Mask, a2.Target, a2.Pointer, a2.Source⟩ : zB)).bind fun r34 =>
  cond (!r34) (some (!r34)) ((cond r2.Target ((zf a2.Target 0 (w6 ((a1.zC.length : Int) - 1))).bind fun r35 => some (!r35))
  (some false)).bind fun g36 => cond g36 (some g36) ((cond r2.Mask ((zf a2.Mask 1 7).bind fun r37 => some (!r37)) (some false)).bind fun g38 => some g38))).bind fun q39 =>
  cond q39 (some 3) (((cond r2.Pointer ((zd3 (⟨a1.Storage.Bytes, a1.Storage.Tags⟩ : Storage) a2.Pointer).bind fun r40 => some (!r40)) (some false)).bind fun g41 =>
  cond g41 (some g41) ((cond r2.Source ((zd3 (⟨a1.Storage.Bytes, a1.Storage.Tags⟩ : Storage) a2.Source).bind fun r42 => some (!r42)) (some false)).bind fun g43 =>
  some g43)).bind fun q44 => cond q44 (some 3) ((cond r2.Place ((za3 (⟨a2.zF.Kind, a2.zF.Length, a2.zF.Scale⟩ : DataType)).bind fun r45 =>
  (zez (⟨(⟨a1.Storage.Bytes, a1.Storage.Tags⟩ : Storage), a1.zC, a1.zO⟩ : zG)
  (⟨a2.Place.Based, a2.Place.Pointer, a2.Place.Offset⟩ : zN) r45).bind fun r46 => some (!r46)) (some false)).bind fun g47 => cond g47 (cond g47 (some 3)
  ((cond r2.zK ((zf a2.zK 0 4).bind fun r48 => some (!r48)) (some false)).bind fun g49 => cond g49 (some 3)
  ((zbz (⟨a2.Number.N, a2.Number.Scale⟩ : Number)).bind fun r50 => (cond r2.Number (some (r50 != 0)) (some false)).bind fun g51 => cond g51 (some r50)
  ((cond (decide ((a2.Text.size : Int) > 256)) (some true) (some (decide ((a2.Other.size : Int) > 256)))).bind fun g52 => cond g52 (some 2) (some 0)))))
  ((cond r2.From ((za3 (⟨a2.Second.Kind, a2.Second.Length, a2.Second.Scale⟩ : DataType)).bind fun r53 =>
  (zez (⟨(⟨a1.Storage.Bytes, a1.Storage.Tags⟩ : Storage), a1.zC, a1.zO⟩ : zG)
  (⟨a2.From.Based, a2.From.Pointer, a2.From.Offset⟩ : zN) r53).bind fun r54 => some (!r54)) (some false)).bind fun g55 => cond g55 (some 3)
  ((cond r2.zK ((zf a2.zK 0 4).bind fun r56 => some (!r56)) (some false)).bind fun g57 => cond g57 (some 3)
  ((zbz (⟨a2.Number.N, a2.Number.Scale⟩ : Number)).bind fun r58 => (cond r2.Number (some (r58 != 0)) (some false)).bind fun g59 => cond g59 (some r58)
  ((cond (decide ((a2.Text.size : Int) > 256)) (some true) (some (decide ((a2.Other.size : Int) > 256)))).bind fun g60 => cond g60 (some 2) (some 0)))))))))))))
def zd2.k : Kq := ⟨56, (cvv [T6] [Ty.zJ, Ty.zG, Ty.zB] zd2), go [zf.k, zlg.k, zfm.k, zbz.k, zfx.k, zi7.k, zin.k, zd3.k, zez.k, za3.k] {lits := [101, 113], bj := [47, 72]} [] Proofs.Tryz.func56⟩
def zt.b1 (N : Nat) (s8 : Int) (b2 : zJ) (b3 : zG) : Option (Round (Int × Int) (Int × zJ × zG)) :=
 cond (decide (s8 < (b3.zC.length : Int))) ((idx b3.zC s8).bind fun x2001 => (zd2 b2 b3 x2001).bind fun r2002 => cond (r2002 != 0)
  (some (.result (s8, r2002))) (some (.again ((w6 (s8 + 1)), b2, b3)))) (some (.leave (s8, b2, b3)))
def zt.r1 (N : Nat) (x : Int × zJ × zG) := zt.b1 N x.1 x.2.1 x.2.2
def zt.b3 (N : Nat) (s10 : Int) (b3 : zG) : Option (Round (Int × Int) (Int × zG)) :=
 cond (decide (s10 < (b3.zO.length : Int))) ((idx b3.zO s10).bind fun x4001 => (cond (decide (x4001.From < 0)) (some true)
  (some (decide (x4001.From > x4001.To)))).bind fun g4002 => (cond g4002 (some true) (some (decide (x4001.To > (b3.zC.length : Int))))).bind fun g4003 =>
  (cond g4003 (some true) ((zf x4001.Exception 0 999).bind fun r4004 => some (!r4004))).bind fun g4005 => (cond g4005 (some true)
  ((zf x4001.Handler 0 (w6 ((b3.zC.length : Int) - 1))).bind fun r4006 => some (!r4006))).bind fun g4007 => cond g4007 (some (.result (s10, 3)))
  (some (.again ((w6 (s10 + 1)), b3)))) (some (.leave (s10, b3)))
def zt.r3 (N : Nat) (x : Int × zG) := zt.b3 N x.1 x.2
def zt (N : Nat) (a0 : zJ) (a1 : zG) : Option (Int × Int) :=
 (zi8 (⟨a0.Registers, a0.yA, a0.zX⟩ : zJ)).bind fun r1 => cond (r1 != 0) (some (0, r1))
  ((zic N (⟨a1.Storage.Bytes, a1.Storage.Tags⟩ : Storage)).bind fun r2 => cond (r2 != 0) (some (0, r2))
  ((zap N (⟨a1.Storage.Bytes, a1.Storage.Tags⟩ : Storage)).bind fun r3 => cond (decide ((r3.length : Int) > 0)) (some (0, 22)) (cond ((a1.zC.length : Int) == 0)
  (some (0, 1)) ((cond (decide ((a1.zC.length : Int) > 240)) (some true) (some (decide ((a1.zO.length : Int) > 40)))).bind fun g4 => cond g4 (some (0, 2))
  ((zl (zt.r1 N) N (0, (⟨a0.Registers, a0.yA, a0.zX⟩ : zJ), (⟨(⟨a1.Storage.Bytes, a1.Storage.Tags⟩ : Storage), a1.zC, a1.zO⟩ : zG))).bind fun z6 =>
  zb9 z6 (fun z => some z) (fun y5 => (zl (zt.r3 N) N (0, y5.2.2)).bind fun z8 => zb9 z8 (fun z => some z) (fun y7 =>
  some ((y7.2.zC.length : Int), 0))))))))
def zt.k (N : Nat) : Kq := ⟨16, (cvv [T6, T6] [Ty.zJ, Ty.zG] (zt N)), go [zi8.k, zic.k N, zap.k N, zd2.k, zf.k] {lits := [26]} [(1, .rets { slots := [(2, .ptr 2 0), (3, .ptr 3 0), (8, .val T6)], boxes := [(2, Ty.zJ, []), (3, Ty.zG, [])] } [T6, Ty.zJ, Ty.zG] (zl (zt.r1 N) N)), (3, .rets { slots := [(3, .ptr 3 0), (10, .val T6)], boxes := [(3, Ty.zG, [])] } [T6, Ty.zG] (zl (zt.r3 N) N))] Proofs.Tryz.func16 (hL := ⟨⟨_, _, rfl, by kernel_rfl⟩, ⟨_, _, rfl, by kernel_rfl⟩, trivial⟩)⟩
def zio (N : Nat) (a0 : zJ) (a1 : zG) : Option Int :=
 (zt N (⟨a0.Registers, a0.yA, a0.zX⟩ : zJ) (⟨(⟨a1.Storage.Bytes, a1.Storage.Tags⟩ : Storage), a1.zC, a1.zO⟩ : zG)).bind fun r1 => some r1.2
def zio.k (N : Nat) : Kq := ⟨20, (cvv [T6] [Ty.zJ, Ty.zG] (zio N)), go [zt.k N] {} [] Proofs.Tryz.func20⟩
def zeh (N : Nat) (a0 : Storage) (a1 : Int) : Option (Pointer × Int) :=
 (zd3 a0 a1).bind fun r1 => cond (!r1) (some ((⟨0, (⟨0, 0⟩ : Address), 0⟩ : Pointer), 3)) ((idx a0.Tags (w6 (a1.tdiv 16))).bind fun x2 => cond (!x2)
  (some ((⟨0, (⟨0, 0⟩ : Address), 0⟩ : Pointer), 22)) ((ziw a0 (w6 (a1.tdiv 16))).bind fun r3 => (zl2 N r3).bind fun r4 => some (r4.1, 0)))
def zeh.k (N : Nat) : Kq := ⟨85, (cvv [Ty.Pointer, T6] [Ty.Storage, T6] (zeh N)), go [zd3.k, zl2.k N, ziw.k] {lits := [25]} [] Proofs.Tryz.func85⟩
def zw.b0 (N : Nat) (s8 : Int) (b4 : zG) (b5 : zA) : Option (Round Int (Int × zG × zA)) :=
 cond (decide (s8 < (b5.Registers.length : Int))) ((idx b5.Registers s8).bind fun x1001 => (zbz x1001).bind fun r1002 => cond (r1002 != 0) (some (.result r1002))
  (some (.again ((w6 (s8 + 1)), b4, b5)))) (some (.leave (s8, b4, b5)))
def zw.r0 (N : Nat) (x : Int × zG × zA) := zw.b0 N x.1 x.2.1 x.2.2
def zw.b2 (N : Nat) (s11 : List Int) (s12 : Int) (b4 : zG) (b5 : zA) : Option (Round Int ((List Int) × Int × zG × zA)) :=
 cond (decide (s12 < (s11.length : Int))) ((idx s11 s12).bind fun x3001 => (zeh N b5.Storage x3001).bind fun r3002 => (cond (r3002.1.Kind != 0) (some true)
  (some (r3002.1.Address.zY != 1))).bind fun g3003 => cond g3003 (some (.result 22)) (some (.again (s11, (w6 (s12 + 1)), b4, b5))))
  (some (.leave (s11, s12, b4, b5)))
def zw.r2 (N : Nat) (x : (List Int) × Int × zG × zA) := zw.b2 N x.1 x.2.1 x.2.2.1 x.2.2.2
def zw.b4 (N : Nat) (s15 : Int) (b4 : zG) (b5 : zA) : Option (Round Int (Int × zG × zA)) :=
 cond (decide (s15 < (b5.Stack.length : Int))) ((idx b5.Stack s15).bind fun x5001 =>
  (zf x5001 0 (w6 ((b4.zC.length : Int) - 1))).bind fun r5002 => (cond (!r5002) (some true) ((idx b5.Stack s15).bind fun x5003 =>
  (idx b4.zC x5003).bind fun x5004 => some (x5004.Op != 18))).bind fun g5005 => cond g5005 (some (.result 3)) (some (.again ((w6 (s15 + 1)), b4, b5))))
  (some (.leave (s15, b4, b5)))
def zw.r4 (N : Nat) (x : Int × zG × zA) := zw.b4 N x.1 x.2.1 x.2.2
def zw.b6 (N : Nat) (s16 : Int) (b5 : zA) : Option (Round Int (Int × zA)) :=
 cond (decide (s16 < (b5.Lines.length : Int))) ((idx b5.Lines s16).bind fun x7001 => cond (decide ((x7001.size : Int) > 256)) (some (.result 18))
  (some (.again ((w6 (s16 + 1)), b5)))) (some (.leave (s16, b5)))
def zw.r6 (N : Nat) (x : Int × zA) := zw.b6 N x.1 x.2
def zw (N : Nat) (a0 : zJ) (a1 : zG) (a2 : zA) : Option Int :=
 (zio N (⟨a0.Registers, a0.yA, a0.zX⟩ : zJ) (⟨(⟨a1.Storage.Bytes, a1.Storage.Tags⟩ : Storage), a1.zC, a1.zO⟩ : zG)).bind fun r1 =>
  cond (r1 != 0) (some r1) (cond ((a2.Registers.length : Int) != a0.Registers) (some 6)
  ((zl (zw.r0 N) N (0, (⟨(⟨a1.Storage.Bytes, a1.Storage.Tags⟩ : Storage), a1.zC, a1.zO⟩ : zG), (⟨a2.Registers, a2.Condition, (⟨a2.Storage.Bytes, a2.Storage.Tags⟩ : Storage), a2.At, a2.Stack, a2.Lines, a2.Status, a2.Exception, a2.Marks, a2.Steps⟩ : zA))).bind fun z3 =>
  zb9 z3 (fun z => some z) (fun y2 => (cond (y2.2.2.Condition != 0) (some (y2.2.2.Condition != 1)) (some false)).bind fun g4 => (cond g4 (some (y2.2.2.Condition != 2))
  (some false)).bind fun g5 => (cond g5 (some (y2.2.2.Condition != 4)) (some false)).bind fun g6 => cond g6 (some 3)
  (cond ((y2.2.2.Storage.Bytes.size : Int) != (y2.2.1.Storage.Bytes.size : Int)) (some 18) ((zic N y2.2.2.Storage).bind fun r7 => cond (r7 != 0) (some r7)
  ((zap N y2.2.2.Storage).bind fun r8 => (zl (zw.r2 N) N (r8, 0, y2.2.1, y2.2.2)).bind fun z10 => zb9 z10 (fun z => some z) (fun y9 =>
  (zf y9.2.2.2.At 0 (w6 ((y9.2.2.1.zC.length : Int) - 1))).bind fun r11 => cond (!r11) (some 3) ((cond (decide ((y9.2.2.2.Stack.length : Int) > 6))
  (some true) (some (decide ((y9.2.2.2.Lines.length : Int) > 40)))).bind fun g12 => cond g12 (some 2) ((zl (zw.r4 N) N (0, y9.2.2.1, y9.2.2.2)).bind fun z14 =>
  zb9 z14 (fun z => some z) (fun y13 => (zl (zw.r6 N) N (0, y13.2.2)).bind fun z16 => zb9 z16 (fun z => some z) (fun y15 =>
  (zf y15.2.Status 0 3).bind fun r17 => cond (!r17) (some 4) ((zf y15.2.Exception 0 999).bind fun r18 => (cond (!r18) (some true)
  ((zf y15.2.Marks 0 300).bind fun r19 => some (!r19))).bind fun g20 => (cond g20 (some true) ((zf y15.2.Steps 0 3000).bind fun r21 =>
  some (!r21))).bind fun g22 => cond g22 (some 3) (some 0)))))))))))))
def zw.k (N : Nat) : Kq := ⟨40, (cvv [T6] [Ty.zJ, Ty.zG, Ty.zA] (zw N)), go [zio.k N, zic.k N, zap.k N, zf.k, zbz.k, zeh.k N] {} [(0, .rets { slots := [(4, .ptr 4 0), (5, .ptr 5 0), (8, .val T6)], boxes := [(4, Ty.zG, []), (5, Ty.zA, [])] } [T6, Ty.zG, Ty.zA] (zl (zw.r0 N) N)), (2, .rets { slots := [(4, .ptr 4 0), (5, .ptr 5 0), (11, .val (Ty.sl T6)), (12, .val T6)], boxes := [(4, Ty.zG, []), (5, Ty.zA, [])] } [(Ty.sl T6), T6, Ty.zG, Ty.zA] (zl (zw.r2 N) N)), (4, .rets { slots := [(4, .ptr 4 0), (5, .ptr 5 0), (15, .val T6)], boxes := [(4, Ty.zG, []), (5, Ty.zA, [])] } [T6, Ty.zG, Ty.zA] (zl (zw.r4 N) N)), (6, .rets { slots := [(5, .ptr 5 0), (16, .val T6)], boxes := [(5, Ty.zA, [])] } [T6, Ty.zA] (zl (zw.r6 N) N))] Proofs.Tryz.func40 (hL := ⟨⟨_, _, rfl, by kernel_rfl⟩, ⟨_, _, rfl, by kernel_rfl⟩, ⟨_, _, rfl, by kernel_rfl⟩, ⟨_, _, rfl, by kernel_rfl⟩, trivial⟩)⟩
def zej.b0 (N : Nat) (s0 : List Bool) (s1 : List Bool) (s5 : Int) : Option (Round Bool ((List Bool) × (List Bool) × Int)) :=
 cond (decide (s5 < (s0.length : Int))) ((idx s0 s5).bind fun x1001 => (idx s1 s5).bind fun x1002 => cond (!(x1001 == x1002)) (some (.result false))
  (some (.again (s0, s1, (w6 (s5 + 1)))))) (some (.leave (s0, s1, s5)))
def zej.r0 (N : Nat) (x : (List Bool) × (List Bool) × Int) := zej.b0 N x.1 x.2.1 x.2.2
def zej (N : Nat) (a0 : List Bool) (a1 : List Bool) : Option Bool :=
 cond ((a0.length : Int) != (a1.length : Int)) (some false) ((zl (zej.r0 N) N (a0, a1, 0)).bind fun z2 => zb9 z2 (fun z => some z) (fun y1 => some true))
def zej.k (N : Nat) : Kq := ⟨88, (cvv [Ty.bool] [(Ty.sl Ty.bool), (Ty.sl Ty.bool)] (zej N)), go [] {} [(0, .rets { slots := [(0, .val (Ty.sl Ty.bool)), (1, .val (Ty.sl Ty.bool)), (5, .val T6)], boxes := [] } [(Ty.sl Ty.bool), (Ty.sl Ty.bool), T6] (zl (zej.r0 N) N))] Proofs.Tryz.func88 (hL := ⟨⟨_, _, rfl, by kernel_rfl⟩, trivial⟩)⟩
def zh1 (N : Nat) (a0 : Storage) (a1 : Storage) : Option Bool :=
 (cond (a0.Bytes.toList == a1.Bytes.toList) ((zej N a0.Tags a1.Tags).bind fun r1 => some r1) (some false)).bind fun g2 => some g2
def zh1.k (N : Nat) : Kq := ⟨43, (cvv [Ty.bool] [Ty.Storage, Ty.Storage] (zh1 N)), go [zej.k N] {} [] Proofs.Tryz.func43⟩
def zfb.b0 (N : Nat) (s0 : List Int) (s1 : List Int) (s5 : Int) : Option (Round Bool ((List Int) × (List Int) × Int)) :=
 cond (decide (s5 < (s0.length : Int))) ((idx s0 s5).bind fun x1001 => (idx s1 s5).bind fun x1002 => cond (x1001 != x1002) (some (.result false))
  (some (.again (s0, s1, (w6 (s5 + 1)))))) (some (.leave (s0, s1, s5)))
def zfb.r0 (N : Nat) (x : (List Int) × (List Int) × Int) := zfb.b0 N x.1 x.2.1 x.2.2
def zfb (N : Nat) (a0 : List Int) (a1 : List Int) : Option Bool :=
 cond ((a0.length : Int) != (a1.length : Int)) (some false) ((zl (zfb.r0 N) N (a0, a1, 0)).bind fun z2 => zb9 z2 (fun z => some z) (fun y1 => some true))
def zfb.k (N : Nat) : Kq := ⟨77, (cvv [Ty.bool] [(Ty.sl T6), (Ty.sl T6)] (zfb N)), go [] {} [(0, .rets { slots := [(0, .val (Ty.sl T6)), (1, .val (Ty.sl T6)), (5, .val T6)], boxes := [] } [(Ty.sl T6), (Ty.sl T6), T6] (zl (zfb.r0 N) N))] Proofs.Tryz.func77 (hL := ⟨⟨_, _, rfl, by kernel_rfl⟩, trivial⟩)⟩
def zc4.b0 (N : Nat) (s5 : Int) (b2 : zA) (b3 : zA) : Option (Round Bool (Int × zA × zA)) :=
 cond (decide (s5 < (b2.Registers.length : Int))) ((idx b2.Registers s5).bind fun x1001 => (idx b3.Registers s5).bind fun x1002 =>
  cond (!(zf3 [(x1001.N == x1002.N), (x1001.Scale == x1002.Scale)])) (some (.result false)) (some (.again ((w6 (s5 + 1)), b2, b3)))) (some (.leave (s5, b2, b3)))
def zc4.r0 (N : Nat) (x : Int × zA × zA) := zc4.b0 N x.1 x.2.1 x.2.2
def zc4 (N : Nat) (a0 : zA) (a1 : zA) : Option Bool :=
 cond ((a0.Registers.length : Int) != (a1.Registers.length : Int)) (some false) ((zl (zc4.r0 N) N (0, a0, a1)).bind fun z2 => zb9 z2 (fun z => some z) (fun y1 =>
  (cond (y1.2.1.Condition == y1.2.2.Condition) ((zh1 N (⟨y1.2.1.Storage.Bytes, y1.2.1.Storage.Tags⟩ : Storage)
  (⟨y1.2.2.Storage.Bytes, y1.2.2.Storage.Tags⟩ : Storage)).bind fun r3 => some r3) (some false)).bind fun g4 => (cond g4 (some (y1.2.1.At == y1.2.2.At)) (some false)).bind fun g5 =>
  (cond g5 ((zfb N y1.2.1.Stack y1.2.2.Stack).bind fun r6 => some r6) (some false)).bind fun g7 => (cond g7 ((zcf N y1.2.1.Lines y1.2.2.Lines).bind fun r8 => some r8)
  (some false)).bind fun g9 => (cond g9 (some (y1.2.1.Status == y1.2.2.Status)) (some false)).bind fun g10 => (cond g10 (some (y1.2.1.Exception == y1.2.2.Exception))
  (some false)).bind fun g11 => (cond g11 (some (y1.2.1.Marks == y1.2.2.Marks)) (some false)).bind fun g12 => (cond g12 (some (y1.2.1.Steps == y1.2.2.Steps))
  (some false)).bind fun g13 => some g13))
def zc4.k (N : Nat) : Kq := ⟨36, (cvv [Ty.bool] [Ty.zA, Ty.zA] (zc4 N)), go [zh1.k N, zcf.k N, zfb.k N] {} [(0, .rets { slots := [(2, .ptr 2 0), (3, .ptr 3 0), (5, .val T6)], boxes := [(2, Ty.zA, []), (3, Ty.zA, [])] } [T6, Ty.zA, Ty.zA] (zl (zc4.r0 N) N))] Proofs.Tryz.func36 (hL := ⟨⟨_, _, rfl, by kernel_rfl⟩, trivial⟩)⟩
def zk9 (N : Nat) (a0 : zA) : Option Bool :=
 (zc4 N (⟨a0.Registers, a0.Condition, (⟨a0.Storage.Bytes, a0.Storage.Tags⟩ : Storage), a0.At, a0.Stack, a0.Lines, a0.Status, a0.Exception, a0.Marks, a0.Steps⟩ : zA)
  (⟨[], 0, (⟨(⟨#[]⟩ : ByteArray), []⟩ : Storage), 0, [], [], 0, 0, 0, 0⟩ : zA)).bind fun r1 => some r1
def zk9.k (N : Nat) : Kq := ⟨35, (cvv [Ty.bool] [Ty.zA] (zk9 N)), go [zc4.k N] {} [] Proofs.Tryz.func35⟩
def zfp (a0 : Int) : Option Int :=
 some (if (w6 (0 - a0)) > a0 then (w6 (0 - a0)) else a0)
def zfp.k : Kq := ⟨251, (cvv [T6] [T6] zfp), go [] {} [] Proofs.Tryz.func251⟩
def zb4.b0 (N : Nat) (s0 : List Int) : Option (Stp (List Int)) :=
 (cond (decide ((s0.length : Int) > 0)) ((idx s0 (w6 ((s0.length : Int) - 1))).bind fun x1001 => some (x1001 == 0)) (some false)).bind fun g1002 =>
  cond g1002 (if 0 ≤ (w6 ((s0.length : Int) - 1)) ∧ (w6 ((s0.length : Int) - 1)) ≤ (s0.length : Int) then (if 0 ≤ (0 : Int) ∧ (0 : Int) ≤ (w6 ((s0.length : Int) - 1)) then (some (.again ((s0.take (w6 ((s0.length : Int) - 1)).toNat).drop (0 : Int).toNat))) else none) else none)
  (some (.leave s0))
def zb4.r0 (N : Nat) (x : (List Int)) := zb4.b0 N x
def zb4 (N : Nat) (a0 : List Int) : Option ((List Int)) :=
 (zm (zb4.r0 N) N a0).bind fun y1 => some y1
def zb4.k (N : Nat) : Kq := ⟨309, (cvv [(Ty.sl T6)] [(Ty.sl T6)] (zb4 N)), go [] {} [(0, .plain { slots := [(0, .val (Ty.sl T6))], boxes := [] } [(Ty.sl T6)] (zm (zb4.r0 N) N))] Proofs.Tryz.func309 (hL := ⟨⟨_, _, rfl, by kernel_rfl⟩, trivial⟩)⟩
def zcm.b0 (N : Nat) (s0 : Int) (s5 : List Int) (s6 : Int) (b4 : zI) : Option (Stp (Int × (List Int) × Int × zI)) :=
 cond (decide (s6 > 0)) (cond (Nat.ble ((s5.length + ([(s6.tmod 10)] : List Int).length) * 8) zab)
  (some (.again (s0, (s5 ++ ([(s6.tmod 10)] : List Int)), (w6 (s6.tdiv 10)), b4))) none) (some (.leave (s0, s5, s6, b4)))
def zcm.r0 (N : Nat) (x : Int × (List Int) × Int × zI) := zcm.b0 N x.1 x.2.1 x.2.2.1 x.2.2.2
def zcm (N : Nat) (a0 : Int) (a1 : Int) : Option zI :=
 if 0 ≤ a1 then (if a1 ≤ a1 then (cond (Nat.ble (a1.toNat * 8) zab) ((zfp a0).bind fun r1 =>
  (zm (zcm.r0 N) N (a0, (List.replicate a1.toNat (0 : Int)), r1, (⟨false, []⟩ : zI))).bind fun y2 => (zb4 N y2.2.1).bind fun r3 =>
  some (⟨(decide (y2.1 < 0)), r3⟩ : zI)) none) else none) else none
def zcm.k (N : Nat) : Kq := ⟨256, (cvv [Ty.zI] [T6, T6] (zcm N)), go [zfp.k, zb4.k N] {lits := [18]} [(0, .plain { slots := [(0, .val T6), (4, .ptr 4 0), (5, .own 5000005 T6), (6, .val T6)], boxes := [(4, Ty.zI, [1])] } [T6, (Ty.sl T6), T6, Ty.zI] (zm (zcm.r0 N) N))] Proofs.Tryz.func256 (hL := ⟨⟨_, _, rfl, by kernel_rfl⟩, trivial⟩)⟩
def zhg (N : Nat) (a0 : Number) (a1 : Number) : Option (zI × zI × Int) :=
 (zcm N a0.N (w6 ((if a1.Scale > a0.Scale then a1.Scale else a0.Scale) - a0.Scale))).bind fun r1 =>
  (zcm N a1.N (w6 ((if a1.Scale > a0.Scale then a1.Scale else a0.Scale) - a1.Scale))).bind fun r2 =>
  some (r1, r2, (if a1.Scale > a0.Scale then a1.Scale else a0.Scale))
def zhg.k (N : Nat) : Kq := ⟨189, (cvv [Ty.zI, Ty.zI, T6] [Ty.Number, Ty.Number] (zhg N)), go [zcm.k N] {} [] Proofs.Tryz.func189⟩
def zcr.b0 (N : Nat) (s0 : List Int) (s1 : List Int) (s5 : List Int) (s6 : Int) (s7 : Int) : Option (Stp ((List Int) × (List Int) × (List Int) × Int × Int)) :=
 (cond (decide (s7 < (s0.length : Int))) (some true) (some (decide (s7 < (s1.length : Int))))).bind fun g1001 => (cond g1001 (some true) (some (decide (s6 > 0)))).bind fun g1002 =>
  cond g1002 (cond (decide (s7 < (s0.length : Int))) ((idx s0 s7).bind fun x1003 => cond (decide (s7 < (s1.length : Int))) ((idx s1 s7).bind fun x1004 =>
  cond (Nat.ble ((s5.length + ([((w6 ((w6 (s6 + x1003)) + x1004)).tmod 10)] : List Int).length) * 8) zab)
  (some (.again (s0, s1, (s5 ++ ([((w6 ((w6 (s6 + x1003)) + x1004)).tmod 10)] : List Int)), (w6 ((w6 ((w6 (s6 + x1003)) + x1004)).tdiv 10)), (w6 (s7 + 1))))) none)
  (cond (Nat.ble ((s5.length + ([((w6 (s6 + x1003)).tmod 10)] : List Int).length) * 8) zab)
  (some (.again (s0, s1, (s5 ++ ([((w6 (s6 + x1003)).tmod 10)] : List Int)), (w6 ((w6 (s6 + x1003)).tdiv 10)), (w6 (s7 + 1))))) none))
  (cond (decide (s7 < (s1.length : Int))) ((idx s1 s7).bind fun x1005 => cond (Nat.ble ((s5.length + ([((w6 (s6 + x1005)).tmod 10)] : List Int).length) * 8) zab)
  (some (.again (s0, s1, (s5 ++ ([((w6 (s6 + x1005)).tmod 10)] : List Int)), (w6 ((w6 (s6 + x1005)).tdiv 10)), (w6 (s7 + 1))))) none)
  (cond (Nat.ble ((s5.length + ([(s6.tmod 10)] : List Int).length) * 8) zab)
  (some (.again (s0, s1, (s5 ++ ([(s6.tmod 10)] : List Int)), (w6 (s6.tdiv 10)), (w6 (s7 + 1))))) none))) (some (.leave (s0, s1, s5, s6, s7)))
def zcr.r0 (N : Nat) (x : (List Int) × (List Int) × (List Int) × Int × Int) := zcr.b0 N x.1 x.2.1 x.2.2.1 x.2.2.2.1 x.2.2.2.2
def zcr (N : Nat) (a0 : List Int) (a1 : List Int) : Option ((List Int)) :=
 (zm (zcr.r0 N) N (a0, a1, [], 0, 0)).bind fun y1 => some y1.2.2.1
def zcr.k (N : Nat) : Kq := ⟨257, (cvv [(Ty.sl T6)] [(Ty.sl T6), (Ty.sl T6)] (zcr N)), go [] {lits := [49]} [(0, .plain { slots := [(0, .val (Ty.sl T6)), (1, .val (Ty.sl T6)), (5, .own 5000005 T6), (6, .val T6), (7, .val T6)], boxes := [] } [(Ty.sl T6), (Ty.sl T6), (Ty.sl T6), T6, T6] (zm (zcr.r0 N) N))] Proofs.Tryz.func257 (hL := ⟨⟨_, _, rfl, by kernel_rfl⟩, trivial⟩)⟩
def zcv.b0 (N : Nat) (s0 : List Int) (s1 : List Int) (s5 : Int) : Option (Round Int ((List Int) × (List Int) × Int)) :=
 cond (decide (s5 ≥ 0)) ((idx s0 s5).bind fun x1001 => (idx s1 s5).bind fun x1002 => cond (x1001 != x1002) ((idx s0 s5).bind fun x1003 => (idx s1 s5).bind fun x1004 =>
  (za5 (decide (x1003 > x1004))).bind fun r1005 => some (.result (w6 ((w6 (2 * r1005)) - 1))))
  (some (.again (s0, s1, (w6 (s5 - 1)))))) (some (.leave (s0, s1, s5)))
def zcv.r0 (N : Nat) (x : (List Int) × (List Int) × Int) := zcv.b0 N x.1 x.2.1 x.2.2
def zcv (N : Nat) (a0 : List Int) (a1 : List Int) : Option Int :=
 cond ((a0.length : Int) != (a1.length : Int)) ((za5 (decide ((a0.length : Int) > (a1.length : Int)))).bind fun r1 =>
  some (w6 ((w6 (2 * r1)) - 1))) ((zl (zcv.r0 N) N (a0, a1, (w6 ((a0.length : Int) - 1)))).bind fun z3 => zb9 z3 (fun z =>
  some z) (fun y2 => some 0))
def zcv.k (N : Nat) : Kq := ⟨258, (cvv [T6] [(Ty.sl T6), (Ty.sl T6)] (zcv N)), go [za5.k] {} [(0, .rets { slots := [(0, .val (Ty.sl T6)), (1, .val (Ty.sl T6)), (5, .val T6)], boxes := [] } [(Ty.sl T6), (Ty.sl T6), T6] (zl (zcv.r0 N) N))] Proofs.Tryz.func258 (hL := ⟨⟨_, _, rfl, by kernel_rfl⟩, trivial⟩)⟩
def zc9.b0 (N : Nat) (s0 : List Int) (s1 : List Int) (s5 : List Int) (s6 : Int) (s7 : Int) : Option (Stp ((List Int) × (List Int) × (List Int) × Int × Int)) :=
 cond (decide (s7 < (s0.length : Int))) ((idx s0 s7).bind fun x1001 => cond (decide (s7 < (s1.length : Int))) ((idx s1 s7).bind fun x1002 =>
  (za5 (decide ((w6 ((w6 (x1001 - s6)) - x1002)) < 0))).bind fun r1003 =>
  cond (Nat.ble ((s5.length + ([(w6 ((w6 ((w6 (x1001 - s6)) - x1002)) + (w6 (10 * r1003))))] : List Int).length) * 8) zab)
  (some (.again (s0, s1, (s5 ++ ([(w6 ((w6 ((w6 (x1001 - s6)) - x1002)) + (w6 (10 * r1003))))] : List Int)), r1003, (w6 (s7 + 1))))) none)
  ((za5 (decide ((w6 (x1001 - s6)) < 0))).bind fun r1004 =>
  cond (Nat.ble ((s5.length + ([(w6 ((w6 (x1001 - s6)) + (w6 (10 * r1004))))] : List Int).length) * 8) zab)
  (some (.again (s0, s1, (s5 ++ ([(w6 ((w6 (x1001 - s6)) + (w6 (10 * r1004))))] : List Int)), r1004, (w6 (s7 + 1))))) none))
  (some (.leave (s0, s1, s5, s6, s7)))
def zc9.r0 (N : Nat) (x : (List Int) × (List Int) × (List Int) × Int × Int) := zc9.b0 N x.1 x.2.1 x.2.2.1 x.2.2.2.1 x.2.2.2.2
def zc9 (N : Nat) (a0 : List Int) (a1 : List Int) : Option ((List Int)) :=
 (zm (zc9.r0 N) N (a0, a1, [], 0, 0)).bind fun y1 => (zb4 N y1.2.2.1).bind fun r2 => some r2
def zc9.k (N : Nat) : Kq := ⟨259, (cvv [(Ty.sl T6)] [(Ty.sl T6), (Ty.sl T6)] (zc9 N)), go [za5.k, zb4.k N] {lits := [39]} [(0, .plain { slots := [(0, .val (Ty.sl T6)), (1, .val (Ty.sl T6)), (5, .own 5000005 T6), (6, .val T6), (7, .val T6)], boxes := [] } [(Ty.sl T6), (Ty.sl T6), (Ty.sl T6), T6, T6] (zm (zc9.r0 N) N))] Proofs.Tryz.func259 (hL := ⟨⟨_, _, rfl, by kernel_rfl⟩, trivial⟩)⟩
def zjz (N : Nat) (a0 : zI) (a1 : zI) : Option zI :=
 cond (a0.Below == a1.Below) ((zcr N a0.zT a1.zT).bind fun r1 => some (⟨a0.Below, r1⟩ : zI)) ((zcv N a0.zT a1.zT).bind fun r2 =>
  cond (decide (r2 < 0)) ((zc9 N a1.zT a0.zT).bind fun r3 => (cond a1.Below (some (decide ((r3.length : Int) > 0))) (some false)).bind fun g4 =>
  some (⟨g4, r3⟩ : zI)) ((zc9 N a0.zT a1.zT).bind fun r5 => (cond a0.Below (some (decide ((r5.length : Int) > 0))) (some false)).bind fun g6 =>
  some (⟨g6, r5⟩ : zI)))
def zjz.k (N : Nat) : Kq := ⟨190, (cvv [Ty.zI] [Ty.zI, Ty.zI] (zjz N)), go [zcr.k N, zcv.k N, zc9.k N] {} [] Proofs.Tryz.func190⟩
def zg1 (N : Nat) (a0 : Number) (a1 : Number) : Option Int :=
 (zhg N (⟨a0.N, a0.Scale⟩ : Number) (⟨a1.N, a1.Scale⟩ : Number)).bind fun r1 => (zjz N (⟨r1.1.Below, r1.1.zT⟩ : zI)
  (⟨(!r1.2.1.Below), r1.2.1.zT⟩ : zI)).bind fun r2 => cond ((r2.zT.length : Int) == 0) (some 0) ((za5 r2.Below).bind fun r3 =>
  some (w6 (1 - (w6 (2 * r3)))))
def zg1.k (N : Nat) : Kq := ⟨128, (cvv [T6] [Ty.Number, Ty.Number] (zg1 N)), go [za5.k, zhg.k N, zjz.k N] {} [] Proofs.Tryz.func128⟩
def zdh (a0 : Int) : Option Int :=
 cond (decide (a0 < 0)) (some 1) (cond (a0 == 0) (some 2) (some 4))
def zdh.k : Kq := ⟨127, (cvv [T6] [T6] zdh), go [] {} [] Proofs.Tryz.func127⟩
def zdq.b0 (N : Nat) (s0 : Int) (s3 : Int) (s4 : Int) : Option (Stp (Int × Int × Int)) :=
 cond (decide (s4 < s0)) (some (.again (s0, (w6 (s3 * 10)), (w6 (s4 + 1))))) (some (.leave (s0, s3, s4)))
def zdq.r0 (N : Nat) (x : Int × Int × Int) := zdq.b0 N x.1 x.2.1 x.2.2
def zdq (N : Nat) (a0 : Int) : Option Int :=
 (zm (zdq.r0 N) N (a0, 1, 0)).bind fun y1 => some y1.2.1
def zdq.k (N : Nat) : Kq := ⟨191, (cvv [T6] [T6] (zdq N)), go [] {} [(0, .plain { slots := [(0, .val T6), (3, .val T6), (4, .val T6)], boxes := [] } [T6, T6, T6] (zm (zdq.r0 N) N))] Proofs.Tryz.func191 (hL := ⟨⟨_, _, rfl, by kernel_rfl⟩, trivial⟩)⟩
def zge (N : Nat) (a0 : Number) : Option Int :=
 (zdq N a0.Scale).bind fun r1 => if r1 = 0 then none else some (w6 ((a0.N : Int).tdiv r1))
def zge.k (N : Nat) : Kq := ⟨129, (cvv [T6] [Ty.Number] (zge N)), go [zdq.k N] {} [] Proofs.Tryz.func129⟩
def zcx : Nat → Int → Option ByteArray
 | 0, _ => none
 | N + 1, a0 =>
 cond (decide (a0 < (-9))) ((zcx N (w6 (0 - (w6 (a0.tdiv 10))))).bind fun r1 =>
  if (((⟨#[45]⟩ : ByteArray).size + r1.size : Nat) : Int) > IntKind.i64.max then none else (zcx N (w6 (0 - (a0.tmod 10)))).bind fun r2 =>
  if ((((⟨#[45]⟩ : ByteArray) ++ r1).size + r2.size : Nat) : Int) > IntKind.i64.max then none else some (((⟨#[45]⟩ : ByteArray) ++ r1) ++ r2)) (cond (decide (a0 < 0))
  ((zcx N (w6 (0 - a0))).bind fun r3 =>
  if (((⟨#[45]⟩ : ByteArray).size + r3.size : Nat) : Int) > IntKind.i64.max then none else some ((⟨#[45]⟩ : ByteArray) ++ r3)) (cond (decide (a0 < 10))
  (some (zdf ([(IntKind.wrap .u8 (w6 (48 + a0)))] : List Int))) ((zcx N (w6 (a0.tdiv 10))).bind fun r4 =>
  if ((r4.size + (zdf ([(IntKind.wrap .u8 (w6 (48 + (a0.tmod 10))))] : List Int)).size : Nat) : Int) > IntKind.i64.max then none else some (r4 ++ (zdf ([(IntKind.wrap .u8 (w6 (48 + (a0.tmod 10))))] : List Int))))))
def zcx.t (N : Nat) : Ct U := (cvv [Ty.str] [T6] (zcx N))
theorem zcx.m : ∀ N : Nat, zh8 K0 260 (zcx.t N)
 | 0 => z6j Proofs.Tryz.func260 (by kernel_rfl) rfl fun ds y hy => by have := z0m (U := U) [T6] (zcx 0) (fun _ => none) (by intro a0; show none = zcx 0 a0; rfl) ds y hy; cases this
 | N + 1 => go [⟨260, zcx.t N, zcx.m N⟩] {} [] Proofs.Tryz.func260
def zcx.k (N : Nat) : Kq := ⟨260, zcx.t N, zcx.m N⟩
def zd4.b0 (N : Nat) (s3 : ByteArray) (b1 : Number) : Option (Stp (ByteArray × Number)) :=
 cond (decide ((s3.size : Int) ≤ b1.Scale))
  (if (((⟨#[48]⟩ : ByteArray).size + s3.size : Nat) : Int) > IntKind.i64.max then none else some (.again (((⟨#[48]⟩ : ByteArray) ++ s3), b1))) (some (.leave (s3, b1)))
def zd4.r0 (N : Nat) (x : ByteArray × Number) := zd4.b0 N x.1 x.2
def zd4 (N : Nat) (a0 : Number) : Option ByteArray :=
 (zfp a0.N).bind fun r1 => (zcx N r1).bind fun r2 => (zm (zd4.r0 N) N (r2, (⟨a0.N, a0.Scale⟩ : Number))).bind fun y3 => cond (decide (y3.2.Scale > 0))
  (if 0 ≤ (w6 ((y3.1.size : Int) - y3.2.Scale)) ∧ (w6 ((y3.1.size : Int) - y3.2.Scale)) ≤ (y3.1.size : Int) then (if 0 ≤ (0 : Int) ∧ (0 : Int) ≤ (w6 ((y3.1.size : Int) - y3.2.Scale)) then (if (((y3.1.extract (0 : Int).toNat (w6 ((y3.1.size : Int) - y3.2.Scale)).toNat).size + (⟨#[46]⟩ : ByteArray).size : Nat) : Int) > IntKind.i64.max then none else if 0 ≤ (w6 ((y3.1.size : Int) - y3.2.Scale)) ∧ (w6 ((y3.1.size : Int) - y3.2.Scale)) ≤ (y3.1.size : Int) then (if ((((y3.1.extract (0 : Int).toNat (w6 ((y3.1.size : Int) - y3.2.Scale)).toNat) ++ (⟨#[46]⟩ : ByteArray)).size + (y3.1.extract (w6 ((y3.1.size : Int) - y3.2.Scale)).toNat y3.1.size).size : Nat) : Int) > IntKind.i64.max then none else cond (decide (y3.2.N < 0))
  (if (((⟨#[45]⟩ : ByteArray).size + (((y3.1.extract (0 : Int).toNat (w6 ((y3.1.size : Int) - y3.2.Scale)).toNat) ++ (⟨#[46]⟩ : ByteArray)) ++ (y3.1.extract (w6 ((y3.1.size : Int) - y3.2.Scale)).toNat y3.1.size)).size : Nat) : Int) > IntKind.i64.max then none else some ((⟨#[45]⟩ : ByteArray) ++ (((y3.1.extract (0 : Int).toNat (w6 ((y3.1.size : Int) - y3.2.Scale)).toNat) ++ (⟨#[46]⟩ : ByteArray)) ++ (y3.1.extract (w6 ((y3.1.size : Int) - y3.2.Scale)).toNat y3.1.size))))
  (some (((y3.1.extract (0 : Int).toNat (w6 ((y3.1.size : Int) - y3.2.Scale)).toNat) ++ (⟨#[46]⟩ : ByteArray)) ++ (y3.1.extract (w6 ((y3.1.size : Int) - y3.2.Scale)).toNat y3.1.size)))) else none) else none) else none)
  (cond (decide (y3.2.N < 0)) (if (((⟨#[45]⟩ : ByteArray).size + y3.1.size : Nat) : Int) > IntKind.i64.max then none else some ((⟨#[45]⟩ : ByteArray) ++ y3.1)) (some y3.1))
def zd4.k (N : Nat) : Kq := ⟨192, (cvv [Ty.str] [Ty.Number] (zd4 N)), go [zfp.k, zcx.k N] {lits := [6]} [(0, .plain { slots := [(1, .ptr 1 0), (3, .val Ty.str)], boxes := [(1, Ty.Number, [])] } [Ty.str, Ty.Number] (zm (zd4.r0 N) N))] Proofs.Tryz.func192 (hL := ⟨⟨_, _, rfl, by kernel_rfl⟩, trivial⟩)⟩
def zbt (N : Nat) (a0 : zA) (a1 : zN) (a2 : Int) : Option (Int × Int) :=
 cond (!a1.Based) (some (a1.Offset, 0)) ((zeh N a0.Storage a1.Pointer).bind fun r1 => cond (r1.2 != 0) (some (0, 4))
  ((zhf a0.Storage (w6 (r1.1.Address.Offset + a1.Offset)) a2).bind fun r2 => cond (!r2) (some (0, 5))
  (some ((w6 (r1.1.Address.Offset + a1.Offset)), 0))))
def zbt.k (N : Nat) : Kq := ⟨194, (cvv [T6, T6] [Ty.zA, Ty.zN, T6] (zbt N)), go [zeh.k N, zhf.k] {} [] Proofs.Tryz.func194⟩
def zc3 (N : Nat) (a0 : zA) (a1 : zN) (a2 : DataType) : Option (ByteArray × Int) :=
 (za3 a2).bind fun r1 => (zbt N a0 a1 r1).bind fun r2 => cond (r2.2 != 0) (some ((⟨#[]⟩ : ByteArray), r2.2))
  ((za3 (⟨a2.Kind, a2.Length, a2.Scale⟩ : DataType)).bind fun r3 =>
  if 0 ≤ (w6 (r2.1 + r3)) ∧ (w6 (r2.1 + r3)) ≤ (a0.Storage.Bytes.size : Int) then (if 0 ≤ r2.1 ∧ r2.1 ≤ (w6 (r2.1 + r3)) then (some ((a0.Storage.Bytes.extract r2.1.toNat (w6 (r2.1 + r3)).toNat), 0)) else none) else none)
def zc3.k (N : Nat) : Kq := ⟨193, (cvv [Ty.str, T6] [Ty.zA, Ty.zN, Ty.DataType] (zc3 N)), go [za3.k, zbt.k N] {lits := [14]} [] Proofs.Tryz.func193⟩
def zm8 (N : Nat) (a0 : zA) (a1 : zB) : Option (Int × zA) :=
 cond (a1.Op == 22) (if 0 ≤ a1.R then (if a1.R < (a0.Registers.length : Int) then ((a0.Registers[a1.R.toNat]?).bind fun x1 => (zd4 N x1).bind fun r2 =>
  cond ((a0.Lines.length : Int) == 40) (some (0, { a0 with Status := 3 }))
  (cond (Nat.ble ((a0.Lines.length + ([r2] : List ByteArray).length) * 16) zab)
  (some (0, { a0 with Lines := (a0.Lines ++ ([r2] : List ByteArray)) })) none)) else none) else none)
  (cond (a1.Op == 23) ((zc3 N a0 a1.Place a1.zF).bind fun r3 => cond (r3.2 != 0) (some (r3.2, a0)) (cond ((a0.Lines.length : Int) == 40)
  (some (0, { a0 with Status := 3 }))
  (cond (Nat.ble ((a0.Lines.length + ([r3.1] : List ByteArray).length) * 16) zab)
  (some (0, { a0 with Lines := (a0.Lines ++ ([r3.1] : List ByteArray)) })) none)))
  (cond ((a0.Lines.length : Int) == 40) (some (0, { a0 with Status := 3 }))
  (cond (Nat.ble ((a0.Lines.length + ([a1.Text] : List ByteArray).length) * 16) zab)
  (some (0, { a0 with Lines := (a0.Lines ++ ([a1.Text] : List ByteArray)) })) none)))
def zm8.k (N : Nat) : Kq := ⟨130, (ctv [.ptr Ty.zA true [0, 5, 6], .val Ty.zB] [T6] [Ty.zA] [] [Ty.zA, Ty.zB] (zm8 N)), go [zd4.k N, zc3.k N] {lits := [55], pk := [1000000]} [] Proofs.Tryz.func130⟩
def zas.b0 (N : Nat) (s0 : Int) (s1 : Int) (s5 : List Int) (s6 : Int) : Option (Stp (Int × Int × (List Int) × Int)) :=
 cond (decide (s6 < s1))
  (if 0 ≤ (w6 ((w6 (s1 - 1)) - s6)) then (if (w6 ((w6 (s1 - 1)) - s6)) < (s5.length : Int) then ((s5[(w6 ((w6 (s1 - 1)) - s6)).toNat]?).bind fun x1001 =>
  some (.again ((w6 (s0.tdiv 256)), s1, (s5.set ((w6 ((w6 (s1 - 1)) - s6)).toNat)
  (IntKind.wrap .u8 (s0.tmod 256))), (w6 (s6 + 1))))) else none) else none) (some (.leave (s0, s1, s5, s6)))
def zas.r0 (N : Nat) (x : Int × Int × (List Int) × Int) := zas.b0 N x.1 x.2.1 x.2.2.1 x.2.2.2
def zas (N : Nat) (a0 : Int) (a1 : Int) : Option ByteArray :=
 if 0 ≤ a1 then (if a1 ≤ a1 then (cond (Nat.ble (a1.toNat * 1) zab) ((zm (zas.r0 N) N (a0, a1, (List.replicate a1.toNat (0 : Int)), 0)).bind fun y1 =>
  some (zdf y1.2.2.1)) none) else none) else none
def zas.k (N : Nat) : Kq := ⟨249, (cvv [Ty.str] [T6, T6] (zas N)), go [] {} [(0, .plain { slots := [(0, .val T6), (1, .val T6), (5, .own 5000005 (Ty.int .u8)), (6, .val T6)], boxes := [] } [T6, T6, (Ty.sl (Ty.int .u8)), T6] (zm (zas.r0 N) N))] Proofs.Tryz.func249 (hL := ⟨⟨_, _, rfl, by kernel_rfl⟩, trivial⟩)⟩
def zlh (N : Nat) (a0 : Pointer) : Option ByteArray :=
 (zas N a0.Kind 1).bind fun r1 => if ((r1.size + (⟨#[0]⟩ : ByteArray).size : Nat) : Int) > IntKind.i64.max then none else (zas N a0.Authority 2).bind fun r2 =>
  if (((r1 ++ (⟨#[0]⟩ : ByteArray)).size + r2.size : Nat) : Int) > IntKind.i64.max then none else (zas N a0.Address.zY 6).bind fun r3 =>
  if ((((r1 ++ (⟨#[0]⟩ : ByteArray)) ++ r2).size + r3.size : Nat) : Int) > IntKind.i64.max then none else (zas N a0.Address.Offset 6).bind fun r4 =>
  if (((((r1 ++ (⟨#[0]⟩ : ByteArray)) ++ r2) ++ r3).size + r4.size : Nat) : Int) > IntKind.i64.max then none else some ((((r1 ++ (⟨#[0]⟩ : ByteArray)) ++ r2) ++ r3) ++ r4)
def zlh.k (N : Nat) : Kq := ⟨254, (cvv [Ty.str] [Ty.Pointer] (zlh N)), go [zas.k N] {} [] Proofs.Tryz.func254⟩
def zmd (a0 : ByteArray) (a1 : Int) (a2 : ByteArray) : Option ByteArray :=
 if 0 ≤ a1 ∧ a1 ≤ (a0.size : Int) then (if 0 ≤ (0 : Int) ∧ (0 : Int) ≤ a1 then (if (((a0.extract (0 : Int).toNat a1.toNat).size + a2.size : Nat) : Int) > IntKind.i64.max then none else if 0 ≤ (w6 (a1 + (a2.size : Int))) ∧ (w6 (a1 + (a2.size : Int))) ≤ (a0.size : Int) then (if ((((a0.extract (0 : Int).toNat a1.toNat) ++ a2).size + (a0.extract (w6 (a1 + (a2.size : Int))).toNat a0.size).size : Nat) : Int) > IntKind.i64.max then none else some (((a0.extract (0 : Int).toNat a1.toNat) ++ a2) ++ (a0.extract (w6 (a1 + (a2.size : Int))).toNat a0.size))) else none) else none) else none
def zmd.k : Kq := ⟨175, (cvv [Ty.str] [Ty.str, T6, Ty.str] zmd), go [] {} [] Proofs.Tryz.func175⟩
def zbf.b0 (N : Nat) (s1 : Int) (s2 : ByteArray) (s8 : Int) (b6 : Storage) (b7 : Storage) : Option (Stp (Int × ByteArray × Int × Storage × Storage)) :=
 cond (decide (s8 < (s2.size : Int)))
  (if 0 ≤ (w6 ((w6 (s1 + s8)).tdiv 16)) then (if (w6 ((w6 (s1 + s8)).tdiv 16)) < (b7.Tags.length : Int) then ((b7.Tags[(w6 ((w6 (s1 + s8)).tdiv 16)).toNat]?).bind fun x1001 =>
  some (.again (s1, s2, (w6 (s8 + 1)), b6, (⟨b7.Bytes, (b7.Tags.set ((w6 ((w6 (s1 + s8)).tdiv 16)).toNat) false)⟩ : Storage)))) else none) else none)
  (some (.leave (s1, s2, s8, b6, b7)))
def zbf.r0 (N : Nat) (x : Int × ByteArray × Int × Storage × Storage) := zbf.b0 N x.1 x.2.1 x.2.2.1 x.2.2.2.1 x.2.2.2.2
def zbf (N : Nat) (a0 : Storage) (a1 : Int) (a2 : ByteArray) : Option Storage :=
 (zdi a0).bind fun r1 => (zmd a0.Bytes a1 a2).bind fun r2 =>
  (zm (zbf.r0 N) N (a1, a2, 0, (⟨(⟨#[]⟩ : ByteArray), []⟩ : Storage), (⟨r2, r1.Tags⟩ : Storage))).bind fun y3 => some y3.2.2.2.2
def zbf.k (N : Nat) : Kq := ⟨196, (ctv [.val Ty.Storage, .val T6, .val Ty.str] [Ty.Storage] [] [1] [Ty.Storage, T6, Ty.str] (zbf N)), go [zdi.k, zmd.k] {} [(0, .plain { slots := [(1, .val T6), (2, .val Ty.str), (6, .ptr 6 0), (7, .ptr 7 0), (8, .val T6)], boxes := [(6, Ty.Storage, [1]), (7, Ty.Storage, [1])] } [T6, Ty.str, T6, Ty.Storage, Ty.Storage] (zm (zbf.r0 N) N))] Proofs.Tryz.func196 (hL := ⟨⟨_, _, rfl, by kernel_rfl⟩, trivial⟩)⟩
def ze5 (N : Nat) (a0 : Storage) (a1 : Int) (a2 : Pointer) : Option Storage :=
 (zlh N a2).bind fun r1 => (zbf N (⟨a0.Bytes, a0.Tags⟩ : Storage) a1 r1).bind fun r2 =>
  if 0 ≤ (w6 (a1.tdiv 16)) then (if (w6 (a1.tdiv 16)) < (r2.Tags.length : Int) then ((r2.Tags[(w6 (a1.tdiv 16)).toNat]?).bind fun x3 =>
  some (⟨r2.Bytes, (r2.Tags.set ((w6 (a1.tdiv 16)).toNat) true)⟩ : Storage)) else none) else none
def ze5.k (N : Nat) : Kq := ⟨180, (ctv [.val Ty.Storage, .val T6, .val Ty.Pointer] [Ty.Storage] [] [1] [Ty.Storage, T6, Ty.Pointer] (ze5 N)), go [zbf.k N, zlh.k N] {lits := [11]} [] Proofs.Tryz.func180⟩
def zm9 (N : Nat) (a0 : zA) (a1 : zB) : Option (Int × zA) :=
 cond (a1.Op == 14) ((za3 a1.zF).bind fun r1 => (zbt N a0 a1.Place r1).bind fun r2 => cond (r2.2 != 0) (some (r2.2, a0))
  ((ze5 N a0.Storage a1.Pointer (⟨0, (⟨1, r2.1⟩ : Address), 0⟩ : Pointer)).bind fun r3 =>
  some (0, { a0 with Storage := r3 }))) (cond (a1.Op == 15)
  ((zeh N a0.Storage a1.Source).bind fun r4 => cond (r4.2 != 0) (some (4, a0)) (cond (a1.Op == 15) ((ze5 N a0.Storage a1.Pointer r4.1).bind fun r5 =>
  some (0, { a0 with Storage := r5 })) (cond (a1.Op == 16)
  (if 0 ≤ a1.R then (if a1.R < (a0.Registers.length : Int) then ((a0.Registers[a1.R.toNat]?).bind fun x6 => (zge N x6).bind fun r7 =>
  (zf (w6 (r4.1.Address.Offset + r7)) 0 16777215).bind fun r8 => cond (!r8) (some (5, a0))
  ((ze5 N a0.Storage a1.Pointer (⟨r4.1.Kind, (⟨r4.1.Address.zY, (w6 (r4.1.Address.Offset + r7))⟩ : Address), r4.1.Authority⟩ : Pointer)).bind fun r9 =>
  some (0, { a0 with Storage := r9 }))) else none) else none) (some (0, a0)))))
  ((zeh N a0.Storage a1.Pointer).bind fun r10 => cond (r10.2 != 0) (some (4, a0)) (cond (a1.Op == 15) ((ze5 N a0.Storage a1.Pointer r10.1).bind fun r11 =>
  some (0, { a0 with Storage := r11 })) (cond (a1.Op == 16)
  (if 0 ≤ a1.R then (if a1.R < (a0.Registers.length : Int) then ((a0.Registers[a1.R.toNat]?).bind fun x12 => (zge N x12).bind fun r13 =>
  (zf (w6 (r10.1.Address.Offset + r13)) 0 16777215).bind fun r14 => cond (!r14) (some (5, a0))
  ((ze5 N a0.Storage a1.Pointer (⟨r10.1.Kind, (⟨r10.1.Address.zY, (w6 (r10.1.Address.Offset + r13))⟩ : Address), r10.1.Authority⟩ : Pointer)).bind fun r15 =>
  some (0, { a0 with Storage := r15 }))) else none) else none) (some (0, a0))))))
def zm9.k (N : Nat) : Kq := ⟨131, (ctv [.ptr Ty.zA true [0, 5, 6], .val Ty.zB] [T6] [Ty.zA] [] [Ty.zA, Ty.zB] (zm9 N)), go [zf.k, zeh.k N, za3.k, zge.k N, ze5.k N, zbt.k N] {lits := [21], pk := [1000000]} [] Proofs.Tryz.func131⟩
def zea (N : Nat) (a0 : ByteArray) (a1 : Int) : Option ByteArray :=
 cond (decide ((a0.size : Int) ≥ a1))
  (if 0 ≤ a1 ∧ a1 ≤ (a0.size : Int) then (if 0 ≤ (0 : Int) ∧ (0 : Int) ≤ a1 then (some (a0.extract (0 : Int).toNat a1.toNat)) else none) else none)
  ((zcw N 32 (w6 (a1 - (a0.size : Int)))).bind fun r1 => if ((a0.size + r1.size : Nat) : Int) > IntKind.i64.max then none else some (a0 ++ r1))
def zea.k (N : Nat) : Kq := ⟨197, (cvv [Ty.str] [Ty.str, T6] (zea N)), go [zcw.k N] {} [] Proofs.Tryz.func197⟩
def zgf (N : Nat) (a0 : ByteArray) (a1 : ByteArray) : Option Int :=
 (zea N a0 (if (a1.size : Int) > (a0.size : Int) then (a1.size : Int) else (a0.size : Int))).bind fun r1 =>
  (zea N a1 (if (a1.size : Int) > (a0.size : Int) then (a1.size : Int) else (a0.size : Int))).bind fun r2 =>
  (za5 (!((Op.bytesLess r1.toList r2.toList) || (r1.toList == r2.toList)))).bind fun r3 => (za5 (Op.bytesLess r1.toList r2.toList)).bind fun r4 =>
  (zdh (w6 (r3 - r4))).bind fun r5 => some r5
def zgf.k (N : Nat) : Kq := ⟨195, (cvv [T6] [Ty.str, Ty.str] (zgf N)), go [za5.k, zdh.k, zea.k N] {} [] Proofs.Tryz.func195⟩
def zmj (N : Nat) (a0 : zA) (a1 : zB) : Option (Int × zA) :=
 (za3 a1.zF).bind fun r1 => cond (a1.Op == 13) ((zgf N a1.Text a1.Other).bind fun r2 =>
  some (0, { a0 with Condition := r2 })) (cond (a1.Op == 12)
  ((zc3 N a0 a1.Place a1.zF).bind fun r3 => cond (r3.2 != 0) (some (r3.2, a0)) ((zgf N r3.1 a1.Text).bind fun r4 =>
  some (0, { a0 with Condition := r4 }))) (cond (a1.Op == 11)
  ((zc3 N a0 a1.Place a1.zF).bind fun r5 => cond (r5.2 != 0) (some (r5.2, a0)) ((zc3 N a0 a1.From a1.Second).bind fun r6 => cond (r6.2 != 0) (some (r6.2, a0))
  ((zgf N r5.1 r6.1).bind fun r7 => some (0, { a0 with Condition := r7 }))))
  (cond (a1.Op == 9) ((zc3 N a0 a1.From a1.Second).bind fun r8 => cond (r8.2 != 0) (some (r8.2, a0)) ((zbt N a0 a1.Place r1).bind fun r9 => cond (r9.2 != 0)
  (some (r9.2, a0)) ((zea N r8.1 r1).bind fun r10 => (zbf N a0.Storage r9.1 r10).bind fun r11 =>
  some (0, { a0 with Storage := r11 }))))
  ((zbt N a0 a1.Place r1).bind fun r12 => cond (r12.2 != 0) (some (r12.2, a0)) ((zea N a1.Text r1).bind fun r13 =>
  (zbf N a0.Storage r12.1 r13).bind fun r14 =>
  some (0, { a0 with Storage := r14 }))))))
def zmj.k (N : Nat) : Kq := ⟨132, (ctv [.ptr Ty.zA true [0, 5, 6], .val Ty.zB] [T6] [Ty.zA] [] [Ty.zA, Ty.zB] (zmj N)), go [za3.k, zc3.k N, zbt.k N, zgf.k N, zbf.k N, zea.k N] {lits := [62], pk := [1000000]} [] Proofs.Tryz.func132⟩
def zj0 (N : Nat) (a0 : DataType) : Option Int :=
 (zdq N a0.Length).bind fun r1 => some (w6 (r1 - 1))
def zj0.k (N : Nat) : Kq := ⟨248, (cvv [T6] [Ty.DataType] (zj0 N)), go [zdq.k N] {} [] Proofs.Tryz.func248⟩
def zfn (a0 : Int) (a1 : Int) : Option (Int × Bool) :=
 (cond (a1 == 11) (some true) (some (a1 == 13))).bind fun g1 => cond g1 (some ((w6 (0 - a0)), (decide (a1 ≥ 10)))) (some (a0, (decide (a1 ≥ 10))))
def zfn.k : Kq := ⟨344, (cvv [T6, Ty.bool] [T6, T6] zfn), go [] {} [] Proofs.Tryz.func344⟩
def zbi.b0 (N : Nat) (s0 : ByteArray) (s5 : Int) (s6 : Int) (s7 : Int) (b2 : Value) : Option (Round (Value × Int × Int) (ByteArray × Int × Int × Int × Value)) :=
 cond (decide (s7 < (s0.size : Int))) (cond (s7 == (w6 ((s0.size : Int) - 1))) ((zg6 s0 s7).bind fun x1001 =>
  (cond (decide ((w6 ((w6 (x1001.toNat : Int)).tdiv 16)) < 10)) (some true) ((zg6 s0 s7).bind fun x1002 =>
  some (decide (((x1002.toNat : Int).tmod 16) > 9)))).bind fun g1003 => cond g1003 (some (.result ((⟨0, (⟨#[]⟩ : ByteArray)⟩ : Value), s7, 21))) ((zg6 s0 s7).bind fun x1004 =>
  some (.again (s0, (w6 ((w6 (10 * s5)) + ((w6 (x1004.toNat : Int)).tmod 16))), (w6 ((w6 (x1001.toNat : Int)).tdiv 16)), (w6 (s7 + 1)), b2))))
  ((cond (decide (s6 < 10)) (some true) ((zg6 s0 s7).bind fun x1005 => some (decide (((x1005.toNat : Int).tmod 16) > 9)))).bind fun g1006 =>
  cond g1006 (some (.result ((⟨0, (⟨#[]⟩ : ByteArray)⟩ : Value), s7, 21))) ((zg6 s0 s7).bind fun x1007 =>
  some (.again (s0, (w6 ((w6 (10 * s5)) + ((w6 (x1007.toNat : Int)).tmod 16))), s6, (w6 (s7 + 1)), b2)))))
  (some (.leave (s0, s5, s6, s7, b2)))
def zbi.r0 (N : Nat) (x : ByteArray × Int × Int × Int × Value) := zbi.b0 N x.1 x.2.1 x.2.2.1 x.2.2.2.1 x.2.2.2.2
def zbi (N : Nat) (a0 : ByteArray) : Option (Value × Int × Int) :=
 (zl (zbi.r0 N) N (a0, 0, 15, 0, (⟨0, (⟨#[]⟩ : ByteArray)⟩ : Value))).bind fun z2 => zb9 z2 (fun z => some z) (fun y1 =>
  (zfn y1.2.1 y1.2.2.1).bind fun r3 => some ((⟨r3.1, (⟨#[]⟩ : ByteArray)⟩ : Value), 0, 0))
def zbi.k (N : Nat) : Kq := ⟨307, (cvv [Ty.Value, T6, T6] [Ty.str] (zbi N)), go [zfn.k] {} [(0, .rets { slots := [(0, .val Ty.str), (2, .ptr 2 0), (5, .val T6), (6, .val T6), (7, .val T6)], boxes := [(2, Ty.Value, [])] } [Ty.str, T6, T6, T6, Ty.Value] (zl (zbi.r0 N) N))] Proofs.Tryz.func307 (hL := ⟨⟨_, _, rfl, by kernel_rfl⟩, trivial⟩)⟩
def zbe.b0 (N : Nat) (s1 : ByteArray) (s7 : Int) (s8 : Int) (b2 : DataType) (b4 : Value) : Option (Round (Value × Int × Int) (ByteArray × Int × Int × DataType × Value)) :=
 cond (decide (s8 < (w6 (2 * (s1.size : Int))))) ((zg6 s1 (w6 (s8.tdiv 2))).bind fun x1001 => cond ((s8.tmod 2) == 1)
  ((zg6 s1 (w6 (s8.tdiv 2))).bind fun x1002 => cond (s8 == (w6 ((w6 (2 * (s1.size : Int))) - 1)))
  ((cond (decide (((w6 (x1002.toNat : Int)).tmod 16) < 10)) (some true) ((cond (s8 == 0) (some ((b2.Length.tmod 2) == 0)) (some false)).bind fun g1003 =>
  (cond g1003 (some (((w6 (x1002.toNat : Int)).tmod 16) != 0)) (some false)).bind fun g1004 => some g1004)).bind fun g1005 =>
  cond g1005 (some (.result ((⟨0, (⟨#[]⟩ : ByteArray)⟩ : Value), (w6 (s8.tdiv 2)), 21)))
  (cond (s8 == (w6 ((w6 (2 * (s1.size : Int))) - 1))) ((zfn s7 ((w6 (x1002.toNat : Int)).tmod 16)).bind fun r1006 =>
  some (.again (s1, r1006.1, (w6 (s8 + 1)), b2, b4)))
  (some (.again (s1, (w6 ((w6 (10 * s7)) + ((w6 (x1002.toNat : Int)).tmod 16))), (w6 (s8 + 1)), b2, b4)))))
  ((cond (decide (((w6 (x1002.toNat : Int)).tmod 16) > 9)) (some true) ((cond (s8 == 0) (some ((b2.Length.tmod 2) == 0)) (some false)).bind fun g1007 =>
  (cond g1007 (some (((w6 (x1002.toNat : Int)).tmod 16) != 0)) (some false)).bind fun g1008 => some g1008)).bind fun g1009 =>
  cond g1009 (some (.result ((⟨0, (⟨#[]⟩ : ByteArray)⟩ : Value), (w6 (s8.tdiv 2)), 21)))
  (cond (s8 == (w6 ((w6 (2 * (s1.size : Int))) - 1))) ((zfn s7 ((w6 (x1002.toNat : Int)).tmod 16)).bind fun r1010 =>
  some (.again (s1, r1010.1, (w6 (s8 + 1)), b2, b4)))
  (some (.again (s1, (w6 ((w6 (10 * s7)) + ((w6 (x1002.toNat : Int)).tmod 16))), (w6 (s8 + 1)), b2, b4))))))
  (cond (s8 == (w6 ((w6 (2 * (s1.size : Int))) - 1))) ((cond (decide ((w6 ((w6 (x1001.toNat : Int)).tdiv 16)) < 10))
  (some true) ((cond (s8 == 0) (some ((b2.Length.tmod 2) == 0)) (some false)).bind fun g1011 =>
  (cond g1011 (some ((w6 ((w6 (x1001.toNat : Int)).tdiv 16)) != 0)) (some false)).bind fun g1012 => some g1012)).bind fun g1013 =>
  cond g1013 (some (.result ((⟨0, (⟨#[]⟩ : ByteArray)⟩ : Value), (w6 (s8.tdiv 2)), 21)))
  (cond (s8 == (w6 ((w6 (2 * (s1.size : Int))) - 1)))
  ((zfn s7 (w6 ((w6 (x1001.toNat : Int)).tdiv 16))).bind fun r1014 => some (.again (s1, r1014.1, (w6 (s8 + 1)), b2, b4)))
  (some (.again (s1, (w6 ((w6 (10 * s7)) + (w6 ((w6 (x1001.toNat : Int)).tdiv 16)))), (w6 (s8 + 1)), b2, b4)))))
  ((cond (decide ((w6 ((w6 (x1001.toNat : Int)).tdiv 16)) > 9)) (some true) ((cond (s8 == 0) (some ((b2.Length.tmod 2) == 0))
  (some false)).bind fun g1015 => (cond g1015 (some ((w6 ((w6 (x1001.toNat : Int)).tdiv 16)) != 0)) (some false)).bind fun g1016 =>
  some g1016)).bind fun g1017 => cond g1017 (some (.result ((⟨0, (⟨#[]⟩ : ByteArray)⟩ : Value), (w6 (s8.tdiv 2)), 21)))
  (cond (s8 == (w6 ((w6 (2 * (s1.size : Int))) - 1)))
  ((zfn s7 (w6 ((w6 (x1001.toNat : Int)).tdiv 16))).bind fun r1018 => some (.again (s1, r1018.1, (w6 (s8 + 1)), b2, b4)))
  (some (.again (s1, (w6 ((w6 (10 * s7)) + (w6 ((w6 (x1001.toNat : Int)).tdiv 16)))), (w6 (s8 + 1)), b2, b4)))))))
  (some (.leave (s1, s7, s8, b2, b4)))
def zbe.r0 (N : Nat) (x : ByteArray × Int × Int × DataType × Value) := zbe.b0 N x.1 x.2.1 x.2.2.1 x.2.2.2.1 x.2.2.2.2
def zbe (N : Nat) (a0 : DataType) (a1 : ByteArray) : Option (Value × Int × Int) :=
 (zl (zbe.r0 N) N (a1, 0, 0, a0, (⟨0, (⟨#[]⟩ : ByteArray)⟩ : Value))).bind fun z2 => zb9 z2 (fun z => some z) (fun y1 =>
  some ((⟨y1.2.1, (⟨#[]⟩ : ByteArray)⟩ : Value), 0, 0))
def zbe.k (N : Nat) : Kq := ⟨308, (cvv [Ty.Value, T6, T6] [Ty.DataType, Ty.str] (zbe N)), go [zfn.k] {} [(0, .rets { slots := [(1, .val Ty.str), (2, .ptr 2 0), (4, .ptr 4 0), (7, .val T6), (8, .val T6)], boxes := [(2, Ty.DataType, []), (4, Ty.Value, [])] } [Ty.str, T6, T6, Ty.DataType, Ty.Value] (zl (zbe.r0 N) N))] Proofs.Tryz.func308 (hL := ⟨⟨_, _, rfl, by kernel_rfl⟩, trivial⟩)⟩
def zkp (N : Nat) (a0 : DataType) (a1 : ByteArray) : Option (Value × Int × Int) :=
 (zft a0).bind fun r1 => cond (r1 != 0) (some ((⟨0, (⟨#[]⟩ : ByteArray)⟩ : Value), 0, r1)) (cond (a0.Kind == 4) (some ((⟨0, (⟨#[]⟩ : ByteArray)⟩ : Value), 0, 17))
  ((za3 a0).bind fun r2 => cond ((a1.size : Int) != r2) (some ((⟨0, (⟨#[]⟩ : ByteArray)⟩ : Value), 0, 18)) (cond (a0.Kind == 0) (some ((⟨0, a1⟩ : Value), 0, 0))
  (cond (a0.Kind == 3) ((zc7 N a1 0 (a1.size : Int)).bind fun r3 => (zg6 a1 0).bind fun x4 => cond (decide ((x4.toNat : Int) ≥ 128))
  (if (w6 (8 * (a1.size : Int))) < 0 then none else (zj0 N a0).bind fun r5 => (zj0 N a0).bind fun r6 =>
  (zf (w6 (r3 - (w6 (1 * 2 ^ (min (w6 (8 * (a1.size : Int))).toNat 64))))) (w6 (0 - r5)) r6).bind fun r7 =>
  cond (!r7) (some ((⟨0, (⟨#[]⟩ : ByteArray)⟩ : Value), 0, 19))
  (some ((⟨(w6 (r3 - (w6 (1 * 2 ^ (min (w6 (8 * (a1.size : Int))).toNat 64))))), (⟨#[]⟩ : ByteArray)⟩ : Value), 0, 0)))
  ((zj0 N a0).bind fun r8 => (zj0 N a0).bind fun r9 => (zf r3 (w6 (0 - r8)) r9).bind fun r10 => cond (!r10)
  (some ((⟨0, (⟨#[]⟩ : ByteArray)⟩ : Value), 0, 19)) (some ((⟨r3, (⟨#[]⟩ : ByteArray)⟩ : Value), 0, 0)))) (cond (a0.Kind == 2) ((zbi N a1).bind fun r11 =>
  some (r11.1, r11.2.1, r11.2.2)) ((zbe N a0 a1).bind fun r12 => some (r12.1, r12.2.1, r12.2.2)))))))
def zkp.k (N : Nat) : Kq := ⟨255, (cvv [Ty.Value, T6, T6] [Ty.DataType, Ty.str] (zkp N)), go [zf.k, za3.k, zft.k, zc7.k N, zj0.k N, zbi.k N, zbe.k N] {lits := [35, 51]} [] Proofs.Tryz.func255⟩
def zgg (N : Nat) (a0 : zA) (a1 : zN) (a2 : DataType) : Option (Number × Int) :=
 (zc3 N a0 a1 a2).bind fun r1 => cond (r1.2 != 0) (some ((⟨0, 0⟩ : Number), r1.2)) ((zkp N a2 r1.1).bind fun r2 => cond (r2.2.2 != 0) (some ((⟨0, 0⟩ : Number), 1))
  (some ((⟨r2.1.N, a2.Scale⟩ : Number), 0)))
def zgg.k (N : Nat) : Kq := ⟨198, (cvv [Ty.Number, T6] [Ty.zA, Ty.zN, Ty.DataType] (zgg N)), go [zc3.k N, zkp.k N] {} [] Proofs.Tryz.func198⟩
def zfo (a0 : DataType) : Option Int :=
 (zft a0).bind fun r1 => cond (r1 != 0) (some r1) ((zcs a0.Kind).bind fun r2 => (za5 (!r2)).bind fun r3 => some (w6 (17 * r3)))
def zfo.k : Kq := ⟨261, (cvv [T6] [Ty.DataType] zfo), go [za5.k, zft.k, zcs.k] {} [] Proofs.Tryz.func261⟩
def zgh (a0 : Int) : Option ((List Int)) :=
 if 0 ≤ a0 then (if a0 ≤ a0 then (cond (Nat.ble (a0.toNat * 8) zab) (cond (Nat.ble (((List.replicate a0.toNat (0 : Int)).length + ([1] : List Int).length) * 8) zab)
  (some ((List.replicate a0.toNat (0 : Int)) ++ ([1] : List Int))) none) none) else none) else none
def zgh.k : Kq := ⟨312, (cvv [(Ty.sl T6)] [T6] zgh), go [] {lits := [5]} [] Proofs.Tryz.func312⟩
def zjj (N : Nat) (a0 : Number) : Option zR :=
 (zcm N a0.N 0).bind fun r1 => (zgh a0.Scale).bind fun r2 => some (⟨r1, r2⟩ : zR)
def zjj.k (N : Nat) : Kq := ⟨263, (cvv [Ty.zR] [Ty.Number] (zjj N)), go [zcm.k N, zgh.k] {} [] Proofs.Tryz.func263⟩
def za1.b2 (N : Nat) (s0 : List Int) (s1 : List Int) (s6 : List Int) (s7 : List Int) (s8 : Int) : Option (Stp ((List Int) × (List Int) × (List Int) × (List Int) × Int)) :=
 (zcv N s7 s1).bind fun r3001 => cond (decide (r3001 ≥ 0)) ((zc9 N s7 s1).bind fun r3002 =>
  if 0 ≤ s8 then (if s8 < (s6.length : Int) then ((s6[s8.toNat]?).bind fun x3003 => if 0 ≤ s8 then (if s8 < (s6.length : Int) then ((s6[s8.toNat]?).bind fun x3004 =>
  some (.again (s0, s1, (s6.set s8.toNat (w6 (x3003 + 1))), r3002, s8))) else none) else none) else none) else none) (some (.leave (s0, s1, s6, s7, s8)))
def za1.r2 (N : Nat) (x : (List Int) × (List Int) × (List Int) × (List Int) × Int) := za1.b2 N x.1 x.2.1 x.2.2.1 x.2.2.2.1 x.2.2.2.2
def za1.b0 (N : Nat) (s0 : List Int) (s1 : List Int) (s6 : List Int) (s7 : List Int) (s8 : Int) : Option (Stp ((List Int) × (List Int) × (List Int) × (List Int) × Int)) :=
 cond (decide (s8 ≥ 0)) ((idx s0 s8).bind fun x1001 => cond (Nat.ble ((([x1001] : List Int).length + s7.length) * 8) zab)
  ((zb4 N (([x1001] : List Int) ++ s7)).bind fun r1002 => (zm (za1.r2 N) N (s0, s1, s6, r1002, s8)).bind fun y1003 =>
  some (.again (y1003.1, y1003.2.1, y1003.2.2.1, y1003.2.2.2.1, (w6 (y1003.2.2.2.2 - 1))))) none) (some (.leave (s0, s1, s6, s7, s8)))
def za1.r0 (N : Nat) (x : (List Int) × (List Int) × (List Int) × (List Int) × Int) := za1.b0 N x.1 x.2.1 x.2.2.1 x.2.2.2.1 x.2.2.2.2
def za1 (N : Nat) (a0 : List Int) (a1 : List Int) : Option ((List Int) × (List Int)) :=
 if 0 ≤ (a0.length : Int) then (if (a0.length : Int) ≤ (a0.length : Int) then (cond (Nat.ble ((a0.length : Int).toNat * 8) zab)
  ((zm (za1.r0 N) N (a0, a1, (List.replicate (a0.length : Int).toNat (0 : Int)), [], (w6 ((a0.length : Int) - 1)))).bind fun y1 =>
  (zb4 N y1.2.2.1).bind fun r2 => some (r2, y1.2.2.2.1)) none) else none) else none
def za1.k (N : Nat) : Kq := ⟨314, (cvv [(Ty.sl T6), (Ty.sl T6)] [(Ty.sl T6), (Ty.sl T6)] (za1 N)), go [zcv.k N, zc9.k N, zb4.k N] {lits := [25]} [(2, .plain { slots := [(0, .val (Ty.sl T6)), (1, .val (Ty.sl T6)), (6, .own 5000006 T6), (7, .val (Ty.sl T6)), (8, .val T6)], boxes := [] } [(Ty.sl T6), (Ty.sl T6), (Ty.sl T6), (Ty.sl T6), T6] (zm (za1.r2 N) N)), (0, .plain { slots := [(0, .val (Ty.sl T6)), (1, .val (Ty.sl T6)), (6, .own 5000006 T6), (7, .val (Ty.sl T6)), (8, .val T6)], boxes := [] } [(Ty.sl T6), (Ty.sl T6), (Ty.sl T6), (Ty.sl T6), T6] (zm (za1.r0 N) N))] Proofs.Tryz.func314 (hL := ⟨⟨_, _, rfl, by kernel_rfl⟩, ⟨_, _, rfl, by kernel_rfl⟩, trivial⟩)⟩
def zj9 (N : Nat) (a0 : zR) (a1 : Int) (a2 : Bool) : Option zI :=
 if 0 ≤ a1 then (if a1 ≤ a1 then (cond (Nat.ble (a1.toNat * 8) zab) (cond (Nat.ble (((List.replicate a1.toNat (0 : Int)).length + a0.Top.zT.length) * 8) zab)
  ((zb4 N ((List.replicate a1.toNat (0 : Int)) ++ a0.Top.zT)).bind fun r1 => (za1 N r1 a0.yJ).bind fun r2 =>
  (cond a2 ((zcr N r2.2 r2.2).bind fun r3 => (zcv N r3 a0.yJ).bind fun r4 => some (decide (r4 ≥ 0))) (some false)).bind fun g5 =>
  cond g5 ((zcr N r2.1 ([1] : List Int)).bind fun r6 => (cond a0.Top.Below (some (decide ((r6.length : Int) > 0))) (some false)).bind fun g7 => some (⟨g7, r6⟩ : zI))
  ((cond a0.Top.Below (some (decide ((r2.1.length : Int) > 0))) (some false)).bind fun g8 => some (⟨g8, r2.1⟩ : zI))) none) none) else none) else none
def zj9.k (N : Nat) : Kq := ⟨310, (cvv [Ty.zI] [Ty.zR, T6, Ty.bool] (zj9 N)), go [zcr.k N, zcv.k N, zb4.k N, za1.k N] {pre := [(2, [7])], lits := [18, 28, 35]} [] Proofs.Tryz.func310⟩
def zda.b0 (N : Nat) (s3 : Int) (s4 : Int) (b1 : zI) : Option (Stp (Int × Int × zI)) :=
 cond (decide (s4 ≥ 0)) ((idx b1.zT s4).bind fun x1001 => some (.again ((w6 ((w6 (10 * s3)) + x1001)), (w6 (s4 - 1)), b1)))
  (some (.leave (s3, s4, b1)))
def zda.r0 (N : Nat) (x : Int × Int × zI) := zda.b0 N x.1 x.2.1 x.2.2
def zda (N : Nat) (a0 : zI) : Option Int :=
 (zm (zda.r0 N) N (0, (w6 ((a0.zT.length : Int) - 1)), a0)).bind fun y1 => cond y1.2.2.Below (some (w6 (0 - y1.1))) (some y1.1)
def zda.k (N : Nat) : Kq := ⟨311, (cvv [T6] [Ty.zI] (zda N)), go [] {} [(0, .plain { slots := [(1, .ptr 1 0), (3, .val T6), (4, .val T6)], boxes := [(1, Ty.zI, [])] } [T6, T6, Ty.zI] (zm (zda.r0 N) N))] Proofs.Tryz.func311 (hL := ⟨⟨_, _, rfl, by kernel_rfl⟩, trivial⟩)⟩
def zi2 (N : Nat) (a0 : zR) (a1 : DataType) (a2 : Bool) : Option (Int × Int) :=
 (zj9 N (⟨(⟨a0.Top.Below, a0.Top.zT⟩ : zI), a0.yJ⟩ : zR) a1.Scale a2).bind fun r1 => cond (decide ((r1.zT.length : Int) > a1.Length))
  (some (0, 19)) ((zda N r1).bind fun r2 => some (r2, 0))
def zi2.k (N : Nat) : Kq := ⟨262, (cvv [T6, T6] [Ty.zR, Ty.DataType, Ty.bool] (zi2 N)), go [zj9.k N, zda.k N] {} [] Proofs.Tryz.func262⟩
end
end Go.Proofs.YtppbpnknfigboaaGreatDoor.M
