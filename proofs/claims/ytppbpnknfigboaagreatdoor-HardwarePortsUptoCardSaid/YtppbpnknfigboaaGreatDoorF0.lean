/- What the program's functions compute, each tied to its code: part 0. -/
import Derived.Test.YtppbpnknfigboaaGreatDoorU
namespace Go.Proofs.YtppbpnknfigboaaGreatDoor.M
open Go Go.Amx
set_option linter.unusedVariables false
set_option maxRecDepth 100000
noncomputable def base_Repeat.sp0 : Amx.Spec U := { slots := [(0, .val (Ty.int .u8)), (1, .val (Ty.int .i64)), (5, .own 5000005 (Ty.int .u8)), (6, .val (Ty.int .i64))], boxes := [] }
noncomputable def base_Repeat.b0 (N : Nat) (s0 : Int) (s1 : Int) (s5 : List Int) (s6 : Int) : Option (Stp (Int × Int × (List Int) × Int)) :=
  cond (decide (s6 < s1)) (cond (Nat.ble ((s5.length + ([s0] : List Int).length) * 1) room) (some (.again (s0, s1, (s5 ++ ([s0] : List Int)), (IntKind.wrap .i64 (s6 + 1))))) none)
    (some (.leave (s0, s1, s5, s6)))
noncomputable def base_Repeat.r0 (N : Nat) (x : Int × Int × (List Int) × Int) : Option (Stp (Int × Int × (List Int) × Int)) := base_Repeat.b0 N x.1 x.2.1 x.2.2.1 x.2.2.2
noncomputable def base_Repeat (N : Nat) (a0 : Int) (a1 : Int) : Option ByteArray :=
  (iterP (base_Repeat.r0 N) N (a0, a1, [], 0)).bind fun y1 => some (bytesOf y1.2.2.1)
noncomputable def base_Repeat.ct (N : Nat) : Ct U := { params := [.val (Ty.int .u8), .val (Ty.int .i64)], results := [Ty.str], outs := [], fresh := [], fn := app U [(Ty.int .u8), (Ty.int .i64)] (R := PT U [Ty.str]) (base_Repeat N) }
noncomputable def base_Repeat.cx (N : Nat) : Ctx U := mkCx [] [] [] [] [14] [] [] []
noncomputable def base_Repeat.L (N : Nat) : Nat → Option (Cut U (PT U [Ty.str])) := pick [(0, .plain base_Repeat.sp0 [(Ty.int .u8), (Ty.int .i64), (Ty.sl (Ty.int .u8)), (Ty.int .i64)] (iterP (base_Repeat.r0 N) N))]
theorem base_Repeat.r0_eq (N : Nat) (x : PT U [(Ty.int .u8), (Ty.int .i64), (Ty.sl (Ty.int .u8)), (Ty.int .i64)]) : roundPF (base_Repeat.cx N) Proofs.Tryz.f89 (base_Repeat.L N) base_Repeat.sp0 [(Ty.int .u8), (Ty.int .i64), (Ty.sl (Ty.int .u8)), (Ty.int .i64)] 0 x = base_Repeat.r0 N x := by kernel_rfl
theorem base_Repeat.eq (N : Nat) (a0 : Int) (a1 : Int) : runF (base_Repeat.cx N) Proofs.Tryz.f89 (base_Repeat.ct N) (base_Repeat.L N) [⟨(Ty.int .u8), a0⟩, ⟨(Ty.int .i64), a1⟩] = base_Repeat N a0 a1 := by kernel_rfl
theorem base_Repeat.ok (N : Nat) : ∀ y, finOk (base_Repeat.cx N) (base_Repeat.ct N) y = true := fun y => by kernel_rfl
theorem base_Repeat.meets (N : Nat) : Meets (base_Repeat.cx N) 89 (base_Repeat.ct N) :=
  meets_run (C := base_Repeat.cx N) (ct := base_Repeat.ct N) (Lp := base_Repeat.L N) claws (ook_of (l := []) rfl (all_nil)) (xok_of (l := []) rfl (all_nil)) Proofs.Tryz.func89 (by kernel_rfl) rfl (lok_of (l := [(0, .plain base_Repeat.sp0 [(Ty.int .u8), (Ty.int .i64), (Ty.sl (Ty.int .u8)), (Ty.int .i64)] (iterP (base_Repeat.r0 N) N))]) rfl (all_cons (lok_plain (base_Repeat.r0_eq N)) (all_nil))) (base_Repeat.ok N) (app_run (U := U) [(Ty.int .u8), (Ty.int .i64)] (base_Repeat N) (runF (base_Repeat.cx N) Proofs.Tryz.f89 (base_Repeat.ct N) (base_Repeat.L N)) (base_Repeat.eq N))

noncomputable def law15_Two (N : Nat)  : Option HwCode :=
  (base_Repeat N 0 16).bind fun r1 =>
    some (⟨(⟨r1, ([false] : List Bool)⟩ : Storage), ([(⟨2, 0, 0, 0, 0, (⟨false, 0, 0⟩ : HwPlace), (⟨false, 0, 0⟩ : HwPlace), (⟨0, 0, 0⟩ : DataType), (⟨0, 0, 0⟩ : DataType), false, false, (⟨15, 1⟩ : Number), (⟨#[]⟩ : ByteArray), (⟨#[]⟩ : ByteArray), 0, 0, 0, 0⟩ : HwInstruction), (⟨1, 0, 0, 0, 0, (⟨false, 0, 0⟩ : HwPlace), (⟨false, 0, 0⟩ : HwPlace), (⟨1, 3, 0⟩ : DataType), (⟨0, 0, 0⟩ : DataType), true, false, (⟨0, 0⟩ : Number), (⟨#[]⟩ : ByteArray), (⟨#[]⟩ : ByteArray), 0, 0, 0, 0⟩ : HwInstruction), (⟨0, 1, 0, 0, 0, (⟨false, 0, 0⟩ : HwPlace), (⟨false, 0, 0⟩ : HwPlace), (⟨1, 3, 0⟩ : DataType), (⟨0, 0, 0⟩ : DataType), false, false, (⟨0, 0⟩ : Number), (⟨#[]⟩ : ByteArray), (⟨#[]⟩ : ByteArray), 0, 0, 0, 0⟩ : HwInstruction), (⟨22, 1, 0, 0, 0, (⟨false, 0, 0⟩ : HwPlace), (⟨false, 0, 0⟩ : HwPlace), (⟨0, 0, 0⟩ : DataType), (⟨0, 0, 0⟩ : DataType), false, false, (⟨0, 0⟩ : Number), (⟨#[]⟩ : ByteArray), (⟨#[]⟩ : ByteArray), 0, 0, 0, 0⟩ : HwInstruction)] : List HwInstruction), []⟩ : HwCode)
noncomputable def law15_Two.ct (N : Nat) : Ct U := { params := [], results := [Ty.HwCode], outs := [], fresh := [], fn := app U [] (R := PT U [Ty.HwCode]) (law15_Two N) }
noncomputable def law15_Two.cx (N : Nat) : Ctx U := mkCx [(89, base_Repeat.ct N)] [] [] [] [] [] [] []
noncomputable def law15_Two.L (N : Nat) : Nat → Option (Cut U (PT U [Ty.HwCode])) := pick []
theorem law15_Two.eq (N : Nat)  : runF (law15_Two.cx N) Proofs.Tryz.f45 (law15_Two.ct N) (law15_Two.L N) [] = law15_Two N := by kernel_rfl
theorem law15_Two.ok (N : Nat) : ∀ y, finOk (law15_Two.cx N) (law15_Two.ct N) y = true := fun y => by kernel_rfl
theorem law15_Two.meets (N : Nat) : Meets (law15_Two.cx N) 45 (law15_Two.ct N) :=
  meets_run (C := law15_Two.cx N) (ct := law15_Two.ct N) (Lp := law15_Two.L N) claws (ook_of (l := [(89, base_Repeat.ct N)]) rfl (all_cons (Meets.ctx (C := base_Repeat.cx N) (C' := law15_Two.cx N) rfl rfl rfl (base_Repeat.meets N)) (all_nil))) (xok_of (l := []) rfl (all_nil)) Proofs.Tryz.func45 (by kernel_rfl) rfl (lok_of (l := []) rfl (all_nil)) (law15_Two.ok N) (app_run (U := U) [] (law15_Two N) (runF (law15_Two.cx N) Proofs.Tryz.f45 (law15_Two.ct N) (law15_Two.L N)) (law15_Two.eq N))

noncomputable def hardware_in (a0 : Int) (a1 : Int) (a2 : Int) : Option Bool :=
  (cond (decide (a1 ≤ a0)) (some (decide (a0 ≤ a2))) (some false)).bind fun g1 => some g1
noncomputable def hardware_in.ct : Ct U := { params := [.val (Ty.int .i64), .val (Ty.int .i64), .val (Ty.int .i64)], results := [Ty.bool], outs := [], fresh := [], fn := app U [(Ty.int .i64), (Ty.int .i64), (Ty.int .i64)] (R := PT U [Ty.bool]) (hardware_in) }
noncomputable def hardware_in.cx : Ctx U := mkCx [] [] [] [] [] [] [] []
noncomputable def hardware_in.L : Nat → Option (Cut U (PT U [Ty.bool])) := pick []
theorem hardware_in.eq (a0 : Int) (a1 : Int) (a2 : Int) : runF (hardware_in.cx) Proofs.Tryz.f58 (hardware_in.ct) (hardware_in.L) [⟨(Ty.int .i64), a0⟩, ⟨(Ty.int .i64), a1⟩, ⟨(Ty.int .i64), a2⟩] = hardware_in a0 a1 a2 := by kernel_rfl
theorem hardware_in.ok : ∀ y, finOk (hardware_in.cx) (hardware_in.ct) y = true := fun y => by kernel_rfl
theorem hardware_in.meets : Meets (hardware_in.cx) 58 (hardware_in.ct) :=
  meets_run (C := hardware_in.cx) (ct := hardware_in.ct) (Lp := hardware_in.L) claws (ook_of (l := []) rfl (all_nil)) (xok_of (l := []) rfl (all_nil)) Proofs.Tryz.func58 (by kernel_rfl) rfl (lok_of (l := []) rfl (all_nil)) (hardware_in.ok) (app_run (U := U) [(Ty.int .i64), (Ty.int .i64), (Ty.int .i64)] (hardware_in) (runF (hardware_in.cx) Proofs.Tryz.f58 (hardware_in.ct) (hardware_in.L)) hardware_in.eq)

noncomputable def hardware_cond (a0 : Bool) (a1 : Int) : Option Int :=
  cond a0 (some a1) (some 0)
noncomputable def hardware_cond.ct : Ct U := { params := [.val Ty.bool, .val (Ty.int .i64)], results := [(Ty.int .i64)], outs := [], fresh := [], fn := app U [Ty.bool, (Ty.int .i64)] (R := PT U [(Ty.int .i64)]) (hardware_cond) }
noncomputable def hardware_cond.cx : Ctx U := mkCx [] [] [] [] [] [] [] []
noncomputable def hardware_cond.L : Nat → Option (Cut U (PT U [(Ty.int .i64)])) := pick []
theorem hardware_cond.eq (a0 : Bool) (a1 : Int) : runF (hardware_cond.cx) Proofs.Tryz.f49 (hardware_cond.ct) (hardware_cond.L) [⟨Ty.bool, a0⟩, ⟨(Ty.int .i64), a1⟩] = hardware_cond a0 a1 := by kernel_rfl
theorem hardware_cond.ok : ∀ y, finOk (hardware_cond.cx) (hardware_cond.ct) y = true := fun y => by kernel_rfl
theorem hardware_cond.meets : Meets (hardware_cond.cx) 49 (hardware_cond.ct) :=
  meets_run (C := hardware_cond.cx) (ct := hardware_cond.ct) (Lp := hardware_cond.L) claws (ook_of (l := []) rfl (all_nil)) (xok_of (l := []) rfl (all_nil)) Proofs.Tryz.func49 (by kernel_rfl) rfl (lok_of (l := []) rfl (all_nil)) (hardware_cond.ok) (app_run (U := U) [Ty.bool, (Ty.int .i64)] (hardware_cond) (runF (hardware_cond.cx) Proofs.Tryz.f49 (hardware_cond.ct) (hardware_cond.L)) hardware_cond.eq)

noncomputable def hardware_CheckModel (a0 : HwModel) : Option Int :=
  (hardware_in a0.Registers 2 8).bind fun r1 => (hardware_cond (!r1) 3).bind fun r2 => some r2
noncomputable def hardware_CheckModel.ct : Ct U := { params := [.val Ty.HwModel], results := [(Ty.int .i64)], outs := [], fresh := [], fn := app U [Ty.HwModel] (R := PT U [(Ty.int .i64)]) (hardware_CheckModel) }
noncomputable def hardware_CheckModel.cx : Ctx U := mkCx [(49, hardware_cond.ct), (58, hardware_in.ct)] [] [] [] [] [] [] []
noncomputable def hardware_CheckModel.L : Nat → Option (Cut U (PT U [(Ty.int .i64)])) := pick []
theorem hardware_CheckModel.eq (a0 : HwModel) : runF (hardware_CheckModel.cx) Proofs.Tryz.f17 (hardware_CheckModel.ct) (hardware_CheckModel.L) [⟨Ty.HwModel, a0⟩] = hardware_CheckModel a0 := by kernel_rfl
theorem hardware_CheckModel.ok : ∀ y, finOk (hardware_CheckModel.cx) (hardware_CheckModel.ct) y = true := fun y => by kernel_rfl
theorem hardware_CheckModel.meets : Meets (hardware_CheckModel.cx) 17 (hardware_CheckModel.ct) :=
  meets_run (C := hardware_CheckModel.cx) (ct := hardware_CheckModel.ct) (Lp := hardware_CheckModel.L) claws (ook_of (l := [(49, hardware_cond.ct), (58, hardware_in.ct)]) rfl (all_cons (Meets.ctx (C := hardware_cond.cx) (C' := hardware_CheckModel.cx) rfl rfl rfl hardware_cond.meets) (all_cons (Meets.ctx (C := hardware_in.cx) (C' := hardware_CheckModel.cx) rfl rfl rfl hardware_in.meets) (all_nil)))) (xok_of (l := []) rfl (all_nil)) Proofs.Tryz.func17 (by kernel_rfl) rfl (lok_of (l := []) rfl (all_nil)) (hardware_CheckModel.ok) (app_run (U := U) [Ty.HwModel] (hardware_CheckModel) (runF (hardware_CheckModel.cx) Proofs.Tryz.f17 (hardware_CheckModel.ct) (hardware_CheckModel.L)) hardware_CheckModel.eq)

noncomputable def tagged_number.sp0 : Amx.Spec U := { slots := [(0, .val Ty.str), (3, .val (Ty.int .i64)), (6, .val (Ty.int .i64)), (7, .val (Ty.int .i64))], boxes := [] }
noncomputable def tagged_number.b0 (N : Nat) (s0 : ByteArray) (s3 : Int) (s6 : Int) (s7 : Int) : Option (Stp (ByteArray × Int × Int × Int)) :=
  cond (decide (s7 < s6)) ((idxB s0 s7).bind fun x1001 => some (.again (s0, (orI .i64 (IntKind.wrap .i64 (s3 * 2 ^ (min (8 : Int).toNat 64)))
    (IntKind.wrap .i64 (x1001.toNat : Int))), s6, (IntKind.wrap .i64 (s7 + 1))))) (some (.leave (s0, s3, s6, s7)))
noncomputable def tagged_number.r0 (N : Nat) (x : ByteArray × Int × Int × Int) : Option (Stp (ByteArray × Int × Int × Int)) := tagged_number.b0 N x.1 x.2.1 x.2.2.1 x.2.2.2
noncomputable def tagged_number (N : Nat) (a0 : ByteArray) : Option Int :=
  (iterP (tagged_number.r0 N) N (a0, 0, (a0.size : Int), 0)).bind fun y1 => some y1.2.1
noncomputable def tagged_number.ct (N : Nat) : Ct U := { params := [.val Ty.str], results := [(Ty.int .i64)], outs := [], fresh := [], fn := app U [Ty.str] (R := PT U [(Ty.int .i64)]) (tagged_number N) }
noncomputable def tagged_number.cx (N : Nat) : Ctx U := mkCx [] [] [] [] [] [] [] []
noncomputable def tagged_number.L (N : Nat) : Nat → Option (Cut U (PT U [(Ty.int .i64)])) := pick [(0, .plain tagged_number.sp0 [Ty.str, (Ty.int .i64), (Ty.int .i64), (Ty.int .i64)] (iterP (tagged_number.r0 N) N))]
theorem tagged_number.r0_eq (N : Nat) (x : PT U [Ty.str, (Ty.int .i64), (Ty.int .i64), (Ty.int .i64)]) : roundPF (tagged_number.cx N) Proofs.Tryz.f135 (tagged_number.L N) tagged_number.sp0 [Ty.str, (Ty.int .i64), (Ty.int .i64), (Ty.int .i64)] 0 x = tagged_number.r0 N x := by kernel_rfl
theorem tagged_number.eq (N : Nat) (a0 : ByteArray) : runF (tagged_number.cx N) Proofs.Tryz.f135 (tagged_number.ct N) (tagged_number.L N) [⟨Ty.str, a0⟩] = tagged_number N a0 := by kernel_rfl
theorem tagged_number.ok (N : Nat) : ∀ y, finOk (tagged_number.cx N) (tagged_number.ct N) y = true := fun y => by kernel_rfl
theorem tagged_number.meets (N : Nat) : Meets (tagged_number.cx N) 135 (tagged_number.ct N) :=
  meets_run (C := tagged_number.cx N) (ct := tagged_number.ct N) (Lp := tagged_number.L N) claws (ook_of (l := []) rfl (all_nil)) (xok_of (l := []) rfl (all_nil)) Proofs.Tryz.func135 (by kernel_rfl) rfl (lok_of (l := [(0, .plain tagged_number.sp0 [Ty.str, (Ty.int .i64), (Ty.int .i64), (Ty.int .i64)] (iterP (tagged_number.r0 N) N))]) rfl (all_cons (lok_plain (tagged_number.r0_eq N)) (all_nil))) (tagged_number.ok N) (app_run (U := U) [Ty.str] (tagged_number N) (runF (tagged_number.cx N) Proofs.Tryz.f135 (tagged_number.ct N) (tagged_number.L N)) (tagged_number.eq N))

noncomputable def tagged_within (a0 : Int) (a1 : Int) (a2 : Int) : Option Bool :=
  (cond (decide (a1 ≤ a0)) (some (decide (a0 ≤ a2))) (some false)).bind fun g1 => some g1
noncomputable def tagged_within.ct : Ct U := { params := [.val (Ty.int .i64), .val (Ty.int .i64), .val (Ty.int .i64)], results := [Ty.bool], outs := [], fresh := [], fn := app U [(Ty.int .i64), (Ty.int .i64), (Ty.int .i64)] (R := PT U [Ty.bool]) (tagged_within) }
noncomputable def tagged_within.cx : Ctx U := mkCx [] [] [] [] [] [] [] []
noncomputable def tagged_within.L : Nat → Option (Cut U (PT U [Ty.bool])) := pick []
theorem tagged_within.eq (a0 : Int) (a1 : Int) (a2 : Int) : runF (tagged_within.cx) Proofs.Tryz.f201 (tagged_within.ct) (tagged_within.L) [⟨(Ty.int .i64), a0⟩, ⟨(Ty.int .i64), a1⟩, ⟨(Ty.int .i64), a2⟩] = tagged_within a0 a1 a2 := by kernel_rfl
theorem tagged_within.ok : ∀ y, finOk (tagged_within.cx) (tagged_within.ct) y = true := fun y => by kernel_rfl
theorem tagged_within.meets : Meets (tagged_within.cx) 201 (tagged_within.ct) :=
  meets_run (C := tagged_within.cx) (ct := tagged_within.ct) (Lp := tagged_within.L) claws (ook_of (l := []) rfl (all_nil)) (xok_of (l := []) rfl (all_nil)) Proofs.Tryz.func201 (by kernel_rfl) rfl (lok_of (l := []) rfl (all_nil)) (tagged_within.ok) (app_run (U := U) [(Ty.int .i64), (Ty.int .i64), (Ty.int .i64)] (tagged_within) (runF (tagged_within.cx) Proofs.Tryz.f201 (tagged_within.ct) (tagged_within.L)) tagged_within.eq)

noncomputable def tagged_CheckPointer (a0 : Pointer) : Option Int :=
  (tagged_within a0.Kind 0 2).bind fun r1 => cond (!r1) (some 4) (((tagged_within a0.Address.Segment 0 1099511627775).bind fun r2 => cond (!r2) (some (!r2))
    ((tagged_within a0.Address.Offset 0 16777215).bind fun r3 => cond (!r3) (some (!r3)) ((tagged_within a0.Authority 0 1023).bind fun r4 => some (!r4)))).bind fun q5 =>
    cond q5 (some 3) ((cond (a0.Authority != 0) (some (a0.Kind != 1)) (some false)).bind fun g6 => cond g6 (some 5) (some 0)))
noncomputable def tagged_CheckPointer.ct : Ct U := { params := [.val Ty.Pointer], results := [(Ty.int .i64)], outs := [], fresh := [], fn := app U [Ty.Pointer] (R := PT U [(Ty.int .i64)]) (tagged_CheckPointer) }
noncomputable def tagged_CheckPointer.cx : Ctx U := mkCx [(201, tagged_within.ct)] [] [] [] [] [] [] [8]
noncomputable def tagged_CheckPointer.L : Nat → Option (Cut U (PT U [(Ty.int .i64)])) := pick []
theorem tagged_CheckPointer.eq (a0 : Pointer) : runF (tagged_CheckPointer.cx) Proofs.Tryz.f136 (tagged_CheckPointer.ct) (tagged_CheckPointer.L) [⟨Ty.Pointer, a0⟩] = tagged_CheckPointer a0 := by kernel_rfl
theorem tagged_CheckPointer.ok : ∀ y, finOk (tagged_CheckPointer.cx) (tagged_CheckPointer.ct) y = true := fun y => by kernel_rfl
theorem tagged_CheckPointer.meets : Meets (tagged_CheckPointer.cx) 136 (tagged_CheckPointer.ct) :=
  meets_run (C := tagged_CheckPointer.cx) (ct := tagged_CheckPointer.ct) (Lp := tagged_CheckPointer.L) claws (ook_of (l := [(201, tagged_within.ct)]) rfl (all_cons (Meets.ctx (C := tagged_within.cx) (C' := tagged_CheckPointer.cx) rfl rfl rfl tagged_within.meets) (all_nil))) (xok_of (l := []) rfl (all_nil)) Proofs.Tryz.func136 (by kernel_rfl) rfl (lok_of (l := []) rfl (all_nil)) (tagged_CheckPointer.ok) (app_run (U := U) [Ty.Pointer] (tagged_CheckPointer) (runF (tagged_CheckPointer.cx) Proofs.Tryz.f136 (tagged_CheckPointer.ct) (tagged_CheckPointer.L)) tagged_CheckPointer.eq)

noncomputable def tagged_PointerIn (N : Nat) (a0 : ByteArray) : Option (Pointer × Int) :=
  cond ((a0.size : Int) != 16) (some ((⟨0, (⟨0, 0⟩ : Address), 0⟩ : Pointer), 18)) ((idxB a0 1).bind fun x1 => cond ((x1.toNat : Int) != 0)
    (some ((⟨0, (⟨0, 0⟩ : Address), 0⟩ : Pointer), 5)) ((idxB a0 0).bind fun x2 =>
    if 0 ≤ (4 : Int) ∧ (4 : Int) ≤ (a0.size : Int) then (if 0 ≤ (2 : Int) ∧ (2 : Int) ≤ (4 : Int) then ((tagged_number N (a0.extract (2 : Int).toNat (4 : Int).toNat)).bind fun r3 =>
    if 0 ≤ (10 : Int) ∧ (10 : Int) ≤ (a0.size : Int) then (if 0 ≤ (4 : Int) ∧ (4 : Int) ≤ (10 : Int) then ((tagged_number N (a0.extract (4 : Int).toNat (10 : Int).toNat)).bind fun r4 =>
    if 0 ≤ (10 : Int) ∧ (10 : Int) ≤ (a0.size : Int) then ((tagged_number N (a0.extract (10 : Int).toNat a0.size)).bind fun r5 =>
    (tagged_CheckPointer (⟨(IntKind.wrap .i64 (x2.toNat : Int)), (⟨r4, r5⟩ : Address), r3⟩ : Pointer)).bind fun r6 => cond (r6 != 0)
    (some ((⟨0, (⟨0, 0⟩ : Address), 0⟩ : Pointer), r6))
    (some ((⟨(IntKind.wrap .i64 (x2.toNat : Int)), (⟨r4, r5⟩ : Address), r3⟩ : Pointer), 0))) else none) else none) else none) else none) else none))
noncomputable def tagged_PointerIn.ct (N : Nat) : Ct U := { params := [.val Ty.str], results := [Ty.Pointer, (Ty.int .i64)], outs := [], fresh := [], fn := app U [Ty.str] (R := PT U [Ty.Pointer, (Ty.int .i64)]) (tagged_PointerIn N) }
noncomputable def tagged_PointerIn.cx (N : Nat) : Ctx U := mkCx [(135, tagged_number.ct N), (136, tagged_CheckPointer.ct)] [] [] [] [] [] [] []
noncomputable def tagged_PointerIn.L (N : Nat) : Nat → Option (Cut U (PT U [Ty.Pointer, (Ty.int .i64)])) := pick []
theorem tagged_PointerIn.eq (N : Nat) (a0 : ByteArray) : runF (tagged_PointerIn.cx N) Proofs.Tryz.f90 (tagged_PointerIn.ct N) (tagged_PointerIn.L N) [⟨Ty.str, a0⟩] = tagged_PointerIn N a0 := by kernel_rfl
theorem tagged_PointerIn.ok (N : Nat) : ∀ y, finOk (tagged_PointerIn.cx N) (tagged_PointerIn.ct N) y = true := fun y => by kernel_rfl
theorem tagged_PointerIn.meets (N : Nat) : Meets (tagged_PointerIn.cx N) 90 (tagged_PointerIn.ct N) :=
  meets_run (C := tagged_PointerIn.cx N) (ct := tagged_PointerIn.ct N) (Lp := tagged_PointerIn.L N) claws (ook_of (l := [(135, tagged_number.ct N), (136, tagged_CheckPointer.ct)]) rfl (all_cons (Meets.ctx (C := tagged_number.cx N) (C' := tagged_PointerIn.cx N) rfl rfl rfl (tagged_number.meets N)) (all_cons (Meets.ctx (C := tagged_CheckPointer.cx) (C' := tagged_PointerIn.cx N) rfl rfl rfl tagged_CheckPointer.meets) (all_nil)))) (xok_of (l := []) rfl (all_nil)) Proofs.Tryz.func90 (by kernel_rfl) rfl (lok_of (l := []) rfl (all_nil)) (tagged_PointerIn.ok N) (app_run (U := U) [Ty.str] (tagged_PointerIn N) (runF (tagged_PointerIn.cx N) Proofs.Tryz.f90 (tagged_PointerIn.ct N) (tagged_PointerIn.L N)) (tagged_PointerIn.eq N))

noncomputable def tagged_CheckStorage.sp1 : Amx.Spec U := { slots := [(1, .ptr 1 0), (27, .val (Ty.sl Ty.bool)), (28, .val (Ty.int .i64)), (29, .val (Ty.int .i64))], boxes := [(1, Ty.Storage, [])] }
noncomputable def tagged_CheckStorage.b1 (N : Nat) (s27 : List Bool) (s28 : Int) (s29 : Int) (b1 : Storage) : Option (Round (Int × Int) ((List Bool) × Int × Int × Storage)) :=
  cond (decide (s29 < s28)) ((idx s27 s29).bind fun x2001 => cond (!x2001) (some (.again (s27, s28, (IntKind.wrap .i64 (s29 + 1)), b1)))
    (if 0 ≤ (IntKind.wrap .i64 ((IntKind.wrap .i64 (s29 * 16)) + 16)) ∧ (IntKind.wrap .i64 ((IntKind.wrap .i64 (s29 * 16)) + 16)) ≤ (b1.Bytes.size : Int) then (if 0 ≤ (IntKind.wrap .i64 (s29 * 16)) ∧ (IntKind.wrap .i64 (s29 * 16)) ≤ (IntKind.wrap .i64 ((IntKind.wrap .i64 (s29 * 16)) + 16)) then ((tagged_PointerIn N (b1.Bytes.extract (IntKind.wrap .i64 (s29 * 16)).toNat (IntKind.wrap .i64 ((IntKind.wrap .i64 (s29 * 16)) + 16)).toNat)).bind fun r2002 =>
    cond (r2002.2 != 0) (some (.result (s29, 22))) (some (.again (s27, s28, (IntKind.wrap .i64 (s29 + 1)), b1)))) else none) else none)) (some (.leave (s27, s28, s29, b1)))
noncomputable def tagged_CheckStorage.r1 (N : Nat) (x : (List Bool) × Int × Int × Storage) : Option (Round (Int × Int) ((List Bool) × Int × Int × Storage)) := tagged_CheckStorage.b1 N x.1 x.2.1 x.2.2.1 x.2.2.2
noncomputable def tagged_CheckStorage (N : Nat) (a0 : Storage) : Option (Int × Int) :=
  cond (decide ((a0.Bytes.size : Int) > 1024)) (some (0, 2)) (cond (((a0.Bytes.size : Int).tmod 16) != 0) (some (0, 18))
    (cond ((a0.Tags.length : Int) != (IntKind.wrap .i64 ((a0.Bytes.size : Int).tdiv 16))) (some (0, 6))
    ((iterR (tagged_CheckStorage.r1 N) N (a0.Tags, (a0.Tags.length : Int), 0, a0)).bind fun z2 => resR z2 (fun z => some z) (fun y1 => some ((y1.2.2.2.Tags.length : Int), 0)))))
noncomputable def tagged_CheckStorage.ct (N : Nat) : Ct U := { params := [.val Ty.Storage], results := [(Ty.int .i64), (Ty.int .i64)], outs := [], fresh := [], fn := app U [Ty.Storage] (R := PT U [(Ty.int .i64), (Ty.int .i64)]) (tagged_CheckStorage N) }
noncomputable def tagged_CheckStorage.cx (N : Nat) : Ctx U := mkCx [(90, tagged_PointerIn.ct N)] [] [] [] [] [] [] []
noncomputable def tagged_CheckStorage.L (N : Nat) : Nat → Option (Cut U (PT U [(Ty.int .i64), (Ty.int .i64)])) := pick [(1, .rets tagged_CheckStorage.sp1 [(Ty.sl Ty.bool), (Ty.int .i64), (Ty.int .i64), Ty.Storage] (iterR (tagged_CheckStorage.r1 N) N))]
theorem tagged_CheckStorage.r1_eq (N : Nat) (x : PT U [(Ty.sl Ty.bool), (Ty.int .i64), (Ty.int .i64), Ty.Storage]) : roundRF (tagged_CheckStorage.cx N) Proofs.Tryz.f47 (tagged_CheckStorage.ct N) (tagged_CheckStorage.L N) tagged_CheckStorage.sp1 [(Ty.sl Ty.bool), (Ty.int .i64), (Ty.int .i64), Ty.Storage] 1 x = tagged_CheckStorage.r1 N x := by kernel_rfl
theorem tagged_CheckStorage.eq (N : Nat) (a0 : Storage) : runF (tagged_CheckStorage.cx N) Proofs.Tryz.f47 (tagged_CheckStorage.ct N) (tagged_CheckStorage.L N) [⟨Ty.Storage, a0⟩] = tagged_CheckStorage N a0 := by kernel_rfl
theorem tagged_CheckStorage.ok (N : Nat) : ∀ y, finOk (tagged_CheckStorage.cx N) (tagged_CheckStorage.ct N) y = true := fun y => by kernel_rfl
theorem tagged_CheckStorage.meets (N : Nat) : Meets (tagged_CheckStorage.cx N) 47 (tagged_CheckStorage.ct N) :=
  meets_run (C := tagged_CheckStorage.cx N) (ct := tagged_CheckStorage.ct N) (Lp := tagged_CheckStorage.L N) claws (ook_of (l := [(90, tagged_PointerIn.ct N)]) rfl (all_cons (Meets.ctx (C := tagged_PointerIn.cx N) (C' := tagged_CheckStorage.cx N) rfl rfl rfl (tagged_PointerIn.meets N)) (all_nil))) (xok_of (l := []) rfl (all_nil)) Proofs.Tryz.func47 (by kernel_rfl) rfl (lok_of (l := [(1, .rets tagged_CheckStorage.sp1 [(Ty.sl Ty.bool), (Ty.int .i64), (Ty.int .i64), Ty.Storage] (iterR (tagged_CheckStorage.r1 N) N))]) rfl (all_cons (lok_rets (tagged_CheckStorage.r1_eq N)) (all_nil))) (tagged_CheckStorage.ok N) (app_run (U := U) [Ty.Storage] (tagged_CheckStorage N) (runF (tagged_CheckStorage.cx N) Proofs.Tryz.f47 (tagged_CheckStorage.ct N) (tagged_CheckStorage.L N)) (tagged_CheckStorage.eq N))

noncomputable def slices_Index_bool.sp0 : Amx.Spec U := { slots := [(0, .val (Ty.sl Ty.bool)), (1, .val Ty.bool), (7, .val (Ty.int .i64)), (8, .val (Ty.int .i64))], boxes := [] }
noncomputable def slices_Index_bool.b0 (N : Nat) (s0 : List Bool) (s1 : Bool) (s7 : Int) (s8 : Int) : Option (Round Int ((List Bool) × Bool × Int × Int)) :=
  cond (decide (s8 < s7)) ((idx s0 s8).bind fun x1001 => cond (s1 == x1001) (some (.result s8)) (some (.again (s0, s1, s7, (IntKind.wrap .i64 (s8 + 1))))))
    (some (.leave (s0, s1, s7, s8)))
noncomputable def slices_Index_bool.r0 (N : Nat) (x : (List Bool) × Bool × Int × Int) : Option (Round Int ((List Bool) × Bool × Int × Int)) := slices_Index_bool.b0 N x.1 x.2.1 x.2.2.1 x.2.2.2
noncomputable def slices_Index_bool (N : Nat) (a0 : List Bool) (a1 : Bool) : Option Int :=
  (iterR (slices_Index_bool.r0 N) N (a0, a1, (a0.length : Int), 0)).bind fun z2 => resR z2 (fun z => some z) (fun y1 => some (-1))
noncomputable def slices_Index_bool.ct (N : Nat) : Ct U := { params := [.val (Ty.sl Ty.bool), .val Ty.bool], results := [(Ty.int .i64)], outs := [], fresh := [], fn := app U [(Ty.sl Ty.bool), Ty.bool] (R := PT U [(Ty.int .i64)]) (slices_Index_bool N) }
noncomputable def slices_Index_bool.cx (N : Nat) : Ctx U := mkCx [] [] [] [] [] [] [] []
noncomputable def slices_Index_bool.L (N : Nat) : Nat → Option (Cut U (PT U [(Ty.int .i64)])) := pick [(0, .rets slices_Index_bool.sp0 [(Ty.sl Ty.bool), Ty.bool, (Ty.int .i64), (Ty.int .i64)] (iterR (slices_Index_bool.r0 N) N))]
theorem slices_Index_bool.r0_eq (N : Nat) (x : PT U [(Ty.sl Ty.bool), Ty.bool, (Ty.int .i64), (Ty.int .i64)]) : roundRF (slices_Index_bool.cx N) Proofs.Tryz.f91 (slices_Index_bool.ct N) (slices_Index_bool.L N) slices_Index_bool.sp0 [(Ty.sl Ty.bool), Ty.bool, (Ty.int .i64), (Ty.int .i64)] 0 x = slices_Index_bool.r0 N x := by kernel_rfl
theorem slices_Index_bool.eq (N : Nat) (a0 : List Bool) (a1 : Bool) : runF (slices_Index_bool.cx N) Proofs.Tryz.f91 (slices_Index_bool.ct N) (slices_Index_bool.L N) [⟨(Ty.sl Ty.bool), a0⟩, ⟨Ty.bool, a1⟩] = slices_Index_bool N a0 a1 := by kernel_rfl
theorem slices_Index_bool.ok (N : Nat) : ∀ y, finOk (slices_Index_bool.cx N) (slices_Index_bool.ct N) y = true := fun y => by kernel_rfl
theorem slices_Index_bool.meets (N : Nat) : Meets (slices_Index_bool.cx N) 91 (slices_Index_bool.ct N) :=
  meets_run (C := slices_Index_bool.cx N) (ct := slices_Index_bool.ct N) (Lp := slices_Index_bool.L N) claws (ook_of (l := []) rfl (all_nil)) (xok_of (l := []) rfl (all_nil)) Proofs.Tryz.func91 (by kernel_rfl) rfl (lok_of (l := [(0, .rets slices_Index_bool.sp0 [(Ty.sl Ty.bool), Ty.bool, (Ty.int .i64), (Ty.int .i64)] (iterR (slices_Index_bool.r0 N) N))]) rfl (all_cons (lok_rets (slices_Index_bool.r0_eq N)) (all_nil))) (slices_Index_bool.ok N) (app_run (U := U) [(Ty.sl Ty.bool), Ty.bool] (slices_Index_bool N) (runF (slices_Index_bool.cx N) Proofs.Tryz.f91 (slices_Index_bool.ct N) (slices_Index_bool.L N)) (slices_Index_bool.eq N))

noncomputable def slices_Contains_bool (N : Nat) (a0 : List Bool) (a1 : Bool) : Option Bool :=
  (slices_Index_bool N a0 a1).bind fun r1 => some (decide (r1 ≥ 0))
noncomputable def slices_Contains_bool.ct (N : Nat) : Ct U := { params := [.val (Ty.sl Ty.bool), .val Ty.bool], results := [Ty.bool], outs := [], fresh := [], fn := app U [(Ty.sl Ty.bool), Ty.bool] (R := PT U [Ty.bool]) (slices_Contains_bool N) }
noncomputable def slices_Contains_bool.cx (N : Nat) : Ctx U := mkCx [(91, slices_Index_bool.ct N)] [] [] [] [] [] [] []
noncomputable def slices_Contains_bool.L (N : Nat) : Nat → Option (Cut U (PT U [Ty.bool])) := pick []
theorem slices_Contains_bool.eq (N : Nat) (a0 : List Bool) (a1 : Bool) : runF (slices_Contains_bool.cx N) Proofs.Tryz.f50 (slices_Contains_bool.ct N) (slices_Contains_bool.L N) [⟨(Ty.sl Ty.bool), a0⟩, ⟨Ty.bool, a1⟩] = slices_Contains_bool N a0 a1 := by kernel_rfl
theorem slices_Contains_bool.ok (N : Nat) : ∀ y, finOk (slices_Contains_bool.cx N) (slices_Contains_bool.ct N) y = true := fun y => by kernel_rfl
theorem slices_Contains_bool.meets (N : Nat) : Meets (slices_Contains_bool.cx N) 50 (slices_Contains_bool.ct N) :=
  meets_run (C := slices_Contains_bool.cx N) (ct := slices_Contains_bool.ct N) (Lp := slices_Contains_bool.L N) claws (ook_of (l := [(91, slices_Index_bool.ct N)]) rfl (all_cons (Meets.ctx (C := slices_Index_bool.cx N) (C' := slices_Contains_bool.cx N) rfl rfl rfl (slices_Index_bool.meets N)) (all_nil))) (xok_of (l := []) rfl (all_nil)) Proofs.Tryz.func50 (by kernel_rfl) rfl (lok_of (l := []) rfl (all_nil)) (slices_Contains_bool.ok N) (app_run (U := U) [(Ty.sl Ty.bool), Ty.bool] (slices_Contains_bool N) (runF (slices_Contains_bool.cx N) Proofs.Tryz.f50 (slices_Contains_bool.ct N) (slices_Contains_bool.L N)) (slices_Contains_bool.eq N))

noncomputable def hardware_first.sp0 : Amx.Spec U := { slots := [(5, .val (Ty.sl (Ty.int .i64))), (6, .val (Ty.int .i64)), (7, .val (Ty.int .i64))], boxes := [] }
noncomputable def hardware_first.b0 (N : Nat) (s5 : List Int) (s6 : Int) (s7 : Int) : Option (Round Int ((List Int) × Int × Int)) :=
  cond (decide (s7 < s6)) ((idx s5 s7).bind fun x1001 => cond (x1001 != 0) (some (.result x1001)) (some (.again (s5, s6, (IntKind.wrap .i64 (s7 + 1)))))) (some (.leave (s5, s6, s7)))
noncomputable def hardware_first.r0 (N : Nat) (x : (List Int) × Int × Int) : Option (Round Int ((List Int) × Int × Int)) := hardware_first.b0 N x.1 x.2.1 x.2.2
noncomputable def hardware_first (N : Nat) (a0 : List Int) : Option Int :=
  (iterR (hardware_first.r0 N) N (a0, (a0.length : Int), 0)).bind fun z2 => resR z2 (fun z => some z) (fun y1 => some 0)
noncomputable def hardware_first.ct (N : Nat) : Ct U := { params := [.val (Ty.sl (Ty.int .i64))], results := [(Ty.int .i64)], outs := [], fresh := [], fn := app U [(Ty.sl (Ty.int .i64))] (R := PT U [(Ty.int .i64)]) (hardware_first N) }
noncomputable def hardware_first.cx (N : Nat) : Ctx U := mkCx [] [] [] [] [] [] [] []
noncomputable def hardware_first.L (N : Nat) : Nat → Option (Cut U (PT U [(Ty.int .i64)])) := pick [(0, .rets hardware_first.sp0 [(Ty.sl (Ty.int .i64)), (Ty.int .i64), (Ty.int .i64)] (iterR (hardware_first.r0 N) N))]
theorem hardware_first.r0_eq (N : Nat) (x : PT U [(Ty.sl (Ty.int .i64)), (Ty.int .i64), (Ty.int .i64)]) : roundRF (hardware_first.cx N) Proofs.Tryz.f48 (hardware_first.ct N) (hardware_first.L N) hardware_first.sp0 [(Ty.sl (Ty.int .i64)), (Ty.int .i64), (Ty.int .i64)] 0 x = hardware_first.r0 N x := by kernel_rfl
theorem hardware_first.eq (N : Nat) (a0 : List Int) : runF (hardware_first.cx N) Proofs.Tryz.f48 (hardware_first.ct N) (hardware_first.L N) [⟨(Ty.sl (Ty.int .i64)), a0⟩] = hardware_first N a0 := by kernel_rfl
theorem hardware_first.ok (N : Nat) : ∀ y, finOk (hardware_first.cx N) (hardware_first.ct N) y = true := fun y => by kernel_rfl
theorem hardware_first.meets (N : Nat) : Meets (hardware_first.cx N) 48 (hardware_first.ct N) :=
  meets_run (C := hardware_first.cx N) (ct := hardware_first.ct N) (Lp := hardware_first.L N) claws (ook_of (l := []) rfl (all_nil)) (xok_of (l := []) rfl (all_nil)) Proofs.Tryz.func48 (by kernel_rfl) rfl (lok_of (l := [(0, .rets hardware_first.sp0 [(Ty.sl (Ty.int .i64)), (Ty.int .i64), (Ty.int .i64)] (iterR (hardware_first.r0 N) N))]) rfl (all_cons (lok_rets (hardware_first.r0_eq N)) (all_nil))) (hardware_first.ok N) (app_run (U := U) [(Ty.sl (Ty.int .i64))] (hardware_first N) (runF (hardware_first.cx N) Proofs.Tryz.f48 (hardware_first.ct N) (hardware_first.L N)) (hardware_first.eq N))

noncomputable def hardware_formOf (a0 : HwInstruction) : Option hardware_form :=
  (idx glob0 a0.Op).bind fun x1 => (cond (a0.Op == 4) (some a0.InStorage) (some false)).bind fun g2 =>
    cond g2 (some (⟨(orI .i64 (orI .i64 (andNotI .i64 x1.fields 4) 8) 64), x1.types⟩ : hardware_form)) (some x1)
noncomputable def hardware_formOf.ct : Ct U := { params := [.val Ty.HwInstruction], results := [Ty.hardware_form], outs := [], fresh := [], fn := app U [Ty.HwInstruction] (R := PT U [Ty.hardware_form]) (hardware_formOf) }
noncomputable def hardware_formOf.cx : Ctx U := mkCx [] [] [] [] [] [] [] []
noncomputable def hardware_formOf.L : Nat → Option (Cut U (PT U [Ty.hardware_form])) := pick []
theorem hardware_formOf.eq (a0 : HwInstruction) : runF (hardware_formOf.cx) Proofs.Tryz.f94 (hardware_formOf.ct) (hardware_formOf.L) [⟨Ty.HwInstruction, a0⟩] = hardware_formOf a0 := by kernel_rfl
theorem hardware_formOf.ok : ∀ y, finOk (hardware_formOf.cx) (hardware_formOf.ct) y = true := fun y => by kernel_rfl
theorem hardware_formOf.meets : Meets (hardware_formOf.cx) 94 (hardware_formOf.ct) :=
  meets_run (C := hardware_formOf.cx) (ct := hardware_formOf.ct) (Lp := hardware_formOf.L) claws (ook_of (l := []) rfl (all_nil)) (xok_of (l := []) rfl (all_nil)) Proofs.Tryz.func94 (by kernel_rfl) rfl (lok_of (l := []) rfl (all_nil)) (hardware_formOf.ok) (app_run (U := U) [Ty.HwInstruction] (hardware_formOf) (runF (hardware_formOf.cx) Proofs.Tryz.f94 (hardware_formOf.ct) (hardware_formOf.L)) hardware_formOf.eq)

noncomputable def hardware_kept_c1 (a0 : Int) (a1 : Int) (a2 : Int) : Option Int :=
  cond ((andI .i64 a2 a0) == 0) (some 0) (some a1)
noncomputable def hardware_kept_c1.ct : Ct U := { params := [.val (Ty.int .i64), .ptr (Ty.int .i64) true [], .ptr (Ty.int .i64) false []], results := [], outs := [(Ty.int .i64)], fresh := [], fn := app U [(Ty.int .i64), (Ty.int .i64), (Ty.int .i64)] (R := PT U [(Ty.int .i64)]) (hardware_kept_c1) }
noncomputable def hardware_kept_c1.cx : Ctx U := mkCx [] [] [] [] [] [1000001] [1000000, 1000001] []
noncomputable def hardware_kept_c1.L : Nat → Option (Cut U (PT U [(Ty.int .i64)])) := pick []
theorem hardware_kept_c1.eq (a0 : Int) (a1 : Int) (a2 : Int) : runF (hardware_kept_c1.cx) Proofs.Tryz.f137 (hardware_kept_c1.ct) (hardware_kept_c1.L) [⟨(Ty.int .i64), a0⟩, ⟨(Ty.int .i64), a1⟩, ⟨(Ty.int .i64), a2⟩] = hardware_kept_c1 a0 a1 a2 := by kernel_rfl
theorem hardware_kept_c1.ok : ∀ y, finOk (hardware_kept_c1.cx) (hardware_kept_c1.ct) y = true := fun y => by kernel_rfl
theorem hardware_kept_c1.meets : Meets (hardware_kept_c1.cx) 137 (hardware_kept_c1.ct) :=
  meets_run (C := hardware_kept_c1.cx) (ct := hardware_kept_c1.ct) (Lp := hardware_kept_c1.L) claws (ook_of (l := []) rfl (all_nil)) (xok_of (l := []) rfl (all_nil)) Proofs.Tryz.func137 (by kernel_rfl) rfl (lok_of (l := []) rfl (all_nil)) (hardware_kept_c1.ok) (app_run (U := U) [(Ty.int .i64), (Ty.int .i64), (Ty.int .i64)] (hardware_kept_c1) (runF (hardware_kept_c1.cx) Proofs.Tryz.f137 (hardware_kept_c1.ct) (hardware_kept_c1.L)) hardware_kept_c1.eq)

noncomputable def hardware_place (a0 : HwPlace) (a1 : Bool) : Option HwPlace :=
  cond (!a1) (some (⟨false, 0, 0⟩ : HwPlace)) (cond (!a0.Based) (some (⟨a0.Based, 0, a0.Offset⟩ : HwPlace)) (some a0))
noncomputable def hardware_place.ct : Ct U := { params := [.val Ty.HwPlace, .val Ty.bool], results := [Ty.HwPlace], outs := [], fresh := [], fn := app U [Ty.HwPlace, Ty.bool] (R := PT U [Ty.HwPlace]) (hardware_place) }
noncomputable def hardware_place.cx : Ctx U := mkCx [] [] [] [] [] [] [] []
noncomputable def hardware_place.L : Nat → Option (Cut U (PT U [Ty.HwPlace])) := pick []
theorem hardware_place.eq (a0 : HwPlace) (a1 : Bool) : runF (hardware_place.cx) Proofs.Tryz.f138 (hardware_place.ct) (hardware_place.L) [⟨Ty.HwPlace, a0⟩, ⟨Ty.bool, a1⟩] = hardware_place a0 a1 := by kernel_rfl
theorem hardware_place.ok : ∀ y, finOk (hardware_place.cx) (hardware_place.ct) y = true := fun y => by kernel_rfl
theorem hardware_place.meets : Meets (hardware_place.cx) 138 (hardware_place.ct) :=
  meets_run (C := hardware_place.cx) (ct := hardware_place.ct) (Lp := hardware_place.L) claws (ook_of (l := []) rfl (all_nil)) (xok_of (l := []) rfl (all_nil)) Proofs.Tryz.func138 (by kernel_rfl) rfl (lok_of (l := []) rfl (all_nil)) (hardware_place.ok) (app_run (U := U) [Ty.HwPlace, Ty.bool] (hardware_place) (runF (hardware_place.cx) Proofs.Tryz.f138 (hardware_place.ct) (hardware_place.L)) hardware_place.eq)

noncomputable def hardware_kept (a0 : HwInstruction) : Option HwInstruction :=
  (hardware_formOf a0).bind fun r1 => (hardware_kept_c1 1 a0.R r1.fields).bind fun r2 => (hardware_kept_c1 2 a0.A r1.fields).bind fun r3 =>
    (hardware_kept_c1 4 a0.B r1.fields).bind fun r4 => (hardware_kept_c1 2048 a0.Mask r1.fields).bind fun r5 => (hardware_kept_c1 4096 a0.Target r1.fields).bind fun r6 =>
    (hardware_kept_c1 8192 a0.Pointer r1.fields).bind fun r7 => (hardware_kept_c1 16384 a0.Source r1.fields).bind fun r8 =>
    (hardware_kept_c1 32768 a0.Calculation r1.fields).bind fun r9 => (hardware_place (⟨a0.Place.Based, a0.Place.Pointer, a0.Place.Offset⟩ : HwPlace)
    ((andI .i64 r1.fields 8) != 0)).bind fun r10 => (hardware_place (⟨a0.From.Based, a0.From.Pointer, a0.From.Offset⟩ : HwPlace) ((andI .i64 r1.fields 16) != 0)).bind fun r11 =>
    cond ((andI .i64 r1.fields 32) == 0) (cond ((andI .i64 r1.fields 64) == 0) (cond ((andI .i64 r1.fields 256) == 0) (cond ((andI .i64 r1.fields 512) == 0)
    (cond ((andI .i64 r1.fields 1024) == 0) ((cond a0.Half (some ((andI .i64 r1.fields 128) != 0)) (some false)).bind fun g12 => (cond a0.InStorage (some (a0.Op == 4))
    (some false)).bind fun g13 =>
    some (⟨a0.Op, r2, r3, r4, r9, r10, r11, (⟨0, 0, 0⟩ : DataType), (⟨0, 0, 0⟩ : DataType), g12, g13, (⟨0, 0⟩ : Number), (⟨#[]⟩ : ByteArray), (⟨#[]⟩ : ByteArray), r5, r6, r7, r8⟩ : HwInstruction))
    ((cond a0.Half (some ((andI .i64 r1.fields 128) != 0)) (some false)).bind fun g14 => (cond a0.InStorage (some (a0.Op == 4)) (some false)).bind fun g15 =>
    some (⟨a0.Op, r2, r3, r4, r9, r10, r11, (⟨0, 0, 0⟩ : DataType), (⟨0, 0, 0⟩ : DataType), g14, g15, (⟨0, 0⟩ : Number), (⟨#[]⟩ : ByteArray), a0.Other, r5, r6, r7, r8⟩ : HwInstruction)))
    (cond ((andI .i64 r1.fields 1024) == 0) ((cond a0.Half (some ((andI .i64 r1.fields 128) != 0)) (some false)).bind fun g16 => (cond a0.InStorage (some (a0.Op == 4))
    (some false)).bind fun g17 =>
    some (⟨a0.Op, r2, r3, r4, r9, r10, r11, (⟨0, 0, 0⟩ : DataType), (⟨0, 0, 0⟩ : DataType), g16, g17, (⟨0, 0⟩ : Number), a0.Text, (⟨#[]⟩ : ByteArray), r5, r6, r7, r8⟩ : HwInstruction))
    ((cond a0.Half (some ((andI .i64 r1.fields 128) != 0)) (some false)).bind fun g18 => (cond a0.InStorage (some (a0.Op == 4)) (some false)).bind fun g19 =>
    some (⟨a0.Op, r2, r3, r4, r9, r10, r11, (⟨0, 0, 0⟩ : DataType), (⟨0, 0, 0⟩ : DataType), g18, g19, (⟨0, 0⟩ : Number), a0.Text, a0.Other, r5, r6, r7, r8⟩ : HwInstruction))))
    (cond ((andI .i64 r1.fields 512) == 0) (cond ((andI .i64 r1.fields 1024) == 0) ((cond a0.Half (some ((andI .i64 r1.fields 128) != 0)) (some false)).bind fun g20 =>
    (cond a0.InStorage (some (a0.Op == 4)) (some false)).bind fun g21 =>
    some (⟨a0.Op, r2, r3, r4, r9, r10, r11, (⟨0, 0, 0⟩ : DataType), (⟨0, 0, 0⟩ : DataType), g20, g21, (⟨a0.Number.N, a0.Number.Scale⟩ : Number), (⟨#[]⟩ : ByteArray), (⟨#[]⟩ : ByteArray), r5, r6, r7, r8⟩ : HwInstruction))
    ((cond a0.Half (some ((andI .i64 r1.fields 128) != 0)) (some false)).bind fun g22 => (cond a0.InStorage (some (a0.Op == 4)) (some false)).bind fun g23 =>
    some (⟨a0.Op, r2, r3, r4, r9, r10, r11, (⟨0, 0, 0⟩ : DataType), (⟨0, 0, 0⟩ : DataType), g22, g23, (⟨a0.Number.N, a0.Number.Scale⟩ : Number), (⟨#[]⟩ : ByteArray), a0.Other, r5, r6, r7, r8⟩ : HwInstruction)))
    (cond ((andI .i64 r1.fields 1024) == 0) ((cond a0.Half (some ((andI .i64 r1.fields 128) != 0)) (some false)).bind fun g24 => (cond a0.InStorage (some (a0.Op == 4))
    (some false)).bind fun g25 =>
    some (⟨a0.Op, r2, r3, r4, r9, r10, r11, (⟨0, 0, 0⟩ : DataType), (⟨0, 0, 0⟩ : DataType), g24, g25, (⟨a0.Number.N, a0.Number.Scale⟩ : Number), a0.Text, (⟨#[]⟩ : ByteArray), r5, r6, r7, r8⟩ : HwInstruction))
    ((cond a0.Half (some ((andI .i64 r1.fields 128) != 0)) (some false)).bind fun g26 => (cond a0.InStorage (some (a0.Op == 4)) (some false)).bind fun g27 =>
    some (⟨a0.Op, r2, r3, r4, r9, r10, r11, (⟨0, 0, 0⟩ : DataType), (⟨0, 0, 0⟩ : DataType), g26, g27, (⟨a0.Number.N, a0.Number.Scale⟩ : Number), a0.Text, a0.Other, r5, r6, r7, r8⟩ : HwInstruction)))))
    (cond ((andI .i64 r1.fields 256) == 0) (cond ((andI .i64 r1.fields 512) == 0) (cond ((andI .i64 r1.fields 1024) == 0) ((cond a0.Half (some ((andI .i64 r1.fields 128) != 0))
    (some false)).bind fun g28 => (cond a0.InStorage (some (a0.Op == 4)) (some false)).bind fun g29 =>
    some (⟨a0.Op, r2, r3, r4, r9, r10, r11, (⟨0, 0, 0⟩ : DataType), (⟨a0.Second.Kind, a0.Second.Length, a0.Second.Scale⟩ : DataType), g28, g29, (⟨0, 0⟩ : Number), (⟨#[]⟩ : ByteArray), (⟨#[]⟩ : ByteArray), r5, r6, r7, r8⟩ : HwInstruction))
    ((cond a0.Half (some ((andI .i64 r1.fields 128) != 0)) (some false)).bind fun g30 => (cond a0.InStorage (some (a0.Op == 4)) (some false)).bind fun g31 =>
    some (⟨a0.Op, r2, r3, r4, r9, r10, r11, (⟨0, 0, 0⟩ : DataType), (⟨a0.Second.Kind, a0.Second.Length, a0.Second.Scale⟩ : DataType), g30, g31, (⟨0, 0⟩ : Number), (⟨#[]⟩ : ByteArray), a0.Other, r5, r6, r7, r8⟩ : HwInstruction)))
    (cond ((andI .i64 r1.fields 1024) == 0) ((cond a0.Half (some ((andI .i64 r1.fields 128) != 0)) (some false)).bind fun g32 => (cond a0.InStorage (some (a0.Op == 4))
    (some false)).bind fun g33 =>
    some (⟨a0.Op, r2, r3, r4, r9, r10, r11, (⟨0, 0, 0⟩ : DataType), (⟨a0.Second.Kind, a0.Second.Length, a0.Second.Scale⟩ : DataType), g32, g33, (⟨0, 0⟩ : Number), a0.Text, (⟨#[]⟩ : ByteArray), r5, r6, r7, r8⟩ : HwInstruction))
    ((cond a0.Half (some ((andI .i64 r1.fields 128) != 0)) (some false)).bind fun g34 => (cond a0.InStorage (some (a0.Op == 4)) (some false)).bind fun g35 =>
    some (⟨a0.Op, r2, r3, r4, r9, r10, r11, (⟨0, 0, 0⟩ : DataType), (⟨a0.Second.Kind, a0.Second.Length, a0.Second.Scale⟩ : DataType), g34, g35, (⟨0, 0⟩ : Number), a0.Text, a0.Other, r5, r6, r7, r8⟩ : HwInstruction))))
    (cond ((andI .i64 r1.fields 512) == 0) (cond ((andI .i64 r1.fields 1024) == 0) ((cond a0.Half (some ((andI .i64 r1.fields 128) != 0)) (some false)).bind fun g36 =>
    (cond a0.InStorage (some (a0.Op == 4)) (some false)).bind fun g37 =>
    some (⟨a0.Op, r2, r3, r4, r9, r10, r11, (⟨0, 0, 0⟩ : DataType), (⟨a0.Second.Kind, a0.Second.Length, a0.Second.Scale⟩ : DataType), g36, g37, (⟨a0.Number.N, a0.Number.Scale⟩ : Number), (⟨#[]⟩ : ByteArray), (⟨#[]⟩ : ByteArray), r5, r6, r7, r8⟩ : HwInstruction))
    ((cond a0.Half (some ((andI .i64 r1.fields 128) != 0)) (some false)).bind fun g38 => (cond a0.InStorage (some (a0.Op == 4)) (some false)).bind fun g39 =>
    some (⟨a0.Op, r2, r3, r4, r9, r10, r11, (⟨0, 0, 0⟩ : DataType), (⟨a0.Second.Kind, a0.Second.Length, a0.Second.Scale⟩ : DataType), g38, g39, (⟨a0.Number.N, a0.Number.Scale⟩ : Number), (⟨#[]⟩ : ByteArray), a0.Other, r5, r6, r7, r8⟩ : HwInstruction)))
    (cond ((andI .i64 r1.fields 1024) == 0) ((cond a0.Half (some ((andI .i64 r1.fields 128) != 0)) (some false)).bind fun g40 => (cond a0.InStorage (some (a0.Op == 4))
    (some false)).bind fun g41 =>
    some (⟨a0.Op, r2, r3, r4, r9, r10, r11, (⟨0, 0, 0⟩ : DataType), (⟨a0.Second.Kind, a0.Second.Length, a0.Second.Scale⟩ : DataType), g40, g41, (⟨a0.Number.N, a0.Number.Scale⟩ : Number), a0.Text, (⟨#[]⟩ : ByteArray), r5, r6, r7, r8⟩ : HwInstruction))
    ((cond a0.Half (some ((andI .i64 r1.fields 128) != 0)) (some false)).bind fun g42 => (cond a0.InStorage (some (a0.Op == 4)) (some false)).bind fun g43 =>
    some (⟨a0.Op, r2, r3, r4, r9, r10, r11, (⟨0, 0, 0⟩ : DataType), (⟨a0.Second.Kind, a0.Second.Length, a0.Second.Scale⟩ : DataType), g42, g43, (⟨a0.Number.N, a0.Number.Scale⟩ : Number), a0.Text, a0.Other, r5, r6, r7, r8⟩ : HwInstruction))))))
    (cond ((andI .i64 r1.fields 64) == 0) (cond ((andI .i64 r1.fields 256) == 0) (cond ((andI .i64 r1.fields 512) == 0) (cond ((andI .i64 r1.fields 1024) == 0)
    ((cond a0.Half (some ((andI .i64 r1.fields 128) != 0)) (some false)).bind fun g44 => (cond a0.InStorage (some (a0.Op == 4)) (some false)).bind fun g45 =>
    some (⟨a0.Op, r2, r3, r4, r9, r10, r11, (⟨a0.Type_.Kind, a0.Type_.Length, a0.Type_.Scale⟩ : DataType), (⟨0, 0, 0⟩ : DataType), g44, g45, (⟨0, 0⟩ : Number), (⟨#[]⟩ : ByteArray), (⟨#[]⟩ : ByteArray), r5, r6, r7, r8⟩ : HwInstruction))
    ((cond a0.Half (some ((andI .i64 r1.fields 128) != 0)) (some false)).bind fun g46 => (cond a0.InStorage (some (a0.Op == 4)) (some false)).bind fun g47 =>
    some (⟨a0.Op, r2, r3, r4, r9, r10, r11, (⟨a0.Type_.Kind, a0.Type_.Length, a0.Type_.Scale⟩ : DataType), (⟨0, 0, 0⟩ : DataType), g46, g47, (⟨0, 0⟩ : Number), (⟨#[]⟩ : ByteArray), a0.Other, r5, r6, r7, r8⟩ : HwInstruction)))
    (cond ((andI .i64 r1.fields 1024) == 0) ((cond a0.Half (some ((andI .i64 r1.fields 128) != 0)) (some false)).bind fun g48 => (cond a0.InStorage (some (a0.Op == 4))
    (some false)).bind fun g49 =>
    some (⟨a0.Op, r2, r3, r4, r9, r10, r11, (⟨a0.Type_.Kind, a0.Type_.Length, a0.Type_.Scale⟩ : DataType), (⟨0, 0, 0⟩ : DataType), g48, g49, (⟨0, 0⟩ : Number), a0.Text, (⟨#[]⟩ : ByteArray), r5, r6, r7, r8⟩ : HwInstruction))
    ((cond a0.Half (some ((andI .i64 r1.fields 128) != 0)) (some false)).bind fun g50 => (cond a0.InStorage (some (a0.Op == 4)) (some false)).bind fun g51 =>
    some (⟨a0.Op, r2, r3, r4, r9, r10, r11, (⟨a0.Type_.Kind, a0.Type_.Length, a0.Type_.Scale⟩ : DataType), (⟨0, 0, 0⟩ : DataType), g50, g51, (⟨0, 0⟩ : Number), a0.Text, a0.Other, r5, r6, r7, r8⟩ : HwInstruction))))
    (cond ((andI .i64 r1.fields 512) == 0) (cond ((andI .i64 r1.fields 1024) == 0) ((cond a0.Half (some ((andI .i64 r1.fields 128) != 0)) (some false)).bind fun g52 =>
    (cond a0.InStorage (some (a0.Op == 4)) (some false)).bind fun g53 =>
    some (⟨a0.Op, r2, r3, r4, r9, r10, r11, (⟨a0.Type_.Kind, a0.Type_.Length, a0.Type_.Scale⟩ : DataType), (⟨0, 0, 0⟩ : DataType), g52, g53, (⟨a0.Number.N, a0.Number.Scale⟩ : Number), (⟨#[]⟩ : ByteArray), (⟨#[]⟩ : ByteArray), r5, r6, r7, r8⟩ : HwInstruction))
    ((cond a0.Half (some ((andI .i64 r1.fields 128) != 0)) (some false)).bind fun g54 => (cond a0.InStorage (some (a0.Op == 4)) (some false)).bind fun g55 =>
    some (⟨a0.Op, r2, r3, r4, r9, r10, r11, (⟨a0.Type_.Kind, a0.Type_.Length, a0.Type_.Scale⟩ : DataType), (⟨0, 0, 0⟩ : DataType), g54, g55, (⟨a0.Number.N, a0.Number.Scale⟩ : Number), (⟨#[]⟩ : ByteArray), a0.Other, r5, r6, r7, r8⟩ : HwInstruction)))
    (cond ((andI .i64 r1.fields 1024) == 0) ((cond a0.Half (some ((andI .i64 r1.fields 128) != 0)) (some false)).bind fun g56 => (cond a0.InStorage (some (a0.Op == 4))
    (some false)).bind fun g57 =>
    some (⟨a0.Op, r2, r3, r4, r9, r10, r11, (⟨a0.Type_.Kind, a0.Type_.Length, a0.Type_.Scale⟩ : DataType), (⟨0, 0, 0⟩ : DataType), g56, g57, (⟨a0.Number.N, a0.Number.Scale⟩ : Number), a0.Text, (⟨#[]⟩ : ByteArray), r5, r6, r7, r8⟩ : HwInstruction))
    ((cond a0.Half (some ((andI .i64 r1.fields 128) != 0)) (some false)).bind fun g58 => (cond a0.InStorage (some (a0.Op == 4)) (some false)).bind fun g59 =>
    some (⟨a0.Op, r2, r3, r4, r9, r10, r11, (⟨a0.Type_.Kind, a0.Type_.Length, a0.Type_.Scale⟩ : DataType), (⟨0, 0, 0⟩ : DataType), g58, g59, (⟨a0.Number.N, a0.Number.Scale⟩ : Number), a0.Text, a0.Other, r5, r6, r7, r8⟩ : HwInstruction)))))
    (cond ((andI .i64 r1.fields 256) == 0) (cond ((andI .i64 r1.fields 512) == 0) (cond ((andI .i64 r1.fields 1024) == 0) ((cond a0.Half (some ((andI .i64 r1.fields 128) != 0))
    (some false)).bind fun g60 => (cond a0.InStorage (some (a0.Op == 4)) (some false)).bind fun g61 =>
    some (⟨a0.Op, r2, r3, r4, r9, r10, r11, (⟨a0.Type_.Kind, a0.Type_.Length, a0.Type_.Scale⟩ : DataType), (⟨a0.Second.Kind, a0.Second.Length, a0.Second.Scale⟩ : DataType), g60, g61, (⟨0, 0⟩ : Number), (⟨#[]⟩ : ByteArray), (⟨#[]⟩ : ByteArray), r5, r6, r7, r8⟩ : HwInstruction))
    ((cond a0.Half (some ((andI .i64 r1.fields 128) != 0)) (some false)).bind fun g62 => (cond a0.InStorage (some (a0.Op == 4)) (some false)).bind fun g63 =>
    some (⟨a0.Op, r2, r3, r4, r9, r10, r11, (⟨a0.Type_.Kind, a0.Type_.Length, a0.Type_.Scale⟩ : DataType), (⟨a0.Second.Kind, a0.Second.Length, a0.Second.Scale⟩ : DataType), g62, g63, (⟨0, 0⟩ : Number), (⟨#[]⟩ : ByteArray), a0.Other, r5, r6, r7, r8⟩ : HwInstruction)))
    (cond ((andI .i64 r1.fields 1024) == 0) ((cond a0.Half (some ((andI .i64 r1.fields 128) != 0)) (some false)).bind fun g64 => (cond a0.InStorage (some (a0.Op == 4))
    (some false)).bind fun g65 =>
    some (⟨a0.Op, r2, r3, r4, r9, r10, r11, (⟨a0.Type_.Kind, a0.Type_.Length, a0.Type_.Scale⟩ : DataType), (⟨a0.Second.Kind, a0.Second.Length, a0.Second.Scale⟩ : DataType), g64, g65, (⟨0, 0⟩ : Number), a0.Text, (⟨#[]⟩ : ByteArray), r5, r6, r7, r8⟩ : HwInstruction))
    ((cond a0.Half (some ((andI .i64 r1.fields 128) != 0)) (some false)).bind fun g66 => (cond a0.InStorage (some (a0.Op == 4)) (some false)).bind fun g67 =>
    some (⟨a0.Op, r2, r3, r4, r9, r10, r11, (⟨a0.Type_.Kind, a0.Type_.Length, a0.Type_.Scale⟩ : DataType), (⟨a0.Second.Kind, a0.Second.Length, a0.Second.Scale⟩ : DataType), g66, g67, (⟨0, 0⟩ : Number), a0.Text, a0.Other, r5, r6, r7, r8⟩ : HwInstruction))))
    (cond ((andI .i64 r1.fields 512) == 0) (cond ((andI .i64 r1.fields 1024) == 0) ((cond a0.Half (some ((andI .i64 r1.fields 128) != 0)) (some false)).bind fun g68 =>
    (cond a0.InStorage (some (a0.Op == 4)) (some false)).bind fun g69 =>
    some (⟨a0.Op, r2, r3, r4, r9, r10, r11, (⟨a0.Type_.Kind, a0.Type_.Length, a0.Type_.Scale⟩ : DataType), (⟨a0.Second.Kind, a0.Second.Length, a0.Second.Scale⟩ : DataType), g68, g69, (⟨a0.Number.N, a0.Number.Scale⟩ : Number), (⟨#[]⟩ : ByteArray), (⟨#[]⟩ : ByteArray), r5, r6, r7, r8⟩ : HwInstruction))
    ((cond a0.Half (some ((andI .i64 r1.fields 128) != 0)) (some false)).bind fun g70 => (cond a0.InStorage (some (a0.Op == 4)) (some false)).bind fun g71 =>
    some (⟨a0.Op, r2, r3, r4, r9, r10, r11, (⟨a0.Type_.Kind, a0.Type_.Length, a0.Type_.Scale⟩ : DataType), (⟨a0.Second.Kind, a0.Second.Length, a0.Second.Scale⟩ : DataType), g70, g71, (⟨a0.Number.N, a0.Number.Scale⟩ : Number), (⟨#[]⟩ : ByteArray), a0.Other, r5, r6, r7, r8⟩ : HwInstruction)))
    (cond ((andI .i64 r1.fields 1024) == 0) ((cond a0.Half (some ((andI .i64 r1.fields 128) != 0)) (some false)).bind fun g72 => (cond a0.InStorage (some (a0.Op == 4))
    (some false)).bind fun g73 =>
    some (⟨a0.Op, r2, r3, r4, r9, r10, r11, (⟨a0.Type_.Kind, a0.Type_.Length, a0.Type_.Scale⟩ : DataType), (⟨a0.Second.Kind, a0.Second.Length, a0.Second.Scale⟩ : DataType), g72, g73, (⟨a0.Number.N, a0.Number.Scale⟩ : Number), a0.Text, (⟨#[]⟩ : ByteArray), r5, r6, r7, r8⟩ : HwInstruction))
    ((cond a0.Half (some ((andI .i64 r1.fields 128) != 0)) (some false)).bind fun g74 => (cond a0.InStorage (some (a0.Op == 4)) (some false)).bind fun g75 =>
    some (⟨a0.Op, r2, r3, r4, r9, r10, r11, (⟨a0.Type_.Kind, a0.Type_.Length, a0.Type_.Scale⟩ : DataType), (⟨a0.Second.Kind, a0.Second.Length, a0.Second.Scale⟩ : DataType), g74, g75, (⟨a0.Number.N, a0.Number.Scale⟩ : Number), a0.Text, a0.Other, r5, r6, r7, r8⟩ : HwInstruction))))))
noncomputable def hardware_kept.ct : Ct U := { params := [.val Ty.HwInstruction], results := [Ty.HwInstruction], outs := [], fresh := [], fn := app U [Ty.HwInstruction] (R := PT U [Ty.HwInstruction]) (hardware_kept) }
noncomputable def hardware_kept.cx : Ctx U := mkCx [(94, hardware_formOf.ct), (137, hardware_kept_c1.ct), (138, hardware_place.ct)] [] [] [] [] [] [] []
noncomputable def hardware_kept.L : Nat → Option (Cut U (PT U [Ty.HwInstruction])) := pick []
theorem hardware_kept.eq (a0 : HwInstruction) : runF (hardware_kept.cx) Proofs.Tryz.f92 (hardware_kept.ct) (hardware_kept.L) [⟨Ty.HwInstruction, a0⟩] = hardware_kept a0 := by kernel_rfl
theorem hardware_kept.ok : ∀ y, finOk (hardware_kept.cx) (hardware_kept.ct) y = true := fun y => by kernel_rfl
theorem hardware_kept.meets : Meets (hardware_kept.cx) 92 (hardware_kept.ct) :=
  meets_run (C := hardware_kept.cx) (ct := hardware_kept.ct) (Lp := hardware_kept.L) claws (ook_of (l := [(94, hardware_formOf.ct), (137, hardware_kept_c1.ct), (138, hardware_place.ct)]) rfl (all_cons (Meets.ctx (C := hardware_formOf.cx) (C' := hardware_kept.cx) rfl rfl rfl hardware_formOf.meets) (all_cons (Meets.ctx (C := hardware_kept_c1.cx) (C' := hardware_kept.cx) rfl rfl rfl hardware_kept_c1.meets) (all_cons (Meets.ctx (C := hardware_place.cx) (C' := hardware_kept.cx) rfl rfl rfl hardware_place.meets) (all_nil))))) (xok_of (l := []) rfl (all_nil)) Proofs.Tryz.func92 (by kernel_rfl) rfl (lok_of (l := []) rfl (all_nil)) (hardware_kept.ok) (app_run (U := U) [Ty.HwInstruction] (hardware_kept) (runF (hardware_kept.cx) Proofs.Tryz.f92 (hardware_kept.ct) (hardware_kept.L)) hardware_kept.eq)

noncomputable def hardware_has (a0 : HwModel) (a1 : HwInstruction) : Option Bool :=
  (cond (a1.Op != 7) (some true) (some a0.Fused)).bind fun g1 => (cond g1 ((cond (a1.Op != 4) (some true) (some (!a1.InStorage))).bind fun g2 => (cond g2 (some true)
    (some a0.Memory)).bind fun g3 => some g3) (some false)).bind fun g4 => some g4
noncomputable def hardware_has.ct : Ct U := { params := [.val Ty.HwModel, .val Ty.HwInstruction], results := [Ty.bool], outs := [], fresh := [], fn := app U [Ty.HwModel, Ty.HwInstruction] (R := PT U [Ty.bool]) (hardware_has) }
noncomputable def hardware_has.cx : Ctx U := mkCx [] [] [] [] [] [] [] []
noncomputable def hardware_has.L : Nat → Option (Cut U (PT U [Ty.bool])) := pick []
theorem hardware_has.eq (a0 : HwModel) (a1 : HwInstruction) : runF (hardware_has.cx) Proofs.Tryz.f63 (hardware_has.ct) (hardware_has.L) [⟨Ty.HwModel, a0⟩, ⟨Ty.HwInstruction, a1⟩] = hardware_has a0 a1 := by kernel_rfl
theorem hardware_has.ok : ∀ y, finOk (hardware_has.cx) (hardware_has.ct) y = true := fun y => by kernel_rfl
theorem hardware_has.meets : Meets (hardware_has.cx) 63 (hardware_has.ct) :=
  meets_run (C := hardware_has.cx) (ct := hardware_has.ct) (Lp := hardware_has.L) claws (ook_of (l := []) rfl (all_nil)) (xok_of (l := []) rfl (all_nil)) Proofs.Tryz.func63 (by kernel_rfl) rfl (lok_of (l := []) rfl (all_nil)) (hardware_has.ok) (app_run (U := U) [Ty.HwModel, Ty.HwInstruction] (hardware_has) (runF (hardware_has.cx) Proofs.Tryz.f63 (hardware_has.ct) (hardware_has.L)) hardware_has.eq)

noncomputable def numeric_in (a0 : Int) (a1 : Int) (a2 : Int) : Option Bool :=
  (cond (decide (a1 ≤ a0)) (some (decide (a0 ≤ a2))) (some false)).bind fun g1 => some g1
noncomputable def numeric_in.ct : Ct U := { params := [.val (Ty.int .i64), .val (Ty.int .i64), .val (Ty.int .i64)], results := [Ty.bool], outs := [], fresh := [], fn := app U [(Ty.int .i64), (Ty.int .i64), (Ty.int .i64)] (R := PT U [Ty.bool]) (numeric_in) }
noncomputable def numeric_in.cx : Ctx U := mkCx [] [] [] [] [] [] [] []
noncomputable def numeric_in.L : Nat → Option (Cut U (PT U [Ty.bool])) := pick []
theorem numeric_in.eq (a0 : Int) (a1 : Int) (a2 : Int) : runF (numeric_in.cx) Proofs.Tryz.f119 (numeric_in.ct) (numeric_in.L) [⟨(Ty.int .i64), a0⟩, ⟨(Ty.int .i64), a1⟩, ⟨(Ty.int .i64), a2⟩] = numeric_in a0 a1 a2 := by kernel_rfl
theorem numeric_in.ok : ∀ y, finOk (numeric_in.cx) (numeric_in.ct) y = true := fun y => by kernel_rfl
theorem numeric_in.meets : Meets (numeric_in.cx) 119 (numeric_in.ct) :=
  meets_run (C := numeric_in.cx) (ct := numeric_in.ct) (Lp := numeric_in.L) claws (ook_of (l := []) rfl (all_nil)) (xok_of (l := []) rfl (all_nil)) Proofs.Tryz.func119 (by kernel_rfl) rfl (lok_of (l := []) rfl (all_nil)) (numeric_in.ok) (app_run (U := U) [(Ty.int .i64), (Ty.int .i64), (Ty.int .i64)] (numeric_in) (runF (numeric_in.cx) Proofs.Tryz.f119 (numeric_in.ct) (numeric_in.L)) numeric_in.eq)

noncomputable def numeric_cond (a0 : Bool) (a1 : Int) : Option Int :=
  cond a0 (some a1) (some 0)
noncomputable def numeric_cond.ct : Ct U := { params := [.val Ty.bool, .val (Ty.int .i64)], results := [(Ty.int .i64)], outs := [], fresh := [], fn := app U [Ty.bool, (Ty.int .i64)] (R := PT U [(Ty.int .i64)]) (numeric_cond) }
noncomputable def numeric_cond.cx : Ctx U := mkCx [] [] [] [] [] [] [] []
noncomputable def numeric_cond.L : Nat → Option (Cut U (PT U [(Ty.int .i64)])) := pick []
theorem numeric_cond.eq (a0 : Bool) (a1 : Int) : runF (numeric_cond.cx) Proofs.Tryz.f118 (numeric_cond.ct) (numeric_cond.L) [⟨Ty.bool, a0⟩, ⟨(Ty.int .i64), a1⟩] = numeric_cond a0 a1 := by kernel_rfl
theorem numeric_cond.ok : ∀ y, finOk (numeric_cond.cx) (numeric_cond.ct) y = true := fun y => by kernel_rfl
theorem numeric_cond.meets : Meets (numeric_cond.cx) 118 (numeric_cond.ct) :=
  meets_run (C := numeric_cond.cx) (ct := numeric_cond.ct) (Lp := numeric_cond.L) claws (ook_of (l := []) rfl (all_nil)) (xok_of (l := []) rfl (all_nil)) Proofs.Tryz.func118 (by kernel_rfl) rfl (lok_of (l := []) rfl (all_nil)) (numeric_cond.ok) (app_run (U := U) [Ty.bool, (Ty.int .i64)] (numeric_cond) (runF (numeric_cond.cx) Proofs.Tryz.f118 (numeric_cond.ct) (numeric_cond.L)) numeric_cond.eq)

noncomputable def numeric_first.sp0 : Amx.Spec U := { slots := [(5, .val (Ty.sl (Ty.int .i64))), (6, .val (Ty.int .i64)), (7, .val (Ty.int .i64))], boxes := [] }
noncomputable def numeric_first.b0 (N : Nat) (s5 : List Int) (s6 : Int) (s7 : Int) : Option (Round Int ((List Int) × Int × Int)) :=
  cond (decide (s7 < s6)) ((idx s5 s7).bind fun x1001 => cond (x1001 != 0) (some (.result x1001)) (some (.again (s5, s6, (IntKind.wrap .i64 (s7 + 1)))))) (some (.leave (s5, s6, s7)))
noncomputable def numeric_first.r0 (N : Nat) (x : (List Int) × Int × Int) : Option (Round Int ((List Int) × Int × Int)) := numeric_first.b0 N x.1 x.2.1 x.2.2
noncomputable def numeric_first (N : Nat) (a0 : List Int) : Option Int :=
  (iterR (numeric_first.r0 N) N (a0, (a0.length : Int), 0)).bind fun z2 => resR z2 (fun z => some z) (fun y1 => some 0)
noncomputable def numeric_first.ct (N : Nat) : Ct U := { params := [.val (Ty.sl (Ty.int .i64))], results := [(Ty.int .i64)], outs := [], fresh := [], fn := app U [(Ty.sl (Ty.int .i64))] (R := PT U [(Ty.int .i64)]) (numeric_first N) }
noncomputable def numeric_first.cx (N : Nat) : Ctx U := mkCx [] [] [] [] [] [] [] []
noncomputable def numeric_first.L (N : Nat) : Nat → Option (Cut U (PT U [(Ty.int .i64)])) := pick [(0, .rets numeric_first.sp0 [(Ty.sl (Ty.int .i64)), (Ty.int .i64), (Ty.int .i64)] (iterR (numeric_first.r0 N) N))]
theorem numeric_first.r0_eq (N : Nat) (x : PT U [(Ty.sl (Ty.int .i64)), (Ty.int .i64), (Ty.int .i64)]) : roundRF (numeric_first.cx N) Proofs.Tryz.f265 (numeric_first.ct N) (numeric_first.L N) numeric_first.sp0 [(Ty.sl (Ty.int .i64)), (Ty.int .i64), (Ty.int .i64)] 0 x = numeric_first.r0 N x := by kernel_rfl
theorem numeric_first.eq (N : Nat) (a0 : List Int) : runF (numeric_first.cx N) Proofs.Tryz.f265 (numeric_first.ct N) (numeric_first.L N) [⟨(Ty.sl (Ty.int .i64)), a0⟩] = numeric_first N a0 := by kernel_rfl
theorem numeric_first.ok (N : Nat) : ∀ y, finOk (numeric_first.cx N) (numeric_first.ct N) y = true := fun y => by kernel_rfl
theorem numeric_first.meets (N : Nat) : Meets (numeric_first.cx N) 265 (numeric_first.ct N) :=
  meets_run (C := numeric_first.cx N) (ct := numeric_first.ct N) (Lp := numeric_first.L N) claws (ook_of (l := []) rfl (all_nil)) (xok_of (l := []) rfl (all_nil)) Proofs.Tryz.func265 (by kernel_rfl) rfl (lok_of (l := [(0, .rets numeric_first.sp0 [(Ty.sl (Ty.int .i64)), (Ty.int .i64), (Ty.int .i64)] (iterR (numeric_first.r0 N) N))]) rfl (all_cons (lok_rets (numeric_first.r0_eq N)) (all_nil))) (numeric_first.ok N) (app_run (U := U) [(Ty.sl (Ty.int .i64))] (numeric_first N) (runF (numeric_first.cx N) Proofs.Tryz.f265 (numeric_first.ct N) (numeric_first.L N)) (numeric_first.eq N))

noncomputable def numeric_CheckType (N : Nat) (a0 : DataType) : Option Int :=
  cond (a0.Kind == 0) ((numeric_in a0.Length 1 256).bind fun r1 => (numeric_cond (!r1) 18).bind fun r2 => (numeric_cond (!(a0.Scale == 0)) 3).bind fun r3 =>
    (numeric_first N ([r2, r3] : List Int)).bind fun r4 => some r4) ((cond (a0.Kind == 1) (some (a0.Kind == 1)) (some (a0.Kind == 2))).bind fun q5 =>
    cond q5 ((numeric_in a0.Length 1 15).bind fun r6 => (numeric_in a0.Scale 0 a0.Length).bind fun r7 => (numeric_cond (!r6) 18).bind fun r8 => (numeric_cond (!r7) 3).bind fun r9 =>
    (numeric_first N ([r8, r9] : List Int)).bind fun r10 => some r10) (cond (a0.Kind == 3) ((cond (a0.Length == 4) (some true) (some (a0.Length == 9))).bind fun g11 =>
    (numeric_in a0.Scale 0 a0.Length).bind fun r12 => (numeric_cond (!g11) 18).bind fun r13 => (numeric_cond (!r12) 3).bind fun r14 =>
    (numeric_first N ([r13, r14] : List Int)).bind fun r15 => some r15) (cond (a0.Kind == 4) ((numeric_cond (!(a0.Length == 0)) 18).bind fun r16 =>
    (numeric_cond (!(a0.Scale == 0)) 3).bind fun r17 => (numeric_first N ([r16, r17] : List Int)).bind fun r18 => some r18) (some 4))))
noncomputable def numeric_CheckType.ct (N : Nat) : Ct U := { params := [.val Ty.DataType], results := [(Ty.int .i64)], outs := [], fresh := [], fn := app U [Ty.DataType] (R := PT U [(Ty.int .i64)]) (numeric_CheckType N) }
noncomputable def numeric_CheckType.cx (N : Nat) : Ctx U := mkCx [(118, numeric_cond.ct), (119, numeric_in.ct), (265, numeric_first.ct N)] [] [] [] [48, 51, 52] [] [] [15]
noncomputable def numeric_CheckType.L (N : Nat) : Nat → Option (Cut U (PT U [(Ty.int .i64)])) := pick []
theorem numeric_CheckType.eq (N : Nat) (a0 : DataType) : runF (numeric_CheckType.cx N) Proofs.Tryz.f202 (numeric_CheckType.ct N) (numeric_CheckType.L N) [⟨Ty.DataType, a0⟩] = numeric_CheckType N a0 := by kernel_rfl
theorem numeric_CheckType.ok (N : Nat) : ∀ y, finOk (numeric_CheckType.cx N) (numeric_CheckType.ct N) y = true := fun y => by kernel_rfl
theorem numeric_CheckType.meets (N : Nat) : Meets (numeric_CheckType.cx N) 202 (numeric_CheckType.ct N) :=
  meets_run (C := numeric_CheckType.cx N) (ct := numeric_CheckType.ct N) (Lp := numeric_CheckType.L N) claws (ook_of (l := [(118, numeric_cond.ct), (119, numeric_in.ct), (265, numeric_first.ct N)]) rfl (all_cons (Meets.ctx (C := numeric_cond.cx) (C' := numeric_CheckType.cx N) rfl rfl rfl numeric_cond.meets) (all_cons (Meets.ctx (C := numeric_in.cx) (C' := numeric_CheckType.cx N) rfl rfl rfl numeric_in.meets) (all_cons (Meets.ctx (C := numeric_first.cx N) (C' := numeric_CheckType.cx N) rfl rfl rfl (numeric_first.meets N)) (all_nil))))) (xok_of (l := []) rfl (all_nil)) Proofs.Tryz.func202 (by kernel_rfl) rfl (lok_of (l := []) rfl (all_nil)) (numeric_CheckType.ok N) (app_run (U := U) [Ty.DataType] (numeric_CheckType N) (runF (numeric_CheckType.cx N) Proofs.Tryz.f202 (numeric_CheckType.ct N) (numeric_CheckType.L N)) (numeric_CheckType.eq N))

noncomputable def hardware_typeErr (N : Nat) (a0 : DataType) (a1 : Int) : Option Int :=
  (cond (a0.Kind == 4) (some true) ((cond (a1 == 1) (some (a0.Kind == 0)) (some false)).bind fun g1 => some g1)).bind fun g2 => (cond g2 (some true) ((cond (a1 == 2)
    (some (a0.Kind != 0)) (some false)).bind fun g3 => some g3)).bind fun g4 => (numeric_CheckType N (⟨a0.Kind, a0.Length, a0.Scale⟩ : DataType)).bind fun r5 =>
    (hardware_cond g4 17).bind fun r6 => (hardware_first N ([r5, r6] : List Int)).bind fun r7 => some r7
noncomputable def hardware_typeErr.ct (N : Nat) : Ct U := { params := [.val Ty.DataType, .val (Ty.int .i64)], results := [(Ty.int .i64)], outs := [], fresh := [], fn := app U [Ty.DataType, (Ty.int .i64)] (R := PT U [(Ty.int .i64)]) (hardware_typeErr N) }
noncomputable def hardware_typeErr.cx (N : Nat) : Ctx U := mkCx [(48, hardware_first.ct N), (49, hardware_cond.ct), (202, numeric_CheckType.ct N)] [] [] [] [28, 30, 31] [] [] []
noncomputable def hardware_typeErr.L (N : Nat) : Nat → Option (Cut U (PT U [(Ty.int .i64)])) := pick []
theorem hardware_typeErr.eq (N : Nat) (a0 : DataType) (a1 : Int) : runF (hardware_typeErr.cx N) Proofs.Tryz.f139 (hardware_typeErr.ct N) (hardware_typeErr.L N) [⟨Ty.DataType, a0⟩, ⟨(Ty.int .i64), a1⟩] = hardware_typeErr N a0 a1 := by kernel_rfl
theorem hardware_typeErr.ok (N : Nat) : ∀ y, finOk (hardware_typeErr.cx N) (hardware_typeErr.ct N) y = true := fun y => by kernel_rfl
theorem hardware_typeErr.meets (N : Nat) : Meets (hardware_typeErr.cx N) 139 (hardware_typeErr.ct N) :=
  meets_run (C := hardware_typeErr.cx N) (ct := hardware_typeErr.ct N) (Lp := hardware_typeErr.L N) claws (ook_of (l := [(48, hardware_first.ct N), (49, hardware_cond.ct), (202, numeric_CheckType.ct N)]) rfl (all_cons (Meets.ctx (C := hardware_first.cx N) (C' := hardware_typeErr.cx N) rfl rfl rfl (hardware_first.meets N)) (all_cons (Meets.ctx (C := hardware_cond.cx) (C' := hardware_typeErr.cx N) rfl rfl rfl hardware_cond.meets) (all_cons (Meets.ctx (C := numeric_CheckType.cx N) (C' := hardware_typeErr.cx N) rfl rfl rfl (numeric_CheckType.meets N)) (all_nil))))) (xok_of (l := []) rfl (all_nil)) Proofs.Tryz.func139 (by kernel_rfl) rfl (lok_of (l := []) rfl (all_nil)) (hardware_typeErr.ok N) (app_run (U := U) [Ty.DataType, (Ty.int .i64)] (hardware_typeErr N) (runF (hardware_typeErr.cx N) Proofs.Tryz.f139 (hardware_typeErr.ct N) (hardware_typeErr.L N)) (hardware_typeErr.eq N))

noncomputable def hardware_typesErr (N : Nat) (a0 : HwInstruction) (a1 : hardware_form) : Option Int :=
  cond ((andI .i64 a1.fields 32) != 0) ((hardware_typeErr N (⟨a0.Type_.Kind, a0.Type_.Length, a0.Type_.Scale⟩ : DataType) a1.types).bind fun r1 => cond (r1 != 0) (some r1)
    (cond ((andI .i64 a1.fields 64) != 0) ((hardware_typeErr N (⟨a0.Second.Kind, a0.Second.Length, a0.Second.Scale⟩ : DataType) a1.types).bind fun r2 => some r2) (some 0)))
    (cond ((andI .i64 a1.fields 64) != 0) ((hardware_typeErr N (⟨a0.Second.Kind, a0.Second.Length, a0.Second.Scale⟩ : DataType) a1.types).bind fun r3 => some r3) (some 0))
noncomputable def hardware_typesErr.ct (N : Nat) : Ct U := { params := [.val Ty.HwInstruction, .val Ty.hardware_form], results := [(Ty.int .i64)], outs := [], fresh := [], fn := app U [Ty.HwInstruction, Ty.hardware_form] (R := PT U [(Ty.int .i64)]) (hardware_typesErr N) }
noncomputable def hardware_typesErr.cx (N : Nat) : Ctx U := mkCx [(139, hardware_typeErr.ct N)] [] [] [] [] [] [] []
noncomputable def hardware_typesErr.L (N : Nat) : Nat → Option (Cut U (PT U [(Ty.int .i64)])) := pick []
theorem hardware_typesErr.eq (N : Nat) (a0 : HwInstruction) (a1 : hardware_form) : runF (hardware_typesErr.cx N) Proofs.Tryz.f93 (hardware_typesErr.ct N) (hardware_typesErr.L N) [⟨Ty.HwInstruction, a0⟩, ⟨Ty.hardware_form, a1⟩] = hardware_typesErr N a0 a1 := by kernel_rfl
theorem hardware_typesErr.ok (N : Nat) : ∀ y, finOk (hardware_typesErr.cx N) (hardware_typesErr.ct N) y = true := fun y => by kernel_rfl
theorem hardware_typesErr.meets (N : Nat) : Meets (hardware_typesErr.cx N) 93 (hardware_typesErr.ct N) :=
  meets_run (C := hardware_typesErr.cx N) (ct := hardware_typesErr.ct N) (Lp := hardware_typesErr.L N) claws (ook_of (l := [(139, hardware_typeErr.ct N)]) rfl (all_cons (Meets.ctx (C := hardware_typeErr.cx N) (C' := hardware_typesErr.cx N) rfl rfl rfl (hardware_typeErr.meets N)) (all_nil))) (xok_of (l := []) rfl (all_nil)) Proofs.Tryz.func93 (by kernel_rfl) rfl (lok_of (l := []) rfl (all_nil)) (hardware_typesErr.ok N) (app_run (U := U) [Ty.HwInstruction, Ty.hardware_form] (hardware_typesErr N) (runF (hardware_typesErr.cx N) Proofs.Tryz.f93 (hardware_typesErr.ct N) (hardware_typesErr.L N)) (hardware_typesErr.eq N))

noncomputable def hardware_registers.sp0 : Amx.Spec U := { slots := [(3, .own 5000003 (Ty.int .i64)), (4, .val (Ty.int .i64)), (16, .own 5000016 (Ty.int .i64)), (17, .val (Ty.int .i64)), (18, .val (Ty.int .i64))], boxes := [] }
noncomputable def hardware_registers.b0 (N : Nat) (s3 : List Int) (s4 : Int) (s16 : List Int) (s17 : Int) (s18 : Int) : Option (Stp ((List Int) × Int × (List Int) × Int × Int)) :=
  cond (decide (s18 < s17)) (if 0 ≤ s18 then (if s18 < (s16.length : Int) then ((s16[s18.toNat]?).bind fun x1001 =>
    if s18 < 0 then none else cond ((andI .i64 s4 (IntKind.wrap .i64 (1 * 2 ^ (min s18.toNat 64)))) != 0) (cond (Nat.ble ((s3.length + ([x1001] : List Int).length) * 8) room)
    (some (.again ((s3 ++ ([x1001] : List Int)), s4, s16, s17, (IntKind.wrap .i64 (s18 + 1))))) none)
    (some (.again (s3, s4, s16, s17, (IntKind.wrap .i64 (s18 + 1)))))) else none) else none) (some (.leave (s3, s4, s16, s17, s18)))
noncomputable def hardware_registers.r0 (N : Nat) (x : (List Int) × Int × (List Int) × Int × Int) : Option (Stp ((List Int) × Int × (List Int) × Int × Int)) := hardware_registers.b0 N x.1 x.2.1 x.2.2.1 x.2.2.2.1 x.2.2.2.2
noncomputable def hardware_registers (N : Nat) (a0 : HwInstruction) : Option ((List Int)) :=
  (hardware_formOf a0).bind fun r1 =>
    (iterP (hardware_registers.r0 N) N ([], r1.fields, ([a0.R, a0.A, a0.B] : List Int), (([a0.R, a0.A, a0.B] : List Int).length : Int), 0)).bind fun y2 => some y2.1
noncomputable def hardware_registers.ct (N : Nat) : Ct U := { params := [.val Ty.HwInstruction], results := [(Ty.sl (Ty.int .i64))], outs := [], fresh := [], fn := app U [Ty.HwInstruction] (R := PT U [(Ty.sl (Ty.int .i64))]) (hardware_registers N) }
noncomputable def hardware_registers.cx (N : Nat) : Ctx U := mkCx [(94, hardware_formOf.ct)] [] [] [] [30] [] [] []
noncomputable def hardware_registers.L (N : Nat) : Nat → Option (Cut U (PT U [(Ty.sl (Ty.int .i64))])) := pick [(0, .plain hardware_registers.sp0 [(Ty.sl (Ty.int .i64)), (Ty.int .i64), (Ty.sl (Ty.int .i64)), (Ty.int .i64), (Ty.int .i64)] (iterP (hardware_registers.r0 N) N))]
theorem hardware_registers.r0_eq (N : Nat) (x : PT U [(Ty.sl (Ty.int .i64)), (Ty.int .i64), (Ty.sl (Ty.int .i64)), (Ty.int .i64), (Ty.int .i64)]) : roundPF (hardware_registers.cx N) Proofs.Tryz.f65 (hardware_registers.L N) hardware_registers.sp0 [(Ty.sl (Ty.int .i64)), (Ty.int .i64), (Ty.sl (Ty.int .i64)), (Ty.int .i64), (Ty.int .i64)] 0 x = hardware_registers.r0 N x := by kernel_rfl
theorem hardware_registers.eq (N : Nat) (a0 : HwInstruction) : runF (hardware_registers.cx N) Proofs.Tryz.f65 (hardware_registers.ct N) (hardware_registers.L N) [⟨Ty.HwInstruction, a0⟩] = hardware_registers N a0 := by kernel_rfl
theorem hardware_registers.ok (N : Nat) : ∀ y, finOk (hardware_registers.cx N) (hardware_registers.ct N) y = true := fun y => by kernel_rfl
theorem hardware_registers.meets (N : Nat) : Meets (hardware_registers.cx N) 65 (hardware_registers.ct N) :=
  meets_run (C := hardware_registers.cx N) (ct := hardware_registers.ct N) (Lp := hardware_registers.L N) claws (ook_of (l := [(94, hardware_formOf.ct)]) rfl (all_cons (Meets.ctx (C := hardware_formOf.cx) (C' := hardware_registers.cx N) rfl rfl rfl hardware_formOf.meets) (all_nil))) (xok_of (l := []) rfl (all_nil)) Proofs.Tryz.func65 (by kernel_rfl) rfl (lok_of (l := [(0, .plain hardware_registers.sp0 [(Ty.sl (Ty.int .i64)), (Ty.int .i64), (Ty.sl (Ty.int .i64)), (Ty.int .i64), (Ty.int .i64)] (iterP (hardware_registers.r0 N) N))]) rfl (all_cons (lok_plain (hardware_registers.r0_eq N)) (all_nil))) (hardware_registers.ok N) (app_run (U := U) [Ty.HwInstruction] (hardware_registers N) (runF (hardware_registers.cx N) Proofs.Tryz.f65 (hardware_registers.ct N) (hardware_registers.L N)) (hardware_registers.eq N))

noncomputable def hardware_isRange_c1 (a0 : Int) (a1 : HwModel) : Option Bool :=
  (hardware_in a0 0 (IntKind.wrap .i64 (a1.Registers - 1))).bind fun r1 => some (!r1)
noncomputable def hardware_isRange_c1.ct : Ct U := { params := [.val (Ty.int .i64), .ptr Ty.HwModel false []], results := [Ty.bool], outs := [], fresh := [], fn := app U [(Ty.int .i64), Ty.HwModel] (R := PT U [Ty.bool]) (hardware_isRange_c1) }
noncomputable def hardware_isRange_c1.cx : Ctx U := mkCx [(58, hardware_in.ct)] [] [] [] [] [1000000] [1000000] []
noncomputable def hardware_isRange_c1.L : Nat → Option (Cut U (PT U [Ty.bool])) := pick []
theorem hardware_isRange_c1.eq (a0 : Int) (a1 : HwModel) : runF (hardware_isRange_c1.cx) Proofs.Tryz.f140 (hardware_isRange_c1.ct) (hardware_isRange_c1.L) [⟨(Ty.int .i64), a0⟩, ⟨Ty.HwModel, a1⟩] = hardware_isRange_c1 a0 a1 := by kernel_rfl
theorem hardware_isRange_c1.ok : ∀ y, finOk (hardware_isRange_c1.cx) (hardware_isRange_c1.ct) y = true := fun y => by kernel_rfl
theorem hardware_isRange_c1.meets : Meets (hardware_isRange_c1.cx) 140 (hardware_isRange_c1.ct) :=
  meets_run (C := hardware_isRange_c1.cx) (ct := hardware_isRange_c1.ct) (Lp := hardware_isRange_c1.L) claws (ook_of (l := [(58, hardware_in.ct)]) rfl (all_cons (Meets.ctx (C := hardware_in.cx) (C' := hardware_isRange_c1.cx) rfl rfl rfl hardware_in.meets) (all_nil))) (xok_of (l := []) rfl (all_nil)) Proofs.Tryz.func140 (by kernel_rfl) rfl (lok_of (l := []) rfl (all_nil)) (hardware_isRange_c1.ok) (app_run (U := U) [(Ty.int .i64), Ty.HwModel] (hardware_isRange_c1) (runF (hardware_isRange_c1.cx) Proofs.Tryz.f140 (hardware_isRange_c1.ct) (hardware_isRange_c1.L)) hardware_isRange_c1.eq)

noncomputable def slices_IndexFunc_int_f140.sp0 : Amx.Spec U := { slots := [(0, .val (Ty.sl (Ty.int .i64))), (1, .fn 140 [1000000]), (7, .val (Ty.int .i64)), (8, .val (Ty.int .i64))], boxes := [(1000000, Ty.HwModel, [])] }
noncomputable def slices_IndexFunc_int_f140.b0 (N : Nat) (s0 : List Int) (s7 : Int) (s8 : Int) (b1000000 : HwModel) : Option (Round Int ((List Int) × Int × Int × HwModel)) :=
  cond (decide (s8 < s7)) ((idx s0 s8).bind fun x1001 => (hardware_isRange_c1 x1001 b1000000).bind fun r1002 => cond r1002 (some (.result s8))
    (some (.again (s0, s7, (IntKind.wrap .i64 (s8 + 1)), b1000000)))) (some (.leave (s0, s7, s8, b1000000)))
noncomputable def slices_IndexFunc_int_f140.r0 (N : Nat) (x : (List Int) × Int × Int × HwModel) : Option (Round Int ((List Int) × Int × Int × HwModel)) := slices_IndexFunc_int_f140.b0 N x.1 x.2.1 x.2.2.1 x.2.2.2
noncomputable def slices_IndexFunc_int_f140 (N : Nat) (a0 : List Int) (a1 : HwModel) : Option Int :=
  (iterR (slices_IndexFunc_int_f140.r0 N) N (a0, (a0.length : Int), 0, a1)).bind fun z2 => resR z2 (fun z => some z) (fun y1 => some (-1))
noncomputable def slices_IndexFunc_int_f140.ct (N : Nat) : Ct U := { params := [.val (Ty.sl (Ty.int .i64)), .clo 140 1, .ptr Ty.HwModel false []], results := [(Ty.int .i64)], outs := [], fresh := [], fn := app U [(Ty.sl (Ty.int .i64)), Ty.HwModel] (R := PT U [(Ty.int .i64)]) (slices_IndexFunc_int_f140 N) }
noncomputable def slices_IndexFunc_int_f140.cx (N : Nat) : Ctx U := mkCx [(140, hardware_isRange_c1.ct)] [] [] [] [] [1000000] [1000000] []
noncomputable def slices_IndexFunc_int_f140.L (N : Nat) : Nat → Option (Cut U (PT U [(Ty.int .i64)])) := pick [(0, .rets slices_IndexFunc_int_f140.sp0 [(Ty.sl (Ty.int .i64)), (Ty.int .i64), (Ty.int .i64), Ty.HwModel] (iterR (slices_IndexFunc_int_f140.r0 N) N))]
theorem slices_IndexFunc_int_f140.r0_eq (N : Nat) (x : PT U [(Ty.sl (Ty.int .i64)), (Ty.int .i64), (Ty.int .i64), Ty.HwModel]) : roundRF (slices_IndexFunc_int_f140.cx N) Proofs.Tryz.f106 (slices_IndexFunc_int_f140.ct N) (slices_IndexFunc_int_f140.L N) slices_IndexFunc_int_f140.sp0 [(Ty.sl (Ty.int .i64)), (Ty.int .i64), (Ty.int .i64), Ty.HwModel] 0 x = slices_IndexFunc_int_f140.r0 N x := by kernel_rfl
theorem slices_IndexFunc_int_f140.eq (N : Nat) (a0 : List Int) (a1 : HwModel) : runF (slices_IndexFunc_int_f140.cx N) Proofs.Tryz.f106 (slices_IndexFunc_int_f140.ct N) (slices_IndexFunc_int_f140.L N) [⟨(Ty.sl (Ty.int .i64)), a0⟩, ⟨Ty.HwModel, a1⟩] = slices_IndexFunc_int_f140 N a0 a1 := by kernel_rfl
theorem slices_IndexFunc_int_f140.ok (N : Nat) : ∀ y, finOk (slices_IndexFunc_int_f140.cx N) (slices_IndexFunc_int_f140.ct N) y = true := fun y => by kernel_rfl
theorem slices_IndexFunc_int_f140.meets (N : Nat) : Meets (slices_IndexFunc_int_f140.cx N) 106 (slices_IndexFunc_int_f140.ct N) :=
  meets_run (C := slices_IndexFunc_int_f140.cx N) (ct := slices_IndexFunc_int_f140.ct N) (Lp := slices_IndexFunc_int_f140.L N) claws (ook_of (l := [(140, hardware_isRange_c1.ct)]) rfl (all_cons (Meets.ctx (C := hardware_isRange_c1.cx) (C' := slices_IndexFunc_int_f140.cx N) rfl rfl rfl hardware_isRange_c1.meets) (all_nil))) (xok_of (l := []) rfl (all_nil)) Proofs.Tryz.func106 (by kernel_rfl) rfl (lok_of (l := [(0, .rets slices_IndexFunc_int_f140.sp0 [(Ty.sl (Ty.int .i64)), (Ty.int .i64), (Ty.int .i64), Ty.HwModel] (iterR (slices_IndexFunc_int_f140.r0 N) N))]) rfl (all_cons (lok_rets (slices_IndexFunc_int_f140.r0_eq N)) (all_nil))) (slices_IndexFunc_int_f140.ok N) (app_run (U := U) [(Ty.sl (Ty.int .i64)), Ty.HwModel] (slices_IndexFunc_int_f140 N) (runF (slices_IndexFunc_int_f140.cx N) Proofs.Tryz.f106 (slices_IndexFunc_int_f140.ct N) (slices_IndexFunc_int_f140.L N)) (slices_IndexFunc_int_f140.eq N))

noncomputable def slices_ContainsFunc_int_f140 (N : Nat) (a0 : List Int) (a1 : HwModel) : Option Bool :=
  (slices_IndexFunc_int_f140 N a0 a1).bind fun r1 => some (decide (r1 ≥ 0))
noncomputable def slices_ContainsFunc_int_f140.ct (N : Nat) : Ct U := { params := [.val (Ty.sl (Ty.int .i64)), .clo 140 1, .ptr Ty.HwModel false []], results := [Ty.bool], outs := [], fresh := [], fn := app U [(Ty.sl (Ty.int .i64)), Ty.HwModel] (R := PT U [Ty.bool]) (slices_ContainsFunc_int_f140 N) }
noncomputable def slices_ContainsFunc_int_f140.cx (N : Nat) : Ctx U := mkCx [(106, slices_IndexFunc_int_f140.ct N)] [] [] [] [] [1000000] [1000000] []
noncomputable def slices_ContainsFunc_int_f140.L (N : Nat) : Nat → Option (Cut U (PT U [Ty.bool])) := pick []
theorem slices_ContainsFunc_int_f140.eq (N : Nat) (a0 : List Int) (a1 : HwModel) : runF (slices_ContainsFunc_int_f140.cx N) Proofs.Tryz.f64 (slices_ContainsFunc_int_f140.ct N) (slices_ContainsFunc_int_f140.L N) [⟨(Ty.sl (Ty.int .i64)), a0⟩, ⟨Ty.HwModel, a1⟩] = slices_ContainsFunc_int_f140 N a0 a1 := by kernel_rfl
theorem slices_ContainsFunc_int_f140.ok (N : Nat) : ∀ y, finOk (slices_ContainsFunc_int_f140.cx N) (slices_ContainsFunc_int_f140.ct N) y = true := fun y => by kernel_rfl
theorem slices_ContainsFunc_int_f140.meets (N : Nat) : Meets (slices_ContainsFunc_int_f140.cx N) 64 (slices_ContainsFunc_int_f140.ct N) :=
  meets_run (C := slices_ContainsFunc_int_f140.cx N) (ct := slices_ContainsFunc_int_f140.ct N) (Lp := slices_ContainsFunc_int_f140.L N) claws (ook_of (l := [(106, slices_IndexFunc_int_f140.ct N)]) rfl (all_cons (Meets.ctx (C := slices_IndexFunc_int_f140.cx N) (C' := slices_ContainsFunc_int_f140.cx N) rfl rfl rfl (slices_IndexFunc_int_f140.meets N)) (all_nil))) (xok_of (l := []) rfl (all_nil)) Proofs.Tryz.func64 (by kernel_rfl) rfl (lok_of (l := []) rfl (all_nil)) (slices_ContainsFunc_int_f140.ok N) (app_run (U := U) [(Ty.sl (Ty.int .i64)), Ty.HwModel] (slices_ContainsFunc_int_f140 N) (runF (slices_ContainsFunc_int_f140.cx N) Proofs.Tryz.f64 (slices_ContainsFunc_int_f140.ct N) (slices_ContainsFunc_int_f140.L N)) (slices_ContainsFunc_int_f140.eq N))

noncomputable def hardware_isQuad (a0 : Storage) (a1 : Int) : Option Bool :=
  (cond (decide (a1 ≥ 0)) (some ((a1.tmod 16) == 0)) (some false)).bind fun g1 => (cond g1 (some (decide (a1 < (a0.Bytes.size : Int)))) (some false)).bind fun g2 => some g2
noncomputable def hardware_isQuad.ct : Ct U := { params := [.val Ty.Storage, .val (Ty.int .i64)], results := [Ty.bool], outs := [], fresh := [], fn := app U [Ty.Storage, (Ty.int .i64)] (R := PT U [Ty.bool]) (hardware_isQuad) }
noncomputable def hardware_isQuad.cx : Ctx U := mkCx [] [] [] [] [] [] [] []
noncomputable def hardware_isQuad.L : Nat → Option (Cut U (PT U [Ty.bool])) := pick []
theorem hardware_isQuad.eq (a0 : Storage) (a1 : Int) : runF (hardware_isQuad.cx) Proofs.Tryz.f141 (hardware_isQuad.ct) (hardware_isQuad.L) [⟨Ty.Storage, a0⟩, ⟨(Ty.int .i64), a1⟩] = hardware_isQuad a0 a1 := by kernel_rfl
theorem hardware_isQuad.ok : ∀ y, finOk (hardware_isQuad.cx) (hardware_isQuad.ct) y = true := fun y => by kernel_rfl
theorem hardware_isQuad.meets : Meets (hardware_isQuad.cx) 141 (hardware_isQuad.ct) :=
  meets_run (C := hardware_isQuad.cx) (ct := hardware_isQuad.ct) (Lp := hardware_isQuad.L) claws (ook_of (l := []) rfl (all_nil)) (xok_of (l := []) rfl (all_nil)) Proofs.Tryz.func141 (by kernel_rfl) rfl (lok_of (l := []) rfl (all_nil)) (hardware_isQuad.ok) (app_run (U := U) [Ty.Storage, (Ty.int .i64)] (hardware_isQuad) (runF (hardware_isQuad.cx) Proofs.Tryz.f141 (hardware_isQuad.ct) (hardware_isQuad.L)) hardware_isQuad.eq)

noncomputable def numeric_size (a0 : DataType) : Option Int :=
  cond (a0.Kind == 1) (some (IntKind.wrap .i64 ((IntKind.wrap .i64 (a0.Length.tdiv 2)) + 1))) (cond (a0.Kind == 3)
    (some (IntKind.wrap .i64 (2 + (IntKind.wrap .i64 ((IntKind.wrap .i64 (a0.Length.tdiv 9)) * 2))))) (cond (a0.Kind == 4) (some 16) (some a0.Length)))
noncomputable def numeric_size.ct : Ct U := { params := [.val Ty.DataType], results := [(Ty.int .i64)], outs := [], fresh := [], fn := app U [Ty.DataType] (R := PT U [(Ty.int .i64)]) (numeric_size) }
noncomputable def numeric_size.cx : Ctx U := mkCx [] [] [] [] [] [] [] []
noncomputable def numeric_size.L : Nat → Option (Cut U (PT U [(Ty.int .i64)])) := pick []
theorem numeric_size.eq (a0 : DataType) : runF (numeric_size.cx) Proofs.Tryz.f267 (numeric_size.ct) (numeric_size.L) [⟨Ty.DataType, a0⟩] = numeric_size a0 := by kernel_rfl
theorem numeric_size.ok : ∀ y, finOk (numeric_size.cx) (numeric_size.ct) y = true := fun y => by kernel_rfl
theorem numeric_size.meets : Meets (numeric_size.cx) 267 (numeric_size.ct) :=
  meets_run (C := numeric_size.cx) (ct := numeric_size.ct) (Lp := numeric_size.L) claws (ook_of (l := []) rfl (all_nil)) (xok_of (l := []) rfl (all_nil)) Proofs.Tryz.func267 (by kernel_rfl) rfl (lok_of (l := []) rfl (all_nil)) (numeric_size.ok) (app_run (U := U) [Ty.DataType] (numeric_size) (runF (numeric_size.cx) Proofs.Tryz.f267 (numeric_size.ct) (numeric_size.L)) numeric_size.eq)

noncomputable def numeric_SizeOf (N : Nat) (a0 : DataType) : Option (Int × Int) :=
  (numeric_CheckType N a0).bind fun r1 => cond (r1 != 0) (some (0, r1)) ((numeric_size a0).bind fun r2 => some (r2, 0))
noncomputable def numeric_SizeOf.ct (N : Nat) : Ct U := { params := [.val Ty.DataType], results := [(Ty.int .i64), (Ty.int .i64)], outs := [], fresh := [], fn := app U [Ty.DataType] (R := PT U [(Ty.int .i64), (Ty.int .i64)]) (numeric_SizeOf N) }
noncomputable def numeric_SizeOf.cx (N : Nat) : Ctx U := mkCx [(202, numeric_CheckType.ct N), (267, numeric_size.ct)] [] [] [] [] [] [] []
noncomputable def numeric_SizeOf.L (N : Nat) : Nat → Option (Cut U (PT U [(Ty.int .i64), (Ty.int .i64)])) := pick []
theorem numeric_SizeOf.eq (N : Nat) (a0 : DataType) : runF (numeric_SizeOf.cx N) Proofs.Tryz.f266 (numeric_SizeOf.ct N) (numeric_SizeOf.L N) [⟨Ty.DataType, a0⟩] = numeric_SizeOf N a0 := by kernel_rfl
theorem numeric_SizeOf.ok (N : Nat) : ∀ y, finOk (numeric_SizeOf.cx N) (numeric_SizeOf.ct N) y = true := fun y => by kernel_rfl
theorem numeric_SizeOf.meets (N : Nat) : Meets (numeric_SizeOf.cx N) 266 (numeric_SizeOf.ct N) :=
  meets_run (C := numeric_SizeOf.cx N) (ct := numeric_SizeOf.ct N) (Lp := numeric_SizeOf.L N) claws (ook_of (l := [(202, numeric_CheckType.ct N), (267, numeric_size.ct)]) rfl (all_cons (Meets.ctx (C := numeric_CheckType.cx N) (C' := numeric_SizeOf.cx N) rfl rfl rfl (numeric_CheckType.meets N)) (all_cons (Meets.ctx (C := numeric_size.cx) (C' := numeric_SizeOf.cx N) rfl rfl rfl numeric_size.meets) (all_nil)))) (xok_of (l := []) rfl (all_nil)) Proofs.Tryz.func266 (by kernel_rfl) rfl (lok_of (l := []) rfl (all_nil)) (numeric_SizeOf.ok N) (app_run (U := U) [Ty.DataType] (numeric_SizeOf N) (runF (numeric_SizeOf.cx N) Proofs.Tryz.f266 (numeric_SizeOf.ct N) (numeric_SizeOf.L N)) (numeric_SizeOf.eq N))

noncomputable def hardware_size (N : Nat) (a0 : DataType) : Option Int :=
  (numeric_SizeOf N a0).bind fun r1 => some r1.1
noncomputable def hardware_size.ct (N : Nat) : Ct U := { params := [.val Ty.DataType], results := [(Ty.int .i64)], outs := [], fresh := [], fn := app U [Ty.DataType] (R := PT U [(Ty.int .i64)]) (hardware_size N) }
noncomputable def hardware_size.cx (N : Nat) : Ctx U := mkCx [(266, numeric_SizeOf.ct N)] [] [] [] [] [] [] []
noncomputable def hardware_size.L (N : Nat) : Nat → Option (Cut U (PT U [(Ty.int .i64)])) := pick []
theorem hardware_size.eq (N : Nat) (a0 : DataType) : runF (hardware_size.cx N) Proofs.Tryz.f203 (hardware_size.ct N) (hardware_size.L N) [⟨Ty.DataType, a0⟩] = hardware_size N a0 := by kernel_rfl
theorem hardware_size.ok (N : Nat) : ∀ y, finOk (hardware_size.cx N) (hardware_size.ct N) y = true := fun y => by kernel_rfl
theorem hardware_size.meets (N : Nat) : Meets (hardware_size.cx N) 203 (hardware_size.ct N) :=
  meets_run (C := hardware_size.cx N) (ct := hardware_size.ct N) (Lp := hardware_size.L N) claws (ook_of (l := [(266, numeric_SizeOf.ct N)]) rfl (all_cons (Meets.ctx (C := numeric_SizeOf.cx N) (C' := hardware_size.cx N) rfl rfl rfl (numeric_SizeOf.meets N)) (all_nil))) (xok_of (l := []) rfl (all_nil)) Proofs.Tryz.func203 (by kernel_rfl) rfl (lok_of (l := []) rfl (all_nil)) (hardware_size.ok N) (app_run (U := U) [Ty.DataType] (hardware_size N) (runF (hardware_size.cx N) Proofs.Tryz.f203 (hardware_size.ct N) (hardware_size.L N)) (hardware_size.eq N))

noncomputable def hardware_isPlace (N : Nat) (a0 : Storage) (a1 : HwPlace) (a2 : DataType) : Option Bool :=
  cond a1.Based ((hardware_isQuad a0 a1.Pointer).bind fun r1 => (cond r1 ((hardware_in a1.Offset 0 256).bind fun r2 => some r2) (some false)).bind fun g3 => some g3)
    ((hardware_size N a2).bind fun r4 => (hardware_in a1.Offset 0 (IntKind.wrap .i64 ((a0.Bytes.size : Int) - r4))).bind fun r5 => some r5)
noncomputable def hardware_isPlace.ct (N : Nat) : Ct U := { params := [.val Ty.Storage, .val Ty.HwPlace, .val Ty.DataType], results := [Ty.bool], outs := [], fresh := [], fn := app U [Ty.Storage, Ty.HwPlace, Ty.DataType] (R := PT U [Ty.bool]) (hardware_isPlace N) }
noncomputable def hardware_isPlace.cx (N : Nat) : Ctx U := mkCx [(58, hardware_in.ct), (141, hardware_isQuad.ct), (203, hardware_size.ct N)] [] [] [] [] [] [] []
noncomputable def hardware_isPlace.L (N : Nat) : Nat → Option (Cut U (PT U [Ty.bool])) := pick []
theorem hardware_isPlace.eq (N : Nat) (a0 : Storage) (a1 : HwPlace) (a2 : DataType) : runF (hardware_isPlace.cx N) Proofs.Tryz.f142 (hardware_isPlace.ct N) (hardware_isPlace.L N) [⟨Ty.Storage, a0⟩, ⟨Ty.HwPlace, a1⟩, ⟨Ty.DataType, a2⟩] = hardware_isPlace N a0 a1 a2 := by kernel_rfl
theorem hardware_isPlace.ok (N : Nat) : ∀ y, finOk (hardware_isPlace.cx N) (hardware_isPlace.ct N) y = true := fun y => by kernel_rfl
theorem hardware_isPlace.meets (N : Nat) : Meets (hardware_isPlace.cx N) 142 (hardware_isPlace.ct N) :=
  meets_run (C := hardware_isPlace.cx N) (ct := hardware_isPlace.ct N) (Lp := hardware_isPlace.L N) claws (ook_of (l := [(58, hardware_in.ct), (141, hardware_isQuad.ct), (203, hardware_size.ct N)]) rfl (all_cons (Meets.ctx (C := hardware_in.cx) (C' := hardware_isPlace.cx N) rfl rfl rfl hardware_in.meets) (all_cons (Meets.ctx (C := hardware_isQuad.cx) (C' := hardware_isPlace.cx N) rfl rfl rfl hardware_isQuad.meets) (all_cons (Meets.ctx (C := hardware_size.cx N) (C' := hardware_isPlace.cx N) rfl rfl rfl (hardware_size.meets N)) (all_nil))))) (xok_of (l := []) rfl (all_nil)) Proofs.Tryz.func142 (by kernel_rfl) rfl (lok_of (l := []) rfl (all_nil)) (hardware_isPlace.ok N) (app_run (U := U) [Ty.Storage, Ty.HwPlace, Ty.DataType] (hardware_isPlace N) (runF (hardware_isPlace.cx N) Proofs.Tryz.f142 (hardware_isPlace.ct N) (hardware_isPlace.L N)) (hardware_isPlace.eq N))

noncomputable def hardware_isRange (N : Nat) (a0 : HwModel) (a1 : HwCode) (a2 : HwInstruction) : Option Bool :=
  (hardware_formOf a2).bind fun r1 => (hardware_registers N a2).bind fun r2 => (slices_ContainsFunc_int_f140 N r2 (⟨a0.Registers, a0.Fused, a0.Memory⟩ : HwModel)).bind fun r3 =>
    cond r3 (some false) ((cond ((andI .i64 r1.fields 8) != 0) (some (a2.Op == 4)) (some false)).bind fun g4 => cond g4 ((cond ((andI .i64 r1.fields 4096) != 0)
    ((hardware_in a2.Target 0 (IntKind.wrap .i64 ((a1.Instructions.length : Int) - 1))).bind fun r5 => some (!r5)) (some false)).bind fun g6 => (cond g6 (some true)
    ((cond ((andI .i64 r1.fields 2048) != 0) ((hardware_in a2.Mask 1 7).bind fun r7 => some (!r7)) (some false)).bind fun g8 => some g8)).bind fun g9 => (cond g9 (some true)
    ((cond ((andI .i64 r1.fields 8192) != 0) ((hardware_isQuad (⟨a1.Storage.Bytes, a1.Storage.Tags⟩ : Storage) a2.Pointer).bind fun r10 => some (!r10)) (some false)).bind fun g11 =>
    some g11)).bind fun g12 => (cond g12 (some true) ((cond ((andI .i64 r1.fields 16384) != 0)
    ((hardware_isQuad (⟨a1.Storage.Bytes, a1.Storage.Tags⟩ : Storage) a2.Source).bind fun r13 => some (!r13)) (some false)).bind fun g14 => some g14)).bind fun g15 =>
    (cond g15 (some true) ((cond ((andI .i64 r1.fields 8) != 0) ((hardware_isPlace N (⟨a1.Storage.Bytes, a1.Storage.Tags⟩ : Storage)
    (⟨a2.Place.Based, a2.Place.Pointer, a2.Place.Offset⟩ : HwPlace) (⟨a2.Second.Kind, a2.Second.Length, a2.Second.Scale⟩ : DataType)).bind fun r16 => some (!r16))
    (some false)).bind fun g17 => some g17)).bind fun g18 => (cond g18 (some true) ((cond ((andI .i64 r1.fields 16) != 0)
    ((hardware_isPlace N (⟨a1.Storage.Bytes, a1.Storage.Tags⟩ : Storage) (⟨a2.From.Based, a2.From.Pointer, a2.From.Offset⟩ : HwPlace)
    (⟨a2.Second.Kind, a2.Second.Length, a2.Second.Scale⟩ : DataType)).bind fun r19 => some (!r19)) (some false)).bind fun g20 => some g20)).bind fun g21 => (cond g21 (some true)
    ((cond ((andI .i64 r1.fields 32768) != 0) ((hardware_in a2.Calculation 0 4).bind fun r22 => some (!r22)) (some false)).bind fun g23 => some g23)).bind fun g24 => some (!g24))
    ((cond ((andI .i64 r1.fields 4096) != 0) ((hardware_in a2.Target 0 (IntKind.wrap .i64 ((a1.Instructions.length : Int) - 1))).bind fun r25 => some (!r25))
    (some false)).bind fun g26 => (cond g26 (some true) ((cond ((andI .i64 r1.fields 2048) != 0) ((hardware_in a2.Mask 1 7).bind fun r27 => some (!r27)) (some false)).bind fun g28 =>
    some g28)).bind fun g29 => (cond g29 (some true) ((cond ((andI .i64 r1.fields 8192) != 0)
    ((hardware_isQuad (⟨a1.Storage.Bytes, a1.Storage.Tags⟩ : Storage) a2.Pointer).bind fun r30 => some (!r30)) (some false)).bind fun g31 => some g31)).bind fun g32 =>
    (cond g32 (some true) ((cond ((andI .i64 r1.fields 16384) != 0) ((hardware_isQuad (⟨a1.Storage.Bytes, a1.Storage.Tags⟩ : Storage) a2.Source).bind fun r33 => some (!r33))
    (some false)).bind fun g34 => some g34)).bind fun g35 => (cond g35 (some true) ((cond ((andI .i64 r1.fields 8) != 0)
    ((hardware_isPlace N (⟨a1.Storage.Bytes, a1.Storage.Tags⟩ : Storage) (⟨a2.Place.Based, a2.Place.Pointer, a2.Place.Offset⟩ : HwPlace)
    (⟨a2.Type_.Kind, a2.Type_.Length, a2.Type_.Scale⟩ : DataType)).bind fun r36 => some (!r36)) (some false)).bind fun g37 => some g37)).bind fun g38 => (cond g38 (some true)
    ((cond ((andI .i64 r1.fields 16) != 0) ((hardware_isPlace N (⟨a1.Storage.Bytes, a1.Storage.Tags⟩ : Storage) (⟨a2.From.Based, a2.From.Pointer, a2.From.Offset⟩ : HwPlace)
    (⟨a2.Second.Kind, a2.Second.Length, a2.Second.Scale⟩ : DataType)).bind fun r39 => some (!r39)) (some false)).bind fun g40 => some g40)).bind fun g41 => (cond g41 (some true)
    ((cond ((andI .i64 r1.fields 32768) != 0) ((hardware_in a2.Calculation 0 4).bind fun r42 => some (!r42)) (some false)).bind fun g43 => some g43)).bind fun g44 => some (!g44)))
noncomputable def hardware_isRange.ct (N : Nat) : Ct U := { params := [.val Ty.HwModel, .val Ty.HwCode, .val Ty.HwInstruction], results := [Ty.bool], outs := [], fresh := [], fn := app U [Ty.HwModel, Ty.HwCode, Ty.HwInstruction] (R := PT U [Ty.bool]) (hardware_isRange N) }
noncomputable def hardware_isRange.cx (N : Nat) : Ctx U := mkCx [(58, hardware_in.ct), (64, slices_ContainsFunc_int_f140.ct N), (65, hardware_registers.ct N), (94, hardware_formOf.ct), (141, hardware_isQuad.ct), (142, hardware_isPlace.ct N)] [] [] [] [13] [] [] []
noncomputable def hardware_isRange.L (N : Nat) : Nat → Option (Cut U (PT U [Ty.bool])) := pick []
theorem hardware_isRange.eq (N : Nat) (a0 : HwModel) (a1 : HwCode) (a2 : HwInstruction) : runF (hardware_isRange.cx N) Proofs.Tryz.f95 (hardware_isRange.ct N) (hardware_isRange.L N) [⟨Ty.HwModel, a0⟩, ⟨Ty.HwCode, a1⟩, ⟨Ty.HwInstruction, a2⟩] = hardware_isRange N a0 a1 a2 := by kernel_rfl
theorem hardware_isRange.ok (N : Nat) : ∀ y, finOk (hardware_isRange.cx N) (hardware_isRange.ct N) y = true := fun y => by kernel_rfl
theorem hardware_isRange.meets (N : Nat) : Meets (hardware_isRange.cx N) 95 (hardware_isRange.ct N) :=
  meets_run (C := hardware_isRange.cx N) (ct := hardware_isRange.ct N) (Lp := hardware_isRange.L N) claws (ook_of (l := [(58, hardware_in.ct), (64, slices_ContainsFunc_int_f140.ct N), (65, hardware_registers.ct N), (94, hardware_formOf.ct), (141, hardware_isQuad.ct), (142, hardware_isPlace.ct N)]) rfl (all_cons (Meets.ctx (C := hardware_in.cx) (C' := hardware_isRange.cx N) rfl rfl rfl hardware_in.meets) (all_cons (Meets.ctx (C := slices_ContainsFunc_int_f140.cx N) (C' := hardware_isRange.cx N) rfl rfl rfl (slices_ContainsFunc_int_f140.meets N)) (all_cons (Meets.ctx (C := hardware_registers.cx N) (C' := hardware_isRange.cx N) rfl rfl rfl (hardware_registers.meets N)) (all_cons (Meets.ctx (C := hardware_formOf.cx) (C' := hardware_isRange.cx N) rfl rfl rfl hardware_formOf.meets) (all_cons (Meets.ctx (C := hardware_isQuad.cx) (C' := hardware_isRange.cx N) rfl rfl rfl hardware_isQuad.meets) (all_cons (Meets.ctx (C := hardware_isPlace.cx N) (C' := hardware_isRange.cx N) rfl rfl rfl (hardware_isPlace.meets N)) (all_nil)))))))) (xok_of (l := []) rfl (all_nil)) Proofs.Tryz.func95 (by kernel_rfl) rfl (lok_of (l := []) rfl (all_nil)) (hardware_isRange.ok N) (app_run (U := U) [Ty.HwModel, Ty.HwCode, Ty.HwInstruction] (hardware_isRange N) (runF (hardware_isRange.cx N) Proofs.Tryz.f95 (hardware_isRange.ct N) (hardware_isRange.L N)) (hardware_isRange.eq N))

noncomputable def numeric_CheckNumber (a0 : Number) : Option Int :=
  (numeric_in a0.N (-999999999999999) 999999999999999).bind fun r1 => (cond (!r1) (some true) ((numeric_in a0.Scale 0 15).bind fun r2 => some (!r2))).bind fun g3 =>
    (numeric_cond g3 3).bind fun r4 => some r4
noncomputable def numeric_CheckNumber.ct : Ct U := { params := [.val Ty.Number], results := [(Ty.int .i64)], outs := [], fresh := [], fn := app U [Ty.Number] (R := PT U [(Ty.int .i64)]) (numeric_CheckNumber) }
noncomputable def numeric_CheckNumber.cx : Ctx U := mkCx [(118, numeric_cond.ct), (119, numeric_in.ct)] [] [] [] [] [] [] []
noncomputable def numeric_CheckNumber.L : Nat → Option (Cut U (PT U [(Ty.int .i64)])) := pick []
theorem numeric_CheckNumber.eq (a0 : Number) : runF (numeric_CheckNumber.cx) Proofs.Tryz.f78 (numeric_CheckNumber.ct) (numeric_CheckNumber.L) [⟨Ty.Number, a0⟩] = numeric_CheckNumber a0 := by kernel_rfl
theorem numeric_CheckNumber.ok : ∀ y, finOk (numeric_CheckNumber.cx) (numeric_CheckNumber.ct) y = true := fun y => by kernel_rfl
theorem numeric_CheckNumber.meets : Meets (numeric_CheckNumber.cx) 78 (numeric_CheckNumber.ct) :=
  meets_run (C := numeric_CheckNumber.cx) (ct := numeric_CheckNumber.ct) (Lp := numeric_CheckNumber.L) claws (ook_of (l := [(118, numeric_cond.ct), (119, numeric_in.ct)]) rfl (all_cons (Meets.ctx (C := numeric_cond.cx) (C' := numeric_CheckNumber.cx) rfl rfl rfl numeric_cond.meets) (all_cons (Meets.ctx (C := numeric_in.cx) (C' := numeric_CheckNumber.cx) rfl rfl rfl numeric_in.meets) (all_nil)))) (xok_of (l := []) rfl (all_nil)) Proofs.Tryz.func78 (by kernel_rfl) rfl (lok_of (l := []) rfl (all_nil)) (numeric_CheckNumber.ok) (app_run (U := U) [Ty.Number] (numeric_CheckNumber) (runF (numeric_CheckNumber.cx) Proofs.Tryz.f78 (numeric_CheckNumber.ct) (numeric_CheckNumber.L)) numeric_CheckNumber.eq)

noncomputable def hardware_instructionErr (N : Nat) (a0 : HwModel) (a1 : HwCode) (a2 : HwInstruction) : Option Int :=
  (hardware_in a2.Op 0 26).bind fun r1 => cond (!r1) (some 4)
    ((hardware_kept (⟨a2.Op, a2.R, a2.A, a2.B, a2.Calculation, (⟨a2.Place.Based, a2.Place.Pointer, a2.Place.Offset⟩ : HwPlace), (⟨a2.From.Based, a2.From.Pointer, a2.From.Offset⟩ : HwPlace), (⟨a2.Type_.Kind, a2.Type_.Length, a2.Type_.Scale⟩ : DataType), (⟨a2.Second.Kind, a2.Second.Length, a2.Second.Scale⟩ : DataType), a2.Half, a2.InStorage, (⟨a2.Number.N, a2.Number.Scale⟩ : Number), a2.Text, a2.Other, a2.Mask, a2.Target, a2.Pointer, a2.Source⟩ : HwInstruction)).bind fun r2 =>
    (hardware_cond (!(eqAll [(r2.Op == a2.Op), (r2.R == a2.R), (r2.A == a2.A), (r2.B == a2.B), (r2.Calculation == a2.Calculation), (r2.Place.Based == a2.Place.Based), (r2.Place.Pointer == a2.Place.Pointer), (r2.Place.Offset == a2.Place.Offset), (r2.From.Based == a2.From.Based), (r2.From.Pointer == a2.From.Pointer), (r2.From.Offset == a2.From.Offset), (r2.Type_.Kind == a2.Type_.Kind), (r2.Type_.Length == a2.Type_.Length), (r2.Type_.Scale == a2.Type_.Scale), (r2.Second.Kind == a2.Second.Kind), (r2.Second.Length == a2.Second.Length), (r2.Second.Scale == a2.Second.Scale), (r2.Half == a2.Half), (r2.InStorage == a2.InStorage), (r2.Number.N == a2.Number.N), (r2.Number.Scale == a2.Number.Scale), (r2.Text == a2.Text), (r2.Other == a2.Other), (r2.Mask == a2.Mask), (r2.Target == a2.Target), (r2.Pointer == a2.Pointer), (r2.Source == a2.Source)])) 5).bind fun r3 =>
    (hardware_has a0 (⟨a2.Op, a2.R, a2.A, a2.B, a2.Calculation, (⟨a2.Place.Based, a2.Place.Pointer, a2.Place.Offset⟩ : HwPlace), (⟨a2.From.Based, a2.From.Pointer, a2.From.Offset⟩ : HwPlace), (⟨a2.Type_.Kind, a2.Type_.Length, a2.Type_.Scale⟩ : DataType), (⟨a2.Second.Kind, a2.Second.Length, a2.Second.Scale⟩ : DataType), a2.Half, a2.InStorage, (⟨a2.Number.N, a2.Number.Scale⟩ : Number), a2.Text, a2.Other, a2.Mask, a2.Target, a2.Pointer, a2.Source⟩ : HwInstruction)).bind fun r4 =>
    (hardware_cond (!r4) 39).bind fun r5 =>
    (hardware_formOf (⟨a2.Op, a2.R, a2.A, a2.B, a2.Calculation, (⟨a2.Place.Based, a2.Place.Pointer, a2.Place.Offset⟩ : HwPlace), (⟨a2.From.Based, a2.From.Pointer, a2.From.Offset⟩ : HwPlace), (⟨a2.Type_.Kind, a2.Type_.Length, a2.Type_.Scale⟩ : DataType), (⟨a2.Second.Kind, a2.Second.Length, a2.Second.Scale⟩ : DataType), a2.Half, a2.InStorage, (⟨a2.Number.N, a2.Number.Scale⟩ : Number), a2.Text, a2.Other, a2.Mask, a2.Target, a2.Pointer, a2.Source⟩ : HwInstruction)).bind fun r6 =>
    (hardware_typesErr N (⟨a2.Op, a2.R, a2.A, a2.B, a2.Calculation, (⟨a2.Place.Based, a2.Place.Pointer, a2.Place.Offset⟩ : HwPlace), (⟨a2.From.Based, a2.From.Pointer, a2.From.Offset⟩ : HwPlace), (⟨a2.Type_.Kind, a2.Type_.Length, a2.Type_.Scale⟩ : DataType), (⟨a2.Second.Kind, a2.Second.Length, a2.Second.Scale⟩ : DataType), a2.Half, a2.InStorage, (⟨a2.Number.N, a2.Number.Scale⟩ : Number), a2.Text, a2.Other, a2.Mask, a2.Target, a2.Pointer, a2.Source⟩ : HwInstruction)
    (⟨r6.fields, r6.types⟩ : hardware_form)).bind fun r7 => (hardware_first N ([r3, r5, r7] : List Int)).bind fun r8 => cond (r8 != 0) (some r8)
    ((hardware_isRange N (⟨a0.Registers, a0.Fused, a0.Memory⟩ : HwModel) (⟨(⟨a1.Storage.Bytes, a1.Storage.Tags⟩ : Storage), a1.Instructions, a1.Traps⟩ : HwCode)
    (⟨a2.Op, a2.R, a2.A, a2.B, a2.Calculation, (⟨a2.Place.Based, a2.Place.Pointer, a2.Place.Offset⟩ : HwPlace), (⟨a2.From.Based, a2.From.Pointer, a2.From.Offset⟩ : HwPlace), (⟨a2.Type_.Kind, a2.Type_.Length, a2.Type_.Scale⟩ : DataType), (⟨a2.Second.Kind, a2.Second.Length, a2.Second.Scale⟩ : DataType), a2.Half, a2.InStorage, (⟨a2.Number.N, a2.Number.Scale⟩ : Number), a2.Text, a2.Other, a2.Mask, a2.Target, a2.Pointer, a2.Source⟩ : HwInstruction)).bind fun r9 =>
    (hardware_cond (!r9) 3).bind fun r10 => (numeric_CheckNumber (⟨a2.Number.N, a2.Number.Scale⟩ : Number)).bind fun r11 => (cond (decide ((a2.Text.size : Int) > 256)) (some true)
    (some (decide ((a2.Other.size : Int) > 256)))).bind fun g12 => (hardware_cond g12 2).bind fun r13 => (hardware_first N ([r10, r11, r13] : List Int)).bind fun r14 => some r14))
noncomputable def hardware_instructionErr.ct (N : Nat) : Ct U := { params := [.val Ty.HwModel, .val Ty.HwCode, .val Ty.HwInstruction], results := [(Ty.int .i64)], outs := [], fresh := [], fn := app U [Ty.HwModel, Ty.HwCode, Ty.HwInstruction] (R := PT U [(Ty.int .i64)]) (hardware_instructionErr N) }
noncomputable def hardware_instructionErr.cx (N : Nat) : Ctx U := mkCx [(48, hardware_first.ct N), (49, hardware_cond.ct), (58, hardware_in.ct), (63, hardware_has.ct), (78, numeric_CheckNumber.ct), (92, hardware_kept.ct), (93, hardware_typesErr.ct N), (94, hardware_formOf.ct), (95, hardware_isRange.ct N)] [] [] [] [16, 21, 24, 25, 26, 36, 39, 50, 51] [] [] []
noncomputable def hardware_instructionErr.L (N : Nat) : Nat → Option (Cut U (PT U [(Ty.int .i64)])) := pick []
theorem hardware_instructionErr.eq (N : Nat) (a0 : HwModel) (a1 : HwCode) (a2 : HwInstruction) : runF (hardware_instructionErr.cx N) Proofs.Tryz.f51 (hardware_instructionErr.ct N) (hardware_instructionErr.L N) [⟨Ty.HwModel, a0⟩, ⟨Ty.HwCode, a1⟩, ⟨Ty.HwInstruction, a2⟩] = hardware_instructionErr N a0 a1 a2 := by kernel_rfl
theorem hardware_instructionErr.ok (N : Nat) : ∀ y, finOk (hardware_instructionErr.cx N) (hardware_instructionErr.ct N) y = true := fun y => by kernel_rfl
theorem hardware_instructionErr.meets (N : Nat) : Meets (hardware_instructionErr.cx N) 51 (hardware_instructionErr.ct N) :=
  meets_run (C := hardware_instructionErr.cx N) (ct := hardware_instructionErr.ct N) (Lp := hardware_instructionErr.L N) claws (ook_of (l := [(48, hardware_first.ct N), (49, hardware_cond.ct), (58, hardware_in.ct), (63, hardware_has.ct), (78, numeric_CheckNumber.ct), (92, hardware_kept.ct), (93, hardware_typesErr.ct N), (94, hardware_formOf.ct), (95, hardware_isRange.ct N)]) rfl (all_cons (Meets.ctx (C := hardware_first.cx N) (C' := hardware_instructionErr.cx N) rfl rfl rfl (hardware_first.meets N)) (all_cons (Meets.ctx (C := hardware_cond.cx) (C' := hardware_instructionErr.cx N) rfl rfl rfl hardware_cond.meets) (all_cons (Meets.ctx (C := hardware_in.cx) (C' := hardware_instructionErr.cx N) rfl rfl rfl hardware_in.meets) (all_cons (Meets.ctx (C := hardware_has.cx) (C' := hardware_instructionErr.cx N) rfl rfl rfl hardware_has.meets) (all_cons (Meets.ctx (C := numeric_CheckNumber.cx) (C' := hardware_instructionErr.cx N) rfl rfl rfl numeric_CheckNumber.meets) (all_cons (Meets.ctx (C := hardware_kept.cx) (C' := hardware_instructionErr.cx N) rfl rfl rfl hardware_kept.meets) (all_cons (Meets.ctx (C := hardware_typesErr.cx N) (C' := hardware_instructionErr.cx N) rfl rfl rfl (hardware_typesErr.meets N)) (all_cons (Meets.ctx (C := hardware_formOf.cx) (C' := hardware_instructionErr.cx N) rfl rfl rfl hardware_formOf.meets) (all_cons (Meets.ctx (C := hardware_isRange.cx N) (C' := hardware_instructionErr.cx N) rfl rfl rfl (hardware_isRange.meets N)) (all_nil))))))))))) (xok_of (l := []) rfl (all_nil)) Proofs.Tryz.func51 (by kernel_rfl) rfl (lok_of (l := []) rfl (all_nil)) (hardware_instructionErr.ok N) (app_run (U := U) [Ty.HwModel, Ty.HwCode, Ty.HwInstruction] (hardware_instructionErr N) (runF (hardware_instructionErr.cx N) Proofs.Tryz.f51 (hardware_instructionErr.ct N) (hardware_instructionErr.L N)) (hardware_instructionErr.eq N))

noncomputable def hardware_trapErr (a0 : HwCode) (a1 : HwTrap) : Option Int :=
  (hardware_in a1.From 0 a1.To).bind fun r1 => (cond r1 (some (decide (a1.To ≤ (a0.Instructions.length : Int)))) (some false)).bind fun g2 =>
    (cond g2 ((hardware_in a1.Exception 0 999).bind fun r3 => some r3) (some false)).bind fun g4 =>
    (cond g4 ((hardware_in a1.Handler 0 (IntKind.wrap .i64 ((a0.Instructions.length : Int) - 1))).bind fun r5 => some r5) (some false)).bind fun g6 =>
    (hardware_cond (!g6) 3).bind fun r7 => some r7
noncomputable def hardware_trapErr.ct : Ct U := { params := [.val Ty.HwCode, .val Ty.HwTrap], results := [(Ty.int .i64)], outs := [], fresh := [], fn := app U [Ty.HwCode, Ty.HwTrap] (R := PT U [(Ty.int .i64)]) (hardware_trapErr) }
noncomputable def hardware_trapErr.cx : Ctx U := mkCx [(49, hardware_cond.ct), (58, hardware_in.ct)] [] [] [] [] [] [] []
noncomputable def hardware_trapErr.L : Nat → Option (Cut U (PT U [(Ty.int .i64)])) := pick []
theorem hardware_trapErr.eq (a0 : HwCode) (a1 : HwTrap) : runF (hardware_trapErr.cx) Proofs.Tryz.f52 (hardware_trapErr.ct) (hardware_trapErr.L) [⟨Ty.HwCode, a0⟩, ⟨Ty.HwTrap, a1⟩] = hardware_trapErr a0 a1 := by kernel_rfl
theorem hardware_trapErr.ok : ∀ y, finOk (hardware_trapErr.cx) (hardware_trapErr.ct) y = true := fun y => by kernel_rfl
theorem hardware_trapErr.meets : Meets (hardware_trapErr.cx) 52 (hardware_trapErr.ct) :=
  meets_run (C := hardware_trapErr.cx) (ct := hardware_trapErr.ct) (Lp := hardware_trapErr.L) claws (ook_of (l := [(49, hardware_cond.ct), (58, hardware_in.ct)]) rfl (all_cons (Meets.ctx (C := hardware_cond.cx) (C' := hardware_trapErr.cx) rfl rfl rfl hardware_cond.meets) (all_cons (Meets.ctx (C := hardware_in.cx) (C' := hardware_trapErr.cx) rfl rfl rfl hardware_in.meets) (all_nil)))) (xok_of (l := []) rfl (all_nil)) Proofs.Tryz.func52 (by kernel_rfl) rfl (lok_of (l := []) rfl (all_nil)) (hardware_trapErr.ok) (app_run (U := U) [Ty.HwCode, Ty.HwTrap] (hardware_trapErr) (runF (hardware_trapErr.cx) Proofs.Tryz.f52 (hardware_trapErr.ct) (hardware_trapErr.L)) hardware_trapErr.eq)

noncomputable def hardware_CheckCode.sp0 : Amx.Spec U := { slots := [(2, .ptr 2 0), (3, .ptr 3 0), (57, .val (Ty.sl Ty.HwInstruction)), (58, .val (Ty.int .i64)), (59, .val (Ty.int .i64))], boxes := [(2, Ty.HwModel, []), (3, Ty.HwCode, [])] }
noncomputable def hardware_CheckCode.b0 (N : Nat) (s57 : List HwInstruction) (s58 : Int) (s59 : Int) (b2 : HwModel) (b3 : HwCode) : Option (Round (Int × Int) ((List HwInstruction) × Int × Int × HwModel × HwCode)) :=
  cond (decide (s59 < s58)) ((idx s57 s59).bind fun x1001 =>
    (hardware_instructionErr N b2 b3 (⟨x1001.Op, x1001.R, x1001.A, x1001.B, x1001.Calculation, (⟨x1001.Place.Based, x1001.Place.Pointer, x1001.Place.Offset⟩ : HwPlace), (⟨x1001.From.Based, x1001.From.Pointer, x1001.From.Offset⟩ : HwPlace), (⟨x1001.Type_.Kind, x1001.Type_.Length, x1001.Type_.Scale⟩ : DataType), (⟨x1001.Second.Kind, x1001.Second.Length, x1001.Second.Scale⟩ : DataType), x1001.Half, x1001.InStorage, (⟨x1001.Number.N, x1001.Number.Scale⟩ : Number), x1001.Text, x1001.Other, x1001.Mask, x1001.Target, x1001.Pointer, x1001.Source⟩ : HwInstruction)).bind fun r1002 =>
    cond (r1002 != 0) (some (.result (s59, r1002))) (some (.again (s57, s58, (IntKind.wrap .i64 (s59 + 1)), b2, b3)))) (some (.leave (s57, s58, s59, b2, b3)))
noncomputable def hardware_CheckCode.r0 (N : Nat) (x : (List HwInstruction) × Int × Int × HwModel × HwCode) : Option (Round (Int × Int) ((List HwInstruction) × Int × Int × HwModel × HwCode)) := hardware_CheckCode.b0 N x.1 x.2.1 x.2.2.1 x.2.2.2.1 x.2.2.2.2
noncomputable def hardware_CheckCode.sp2 : Amx.Spec U := { slots := [(3, .ptr 3 0), (74, .val (Ty.sl Ty.HwTrap)), (75, .val (Ty.int .i64)), (76, .val (Ty.int .i64))], boxes := [(3, Ty.HwCode, [])] }
noncomputable def hardware_CheckCode.b2 (N : Nat) (s74 : List HwTrap) (s75 : Int) (s76 : Int) (b3 : HwCode) : Option (Round (Int × Int) ((List HwTrap) × Int × Int × HwCode)) :=
  cond (decide (s76 < s75)) ((idx s74 s76).bind fun x3001 => (hardware_trapErr b3 x3001).bind fun r3002 => cond (r3002 != 0) (some (.result (s76, r3002)))
    (some (.again (s74, s75, (IntKind.wrap .i64 (s76 + 1)), b3)))) (some (.leave (s74, s75, s76, b3)))
noncomputable def hardware_CheckCode.r2 (N : Nat) (x : (List HwTrap) × Int × Int × HwCode) : Option (Round (Int × Int) ((List HwTrap) × Int × Int × HwCode)) := hardware_CheckCode.b2 N x.1 x.2.1 x.2.2.1 x.2.2.2
noncomputable def hardware_CheckCode (N : Nat) (a0 : HwModel) (a1 : HwCode) : Option (Int × Int) :=
  (hardware_CheckModel (⟨a0.Registers, a0.Fused, a0.Memory⟩ : HwModel)).bind fun r1 => cond (r1 != 0) (some (0, r1))
    ((tagged_CheckStorage N (⟨a1.Storage.Bytes, a1.Storage.Tags⟩ : Storage)).bind fun r2 => cond (r2.2 != 0) (some (0, r2.2))
    ((slices_Contains_bool N a1.Storage.Tags true).bind fun r3 => (hardware_cond r3 22).bind fun r4 => (hardware_cond ((a1.Instructions.length : Int) == 0) 1).bind fun r5 =>
    (cond (decide ((a1.Instructions.length : Int) > 240)) (some true) (some (decide ((a1.Traps.length : Int) > 40)))).bind fun g6 => (hardware_cond g6 2).bind fun r7 =>
    (hardware_first N ([r4, r5, r7] : List Int)).bind fun r8 => cond (r8 != 0) (some (0, r8))
    ((iterR (hardware_CheckCode.r0 N) N (a1.Instructions, (a1.Instructions.length : Int), 0, (⟨a0.Registers, a0.Fused, a0.Memory⟩ : HwModel), (⟨(⟨a1.Storage.Bytes, a1.Storage.Tags⟩ : Storage), a1.Instructions, a1.Traps⟩ : HwCode))).bind fun z10 =>
    resR z10 (fun z => some z) (fun y9 => (iterR (hardware_CheckCode.r2 N) N (y9.2.2.2.2.Traps, (y9.2.2.2.2.Traps.length : Int), 0, y9.2.2.2.2)).bind fun z12 => resR z12 (fun z =>
    some z) (fun y11 => some ((y11.2.2.2.Instructions.length : Int), 0))))))
noncomputable def hardware_CheckCode.ct (N : Nat) : Ct U := { params := [.val Ty.HwModel, .val Ty.HwCode], results := [(Ty.int .i64), (Ty.int .i64)], outs := [], fresh := [], fn := app U [Ty.HwModel, Ty.HwCode] (R := PT U [(Ty.int .i64), (Ty.int .i64)]) (hardware_CheckCode N) }
noncomputable def hardware_CheckCode.cx (N : Nat) : Ctx U := mkCx [(17, hardware_CheckModel.ct), (47, tagged_CheckStorage.ct N), (48, hardware_first.ct N), (49, hardware_cond.ct), (50, slices_Contains_bool.ct N), (51, hardware_instructionErr.ct N), (52, hardware_trapErr.ct)] [] [] [] [33, 34, 39, 50, 51] [] [] []
noncomputable def hardware_CheckCode.L (N : Nat) : Nat → Option (Cut U (PT U [(Ty.int .i64), (Ty.int .i64)])) := pick [(0, .rets hardware_CheckCode.sp0 [(Ty.sl Ty.HwInstruction), (Ty.int .i64), (Ty.int .i64), Ty.HwModel, Ty.HwCode] (iterR (hardware_CheckCode.r0 N) N)), (2, .rets hardware_CheckCode.sp2 [(Ty.sl Ty.HwTrap), (Ty.int .i64), (Ty.int .i64), Ty.HwCode] (iterR (hardware_CheckCode.r2 N) N))]
theorem hardware_CheckCode.r0_eq (N : Nat) (x : PT U [(Ty.sl Ty.HwInstruction), (Ty.int .i64), (Ty.int .i64), Ty.HwModel, Ty.HwCode]) : roundRF (hardware_CheckCode.cx N) Proofs.Tryz.f14 (hardware_CheckCode.ct N) (hardware_CheckCode.L N) hardware_CheckCode.sp0 [(Ty.sl Ty.HwInstruction), (Ty.int .i64), (Ty.int .i64), Ty.HwModel, Ty.HwCode] 0 x = hardware_CheckCode.r0 N x := by kernel_rfl
theorem hardware_CheckCode.r2_eq (N : Nat) (x : PT U [(Ty.sl Ty.HwTrap), (Ty.int .i64), (Ty.int .i64), Ty.HwCode]) : roundRF (hardware_CheckCode.cx N) Proofs.Tryz.f14 (hardware_CheckCode.ct N) (hardware_CheckCode.L N) hardware_CheckCode.sp2 [(Ty.sl Ty.HwTrap), (Ty.int .i64), (Ty.int .i64), Ty.HwCode] 2 x = hardware_CheckCode.r2 N x := by kernel_rfl
theorem hardware_CheckCode.eq (N : Nat) (a0 : HwModel) (a1 : HwCode) : runF (hardware_CheckCode.cx N) Proofs.Tryz.f14 (hardware_CheckCode.ct N) (hardware_CheckCode.L N) [⟨Ty.HwModel, a0⟩, ⟨Ty.HwCode, a1⟩] = hardware_CheckCode N a0 a1 := by kernel_rfl
theorem hardware_CheckCode.ok (N : Nat) : ∀ y, finOk (hardware_CheckCode.cx N) (hardware_CheckCode.ct N) y = true := fun y => by kernel_rfl
theorem hardware_CheckCode.meets (N : Nat) : Meets (hardware_CheckCode.cx N) 14 (hardware_CheckCode.ct N) :=
  meets_run (C := hardware_CheckCode.cx N) (ct := hardware_CheckCode.ct N) (Lp := hardware_CheckCode.L N) claws (ook_of (l := [(17, hardware_CheckModel.ct), (47, tagged_CheckStorage.ct N), (48, hardware_first.ct N), (49, hardware_cond.ct), (50, slices_Contains_bool.ct N), (51, hardware_instructionErr.ct N), (52, hardware_trapErr.ct)]) rfl (all_cons (Meets.ctx (C := hardware_CheckModel.cx) (C' := hardware_CheckCode.cx N) rfl rfl rfl hardware_CheckModel.meets) (all_cons (Meets.ctx (C := tagged_CheckStorage.cx N) (C' := hardware_CheckCode.cx N) rfl rfl rfl (tagged_CheckStorage.meets N)) (all_cons (Meets.ctx (C := hardware_first.cx N) (C' := hardware_CheckCode.cx N) rfl rfl rfl (hardware_first.meets N)) (all_cons (Meets.ctx (C := hardware_cond.cx) (C' := hardware_CheckCode.cx N) rfl rfl rfl hardware_cond.meets) (all_cons (Meets.ctx (C := slices_Contains_bool.cx N) (C' := hardware_CheckCode.cx N) rfl rfl rfl (slices_Contains_bool.meets N)) (all_cons (Meets.ctx (C := hardware_instructionErr.cx N) (C' := hardware_CheckCode.cx N) rfl rfl rfl (hardware_instructionErr.meets N)) (all_cons (Meets.ctx (C := hardware_trapErr.cx) (C' := hardware_CheckCode.cx N) rfl rfl rfl hardware_trapErr.meets) (all_nil))))))))) (xok_of (l := []) rfl (all_nil)) Proofs.Tryz.func14 (by kernel_rfl) rfl (lok_of (l := [(0, .rets hardware_CheckCode.sp0 [(Ty.sl Ty.HwInstruction), (Ty.int .i64), (Ty.int .i64), Ty.HwModel, Ty.HwCode] (iterR (hardware_CheckCode.r0 N) N)), (2, .rets hardware_CheckCode.sp2 [(Ty.sl Ty.HwTrap), (Ty.int .i64), (Ty.int .i64), Ty.HwCode] (iterR (hardware_CheckCode.r2 N) N))]) rfl (all_cons (lok_rets (hardware_CheckCode.r0_eq N)) (all_cons (lok_rets (hardware_CheckCode.r2_eq N)) (all_nil)))) (hardware_CheckCode.ok N) (app_run (U := U) [Ty.HwModel, Ty.HwCode] (hardware_CheckCode N) (runF (hardware_CheckCode.cx N) Proofs.Tryz.f14 (hardware_CheckCode.ct N) (hardware_CheckCode.L N)) (hardware_CheckCode.eq N))

noncomputable def hardware_codeErr (N : Nat) (a0 : HwModel) (a1 : HwCode) : Option Int :=
  (hardware_CheckCode N (⟨a0.Registers, a0.Fused, a0.Memory⟩ : HwModel) (⟨(⟨a1.Storage.Bytes, a1.Storage.Tags⟩ : Storage), a1.Instructions, a1.Traps⟩ : HwCode)).bind fun r1 =>
    some r1.2
noncomputable def hardware_codeErr.ct (N : Nat) : Ct U := { params := [.val Ty.HwModel, .val Ty.HwCode], results := [(Ty.int .i64)], outs := [], fresh := [], fn := app U [Ty.HwModel, Ty.HwCode] (R := PT U [(Ty.int .i64)]) (hardware_codeErr N) }
noncomputable def hardware_codeErr.cx (N : Nat) : Ctx U := mkCx [(14, hardware_CheckCode.ct N)] [] [] [] [] [] [] []
noncomputable def hardware_codeErr.L (N : Nat) : Nat → Option (Cut U (PT U [(Ty.int .i64)])) := pick []
theorem hardware_codeErr.eq (N : Nat) (a0 : HwModel) (a1 : HwCode) : runF (hardware_codeErr.cx N) Proofs.Tryz.f60 (hardware_codeErr.ct N) (hardware_codeErr.L N) [⟨Ty.HwModel, a0⟩, ⟨Ty.HwCode, a1⟩] = hardware_codeErr N a0 a1 := by kernel_rfl
theorem hardware_codeErr.ok (N : Nat) : ∀ y, finOk (hardware_codeErr.cx N) (hardware_codeErr.ct N) y = true := fun y => by kernel_rfl
theorem hardware_codeErr.meets (N : Nat) : Meets (hardware_codeErr.cx N) 60 (hardware_codeErr.ct N) :=
  meets_run (C := hardware_codeErr.cx N) (ct := hardware_codeErr.ct N) (Lp := hardware_codeErr.L N) claws (ook_of (l := [(14, hardware_CheckCode.ct N)]) rfl (all_cons (Meets.ctx (C := hardware_CheckCode.cx N) (C' := hardware_codeErr.cx N) rfl rfl rfl (hardware_CheckCode.meets N)) (all_nil))) (xok_of (l := []) rfl (all_nil)) Proofs.Tryz.func60 (by kernel_rfl) rfl (lok_of (l := []) rfl (all_nil)) (hardware_codeErr.ok N) (app_run (U := U) [Ty.HwModel, Ty.HwCode] (hardware_codeErr N) (runF (hardware_codeErr.cx N) Proofs.Tryz.f60 (hardware_codeErr.ct N) (hardware_codeErr.L N)) (hardware_codeErr.eq N))

noncomputable def x76 : Ct U := { params := [.val (Ty.sl Ty.bool)], results := [(Ty.sl Ty.bool)], outs := [], fresh := [0], fn := app U [(Ty.sl Ty.bool)] (R := PT U [(Ty.sl Ty.bool)]) (xClone 1) }
theorem x76.meets : Meets (mkCx [] [] [] [] [] [] [] []) 76 x76 :=
  meets_clone claws (ook_of (l := []) rfl all_nil) (xok_of (l := []) rfl all_nil) (Lp := pick []) Proofs.Tryz.func76 (by kernel_rfl) (lok_of (l := []) rfl all_nil) (fun y => by kernel_rfl) (e := 4) (t := Ty.bool) rfl rfl rfl rfl rfl rfl rfl (by kernel_rfl) rfl rfl rfl rfl rfl rfl (fun xs => by kernel_rfl) fun ds y h => by
    obtain ⟨xs, rfl, hx⟩ := app1 h
    refine ⟨xs, rfl, fun b hb => ?_⟩
    cases b with
    | true =>
      have := hb rfl
      subst this
      exact Eq.trans (by kernel_rfl) hx
    | false => exact Eq.trans (b := cond (Nat.ble ((0 + xs.length) * 1) room) (some xs) none) (by kernel_rfl) (by rw [Nat.zero_add]; exact hx)

noncomputable def hardware_Start (N : Nat) (a0 : HwModel) (a1 : HwCode) : Option (HwState × Int) :=
  (hardware_codeErr N (⟨a0.Registers, a0.Fused, a0.Memory⟩ : HwModel) (⟨(⟨a1.Storage.Bytes, a1.Storage.Tags⟩ : Storage), a1.Instructions, a1.Traps⟩ : HwCode)).bind fun r1 =>
    cond (r1 != 0) (some ((⟨[], 0, (⟨(⟨#[]⟩ : ByteArray), []⟩ : Storage), 0, [], [], 0, 0, 0, 0⟩ : HwState), r1)) ((xClone 1 a1.Storage.Tags).bind fun r2 =>
    if 0 ≤ a0.Registers then (if a0.Registers ≤ a0.Registers then (cond (Nat.ble (a0.Registers.toNat * 16) room)
    (some ((⟨(List.replicate a0.Registers.toNat ((⟨0, 0⟩ : Number) : Number)), 0, (⟨a1.Storage.Bytes, r2⟩ : Storage), 0, [], [], 0, 0, 0, 0⟩ : HwState), 0)) none) else none) else none)
noncomputable def hardware_Start.ct (N : Nat) : Ct U := { params := [.val Ty.HwModel, .val Ty.HwCode], results := [Ty.HwState, (Ty.int .i64)], outs := [], fresh := [], fn := app U [Ty.HwModel, Ty.HwCode] (R := PT U [Ty.HwState, (Ty.int .i64)]) (hardware_Start N) }
noncomputable def hardware_Start.cx (N : Nat) : Ctx U := mkCx [(60, hardware_codeErr.ct N), (76, x76)] [] [] [] [] [] [] []
noncomputable def hardware_Start.L (N : Nat) : Nat → Option (Cut U (PT U [Ty.HwState, (Ty.int .i64)])) := pick []
theorem hardware_Start.eq (N : Nat) (a0 : HwModel) (a1 : HwCode) : runF (hardware_Start.cx N) Proofs.Tryz.f34 (hardware_Start.ct N) (hardware_Start.L N) [⟨Ty.HwModel, a0⟩, ⟨Ty.HwCode, a1⟩] = hardware_Start N a0 a1 := by kernel_rfl
theorem hardware_Start.ok (N : Nat) : ∀ y, finOk (hardware_Start.cx N) (hardware_Start.ct N) y = true := fun y => by kernel_rfl
theorem hardware_Start.meets (N : Nat) : Meets (hardware_Start.cx N) 34 (hardware_Start.ct N) :=
  meets_run (C := hardware_Start.cx N) (ct := hardware_Start.ct N) (Lp := hardware_Start.L N) claws (ook_of (l := [(60, hardware_codeErr.ct N), (76, x76)]) rfl (all_cons (Meets.ctx (C := hardware_codeErr.cx N) (C' := hardware_Start.cx N) rfl rfl rfl (hardware_codeErr.meets N)) (all_cons (Meets.ctx (C := mkCx [] [] [] [] [] [] [] []) (C' := hardware_Start.cx N) rfl rfl rfl x76.meets) (all_nil)))) (xok_of (l := []) rfl (all_nil)) Proofs.Tryz.func34 (by kernel_rfl) rfl (lok_of (l := []) rfl (all_nil)) (hardware_Start.ok N) (app_run (U := U) [Ty.HwModel, Ty.HwCode] (hardware_Start N) (runF (hardware_Start.cx N) Proofs.Tryz.f34 (hardware_Start.ct N) (hardware_Start.L N)) (hardware_Start.eq N))

noncomputable def tagged_place (N : Nat) (a0 : Storage) (a1 : Int) : Option Int :=
  (tagged_CheckStorage N a0).bind fun r1 => cond (r1.2 != 0) (some r1.2) ((cond (decide (a1 < 0)) (some true) (some (decide (a1 ≥ (a0.Bytes.size : Int))))).bind fun g2 =>
    (cond g2 (some true) (some ((a1.tmod 16) != 0))).bind fun g3 => cond g3 (some 3) (some 0))
noncomputable def tagged_place.ct (N : Nat) : Ct U := { params := [.val Ty.Storage, .val (Ty.int .i64)], results := [(Ty.int .i64)], outs := [], fresh := [], fn := app U [Ty.Storage, (Ty.int .i64)] (R := PT U [(Ty.int .i64)]) (tagged_place N) }
noncomputable def tagged_place.cx (N : Nat) : Ctx U := mkCx [(47, tagged_CheckStorage.ct N)] [] [] [] [] [] [] []
noncomputable def tagged_place.L (N : Nat) : Nat → Option (Cut U (PT U [(Ty.int .i64)])) := pick []
theorem tagged_place.eq (N : Nat) (a0 : Storage) (a1 : Int) : runF (tagged_place.cx N) Proofs.Tryz.f186 (tagged_place.ct N) (tagged_place.L N) [⟨Ty.Storage, a0⟩, ⟨(Ty.int .i64), a1⟩] = tagged_place N a0 a1 := by kernel_rfl
theorem tagged_place.ok (N : Nat) : ∀ y, finOk (tagged_place.cx N) (tagged_place.ct N) y = true := fun y => by kernel_rfl
theorem tagged_place.meets (N : Nat) : Meets (tagged_place.cx N) 186 (tagged_place.ct N) :=
  meets_run (C := tagged_place.cx N) (ct := tagged_place.ct N) (Lp := tagged_place.L N) claws (ook_of (l := [(47, tagged_CheckStorage.ct N)]) rfl (all_cons (Meets.ctx (C := tagged_CheckStorage.cx N) (C' := tagged_place.cx N) rfl rfl rfl (tagged_CheckStorage.meets N)) (all_nil))) (xok_of (l := []) rfl (all_nil)) Proofs.Tryz.func186 (by kernel_rfl) rfl (lok_of (l := []) rfl (all_nil)) (tagged_place.ok N) (app_run (U := U) [Ty.Storage, (Ty.int .i64)] (tagged_place N) (runF (tagged_place.cx N) Proofs.Tryz.f186 (tagged_place.ct N) (tagged_place.L N)) (tagged_place.eq N))

noncomputable def tagged_LoadPointer (N : Nat) (a0 : Storage) (a1 : Int) : Option (Pointer × Int) :=
  (tagged_place N a0 a1).bind fun r1 => cond (r1 != 0) (some ((⟨0, (⟨0, 0⟩ : Address), 0⟩ : Pointer), r1)) ((idx a0.Tags (IntKind.wrap .i64 (a1.tdiv 16))).bind fun x2 => cond (!x2)
    (some ((⟨0, (⟨0, 0⟩ : Address), 0⟩ : Pointer), 22))
    (if 0 ≤ (IntKind.wrap .i64 (a1 + 16)) ∧ (IntKind.wrap .i64 (a1 + 16)) ≤ (a0.Bytes.size : Int) then (if 0 ≤ a1 ∧ a1 ≤ (IntKind.wrap .i64 (a1 + 16)) then ((tagged_PointerIn N (a0.Bytes.extract a1.toNat (IntKind.wrap .i64 (a1 + 16)).toNat)).bind fun r3 =>
    some (r3.1, r3.2)) else none) else none))
noncomputable def tagged_LoadPointer.ct (N : Nat) : Ct U := { params := [.val Ty.Storage, .val (Ty.int .i64)], results := [Ty.Pointer, (Ty.int .i64)], outs := [], fresh := [], fn := app U [Ty.Storage, (Ty.int .i64)] (R := PT U [Ty.Pointer, (Ty.int .i64)]) (tagged_LoadPointer N) }
noncomputable def tagged_LoadPointer.cx (N : Nat) : Ctx U := mkCx [(90, tagged_PointerIn.ct N), (186, tagged_place.ct N)] [] [] [] [] [] [] []
noncomputable def tagged_LoadPointer.L (N : Nat) : Nat → Option (Cut U (PT U [Ty.Pointer, (Ty.int .i64)])) := pick []
theorem tagged_LoadPointer.eq (N : Nat) (a0 : Storage) (a1 : Int) : runF (tagged_LoadPointer.cx N) Proofs.Tryz.f123 (tagged_LoadPointer.ct N) (tagged_LoadPointer.L N) [⟨Ty.Storage, a0⟩, ⟨(Ty.int .i64), a1⟩] = tagged_LoadPointer N a0 a1 := by kernel_rfl
theorem tagged_LoadPointer.ok (N : Nat) : ∀ y, finOk (tagged_LoadPointer.cx N) (tagged_LoadPointer.ct N) y = true := fun y => by kernel_rfl
theorem tagged_LoadPointer.meets (N : Nat) : Meets (tagged_LoadPointer.cx N) 123 (tagged_LoadPointer.ct N) :=
  meets_run (C := tagged_LoadPointer.cx N) (ct := tagged_LoadPointer.ct N) (Lp := tagged_LoadPointer.L N) claws (ook_of (l := [(90, tagged_PointerIn.ct N), (186, tagged_place.ct N)]) rfl (all_cons (Meets.ctx (C := tagged_PointerIn.cx N) (C' := tagged_LoadPointer.cx N) rfl rfl rfl (tagged_PointerIn.meets N)) (all_cons (Meets.ctx (C := tagged_place.cx N) (C' := tagged_LoadPointer.cx N) rfl rfl rfl (tagged_place.meets N)) (all_nil)))) (xok_of (l := []) rfl (all_nil)) Proofs.Tryz.func123 (by kernel_rfl) rfl (lok_of (l := []) rfl (all_nil)) (tagged_LoadPointer.ok N) (app_run (U := U) [Ty.Storage, (Ty.int .i64)] (tagged_LoadPointer N) (runF (tagged_LoadPointer.cx N) Proofs.Tryz.f123 (tagged_LoadPointer.ct N) (tagged_LoadPointer.L N)) (tagged_LoadPointer.eq N))
end Go.Proofs.YtppbpnknfigboaaGreatDoor.M
